import PyProof.Rows.All
import HandS.ForMost
import HandS.ForExc
import HandS.TupAny
import HandS.Conv
import HandS.TupMul
import HandS.Deep
import HandS.Style
import HandS.Zip
import HandS.IsInst
import HandS.Wide
import HandS.Flow
import KE.KDictKeyed
import KE.GoesMore
import HandS.ExcIs
import HandS.DictComp
import HandS.SetFor
import HandS.Strs
import HandS.TupSets
import PyProof.SeqIndex
import KE.KRevSl
import KE.KItemsList
import KE.DataMinMax
import KE.SortData
import HandS.Defaults
import HandS.Head0
import HandS.Head1
import HandS.Head2
import HandS.HeadEnd
import HandS.HeadHook1
import HandS.HeadHook2
import HandS.EndBits
import PySem.Challenge.RW_panelorder_k15_whole_cutting
set_option Elab.async false
set_option linter.all false
set_option maxRecDepth 100000
set_option maxHeartbeats 8000000
namespace Den
open PySem PySem.Spec PyProof.Rows L2
def NDt (K : W.Frag) (H : Hp) (a : Addr) : Prop := (∃ o u, H a = some (.frz o u) ∧ o.dict = none) ∨ ∃ o, K.lookup a = some o ∧ o.dict = none
structure SqN (K : W.Frag) (H : Hp) (a : Addr) (vs : List V) : Prop where
  q : SqT K H a vs
  n : NDt K H a
abbrev fz (o : Obj) (vs : List V) : HO := .frz o (.tup vs)
theorem sqN_new {K : W.Frag} {H : Hp} {p : Addr} {o : Obj} {vs : List V} (h : o.dict = none) : SqN K (upd H p (fz o vs)) p vs := ⟨.inl (.inr ⟨o, upd_same⟩), .inl ⟨o, _, upd_same, h⟩⟩
section
variable {X : Cx} {pins : List (Addr × Obj)} {σ : L2.St} {H : Hp} {s : Shared}
theorem fz_ok {P : Program} {w : World} {H' : Hp} {xs : List V} {us : List Value} (h : Heap) (z : xs.length ≤ sizeLine) (r : Vals xs us) : ObjOk P w H' (h.push { cls := .type "tuple", data := .seq us.toArray }) h.objs.size (fz { cls := .type "tuple", data := .seq us.toArray } xs) :=
  ⟨Heap.get?_push_size _ rfl, z, us, r, _, Heap.get?_push_size _ rfl, rfl, _, rfl⟩
theorem fz_laid (I : L2.Inv X pins σ H s) {xs : List V} {us : List Value} (z : xs.length ≤ sizeLine) (r : Vals xs us) : L2.Inv X pins σ (upd H s.heap.objs.size (fz { cls := .type "tuple", data := .seq us.toArray } xs)) { s with heap := s.heap.push { cls := .type "tuple", data := .seq us.toArray } } :=
  I.laid (t' := s.toks) (fun _ _ e => Heap.get?_push_of_some _ e) (Nat.le_refl _) (fz_ok s.heap z r)
def NewT (H : Hp) (xs : List V) (Q : VK) : Prop := ∀ p o, H p = none → o.dict = none → Q (.ref p) (upd H p (fz o xs))
variable {es : List Expr} {e : Expr} {t : TA} {pos p : Pos}
theorem pe_tupF {k : Nat} (h : PA X es t) : PE X (.Tuple es k pos) (fun σ H Q => t σ H fun xs H1 => xs.length ≤ sizeLine ∧ NewT H1 xs Q) := by
  refine ⟨fun pins s σ H Q I w => ?_⟩
  refine wpAny_Tuple_spliced (thn (h.run pos pins s σ H _ I w) fun us s1 ⟨xs, H1, I1, r, z, q⟩ => ⟨by rw [← r.length]; exact z, ?_⟩)
  exact ⟨.ref s1.heap.objs.size, _, fz_laid I1 z r, rfl, q _ _ (I1.hok.fresh (Nat.le_refl _)) rfl⟩
def rCatF (K : W.Frag) : R2 := fun x y H Q => ∃ a b xs ys, x = .ref a ∧ y = .ref b ∧ SqT K H a xs ∧ SqT K H b ys ∧ xs.length + ys.length ≤ sizeLine ∧
  (xs = [] → Q (.ref b) H) ∧ (xs ≠ [] → ys = [] → Q (.ref a) H) ∧ (xs ≠ [] → ys ≠ [] → NewT H (xs ++ ys) Q)
theorem op_catF : OpR X (binaryOp .Add) (rCatF X.K) := by
  intro pins s σ H x y v u Q I rx ry h
  obtain ⟨a, b, xs, ys, rfl, rfl, ha, hb, hz, q0, q1, q2⟩ := h
  cases rx; cases ry
  obtain ⟨us, r1, p1, _⟩ := I.tuple ha
  obtain ⟨ws, r2, p2, _⟩ := I.tuple hb
  by_cases hx : xs = []
  · subst hx
    cases r1
    exact cat_tup0 p1 p2 ⟨.ref b, H, I, rfl, q0 rfl⟩
  · have hl : us.length + ws.length ≤ sizeLine := by rw [← r1.length, ← r2.length]; exact hz
    refine HT.cat_tup p1 p2 (fun z => hx (r1.nil_iff.mp z)) (fun z => ⟨.ref a, H, I, rfl, q1 hx (r2.nil_iff.mp z)⟩) (fun z => ?_) hl
    exact ⟨.ref s.heap.objs.size, _, fz_laid I (by rw [List.length_append]; exact hz) (r1.append r2), rfl, q2 hx (fun w => z (r2.nil_iff.mpr w)) _ _ (I.hok.fresh (Nat.le_refl _)) rfl⟩
def rSlF (K : W.Frag) : V → Option Int → Option Int → Hp → VK → Prop := fun x lo hi H Q => ∃ a xs, x = .ref a ∧ SqT K H a xs ∧
  (HT.sIx xs.length 0 lo = 0 ∧ HT.sIx xs.length xs.length hi = xs.length → Q (.ref a) H) ∧ (¬ (HT.sIx xs.length 0 lo = 0 ∧ HT.sIx xs.length xs.length hi = xs.length) → NewT H (cutV xs lo hi) Q)
theorem sl_tupF : SlR X (rSlF X.K) := by
  intro pins s σ H x v vl vu lo hi sl Q I rx hs pl pu h
  obtain ⟨a, xs, rfl, hx, q1, q2⟩ := h
  cases rx
  obtain ⟨us, r, tu, hz⟩ := I.tuple hx
  have hn : us.toArray.size = xs.length := by rw [List.size_toArray]; exact r.length.symm
  refine ⟨"tuple", _, PyProof.Rows.slot_tuple_getitem.lookup, tu.typeIs, ?_⟩
  by_cases hw : HT.sIx xs.length 0 lo = 0 ∧ HT.sIx xs.length xs.length hi = xs.length
  · exact getItem_tuple_whole tu hs pl pu (by rw [hn]; exact hw) ⟨.ref a, H, I, rfl, q1 hw⟩
  · refine HT.getItem_tuple_cut tu hs pl pu (by rw [hn]; exact hw) ?_ (by rw [hn]; exact hz)
    rw [hn]
    have r' := (r.drop (HT.sIx xs.length 0 lo)).take (HT.sIx xs.length xs.length hi - HT.sIx xs.length 0 lo)
    have J := fz_laid I (Nat.le_trans (cutV_length xs lo hi) hz) r'
    exact ⟨.ref s.heap.objs.size, _, J, rfl, q2 hw _ _ (I.hok.fresh (Nat.le_refl _)) rfl⟩
theorem call_tuple_ofF : CallR X (.type "tuple") (fun xs H Q => ∃ p ys, xs = [.ref p] ∧ ((SqL X.K H p ys ∧ NewT H ys Q) ∨ (SqT X.K H p ys ∧ Q (.ref p) H))) := by
  intro pins s σ H xs us Q I r h
  obtain ⟨p, ys, rfl, h⟩ := h
  rw [Vals.ref1 r]
  rcases h with ⟨hq, q⟩ | ⟨hq, q⟩
  · obtain ⟨ws, rv, pl, hz⟩ := I.list hq
    have hl : ws.toArray.size ≤ sizeLine := by
      have := rv.length
      rw [List.size_toArray]; omega
    refine call_tuple_list pl.isList (fun hp kp => ?_) hl
    have J : L2.Inv X pins σ H { s with heap := hp } := I.kept (t' := s.toks) kp
    exact ⟨.ref hp.objs.size, _, fz_laid J hz rv, rfl, q _ _ (J.hok.fresh (Nat.le_refl _)) rfl⟩
  · obtain ⟨ws, _, pl, _⟩ := I.tuple hq
    exact call_tuple_same pl ⟨.ref p, H, I, rfl, q⟩
theorem pe_tupRgF {te : L2.St → Hp → (Int → Int → Hp → Prop) → Prop} (hc : X.calm = true) (hg : Gl X "tuple") (hm : X.mg "tuple" = none) (he : PRg X e te) (na : starEach [e] X.env = (false, eval e X.env) :: starEach [] X.env) :
    PE X (.Call (.Name "tuple" p) [e] [] pos) (fun σ H Q => te σ H fun a b H1 => RgOk a b ∧ NewT H1 (rgV a b) Q) := by
  refine ⟨fun pins s σ H Q I w => ?_⟩
  refine Call_ (ld_blt I hg hm PyProof.Rows.boot_tuple (PyProof.Rows.callWith_type1 (PyProof.Rows.args_cons (thn (he pins s σ H _ I w) fun x s1 ⟨r, a, b, t, u, v, H1, ex, hr, I1, ok, q⟩ => PyProof.Rows.args_nil ?_) na) na))
  subst ex
  obtain ⟨b1, b2, b3, b4, b5⟩ := ok
  refine call_tuple_range (n := (b - a).toNat) (I1.ok.hd hc) hr (small_one b1 b2 b3 b4) (rangeSize_nat a b) b5 fun hp tk acc kk hi => ?_
  have J : L2.Inv X pins σ H1 { s1 with heap := hp, toks := tk } := I1.kept kk
  have J2 := fz_laid J (us := acc.toList) (by rw [rgV_length, sizeLine_eq]; omega) (vals_rg hi)
  rw [Array.toArray_toList] at J2
  exact ⟨.ref hp.objs.size, _, J2, rfl, q _ _ (J.hok.fresh (Nat.le_refl _)) rfl⟩
end
end Den
namespace Den
open PySem PySem.Spec PyProof.Rows L2
abbrev D := PyData
inductive Rs (α : Type) where
  | ok (a : α) | exc (c : Nat) | stuck
def Rs.bind {α β : Type} (r : Rs α) (f : α → Rs β) : Rs β :=
  match r with
  | .ok a => f a
  | .exc c => .exc c
  | .stuck => .stuck
instance : Monad Rs where
  pure := .ok
  bind := Rs.bind
@[simp] theorem Rs.ok_bind {α β : Type} (a : α) (f : α → Rs β) : (Rs.ok a >>= f) = f a := rfl
@[simp] theorem Rs.exc_bind {α β : Type} (c : Nat) (f : α → Rs β) : (Rs.exc c >>= f) = .exc c := rfl
@[simp] theorem Rs.stuck_bind {α β : Type} (f : α → Rs β) : ((Rs.stuck : Rs α) >>= f) = .stuck := rfl
@[simp] theorem Rs.pure_eq {α : Type} (a : α) : (pure a : Rs α) = .ok a := rfl
def Rs.noexc {α : Type} : Rs α → Rs α
  | .ok a => .ok a
  | _ => .stuck
@[simp] theorem Rs.noexc_ok {α : Type} (a : α) : (Rs.ok a).noexc = .ok a := rfl
mutual
def At (K : W.Frag) (H : Hp) (O : Addr → Prop) : D → V → Prop
  | .none, v => v = .non
  | .bool b, v => v = .bl b
  | .int i, v => v = .int i
  | .str x, v => v = .str x
  | .list ds, v => ∃ a vs, v = .ref a ∧ SqL K H a vs ∧ ¬ O a ∧ AtL K H O ds vs
  | .tuple ds, v => ∃ a vs, v = .ref a ∧ SqN K H a vs ∧ ¬ O a ∧ AtL K H O ds vs
  | .dict _, _ => False
def AtL (K : W.Frag) (H : Hp) (O : Addr → Prop) : List D → List V → Prop
  | [], vs => vs = []
  | d :: ds, vs => ∃ v r, vs = v :: r ∧ At K H O d v ∧ AtL K H O ds r
end
def Kp (O : Addr → Prop) (H H' : Hp) : Prop := ∀ b o, H b = some o → ¬ O b → H' b = some o
def KF (K : W.Frag) (H : Hp) : Prop := ∀ b o, K.lookup b = some o → H b = none
theorem Kp.of_same {O : Addr → Prop} {H H' : Hp} (s : Same H H') : Kp O H H' := fun b o e _ => s b o e
theorem sqL_kp {K : W.Frag} {O : Addr → Prop} {H H' : Hp} {a : Addr} {vs : List V} (k : Kp O H H') (n : ¬ O a) (h : SqL K H a vs) : SqL K H' a vs := by
  rcases h with (h | ⟨o, h⟩) | h
  · exact .inl (.inl (k _ _ h n))
  · exact .inl (.inr ⟨o, k _ _ h n⟩)
  · exact .inr h
theorem sqT_kp {K : W.Frag} {O : Addr → Prop} {H H' : Hp} {a : Addr} {vs : List V} (k : Kp O H H') (n : ¬ O a) (h : SqT K H a vs) : SqT K H' a vs := by
  rcases h with (h | ⟨o, h⟩) | h
  · exact .inl (.inl (k _ _ h n))
  · exact .inl (.inr ⟨o, k _ _ h n⟩)
  · exact .inr h
theorem sqN_kp {K : W.Frag} {O : Addr → Prop} {H H' : Hp} {a : Addr} {vs : List V} (k : Kp O H H') (n : ¬ O a) (h : SqN K H a vs) : SqN K H' a vs :=
  ⟨sqT_kp k n h.q, h.n.elim (fun ⟨o, u, e, r⟩ => .inl ⟨o, u, k _ _ e n, r⟩) .inr⟩
mutual
theorem At.keep {K : W.Frag} {O : Addr → Prop} {H H' : Hp} (k : Kp O H H') : ∀ {d : D} {v : V}, At K H O d v → At K H' O d v
  | .none, _, h => h
  | .bool _, _, h => h
  | .int _, _, h => h
  | .str _, _, h => h
  | .list _, _, h => by
    obtain ⟨a, vs, e, h1, h2, h3⟩ := h
    exact ⟨a, vs, e, sqL_kp k h2 h1, h2, AtL.keep k h3⟩
  | .tuple _, _, h => by
    obtain ⟨a, vs, e, h1, h2, h3⟩ := h
    exact ⟨a, vs, e, sqN_kp k h2 h1, h2, AtL.keep k h3⟩
  | .dict _, _, h => h.elim
theorem AtL.keep {K : W.Frag} {O : Addr → Prop} {H H' : Hp} (k : Kp O H H') : ∀ {ds : List D} {vs : List V}, AtL K H O ds vs → AtL K H' O ds vs
  | [], _, h => h
  | _ :: _, _, h => by
    obtain ⟨v, r, e, h1, h2⟩ := h
    exact ⟨v, r, e, At.keep k h1, AtL.keep k h2⟩
end
mutual
theorem At.less {K : W.Frag} {O O' : Addr → Prop} {H : Hp} (k : ∀ a, O' a → O a) : ∀ {d : D} {v : V}, At K H O d v → At K H O' d v
  | .none, _, h => h
  | .bool _, _, h => h
  | .int _, _, h => h
  | .str _, _, h => h
  | .list _, _, h => by
    obtain ⟨a, vs, e, h1, h2, h3⟩ := h
    exact ⟨a, vs, e, h1, fun z => h2 (k a z), AtL.less k h3⟩
  | .tuple _, _, h => by
    obtain ⟨a, vs, e, h1, h2, h3⟩ := h
    exact ⟨a, vs, e, h1, fun z => h2 (k a z), AtL.less k h3⟩
  | .dict _, _, h => h.elim
theorem AtL.less {K : W.Frag} {O O' : Addr → Prop} {H : Hp} (k : ∀ a, O' a → O a) : ∀ {ds : List D} {vs : List V}, AtL K H O ds vs → AtL K H O' ds vs
  | [], _, h => h
  | _ :: _, _, h => by
    obtain ⟨v, r, e, h1, h2⟩ := h
    exact ⟨v, r, e, At.less k h1, AtL.less k h2⟩
end
theorem sqL_there {K : W.Frag} {H : Hp} {a p : Addr} {vs : List V} (n : H p = none) (nk : K.lookup p = none) (h : SqL K H a vs) : a ≠ p := by
  rintro rfl
  rcases h with (h | ⟨o, h⟩) | ⟨o, _, _, h, _⟩
  · rw [n] at h; cases h
  · rw [n] at h; cases h
  · rw [nk] at h; cases h
theorem sqT_there {K : W.Frag} {H : Hp} {a p : Addr} {vs : List V} (n : H p = none) (nk : K.lookup p = none) (h : SqT K H a vs) : a ≠ p := by
  rintro rfl
  rcases h with (h | ⟨o, h⟩) | ⟨o, _, _, h, _⟩
  · rw [n] at h; cases h
  · rw [n] at h; cases h
  · rw [nk] at h; cases h
mutual
theorem At.grow {K : W.Frag} {O : Addr → Prop} {H : Hp} {p : Addr} (n : H p = none) (nk : K.lookup p = none) : ∀ {d : D} {v : V}, At K H O d v → At K H (fun a => O a ∨ a = p) d v
  | .none, _, h => h
  | .bool _, _, h => h
  | .int _, _, h => h
  | .str _, _, h => h
  | .list _, _, h => by
    obtain ⟨a, vs, e, h1, h2, h3⟩ := h
    exact ⟨a, vs, e, h1, fun z => z.elim h2 (sqL_there n nk h1), AtL.grow n nk h3⟩
  | .tuple _, _, h => by
    obtain ⟨a, vs, e, h1, h2, h3⟩ := h
    exact ⟨a, vs, e, h1, fun z => z.elim h2 (sqT_there n nk h1.q), AtL.grow n nk h3⟩
  | .dict _, _, h => h.elim
theorem AtL.grow {K : W.Frag} {O : Addr → Prop} {H : Hp} {p : Addr} (n : H p = none) (nk : K.lookup p = none) : ∀ {ds : List D} {vs : List V}, AtL K H O ds vs → AtL K H (fun a => O a ∨ a = p) ds vs
  | [], _, h => h
  | _ :: _, _, h => by
    obtain ⟨v, r, e, h1, h2⟩ := h
    exact ⟨v, r, e, At.grow n nk h1, AtL.grow n nk h2⟩
end
section
variable {K : W.Frag} {O : Addr → Prop} {H H' : Hp}
theorem AtL.length : ∀ {ds : List D} {vs : List V}, AtL K H O ds vs → vs.length = ds.length
  | [], _, h => by cases h; rfl
  | _ :: _, _, h => by
    obtain ⟨v, r, rfl, _, h2⟩ := h
    simp [AtL.length h2]
theorem AtL.append : ∀ {ds es : List D} {vs us : List V}, AtL K H O ds vs → AtL K H O es us → AtL K H O (ds ++ es) (vs ++ us)
  | [], _, _, _, h, g => by cases h; exact g
  | _ :: _, _, _, _, h, g => by
    obtain ⟨v, r, rfl, h1, h2⟩ := h
    exact ⟨v, _, rfl, h1, AtL.append h2 g⟩
theorem AtL.get : ∀ {ds : List D} {vs : List V} {i : Nat} {d : D}, AtL K H O ds vs → ds[i]? = some d → ∃ v, vs[i]? = some v ∧ At K H O d v
  | [], _, _, _, _, e => by simp at e
  | _ :: _, _, 0, _, h, e => by
    obtain ⟨v, r, rfl, h1, _⟩ := h
    simp at e; subst e
    exact ⟨v, rfl, h1⟩
  | _ :: _, _, i + 1, d, h, e => by
    obtain ⟨v, r, rfl, _, h2⟩ := h
    obtain ⟨u, e1, e2⟩ := AtL.get (i := i) h2 (by simpa using e)
    exact ⟨u, by simpa using e1, e2⟩
theorem AtL.get' : ∀ {ds : List D} {vs : List V} {i : Nat} {v : V}, AtL K H O ds vs → vs[i]? = some v → ∃ d, ds[i]? = some d ∧ At K H O d v
  | [], _, _, _, h, e => by cases h; simp at e
  | d :: _, _, 0, _, h, e => by
    obtain ⟨v, r, rfl, h1, _⟩ := h
    simp at e; subst e
    exact ⟨d, rfl, h1⟩
  | _ :: _, _, i + 1, v, h, e => by
    obtain ⟨w, r, rfl, _, h2⟩ := h
    obtain ⟨u, e1, e2⟩ := AtL.get' (i := i) h2 (by simpa using e)
    exact ⟨u, by simpa using e1, e2⟩
theorem AtL.take : ∀ {ds : List D} {vs : List V} (n : Nat), AtL K H O ds vs → AtL K H O (ds.take n) (vs.take n)
  | [], _, n, h => by cases h; simp [AtL]
  | _ :: _, _, 0, _ => by simp [AtL]
  | _ :: _, _, n + 1, h => by
    obtain ⟨v, r, rfl, h1, h2⟩ := h
    exact ⟨v, _, rfl, h1, AtL.take n h2⟩
theorem AtL.drop : ∀ {ds : List D} {vs : List V} (n : Nat), AtL K H O ds vs → AtL K H O (ds.drop n) (vs.drop n)
  | [], _, n, h => by cases h; simp [AtL]
  | _ :: _, _, 0, h => h
  | _ :: _, _, n + 1, h => by
    obtain ⟨v, r, rfl, _, h2⟩ := h
    exact AtL.drop n h2
theorem AtL.one {d : D} {v : V} (h : At K H O d v) : AtL K H O [d] [v] := ⟨v, [], rfl, h, rfl⟩
theorem AtL.reverse : ∀ {ds : List D} {vs : List V}, AtL K H O ds vs → AtL K H O ds.reverse vs.reverse
  | [], _, h => by cases h; simp [AtL]
  | _ :: _, _, h => by
    obtain ⟨v, r, rfl, h1, h2⟩ := h
    rw [List.reverse_cons, List.reverse_cons]
    exact (AtL.reverse h2).append (.one h1)
theorem At.same {d : D} {v : V} (s : Same H H') (h : At K H O d v) : At K H' O d v := h.keep (.of_same s)
theorem AtL.same {ds : List D} {vs : List V} (s : Same H H') (h : AtL K H O ds vs) : AtL K H' O ds vs := h.keep (.of_same s)
mutual
theorem At.dp : ∀ {d : D} {v : V}, At K H O d v → Dp K H v d
  | .none, _, h => by cases h; exact .non
  | .bool _, _, h => by cases h; exact .bl _
  | .int _, _, h => by cases h; exact .int _
  | .str _, _, h => by cases h; exact .str _
  | .list _, _, h => by
    obtain ⟨a, vs, rfl, h1, _, h3⟩ := h
    exact .lst h1 (AtL.dp h3)
  | .tuple _, _, h => by
    obtain ⟨a, vs, rfl, h1, _, h3⟩ := h
    exact .tup h1.q (AtL.dp h3)
  | .dict _, _, h => h.elim
theorem AtL.dp : ∀ {ds : List D} {vs : List V}, AtL K H O ds vs → DpAll K H vs ds
  | [], _, h => by cases h; exact .nil
  | _ :: _, _, h => by
    obtain ⟨v, r, rfl, h1, h2⟩ := h
    exact .cons (At.dp h1) (AtL.dp h2)
end
theorem atL_ints : ∀ {ns : List Int} {vs : List V}, AtL K H O (ns.map PyData.int) vs → vs = ns.map V.int
  | [], _, h => h
  | n :: ns, _, h => by
    obtain ⟨v, r, rfl, h1, h2⟩ := h
    cases h1
    rw [atL_ints h2]; rfl
theorem atL_of_ints : ∀ (ns : List Int), AtL K H O (ns.map PyData.int) (ns.map V.int)
  | [] => rfl
  | n :: ns => ⟨_, _, rfl, rfl, atL_of_ints ns⟩
theorem atL_bls : ∀ {ns : List Bool} {vs : List V}, AtL K H O (ns.map PyData.bool) vs → vs = ns.map V.bl
  | [], _, h => h
  | n :: ns, _, h => by
    obtain ⟨v, r, rfl, h1, h2⟩ := h
    cases h1
    rw [atL_bls h2]; rfl
theorem atL_strs : ∀ {ns : List Str} {vs : List V}, AtL K H O (ns.map PyData.str) vs → vs = ns.map V.str
  | [], _, h => h
  | n :: ns, _, h => by
    obtain ⟨v, r, rfl, h1, h2⟩ := h
    cases h1
    rw [atL_strs h2]; rfl
end
def AtC (K : W.Frag) (H : Hp) (O : Addr → Prop) : D → V → Prop
  | .list ds, v => ∃ a vs, v = .ref a ∧ SqL K H a vs ∧ AtL K H O ds vs
  | d, v => At K H O d v
theorem At.c {K : W.Frag} {H : Hp} {O : Addr → Prop} : ∀ {d : D} {v : V}, At K H O d v → AtC K H O d v
  | .none, _, h => h
  | .bool _, _, h => h
  | .int _, _, h => h
  | .str _, _, h => h
  | .list _, _, h => by
    obtain ⟨a, vs, e, h1, _, h3⟩ := h
    exact ⟨a, vs, e, h1, h3⟩
  | .tuple _, _, h => h
  | .dict _, _, h => h.elim
theorem AtC.same {K : W.Frag} {H H' : Hp} {O : Addr → Prop} (s : Same H H') : ∀ {d : D} {v : V}, AtC K H O d v → AtC K H' O d v
  | .none, _, h => h
  | .bool _, _, h => h
  | .int _, _, h => h
  | .str _, _, h => h
  | .list _, _, h => by
    obtain ⟨a, vs, e, h1, h3⟩ := h
    exact ⟨a, vs, e, s.seq h1, h3.same s⟩
  | .tuple _, _, h => At.same s h
  | .dict _, _, h => h.elim
theorem AtC.dp {K : W.Frag} {H : Hp} {O : Addr → Prop} : ∀ {d : D} {v : V}, AtC K H O d v → Dp K H v d
  | .none, _, h => At.dp (O := O) (d := .none) h
  | .bool _, _, h => At.dp (O := O) (d := .bool _) h
  | .int _, _, h => At.dp (O := O) (d := .int _) h
  | .str _, _, h => At.dp (O := O) (d := .str _) h
  | .list _, _, h => by
    obtain ⟨a, vs, rfl, h1, h3⟩ := h
    exact .lst h1 (AtL.dp h3)
  | .tuple _, _, h => At.dp (d := .tuple _) h
  | .dict _, _, h => h.elim
mutual
def nk : D → NestedKey
  | .none => .none
  | .bool b => .num (if b = true then 1 else 0)
  | .int i => .num i
  | .str x => .text x
  | .tuple ds => .tup (nks ds)
  | .list _ => .none
  | .dict _ => .none
def nks : List D → List NestedKey
  | [] => []
  | d :: ds => nk d :: nks ds
end
mutual
def kPt : D → Bool
  | .list _ => false
  | .dict _ => false
  | .tuple ds => kPts ds
  | _ => true
def kPts : List D → Bool
  | [] => true
  | d :: ds => kPt d && kPts ds
end
def kOk (d : D) : Bool := (match d with | .tuple _ => true | _ => false) && kPt d && decide ((nk d).depth ≤ 8)
def DEs (K : W.Frag) (H : Hp) (O : Addr → Prop) : List (D × D) → List (NestedKey × Addr × V) → Prop
  | [], es => es = []
  | p :: r, es => ∃ b v es', es = (nk p.1, b, v) :: es' ∧ kOk p.1 = true ∧ At K H O p.1 (.ref b) ∧ At K H O p.2 v ∧ DEs K H O r es'
theorem DEs.keep {K : W.Frag} {O : Addr → Prop} {H H' : Hp} (k : Kp O H H') : ∀ {kvs : List (D × D)} {es : List (NestedKey × Addr × V)}, DEs K H O kvs es → DEs K H' O kvs es
  | [], _, h => h
  | _ :: _, _, h => by
    obtain ⟨b, v, r, e, h1, h2, h3, h4⟩ := h
    exact ⟨b, v, r, e, h1, h2.keep k, h3.keep k, DEs.keep k h4⟩
theorem DEs.same {K : W.Frag} {O : Addr → Prop} {H H' : Hp} (s : Same H H') {kvs : List (D × D)} {es : List (NestedKey × Addr × V)} (h : DEs K H O kvs es) : DEs K H' O kvs es := h.keep (.of_same s)
theorem DEs.less {K : W.Frag} {O O' : Addr → Prop} {H : Hp} (k : ∀ a, O' a → O a) : ∀ {kvs : List (D × D)} {es : List (NestedKey × Addr × V)}, DEs K H O kvs es → DEs K H O' kvs es
  | [], _, h => h
  | _ :: _, _, h => by
    obtain ⟨b, v, r, e, h1, h2, h3, h4⟩ := h
    exact ⟨b, v, r, e, h1, h2.less k, h3.less k, DEs.less k h4⟩
theorem DEs.grow {K : W.Frag} {O : Addr → Prop} {H : Hp} {p : Addr} (n : H p = none) (nk : K.lookup p = none) : ∀ {kvs : List (D × D)} {es : List (NestedKey × Addr × V)}, DEs K H O kvs es → DEs K H (fun a => O a ∨ a = p) kvs es
  | [], _, h => h
  | _ :: _, _, h => by
    obtain ⟨b, v, r, e, h1, h2, h3, h4⟩ := h
    exact ⟨b, v, r, e, h1, h2.grow n nk, h3.grow n nk, DEs.grow n nk h4⟩
theorem DEs.length {K : W.Frag} {O : Addr → Prop} {H : Hp} : ∀ {kvs : List (D × D)} {es : List (NestedKey × Addr × V)}, DEs K H O kvs es → es.length = kvs.length
  | [], _, h => by cases h; rfl
  | _ :: _, _, h => by
    obtain ⟨b, v, r, rfl, _, _, _, h4⟩ := h
    simp [DEs.length h4]
def dctF (P : Program) (w : World) (a : Addr) (es : List (NestedKey × Addr × V)) (h : Heap) : Prop :=
  es.length ≤ sizeLine ∧ (a == sysModules) = false ∧ ∃ xs : List (NestedKey × Addr × Value), Paired (fun (p : NestedKey × Addr × V) (q : NestedKey × Addr × Value) => p.1 = q.1 ∧ p.2.1 = q.2.1 ∧ RelV p.2.2 q.2.2) es xs ∧
    (xs.map (·.1)).Nodup ∧ ∃ o en ep, h.get? a = some o ∧ o.ExactDict ∧ o.data = .dict en ep ∧ en.toList = xs.map (entryOfKey (nestedKind P w))
def dctO (P : Program) (w : World) (a : Addr) (es : List (NestedKey × Addr × V)) : HO := .ext (dctF P w a es)
def OwnAt (P : Program) (w : World) (K : W.Frag) (H : Hp) (O : Addr → Prop) (a : Addr) : Bool → D → Prop
  | false, .list ds => ∃ vs, H a = some (.lst vs) ∧ AtL K H O ds vs
  | true, .dict kvs => ∃ es, H a = some (dctO P w a es) ∧ DEs K H O kvs es
  | _, _ => False
section
variable {P : Program} {w : World} {K : W.Frag} {H H' : Hp} {O O' : Addr → Prop} {a : Addr} {t : Bool} {d : D}
theorem OwnAt.lst {P : Program} {w : World} (h : OwnAt P w K H O a false d) : ∃ ds vs, d = .list ds ∧ H a = some (.lst vs) ∧ AtL K H O ds vs := by
  cases d with
  | list ds => obtain ⟨vs, h1, h2⟩ := h; exact ⟨ds, vs, rfl, h1, h2⟩
  | _ => exact h.elim
theorem OwnAt.dct {P : Program} {w : World} (h : OwnAt P w K H O a true d) : ∃ kvs es, d = .dict kvs ∧ H a = some (dctO P w a es) ∧ DEs K H O kvs es := by
  cases d with
  | dict kvs => obtain ⟨es, h1, h2⟩ := h; exact ⟨kvs, es, rfl, h1, h2⟩
  | _ => exact h.elim
theorem OwnAt.keep (k : Kp O H H') (e : ∀ o, H a = some o → H' a = some o) (h : OwnAt P w K H O a t d) : OwnAt P w K H' O a t d := by
  cases t with
  | false =>
    obtain ⟨ds, vs, rfl, h1, h2⟩ := h.lst
    exact ⟨vs, e _ h1, h2.keep k⟩
  | true =>
    obtain ⟨ds, vs, rfl, h1, h2⟩ := h.dct
    exact ⟨vs, e _ h1, h2.keep k⟩
theorem OwnAt.same (s : Same H H') (h : OwnAt P w K H O a t d) : OwnAt P w K H' O a t d := h.keep (.of_same s) fun o e => s _ _ e
theorem OwnAt.less (k : ∀ a, O' a → O a) (h : OwnAt P w K H O a t d) : OwnAt P w K H O' a t d := by
  cases t with
  | false =>
    obtain ⟨ds, vs, rfl, h1, h2⟩ := h.lst
    exact ⟨vs, h1, h2.less k⟩
  | true =>
    obtain ⟨ds, vs, rfl, h1, h2⟩ := h.dct
    exact ⟨vs, h1, h2.less k⟩
theorem OwnAt.grow {p : Addr} (n : H p = none) (nk : K.lookup p = none) (h : OwnAt P w K H O a t d) : OwnAt P w K H (fun a => O a ∨ a = p) a t d := by
  cases t with
  | false =>
    obtain ⟨ds, vs, rfl, h1, h2⟩ := h.lst
    exact ⟨vs, h1, h2.grow n nk⟩
  | true =>
    obtain ⟨ds, vs, rfl, h1, h2⟩ := h.dct
    exact ⟨vs, h1, h2.grow n nk⟩
theorem OwnAt.there (h : OwnAt P w K H O a t d) : ∃ o, H a = some o := by
  cases t with
  | false => obtain ⟨ds, vs, rfl, h1, h2⟩ := h.lst; exact ⟨_, h1⟩
  | true => obtain ⟨ds, vs, rfl, h1, h2⟩ := h.dct; exact ⟨_, h1⟩
end
abbrev Ro := List (Option D)
structure Gc where
  K : W.Frag
  O0 : Addr → Prop
  H0 : Hp
  own : Nat → Bool
  E : XK
  cl : Nat → Value
  P : Program
  w : World
  dct : Nat → Bool
  dp : Option (Nat × Addr)
  fv : Option (Nat × Addr)
def Gc.pas (G : Gc) (a : Addr) : Prop := ∃ i, G.dp = some (i, a)
def SameX (G : Gc) (H : Hp) : Prop := ∀ b o, G.H0 b = some o → ¬ G.pas b → H b = some o
theorem SameX.trans {G : Gc} {H H' : Hp} (x : SameX G H) (s : Same H H') : SameX G H' := fun b o e n => s _ _ (x b o e n)
theorem SameX.free {G : Gc} {H : Hp} {p : Addr} (x : SameX G H) (n : H p = none) : G.H0 p = none ∨ G.pas p := by
  by_cases hp : G.pas p
  · exact .inr hp
  · refine .inl ?_
    cases e : G.H0 p with
    | none => rfl
    | some o => rw [x p o e hp] at n; cases n
theorem SameX.refl (G : Gc) : SameX G G.H0 := fun _ _ e _ => e
structure Rep (G : Gc) (O : Addr → Prop) (σ : L2.St) (H : Hp) (ρ : Ro) : Prop where
  base : SameX G H
  sub : ∀ a, G.O0 a → O a
  trk : ∀ a, O a → ∃ o, H a = some o
  fre : ∀ a, O a → ¬ G.O0 a → G.H0 a = none ∨ G.pas a
  len : ρ.length = σ.length
  slot : ∀ i d, ρ[i]? = some (some d) → G.own i = false → ∃ v, σ[i]? = some (some v) ∧ At G.K H O d v
  owns : ∀ i d, ρ[i]? = some (some d) → G.own i = true → ∃ a, σ[i]? = some (some (.ref a)) ∧ OwnAt G.P G.w G.K H O a (G.dct i) d ∧ O a ∧ ¬ G.O0 a
  dist : ∀ i j d e a, i ≠ j → G.own i = true → G.own j = true → ρ[i]? = some (some d) → ρ[j]? = some (some e) → σ[i]? = some (some (.ref a)) → σ[j]? = some (some (.ref a)) → False
  dpa : (∀ i a, G.dp = some (i, a) → G.own i = true ∧ G.dct i = true ∧ ∀ d, ρ[i]? = some (some d) → σ[i]? = some (some (.ref a))) ∧ ∀ i a, G.fv = some (i, a) → (G.own i && G.dct i) = true ∧ σ[i]? = some (some (.ref a))
theorem Rep.same {G : Gc} {O : Addr → Prop} {σ : L2.St} {H H' : Hp} {ρ : Ro} (R : Rep G O σ H ρ) (s : Same H H') : Rep G O σ H' ρ :=
  ⟨R.base.trans s, R.sub, fun a h => let ⟨o, e⟩ := R.trk a h; ⟨o, s _ _ e⟩, R.fre, R.len, fun i d e n => let ⟨v, e1, h⟩ := R.slot i d e n; ⟨v, e1, h.same s⟩,
    fun i d e n => let ⟨a, e1, h, h1, h2⟩ := R.owns i d e n; ⟨a, e1, h.same s, h1, h2⟩, R.dist, R.dpa⟩
theorem Rep.lst {G : Gc} {O : Addr → Prop} {σ : L2.St} {H : Hp} {ρ : Ro} (R : Rep G O σ H ρ) {i : Nat} {d : D} (e : ρ[i]? = some (some d)) (hw : G.own i = true) (hd : G.dct i = false) : ∃ a ds vs, d = .list ds ∧ σ[i]? = some (some (.ref a)) ∧ H a = some (.lst vs) ∧ AtL G.K H O ds vs ∧ O a ∧ ¬ G.O0 a := by
  obtain ⟨a, e1, h, h1, h2⟩ := R.owns i d e hw
  rw [hd] at h
  obtain ⟨ds, vs, rfl, h3, h4⟩ := h.lst
  exact ⟨a, ds, vs, rfl, e1, h3, h4, h1, h2⟩
theorem Rep.dctA {G : Gc} {O : Addr → Prop} {σ : L2.St} {H : Hp} {ρ : Ro} (R : Rep G O σ H ρ) {i : Nat} {d : D} (e : ρ[i]? = some (some d)) (hw : G.own i = true) (hd : G.dct i = true) : ∃ a kvs es, d = .dict kvs ∧ σ[i]? = some (some (.ref a)) ∧ H a = some (dctO G.P G.w a es) ∧ DEs G.K H O kvs es ∧ O a ∧ ¬ G.O0 a := by
  obtain ⟨a, e1, h, h1, h2⟩ := R.owns i d e hw
  rw [hd] at h
  obtain ⟨ds, vs, rfl, h3, h4⟩ := h.dct
  exact ⟨a, ds, vs, rfl, e1, h3, h4, h1, h2⟩
theorem Rep.var {G : Gc} {O : Addr → Prop} {σ : L2.St} {H : Hp} {ρ : Ro} (R : Rep G O σ H ρ) {i : Nat} {d : D} (hd : G.dct i = false) (e : ρ[i]? = some (some d)) : ∃ v, σ[i]? = some (some v) ∧ AtC G.K H O d v := by
  cases hw : G.own i with
  | false =>
    obtain ⟨v, e1, h⟩ := R.slot i d e hw
    exact ⟨v, e1, h.c⟩
  | true =>
    obtain ⟨a, ds, vs, rfl, e1, e2, h, _, _⟩ := R.lst e hw hd
    exact ⟨.ref a, e1, a, vs, rfl, .of e2, h⟩
def DpAt (G : Gc) (H : Hp) (ρ : Ro) : Prop := ∀ i a, G.dp = some (i, a) → ∀ d, ρ[i]? = some (some d) → OwnAt G.P G.w G.K H G.O0 a true d
theorem Rep.dpAt {G : Gc} {O : Addr → Prop} {σ : L2.St} {H H' : Hp} {ρ : Ro} (R : Rep G O σ H ρ) (s : Same H H') : DpAt G H' ρ := fun i a e d hd => by
  obtain ⟨h1, h2, h3⟩ := R.dpa.1 i a e
  obtain ⟨b, e1, h, _, _⟩ := R.owns i d hd h1
  rw [h3 d hd] at e1
  cases e1
  rw [h2] at h
  exact (h.same s).less R.sub
abbrev DE := Ro → Rs D
def Post {α : Type} (G : Gc) (H : Hp) (r : Rs α) (Q : α → Prop) : Prop :=
  match r with
  | .ok a => Q a
  | .exc c => ∀ H', SameX G H' → G.E (G.cl c) none H'
  | .stuck => False
theorem Post.bind {α β : Type} {G : Gc} {H : Hp} {r : Rs α} {f : α → Rs β} {Q : β → Prop} (h : Post G H (r >>= f) Q) : Post G H r fun a => Post G H (f a) Q := by
  cases r with
  | ok a => exact h
  | exc c => exact h
  | stuck => exact h
theorem Post.imp {α : Type} {G : Gc} {H H' : Hp} {r : Rs α} {Q Q' : α → Prop} (h : Post G H r Q) (k : ∀ a, r = .ok a → Q a → Q' a) : Post G H' r Q' := by
  cases r with
  | ok a => exact k a rfl h
  | exc c => exact h
  | stuck => exact h
def tS (G : Gc) (f : DE) : TE := fun σ H Q => KF G.K H → ∃ O ρ, Rep G O σ H ρ ∧ Post G H (f ρ) fun d => ∀ v H', Same H H' → KF G.K H' → At G.K H' O d v → Q v H'
def tW (G : Gc) (f : DE) : TE := fun σ H Q => KF G.K H → ∃ O ρ, Rep G O σ H ρ ∧ Post G H (f ρ) fun d => ∀ v H', Same H H' → KF G.K H' → AtC G.K H' O d v → Q v H'
def tF (G : Gc) (f : DE) : TE := fun σ H Q => KF G.K H → ∃ O ρ, Rep G O σ H ρ ∧ Post G H (f ρ) fun d => ∀ p ds vs H', d = .list ds → Same H H' → KF G.K H' → H p = none → H' p = some (.lst vs) → AtL G.K H' (fun a => O a ∨ a = p) ds vs → Q (.ref p) H'
def tTst (G : Gc) (f : Ro → Rs Bool) : TT := fun σ H Q => KF G.K H → ∃ O ρ, Rep G O σ H ρ ∧ Post G H (f ρ) fun b => ∀ H', Same H H' → KF G.K H' → Q b H'
def tArg (G : Gc) (f : Ro → Rs (List D)) : TA := fun σ H Q => KF G.K H → ∃ O ρ, Rep G O σ H ρ ∧ Post G H (f ρ) fun ds => ∀ vs H', Same H H' → KF G.K H' → AtL G.K H' O ds vs → Q vs H'
def AtCL (K : W.Frag) (H : Hp) (O : Addr → Prop) : List D → List V → Prop
  | [], vs => vs = []
  | d :: ds, vs => ∃ v r, vs = v :: r ∧ AtC K H O d v ∧ AtCL K H O ds r
theorem AtCL.same {K : W.Frag} {H H' : Hp} {O : Addr → Prop} (s : Same H H') : ∀ {ds : List D} {vs : List V}, AtCL K H O ds vs → AtCL K H' O ds vs
  | [], _, h => h
  | _ :: _, _, h => by
    obtain ⟨v, r, e, h1, h2⟩ := h
    exact ⟨v, r, e, h1.same s, AtCL.same s h2⟩
def tArgW (G : Gc) (f : Ro → Rs (List D)) : TA := fun σ H Q => KF G.K H → ∃ O ρ, Rep G O σ H ρ ∧ Post G H (f ρ) fun ds => ∀ vs H', Same H H' → KF G.K H' → AtCL G.K H' O ds vs → Q vs H'
section
variable {X : Cx} {G : Gc} {e : Expr} {f : DE}
theorem kf_inv {pins : List (Addr × Obj)} {σ : L2.St} {H : Hp} {s : Shared} (I : Inv X pins σ H s) : KF X.K H := fun b o e => (I.bs b o (I.mod.kin b o e)).2
theorem pe_imp {t t' : TE} (h : PE X e t) (hi : ∀ σ H Q, KF X.K H → t' σ H Q → t σ H fun v H' => KF X.K H' → Q v H') : PE X e t' :=
  ⟨fun pins s σ H Q I h' => thn (h.run pins s σ H _ I (hi σ H Q (kf_inv I) h')) fun u s1 ⟨v, H1, I1, r, q⟩ => ⟨v, H1, I1, r, q (kf_inv I1)⟩⟩
theorem pt_imp {t t' : TT} (h : PT X e t) (hi : ∀ σ H Q, KF X.K H → t' σ H Q → t σ H fun v H' => KF X.K H' → Q v H') : PT X e t' :=
  ⟨fun pins s σ H Q I h' => thn (h.run pins s σ H _ I (hi σ H Q (kf_inv I) h')) fun u s1 ⟨H1, I1, q⟩ => ⟨H1, I1, q (kf_inv I1)⟩⟩
theorem pa_imp {es : List Expr} {t t' : TA} (h : PA X es t) (hi : ∀ σ H Q, KF X.K H → t' σ H Q → t σ H fun v H' => KF X.K H' → Q v H') : PA X es t' :=
  ⟨fun pos pins s σ H Q I h' => thn (h.run pos pins s σ H _ I (hi σ H Q (kf_inv I) h')) fun u s1 ⟨v, H1, I1, r, q⟩ => ⟨v, H1, I1, r, q (kf_inv I1)⟩⟩
theorem ps_imp {st : Stmt} {t t' : TS} (h : PS X st t) (hi : ∀ D σ H, KF X.K H → t' D σ H → t D σ H) : PS X st t' :=
  ⟨fun pins s σ H D I h' => h.run pins s σ H D I (hi D σ H (kf_inv I) h')⟩
theorem pss_imp {st : List Stmt} {t t' : TS} (h : PSs X st t) (hi : ∀ D σ H, KF X.K H → t' D σ H → t D σ H) : PSs X st t' :=
  ⟨fun pins s σ H D I h' => h.run pins s σ H D I (hi D σ H (kf_inv I) h')⟩
theorem strong_weak (h : PE X e (tS G f)) : PE X e (tW G f) := pe_imp h fun σ H Q _ w k => by
  obtain ⟨O, ρ, R, p⟩ := w k
  exact ⟨O, ρ, R, p.imp fun d _ q v H' s k' a => fun _ => q v H' s k' a.c⟩
theorem fresh_strong (hK : X.K = G.K) (h : PE X e (tF G f)) (hl : ∀ ρ d, f ρ = .ok d → ∃ ds, d = .list ds) : PE X e (tS G f) := pe_imp h fun σ H Q _ w k => by
  obtain ⟨O, ρ, R, p⟩ := w k
  refine ⟨O, ρ, R, p.imp fun d e q p' ds vs H' e1 s k' n a b => fun _ => q (.ref p') H' s k' ?_⟩
  subst e1
  refine ⟨p', vs, rfl, .of a, fun z => ?_, b.less fun _ z => .inl z⟩
  obtain ⟨o, e2⟩ := R.trk _ z
  rw [n] at e2; cases e2
theorem test_of (hv : PE X e (tW G f)) (he : ∀ whole, isTrue e X.env whole = (do let v ← whole; standAt e.pos; holding [v] (truthy v))) : PT X e (tTst G fun ρ => do match ← f ρ with | .bool b => .ok b | _ => .stuck) := by
  refine pt_imp (pt_val hv he) fun σ H Q _ w k => ?_
  obtain ⟨O, ρ, R, p⟩ := w k
  refine ⟨O, ρ, R, p.bind.imp fun d _ q v H' s k' a => ?_⟩
  cases d with
  | bool b =>
    cases a
    exact ⟨b, rfl, fun _ => q H' s k'⟩
  | _ => exact q.elim
end
end Den
namespace Den
open PySem PySem.Spec PyProof.Rows L2
abbrev big : Nat := 1000000
theorem big_line {n : Nat} (h : n ≤ big) : n ≤ sizeLine := by rw [sizeLine_eq]; unfold big at h; omega
theorem big_lt {n : Nat} (h : n < big) : n < sizeLine := by rw [sizeLine_eq]; unfold big at h; omega
section
variable {X : Cx} {G : Gc} {a b c e : Expr} {f g h : DE} {pos : Pos}
abbrev PostV (G : Gc) (O : Addr → Prop) (H : Hp) (r : Rs D) (Q : VK) : Prop := Post G H r fun d => ∀ v H', Same H H' → KF G.K H' → At G.K H' O d v → Q v H'
theorem same_upd {H : Hp} {p : Addr} {o : HO} (h : H p = none) : Same H (upd H p o) := fun b x e => by
  rw [upd_ne (ne_of_none e h)]
  exact e
abbrev Trk (O : Addr → Prop) (H : Hp) : Prop := ∀ a, O a → ∃ o, H a = some o
theorem Trk.not {O : Addr → Prop} {H : Hp} {p : Addr} (t : Trk O H) (n : H p = none) : ¬ O p := fun z => by
  obtain ⟨o, e⟩ := t p z
  rw [n] at e; cases e
theorem new_list {K : W.Frag} {O : Addr → Prop} {H : Hp} {p : Addr} {ds : List D} {vs : List V} (t : Trk O H) (n : H p = none) (l : AtL K H O ds vs) : At K (upd H p (.lst vs)) O (.list ds) (.ref p) :=
  ⟨p, vs, rfl, .of upd_same, t.not n, l.same (same_upd n)⟩
theorem new_tup {K : W.Frag} {O : Addr → Prop} {H : Hp} {p : Addr} {o : Obj} {ds : List D} {vs : List V} (t : Trk O H) (n : H p = none) (hd : o.dict = none) (l : AtL K H O ds vs) : At K (upd H p (fz o vs)) O (.tuple ds) (.ref p) :=
  ⟨p, vs, rfl, sqN_new hd, t.not n, l.same (same_upd n)⟩
theorem Trk.same {O : Addr → Prop} {H H' : Hp} (t : Trk O H) (s : Same H H') : Trk O H' := fun a h => let ⟨o, e⟩ := t a h; ⟨o, s _ _ e⟩
def Says (G : Gc) (r : R2) (F : D → D → Rs D) : Prop := ∀ (O : Addr → Prop) (H : Hp) (x y : V) (dx dy : D) (Q : VK), KF G.K H → Trk O H → AtC G.K H O dx x → AtC G.K H O dy y →
  PostV G O H (F dx dy) Q → r x y H fun v H' => KF G.K H' → Q v H'
theorem two (hK : X.K = G.K) {r : R2} {F : D → D → Rs D} (s : Says G r F) {t : TE} (h : PE X e (tOp r (tW G f) (tW G g))) : PE X e (tS G fun ρ => do let x ← f ρ; let y ← g ρ; F x y) := by
  refine pe_imp h fun σ H Q kf w => fun k0 => ?_
  obtain ⟨O, ρ, R, p⟩ := w k0
  refine ⟨O, ρ, R, p.bind.imp fun dx _ q x H1 s1 k1 ax => fun _ => ?_⟩
  refine ⟨O, ρ, R.same s1, q.bind.imp fun dy _ q2 y H2 s2 k2 ay => ?_⟩
  have R2 := R.same (s1.trans s2)
  rw [hK]
  exact s O H2 x y dx dy Q k2 R2.trk (ax.same s2) ay (q2.imp fun d _ q3 v H' s3 k3 a3 => q3 v H' (s1.trans (s2.trans s3)) k3 a3)
theorem d_bin (hK : X.K = G.K) {op : Operator} {r : R2} {F : D → D → Rs D} (ho : OpR X (binaryOp op) r) (s : Says G r F) (ha : PE X a (tW G f)) (hb : PE X b (tW G g)) : PE X (.BinOp a op b pos) (tS G fun ρ => do let x ← f ρ; let y ← g ρ; F x y) :=
  two hK s (t := fun _ _ _ => True) (pe_op ho ha hb)
theorem d_cmp (hK : X.K = G.K) {op : CmpOp} {r : R2} {F : D → D → Rs D} (ho : OpR X (compareOp op) r) (s : Says G r F) (hm : behindInMarks op b = false) (ha : PE X a (tW G f)) (hb : PE X b (tW G g)) : PE X (.Compare a [op] [b] pos) (tS G fun ρ => do let x ← f ρ; let y ← g ρ; F x y) :=
  two hK s (t := fun _ _ _ => True) (pe_cmpR ho ha hb hm)
theorem d_ix (hK : X.K = G.K) {r : R2} {F : D → D → Rs D} (hr : IxR X r) (s : Says G r F) (hs : PlainIx b) (ha : PE X a (tW G f)) (hb : PE X b (tW G g)) : PE X (.Subscript a b pos) (tS G fun ρ => do let x ← f ρ; let y ← g ρ; F x y) :=
  two hK s (t := fun _ _ _ => True) (pe_ix hr ha hb hs)
theorem post_sc {G : Gc} {O : Addr → Prop} {H : Hp} {d : D} {v : V} {Q : VK} (k : KF G.K H) (p : PostV G O H (.ok d) Q) (a : At G.K H O d v) : KF G.K H → Q v H := fun _ => p v H (Same.refl H) k a
def rCatS (K : W.Frag) : R2 := fun x y H Q => ∃ l b xs zs, x = .ref l ∧ y = .ref b ∧ SqL K H l xs ∧ SqL K H b zs ∧ xs.length + zs.length ≤ sizeLine ∧ ∀ p, H p = none → Q (.ref p) (upd H p (.lst (xs ++ zs)))
theorem op_catL : OpR X (binaryOp .Add) (rCatS X.K) := by
  intro pins s σ H x y v u Q I rx ry h
  obtain ⟨l, b, xs, zs, rfl, rfl, hx, hy, hz, q⟩ := h
  cases rx
  cases ry
  obtain ⟨its, r, p, _⟩ := I.list hx
  obtain ⟨its2, r2, p2, _⟩ := I.list hy
  have e1 := r.length
  have e2 := r2.length
  obtain ⟨⟨cls, dd, data, sl⟩, ho, hc, n, hd⟩ := p.isList
  obtain ⟨⟨cls2, dd2, data2, sl2⟩, ho2, hc2, n2, hd2⟩ := p2.isList
  simp only at hc hd hc2 hd2
  subst hc hd hc2 hd2
  refine concat_meets ⟨_, ho, rfl⟩ ⟨_, ho2, rfl⟩ noFill_list_add seq_list_add PySem.F.slot_list_add PySem.F.entry_list_add (PySem.F.args_list_add_2 _ _) (list_addW l b its.toArray its2.toArray n n2 dd dd2 sl sl2 (by rw [List.size_toArray, List.size_toArray]; omega)) ⟨ho, ho2, ?_⟩
  have ea : its.toArray ++ its2.toArray = (its ++ its2).toArray := by simp
  rw [ea]
  exact ⟨.ref _, _, I.lnew (t' := s.toks) (r.append r2) (by rw [List.length_append]; omega), rfl, q _ I.fresh⟩
def addD : D → D → Rs D
  | .int i, .int j => .ok (.int (i + j))
  | .int i, .bool j => .ok (.int (i + (if j then 1 else 0)))
  | .list xs, .list ys => if xs.length + ys.length ≤ big then .ok (.list (xs ++ ys)) else .stuck
  | .tuple xs, .tuple ys => if xs.length + ys.length ≤ big then .ok (.tuple (xs ++ ys)) else .stuck
  | .str x, .str y => if x.length + y.length ≤ big then .ok (.str (x ++ y)) else .stuck
  | _, _ => .stuck
def rAddD (K : W.Frag) : R2 := fun x y H Q => (((rI0 fun i j => .int (i + j)) x y H Q ∨ (∃ i k, x = .int i ∧ y = .bl k ∧ Q (.int (i + b2i k)) H)) ∨ rCatS K x y H Q) ∨ (rCatF K x y H Q ∨ (∃ i j, x = .str i ∧ y = .str j ∧ i.length + j.length ≤ sizeLine ∧ Q (.str (i ++ j)) H))
theorem op_addD : OpR X (binaryOp .Add) (rAddD X.K) := ((op_add.or op_add_ib).or op_catL).or (op_catF.or op_add_str)
theorem says_add : Says G (rAddD G.K) addD := by
  intro O H x y dx dy Q k t ax ay p
  unfold addD at p
  split at p
  · cases ax; cases ay
    exact .inl (.inl (.inl ⟨_, _, rfl, rfl, post_sc k p rfl⟩))
  · cases ax; cases ay
    exact .inl (.inl (.inr ⟨_, _, rfl, rfl, post_sc k p rfl⟩))
  · obtain ⟨a, vs, rfl, h1, h2⟩ := ax
    obtain ⟨b, us, rfl, h3, h4⟩ := ay
    split at p
    · rename_i hz
      refine .inl (.inr ⟨a, b, vs, us, rfl, rfl, h1, h3, by rw [h2.length, h4.length]; exact big_line hz, fun q hq k' => ?_⟩)
      exact p _ _ (same_upd hq) k' (new_list t hq (h2.append h4))
    · exact p.elim
  · obtain ⟨a, vs, rfl, h1, n1, h2⟩ := ax
    obtain ⟨b, us, rfl, h3, n3, h4⟩ := ay
    split at p
    · rename_i hz
      refine .inr (.inl ⟨a, b, vs, us, rfl, rfl, h1.q, h3.q, by rw [h2.length, h4.length]; exact big_line hz, fun e k' => ?_, fun _ e k' => ?_, fun _ _ q o hq hd k' => ?_⟩)
      · subst e
        have e' := h2.length
        rename_i xs ys
        have : xs = [] := List.eq_nil_of_length_eq_zero (by simpa using e'.symm)
        subst this
        exact p _ _ (Same.refl _) k' ⟨b, us, rfl, h3, n3, h4⟩
      · subst e
        have e' := h4.length
        rename_i xs ys _
        have : ys = [] := List.eq_nil_of_length_eq_zero (by simpa using e'.symm)
        subst this
        rw [List.append_nil] at p
        exact p _ _ (Same.refl _) k' ⟨a, vs, rfl, h1, n1, h2⟩
      · exact p _ _ (same_upd hq) k' (new_tup t hq hd (h2.append h4))
    · exact p.elim
  · cases ax; cases ay
    split at p
    · rename_i hz
      exact .inr (.inr ⟨_, _, rfl, rfl, big_line hz, post_sc k p rfl⟩)
    · exact p.elim
  · exact p.elim
def subD : D → D → Rs D
  | .int i, .int j => .ok (.int (i - j))
  | _, _ => .stuck
theorem says_sub : Says G (rI0 fun i j => .int (i - j)) subD := by
  intro O H x y dx dy Q k t ax ay p
  unfold subD at p
  split at p
  · cases ax; cases ay
    exact ⟨_, _, rfl, rfl, post_sc k p rfl⟩
  · exact p.elim
def mulD : D → D → Rs D
  | .int i, .int j => if (-(2 ^ 64) < i ∧ i < 2 ^ 64) ∨ (-(2 ^ 64) < j ∧ j < 2 ^ 64) then .ok (.int (i * j)) else .stuck
  | _, _ => .stuck
theorem says_mul : Says G (rI CMul fun i j => .int (i * j)) mulD := by
  intro O H x y dx dy Q k t ax ay p
  unfold mulD at p
  split at p
  · cases ax; cases ay
    split at p
    · rename_i hc
      exact ⟨_, _, rfl, rfl, hc, post_sc k p rfl⟩
    · exact p.elim
  · exact p.elim
def divD : D → D → Rs D
  | .int i, .int j => if 0 < j ∧ j < 2 ^ 64 then .ok (.int (i / j)) else .stuck
  | _, _ => .stuck
theorem says_div : Says G (rI CDivW fun i j => .int (i / j)) divD := by
  intro O H x y dx dy Q k t ax ay p
  unfold divD at p
  split at p
  · cases ax; cases ay
    split at p
    · rename_i hc
      exact ⟨_, _, rfl, rfl, wide_div (b := 64) hc.1 (by omega) (by decide) (by decide), post_sc k p rfl⟩
    · exact p.elim
  · exact p.elim
def modD : D → D → Rs D
  | .int i, .int j => if 0 < j then .ok (.int (i % j)) else .stuck
  | _, _ => .stuck
theorem says_mod : Says G (rI (fun _ j => 0 < j) fun i j => .int (i % j)) modD := by
  intro O H x y dx dy Q k t ax ay p
  unfold modD at p
  split at p
  · cases ax; cases ay
    split at p
    · rename_i hc
      exact ⟨_, _, rfl, rfl, hc, post_sc k p rfl⟩
    · exact p.elim
  · exact p.elim
def powD : D → D → Rs D
  | .int i, .int j => if 0 ≤ j ∧ j ≤ 64 ∧ i.natAbs < 2 ^ 64 then .ok (.int (i ^ j.toNat)) else .stuck
  | _, _ => .stuck
theorem says_pow : Says G (rI CPow fun i j => .int (i ^ j.toNat)) powD := by
  intro O H x y dx dy Q k t ax ay p
  unfold powD at p
  split at p
  · cases ax; cases ay
    split at p
    · rename_i hc
      exact ⟨_, _, rfl, rfl, ⟨hc.1, by omega, hc.2.2⟩, post_sc k p rfl⟩
    · exact p.elim
  · exact p.elim
def eqD (dx dy : D) : Rs D := if SeqAt.shaped dx = true ∧ SeqAt.shaped dy = true then .ok (.bool (PyData.eqv dx dy)) else .stuck
def neD (dx dy : D) : Rs D := if SeqAt.shaped dx = true ∧ SeqAt.shaped dy = true then .ok (.bool (!PyData.eqv dx dy)) else .stuck
theorem says_eq : Says G (rEqD G.K) eqD := by
  intro O H x y dx dy Q k t ax ay p
  unfold eqD at p
  split at p
  · rename_i hc
    exact ⟨dx, dy, ax.dp, ay.dp, hc.1, hc.2, post_sc k p rfl⟩
  · exact p.elim
theorem says_ne : Says G (rNeD G.K) neD := by
  intro O H x y dx dy Q k t ax ay p
  unfold neD at p
  split at p
  · rename_i hc
    exact ⟨dx, dy, ax.dp, ay.dp, hc.1, hc.2, post_sc k p rfl⟩
  · exact p.elim
def ordD (q : Int → Int → Bool) : D → D → Rs D
  | .int i, .int j => .ok (.bool (q i j))
  | _, _ => .stuck
theorem says_ord (q : Int → Int → Bool) : Says G (rI0 fun i j => .bl (q i j)) (ordD q) := by
  intro O H x y dx dy Q k t ax ay p
  unfold ordD at p
  split at p
  · cases ax; cases ay
    exact ⟨_, _, rfl, rfl, post_sc k p rfl⟩
  · exact p.elim
def inL (dx : D) (ds : List D) : Bool := ds.any fun z => PyData.eqv z dx
def strIn (i j : Str) : Bool := !(Builtin.Str.occurrences j i 0 j.length 1).isEmpty
def inD (neg : Bool) : D → D → Rs D
  | dx, .list ds => if SeqAt.shaped dx = true ∧ SeqAt.shaped (.list ds) = true then .ok (.bool (if neg then !inL dx ds else inL dx ds)) else .stuck
  | dx, .tuple ds => if SeqAt.shaped dx = true ∧ SeqAt.shaped (.tuple ds) = true then .ok (.bool (if neg then !inL dx ds else inL dx ds)) else .stuck
  | .str i, .str j => .ok (.bool (if neg then !strIn i j else strIn i j))
  | _, _ => .stuck
end
end Den
namespace Den
open PySem PySem.Spec PyProof.Rows L2
section
variable {X : Cx} {G : Gc} {a b c e : Expr} {f g h : DE} {pos : Pos}
def rInT (K : W.Frag) (neg : Bool) : R2 := fun x y H Q => ∃ d ds, Dp K H x d ∧ Dp K H y (.tuple ds) ∧ SeqAt.shaped d = true ∧ SeqAt.shaped (.tuple ds) = true ∧ Q (.bl (if neg then !inL d ds else inL d ds)) H
theorem op_inT (hu : X.A.units + 65 < cLine) : OpR X (compareOp .In) (rInT X.K false) := by
  intro pins s σ H x y v u Q I rx ry h
  obtain ⟨d, ds, hd, he, sd, se, q⟩ := h
  obtain ⟨as, r1⟩ := Dp.reads I d x v hd rx
  obtain ⟨bs, r2⟩ := Dp.reads I (.tuple ds) y u he ry
  exact SeqAt.in_tuple_reads r2 r1 (SeqAt.canLay_of_shaped se) (SeqAt.canLay_of_shaped sd) (room_in_shaped sd hu) ⟨.bl _, H, I, rfl, q⟩
theorem op_notInT (hu : X.A.units + 65 < cLine) : OpR X (compareOp .NotIn) (rInT X.K true) := by
  intro pins s σ H x y v u Q I rx ry h
  obtain ⟨d, ds, hd, he, sd, se, q⟩ := h
  obtain ⟨as, r1⟩ := Dp.reads I d x v hd rx
  obtain ⟨bs, r2⟩ := Dp.reads I (.tuple ds) y u he ry
  exact SeqAt.notIn_tuple_reads r2 r1 (SeqAt.canLay_of_shaped se) (SeqAt.canLay_of_shaped sd) (room_in_shaped sd hu) ⟨.bl _, H, I, rfl, q⟩
def rInA (K : W.Frag) : R2 := fun x y H Q => (rInD K x y H Q ∨ rInT K false x y H Q) ∨ (∃ i j, x = .str i ∧ y = .str j ∧ Q (.bl (!(Builtin.Str.occurrences j i 0 j.length 1).isEmpty)) H)
def rNotInA (K : W.Frag) : R2 := fun x y H Q => (rNotInD K x y H Q ∨ rInT K true x y H Q) ∨ (∃ i j, x = .str i ∧ y = .str j ∧ Q (.bl (!(!(Builtin.Str.occurrences j i 0 j.length 1).isEmpty))) H)
theorem op_inA (hu : X.A.units + 65 < cLine) : OpR X (compareOp .In) (rInA X.K) := ((op_inD hu).or (op_inT hu)).or op_in_str
theorem op_notInA (hu : X.A.units + 65 < cLine) : OpR X (compareOp .NotIn) (rNotInA X.K) := ((op_notInD hu).or (op_notInT hu)).or op_notin_str
theorem says_in : Says G (rInA G.K) (inD false) := by
  intro O H x y dx dy Q k t ax ay p
  unfold inD at p
  split at p
  · split at p
    · rename_i hc
      exact .inl (.inl ⟨_, _, ax.dp, ay.dp, hc.1, hc.2, post_sc k p rfl⟩)
    · exact p.elim
  · split at p
    · rename_i hc
      exact .inl (.inr ⟨_, _, ax.dp, ay.dp, hc.1, hc.2, post_sc k p rfl⟩)
    · exact p.elim
  · cases ax; cases ay
    exact .inr ⟨_, _, rfl, rfl, post_sc k p rfl⟩
  · exact p.elim
theorem says_notIn : Says G (rNotInA G.K) (inD true) := by
  intro O H x y dx dy Q k t ax ay p
  unfold inD at p
  split at p
  · split at p
    · rename_i hc
      exact .inl (.inl ⟨_, _, ax.dp, ay.dp, hc.1, hc.2, post_sc k p rfl⟩)
    · exact p.elim
  · split at p
    · rename_i hc
      exact .inl (.inr ⟨_, _, ax.dp, ay.dp, hc.1, hc.2, post_sc k p rfl⟩)
    · exact p.elim
  · cases ax; cases ay
    exact .inr ⟨_, _, rfl, rfl, post_sc k p rfl⟩
  · exact p.elim
def isD (neg : Bool) : D → D → Rs D
  | .none, .none => .ok (.bool !neg)
  | _, .none => .ok (.bool neg)
  | .bool i, .bool j => .ok (.bool (if neg then !decide (i = j) else decide (i = j)))
  | _, _ => .stuck
def rIsA : R2 := fun x y H Q => (y = .non ∧ Q (.bl (decide (x = .non))) H) ∨ rIsB x y H Q
def rNotA : R2 := fun x y H Q => (y = .non ∧ Q (.bl (!decide (x = .non))) H) ∨ rNotB x y H Q
theorem op_isA : OpR X (compareOp .Is) rIsA := op_isN.or op_isBl
theorem op_notA : OpR X (compareOp .IsNot) rNotA := op_notN.or op_notBl
theorem ne_non {K : W.Frag} {H : Hp} {O : Addr → Prop} : ∀ {d : D} {x : V}, AtC K H O d x → (d ≠ .none) → decide (x = V.non) = false
  | .none, _, _, n => absurd rfl n
  | .bool _, _, h, _ => by cases h; rfl
  | .int _, _, h, _ => by cases h; rfl
  | .str _, _, h, _ => by cases h; rfl
  | .list _, _, h, _ => by obtain ⟨_, _, rfl, _⟩ := h; rfl
  | .tuple _, _, h, _ => by obtain ⟨_, _, rfl, _⟩ := h; rfl
  | .dict _, _, h, _ => h.elim
theorem says_is : Says G rIsA (isD false) := by
  intro O H x y dx dy Q k t ax ay p
  unfold isD at p
  split at p
  · cases ax; cases ay
    exact .inl ⟨rfl, post_sc k p rfl⟩
  · rename_i hn
    cases ay
    refine .inl ⟨rfl, ?_⟩
    rw [ne_non ax hn]
    exact post_sc k p rfl
  · cases ax; cases ay
    exact .inr ⟨_, _, rfl, rfl, post_sc k p rfl⟩
  · exact p.elim
theorem says_notIs : Says G rNotA (isD true) := by
  intro O H x y dx dy Q k t ax ay p
  unfold isD at p
  split at p
  · cases ax; cases ay
    exact .inl ⟨rfl, post_sc k p rfl⟩
  · rename_i hn
    cases ay
    refine .inl ⟨rfl, ?_⟩
    rw [ne_non ax hn]
    exact post_sc k p rfl
  · cases ax; cases ay
    exact .inr ⟨_, _, rfl, rfl, post_sc k p rfl⟩
  · exact p.elim
def ixD : D → D → Rs D
  | .list ds, .int i => match atI ds i with | some d => .ok d | none => .stuck
  | .tuple ds, .int i => match atI ds i with | some d => .ok d | none => .stuck
  | _, _ => .stuck
theorem atI_atL {K : W.Frag} {H : Hp} {O : Addr → Prop} {ds : List D} {vs : List V} {i : Int} {d : D} (h : AtL K H O ds vs) (e : atI ds i = some d) : ∃ v, atI vs i = some v ∧ At K H O d v := by
  unfold atI at e ⊢
  rw [h.length]
  cases q : ixN ds.length i with
  | none => rw [q] at e; cases e
  | some j =>
    rw [q] at e
    obtain ⟨v, e1, e2⟩ := h.get (show ds[j]? = some d from e)
    exact ⟨v, e1, e2⟩
def rIxLT (K : W.Frag) : R2 := fun x y H Q => rIxL K x y H Q ∨ rIxT K x y H Q
theorem ix_LT : IxR X (rIxLT X.K) := ix_list.or ix_tup
theorem says_ix : Says G (rIxLT G.K) ixD := by
  intro O H x y dx dy Q k t ax ay p
  unfold ixD at p
  split at p
  · obtain ⟨a, vs, rfl, h1, h2⟩ := ax
    cases ay
    split at p
    · rename_i e
      obtain ⟨v, e1, e2⟩ := atI_atL h2 e
      exact .inl ⟨a, vs, _, v, rfl, rfl, h1, e1, post_sc k p e2⟩
    · exact p.elim
  · obtain ⟨a, vs, rfl, h1, n1, h2⟩ := ax
    cases ay
    split at p
    · rename_i e
      obtain ⟨v, e1, e2⟩ := atI_atL h2 e
      exact .inr ⟨a, vs, _, v, rfl, rfl, h1.q, e1, post_sc k p e2⟩
    · exact p.elim
  · exact p.elim
def cutD (ds : List D) (lo hi : Option Int) : List D := (ds.drop (HT.sIx ds.length 0 lo)).take (HT.sIx ds.length ds.length hi - HT.sIx ds.length 0 lo)
def slD (lo hi : Option Int) : D → Rs D
  | .list ds => .ok (.list (cutD ds lo hi))
  | .tuple ds => .ok (.tuple (cutD ds lo hi))
  | _ => .stuck
theorem atL_cut {K : W.Frag} {H : Hp} {O : Addr → Prop} {ds : List D} {vs : List V} (h : AtL K H O ds vs) (lo hi : Option Int) : AtL K H O (cutD ds lo hi) (cutV vs lo hi) := by
  unfold cutD cutV
  rw [h.length]
  exact (h.drop _).take _
def rSlLT (K : W.Frag) : V → Option Int → Option Int → Hp → VK → Prop := fun x lo hi H Q => rSlL K x lo hi H Q ∨ rSlF K x lo hi H Q
theorem sl_LT : SlR X (rSlLT X.K) := sl_list.or sl_tupF
theorem cut_whole {ds : List D} {lo hi : Option Int} (h : HT.sIx ds.length 0 lo = 0 ∧ HT.sIx ds.length ds.length hi = ds.length) : cutD ds lo hi = ds := by
  unfold cutD
  rw [h.1, h.2]
  simp
theorem says_sl {O : Addr → Prop} {H : Hp} {x : V} {dx : D} {lo hi : Option Int} {Q : VK} (k : KF G.K H) (t : Trk O H) (ax : AtC G.K H O dx x) (p : PostV G O H (slD lo hi dx) Q) : rSlLT G.K x lo hi H fun v H' => KF G.K H' → Q v H' := by
  unfold slD at p
  split at p
  · obtain ⟨a, vs, rfl, h1, h2⟩ := ax
    exact .inl ⟨a, vs, rfl, h1, fun q hq k' => p _ _ (same_upd hq) k' (new_list t hq (atL_cut h2 lo hi))⟩
  · obtain ⟨a, vs, rfl, h1, n1, h2⟩ := ax
    have hl := h2.length
    refine .inr ⟨a, vs, rfl, h1.q, fun w k' => ?_, fun _ q o hq hd k' => p _ _ (same_upd hq) k' (new_tup t hq hd (atL_cut h2 lo hi))⟩
    rw [hl] at w
    rw [cut_whole w] at p
    exact p _ _ (Same.refl _) k' ⟨a, vs, rfl, h1, n1, h2⟩
  · exact p.elim
def intD : D → Rs Int
  | .int i => .ok i
  | _ => .stuck
@[simp] theorem intD_int (i : Int) : intD (.int i) = .ok i := rfl
theorem d_slLo (hK : X.K = G.K) {p2 : Pos} (ha : PE X a (tW G f)) (hl : PE X b (tW G g)) : PE X (.Subscript a (.Slice (some b) none none p2) pos) (tS G fun ρ => do let x ← f ρ; let l ← g ρ; let i ← intD l; slD (some i) none x) := by
  refine pe_imp (pe_slice sl_LT ha (po_some hl) po_none) fun σ H Q kf w => fun k0 => ?_
  obtain ⟨O, ρ, R, p⟩ := w k0
  refine ⟨O, ρ, R, p.bind.imp fun dx _ q x H1 s1 k1 ax => fun k1' => ?_⟩
  refine ⟨O, ρ, R.same s1, q.bind.imp fun dl _ q2 l H2 s2 k2 al => ?_⟩
  cases dl with
  | int i =>
    cases al
    refine ⟨i, rfl, ?_⟩
    rw [hK]
    have R2 := R.same (s1.trans s2)
    exact says_sl (G := G) k2 R2.trk (ax.same s2) (Post.imp q2 fun d _ q3 v H' s3 k3 a3 => q3 v H' (s1.trans (s2.trans s3)) k3 a3)
  | _ => exact q2.elim
theorem d_slHi (hK : X.K = G.K) {p2 : Pos} (ha : PE X a (tW G f)) (hl : PE X b (tW G g)) : PE X (.Subscript a (.Slice none (some b) none p2) pos) (tS G fun ρ => do let x ← f ρ; let l ← g ρ; let i ← intD l; slD none (some i) x) := by
  refine pe_imp (pe_slice sl_LT ha po_none (po_some hl)) fun σ H Q kf w => fun k0 => ?_
  obtain ⟨O, ρ, R, p⟩ := w k0
  refine ⟨O, ρ, R, p.bind.imp fun dx _ q x H1 s1 k1 ax => fun k1' => ?_⟩
  refine ⟨O, ρ, R.same s1, q.bind.imp fun dl _ q2 l H2 s2 k2 al => ?_⟩
  cases dl with
  | int i =>
    cases al
    refine ⟨i, rfl, ?_⟩
    rw [hK]
    have R2 := R.same (s1.trans s2)
    exact says_sl (G := G) k2 R2.trk (ax.same s2) (Post.imp q2 fun d _ q3 v H' s3 k3 a3 => q3 v H' (s1.trans (s2.trans s3)) k3 a3)
  | _ => exact q2.elim
theorem d_slLH (hK : X.K = G.K) {p2 : Pos} (ha : PE X a (tW G f)) (hl : PE X b (tW G g)) (hh : PE X c (tW G h)) : PE X (.Subscript a (.Slice (some b) (some c) none p2) pos) (tS G fun ρ => do let x ← f ρ; let l ← g ρ; let i ← intD l; let u ← h ρ; let j ← intD u; slD (some i) (some j) x) := by
  refine pe_imp (pe_slice sl_LT ha (po_some hl) (po_some hh)) fun σ H Q kf w => fun k0 => ?_
  obtain ⟨O, ρ, R, p⟩ := w k0
  refine ⟨O, ρ, R, p.bind.imp fun dx _ q x H1 s1 k1 ax => fun k1' => ?_⟩
  refine ⟨O, ρ, R.same s1, q.bind.imp fun dl _ q2 l H2 s2 k2 al => ?_⟩
  cases dl with
  | int i =>
    cases al
    refine ⟨i, rfl, fun k2' => ⟨O, ρ, R.same (s1.trans s2), (show Post G H (h ρ >>= fun u => intD u >>= fun j => slD (some i) (some j) dx) _ from q2).bind.imp fun du _ q3 u H3 s3 k3 au => ?_⟩⟩
    cases du with
    | int j =>
      cases au
      refine ⟨j, rfl, ?_⟩
      rw [hK]
      have R2 := R.same (s1.trans (s2.trans s3))
      exact says_sl (G := G) k3 R2.trk (ax.same (s2.trans s3)) (Post.imp q3 fun d _ q4 v H' s4 k4 a4 => q4 v H' (s1.trans (s2.trans (s3.trans s4))) k4 a4)
    | _ => exact q3.elim
  | _ => exact q2.elim
end
end Den
namespace Den
open PySem PySem.Spec PyProof.Rows L2
section
variable {X : Cx} {G : Gc} {a b c e : Expr} {f g h : DE} {pos : Pos}
structure Ctx (X : Cx) (G : Gc) (L : Nat) (bl : List Str) : Prop where
  K : X.K = G.K
  P : X.prog = G.P
  w : X.w = G.w
  pass : Passes (L2.CX X.prog X.w) X G.E
  room : Room L X.A
  calm : X.calm = true
  nd : X.N.Nodup
  blt : ∀ x ∈ bl, X.mg x = none
variable {L : Nat} {bl : List Str}
theorem Ctx.kf (C : Ctx X G L bl) {H : Hp} (k : KF X.K H) : KF G.K H := C.K ▸ k
theorem Ctx.hu (C : Ctx X G L bl) : X.A.units + 65 < cLine := by have := C.room.un; omega
theorem Ctx.hu0 (C : Ctx X G L bl) : X.A.units + 64 < cLine := by have := C.room.un; omega
theorem kf_no {K : W.Frag} {H : Hp} {p : Addr} {o : HO} (k : KF K H) (e : H p = some o) : K.lookup p = none := by
  cases q : K.lookup p with
  | none => rfl
  | some u => rw [k p u q] at e; cases e
def vaR (i : Nat) (ρ : Ro) : Rs D := match ρ[i]? with | some (some d) => .ok d | _ => .stuck
theorem d_var (C : Ctx X G L bl) {i : Nat} {x : Str} (hN : X.N[i]? = some x) (hv : Vis X.env.scope x) (hw : G.own i = false) (hd : (x == ("__debug__" : Str)) = false) (hcd : (x == ("__classdict__" : Str)) = false) : PE X (.Name x pos) (tS G (vaR i)) := by
  refine pe_imp (pe_var hN hv hd hcd) fun σ H Q kf w => ?_
  have k := C.kf kf
  obtain ⟨O, ρ, R, p⟩ := w k
  unfold vaR at p
  split at p
  · rename_i d e
    obtain ⟨v, e1, h1⟩ := R.slot i d e hw
    exact ⟨v, e1, fun _ => p v H (Same.refl H) k h1⟩
  · exact p.elim
theorem d_varW (C : Ctx X G L bl) {i : Nat} {x : Str} (hN : X.N[i]? = some x) (hv : Vis X.env.scope x) (hdt : G.dct i = false) (hd : (x == ("__debug__" : Str)) = false) (hcd : (x == ("__classdict__" : Str)) = false) : PE X (.Name x pos) (tW G (vaR i)) := by
  refine pe_imp (pe_var hN hv hd hcd) fun σ H Q kf w => ?_
  have k := C.kf kf
  obtain ⟨O, ρ, R, p⟩ := w k
  unfold vaR at p
  split at p
  · rename_i d e
    obtain ⟨v, e1, h1⟩ := R.var hdt e
    exact ⟨v, e1, fun _ => p v H (Same.refl H) k h1⟩
  · exact p.elim
theorem d_cst (C : Ctx X G L bl) {d : D} {v : V} (he : PE X e (tC v)) (hd : ∀ (K : W.Frag) (H : Hp) (O : Addr → Prop), At K H O d v) : PE X e (tS G fun _ => .ok d) := by
  refine pe_imp he fun σ H Q kf w => ?_
  have k := C.kf kf
  obtain ⟨O, ρ, R, p⟩ := w k
  exact fun _ => p v H (Same.refl H) k (hd _ _ _)
def noArg : Ro → Rs (List D) := fun _ => .ok []
def consArg (f : DE) (fs : Ro → Rs (List D)) : Ro → Rs (List D) := fun ρ => do let d ← f ρ; let ds ← fs ρ; pure (d :: ds)
theorem a_nil (C : Ctx X G L bl) : PA X [] (tArg G noArg) := by
  refine pa_imp pa_nil fun σ H Q kf w => ?_
  have k := C.kf kf
  obtain ⟨O, ρ, R, p⟩ := w k
  exact fun _ => p [] H (Same.refl H) k rfl
theorem a_cons (C : Ctx X G L bl) {es : List Expr} {fs : Ro → Rs (List D)} (ha : PE X e (tS G f)) (hs : PA X es (tArg G fs)) (hst : starEach (e :: es) X.env = (false, eval e X.env) :: starEach es X.env) : PA X (e :: es) (tArg G (consArg f fs)) := by
  refine pa_imp (pa_cons ha hs hst) fun σ H Q kf w => fun k => ?_
  obtain ⟨O, ρ, R, p⟩ := w k
  refine ⟨O, ρ, R, p.bind.imp fun d _ q v H1 s1 k1 a1 => fun _ => ?_⟩
  refine ⟨O, ρ, R.same s1, q.bind.imp fun ds _ q2 vs H2 s2 k2 a2 => fun _ => ?_⟩
  exact q2 (v :: vs) H2 (s1.trans s2) k2 ⟨v, vs, rfl, a1.same s2, a2⟩
theorem a_nilW (C : Ctx X G L bl) : PA X [] (tArgW G noArg) := by
  refine pa_imp pa_nil fun σ H Q kf w => ?_
  have k := C.kf kf
  obtain ⟨O, ρ, R, p⟩ := w k
  exact fun _ => p [] H (Same.refl H) k rfl
theorem a_consW (C : Ctx X G L bl) {es : List Expr} {fs : Ro → Rs (List D)} (ha : PE X e (tW G f)) (hs : PA X es (tArgW G fs)) (hst : starEach (e :: es) X.env = (false, eval e X.env) :: starEach es X.env) : PA X (e :: es) (tArgW G (consArg f fs)) := by
  refine pa_imp (pa_cons ha hs hst) fun σ H Q kf w => fun k => ?_
  obtain ⟨O, ρ, R, p⟩ := w k
  refine ⟨O, ρ, R, p.bind.imp fun d _ q v H1 s1 k1 a1 => fun _ => ?_⟩
  refine ⟨O, ρ, R.same s1, q.bind.imp fun ds _ q2 vs H2 s2 k2 a2 => fun _ => ?_⟩
  exact q2 (v :: vs) H2 (s1.trans s2) k2 ⟨v, vs, rfl, a1.same s2, a2⟩
def tupA (fs : Ro → Rs (List D)) : DE := fun ρ => do let ds ← fs ρ; pure (.tuple ds)
def lstA (fs : Ro → Rs (List D)) : DE := fun ρ => do let ds ← fs ρ; pure (.list ds)
theorem d_tup (C : Ctx X G L bl) {es : List Expr} {k : Nat} {fs : Ro → Rs (List D)} (hl : ∀ ρ ds, fs ρ = .ok ds → ds.length ≤ big) (ha : PA X es (tArg G fs)) : PE X (.Tuple es k pos) (tS G (tupA fs)) := by
  refine pe_imp (pe_tupF ha) fun σ H Q kf w => fun k => ?_
  obtain ⟨O, ρ, R, p⟩ := w k
  refine ⟨O, ρ, R, p.bind.imp fun ds e q vs H1 s1 k1 a1 => ?_⟩
  refine ⟨by rw [a1.length]; exact big_line (hl ρ ds e), fun n o hn hd k' => ?_⟩
  exact q _ _ (s1.trans (same_upd hn)) (C.kf k') (new_tup (R.same s1).trk hn hd a1)
theorem d_lst (C : Ctx X G L bl) {es : List Expr} {fs : Ro → Rs (List D)} (hl : ∀ ρ ds, fs ρ = .ok ds → ds.length ≤ big) (ha : PA X es (tArg G fs)) : PE X (.List es pos) (tF G (lstA fs)) := by
  refine pe_imp (pe_lst ha) fun σ H Q kf w => fun k => ?_
  obtain ⟨O, ρ, R, p⟩ := w k
  refine ⟨O, ρ, R, p.bind.imp fun ds e q vs H1 s1 k1 a1 => ?_⟩
  refine ⟨by rw [a1.length]; exact big_line (hl ρ ds e), fun n hn k' => ?_⟩
  exact q n ds vs _ rfl (s1.trans (same_upd hn)) (C.kf k') (s1.free hn) upd_same ((a1.grow hn (kf_no (C.kf k') upd_same)).same (same_upd hn))
def addL (x y : D) : Rs D := match x, y with
  | .list _, .list _ => addD x y
  | _, _ => .stuck
theorem f_add (C : Ctx X G L bl) (ha : PE X a (tW G f)) (hb : PE X b (tW G g)) : PE X (.BinOp a .Add b pos) (tF G fun ρ => do let x ← f ρ; let y ← g ρ; addL x y) := by
  refine pe_imp (pe_op op_catL ha hb) fun σ H Q kf w => fun k => ?_
  obtain ⟨O, ρ, R, p⟩ := w k
  refine ⟨O, ρ, R, p.bind.imp fun dx _ q x H1 s1 k1 ax => fun _ => ?_⟩
  refine ⟨O, ρ, R.same s1, q.bind.imp fun dy _ q2 y H2 s2 k2 ay => ?_⟩
  unfold addL at q2
  split at q2
  · unfold addD at q2
    simp only at q2
    split at q2
    · rename_i hz
      have ax' := ax.same s2
      obtain ⟨l, vs, rfl, h1, h2⟩ := ax'
      obtain ⟨l2, us, rfl, h3, h4⟩ := ay
      rw [C.K]
      refine ⟨l, l2, vs, us, rfl, rfl, h1, h3, by rw [h2.length, h4.length]; exact big_line hz, fun n hn k' => ?_⟩
      exact q2 n _ _ _ rfl (s1.trans (s2.trans (same_upd hn))) k' (s1.free (s2.free hn)) upd_same (((h2.append h4).grow hn (kf_no k' upd_same)).same (same_upd hn))
    · exact q2.elim
  · exact q2.elim
def negD : D → Rs D | .int i => .ok (.int (-i)) | _ => .stuck
theorem d_neg (C : Ctx X G L bl) (ha : PE X a (tW G f)) : PE X (.UnaryOp .USub a pos) (tS G fun ρ => do let x ← f ρ; negD x) := by
  refine pe_imp (pe_un un_neg ha) fun σ H Q kf w => fun k => ?_
  obtain ⟨O, ρ, R, p⟩ := w k
  refine ⟨O, ρ, R, p.bind.imp fun dx _ q x H1 s1 k1 ax => ?_⟩
  unfold negD at q
  split at q
  · cases ax
    exact ⟨_, rfl, fun _ => q _ H1 s1 k1 rfl⟩
  · exact q.elim
def blD : D → Rs Bool | .bool b => .ok b | _ => .stuck
@[simp] theorem blD_bool (b : Bool) : blD (.bool b) = .ok b := rfl
def notE (f : DE) : DE := fun ρ => do let x ← f ρ; let b ← blD x; pure (.bool !b)
theorem d_not (C : Ctx X G L bl) (ha : PE X a (tW G f)) : PE X (.UnaryOp .Not a pos) (tS G (notE f)) := by
  refine pe_imp (pe_not ha) fun σ H Q kf w => fun k => ?_
  obtain ⟨O, ρ, R, p⟩ := w k
  refine ⟨O, ρ, R, p.bind.imp fun dx _ q x H1 s1 k1 ax => ?_⟩
  cases dx with
  | bool b => cases ax; exact ⟨b, rfl, fun _ => q _ H1 s1 k1 rfl⟩
  | _ => exact q.elim
def andE (f g : DE) : DE := fun ρ => do let x ← f ρ; let b ← blD x; if b then g ρ else pure (.bool false)
def orE (f g : DE) : DE := fun ρ => do let x ← f ρ; let b ← blD x; if b then pure (.bool true) else g ρ
theorem d_and (C : Ctx X G L bl) {rest : List Expr} (ha : PE X a (tW G f)) (hb : PE X (.BoolOp .And (b :: rest) pos) (tS G g)) : PE X (.BoolOp .And (a :: b :: rest) pos) (tS G (andE f g)) := by
  refine pe_imp (pe_and ha hb) fun σ H Q kf w => fun k => ?_
  obtain ⟨O, ρ, R, p⟩ := w k
  refine ⟨O, ρ, R, p.bind.imp fun dx _ q x H1 s1 k1 ax => ?_⟩
  cases dx with
  | bool b =>
    cases ax
    refine ⟨b, rfl, ?_⟩
    cases b with
    | true => exact fun _ => ⟨O, ρ, R.same s1, Post.imp (H := H) (r := g ρ) q fun d _ q2 v H' s2 k2 a2 => fun _ => q2 v H' (s1.trans s2) k2 a2⟩
    | false => exact fun _ => q _ H1 s1 k1 rfl
  | _ => exact q.elim
theorem d_or (C : Ctx X G L bl) {rest : List Expr} (ha : PE X a (tW G f)) (hb : PE X (.BoolOp .Or (b :: rest) pos) (tS G g)) : PE X (.BoolOp .Or (a :: b :: rest) pos) (tS G (orE f g)) := by
  refine pe_imp (pe_or ha hb) fun σ H Q kf w => fun k => ?_
  obtain ⟨O, ρ, R, p⟩ := w k
  refine ⟨O, ρ, R, p.bind.imp fun dx _ q x H1 s1 k1 ax => ?_⟩
  cases dx with
  | bool b =>
    cases ax
    refine ⟨b, rfl, ?_⟩
    cases b with
    | false => exact fun _ => ⟨O, ρ, R.same s1, Post.imp (H := H) (r := g ρ) q fun d _ q2 v H' s2 k2 a2 => fun _ => q2 v H' (s1.trans s2) k2 a2⟩
    | true => exact fun _ => q _ H1 s1 k1 rfl
  | _ => exact q.elim
theorem d_one {op} (ha : PE X a (tS G f)) : PE X (.BoolOp op [a] pos) (tS G f) := pe_one ha
def tstE (f : DE) : Ro → Rs Bool := fun ρ => do let x ← f ρ; blD x
theorem t_val (ha : PE X a (tW G f)) (he : ∀ whole, isTrue a X.env whole = (do let v ← whole; standAt a.pos; holding [v] (truthy v))) : PT X a (tTst G (tstE f)) := by
  refine pt_imp (pt_val ha he) fun σ H Q _ w k => ?_
  obtain ⟨O, ρ, R, p⟩ := w k
  refine ⟨O, ρ, R, p.bind.imp fun d _ q v H' s k' a => ?_⟩
  cases d with
  | bool b =>
    cases a
    exact ⟨b, rfl, fun _ => q H' s k'⟩
  | _ => exact q.elim
theorem pt_cmpK {op : CmpOp} {r : R2} {ta tb : TE} (ho : OpR X (compareOp op) r) (ha : PE X a ta) (hb : PE X b tb) (hm : behindInMarks op b = false) :
    PT X (.Compare a [op] [b] pos) (fun σ H Q => tOp r ta tb σ H fun z H3 => KF X.K H3 → ∃ k, z = .bl k ∧ Q k H3) := by
  refine ⟨fun pins s σ H Q I h => ?_⟩
  refine wpAny_isTrue_Compare1 (thn (ha.run pins s σ H _ I h) fun v s1 ⟨x, H1, I1, r1, q1⟩ => thn (hb.run pins s1 σ H1 _ I1 q1) fun u s2 ⟨y, H2, I2, r2, q2⟩ =>
    thn (ho pins s2 σ H2 x y v u _ I2 r1 r2 q2) fun c s3 ⟨z, H3, I3, r3, q0⟩ => ?_) hm
  obtain ⟨k, e, q3⟩ := q0 (kf_inv I3)
  subst e
  cases r3
  exact wpAny_truthy_bool ⟨H3, I3, q3⟩
theorem t_cmp (C : Ctx X G L bl) {op : CmpOp} {r : R2} {F : D → D → Rs D} (ho : OpR X (compareOp op) r) (s : Says G r F) (hm : behindInMarks op b = false) (ha : PE X a (tW G f)) (hb : PE X b (tW G g)) : PT X (.Compare a [op] [b] pos) (tTst G (tstE fun ρ => do let x ← f ρ; let y ← g ρ; F x y)) := by
  refine pt_imp (pt_cmpK ho ha hb hm) fun σ H Q kf w => fun k0 => ?_
  obtain ⟨O, ρ, R, p⟩ := w k0
  refine ⟨O, ρ, R, p.bind.bind.imp fun dx _ q x H1 s1 k1 ax => fun _ => ?_⟩
  refine ⟨O, ρ, R.same s1, q.bind.imp fun dy _ q2 y H2 s2 k2 ay => ?_⟩
  have R2 := R.same (s1.trans s2)
  rw [C.K]
  exact s O H2 x y dx dy (fun v H' => ∃ k, v = .bl k ∧ (KF G.K H' → Q k H')) k2 R2.trk (ax.same s2) ay (Post.imp q2 fun d _ q3 v H' s3 k3 a3 => by
    cases d with
    | bool b => cases a3; exact ⟨b, rfl, fun _ => q3 H' (s1.trans (s2.trans s3)) k3⟩
    | _ => exact q3.elim)
def tChainK (K : W.Frag) (r r' : R2) (ta tb tc : TE) : TE := fun σ H Q => ta σ H fun x H1 => tb σ H1 fun y H2 => r x y H2 fun z H3 => KF K H3 → ∃ k, z = .bl k ∧
  (if k = true then tc σ H3 fun w' H4 => r' y w' H4 Q else Q (.bl false) H3)
theorem pe_chainK {op op' : CmpOp} {r r' : R2} {ta tb tc : TE} (ho : OpR X (compareOp op) r) (ho' : OpR X (compareOp op') r') (ha : PE X a ta) (hb : PE X b tb) (hc : PE X c tc)
    (hm : lastMarks [op, op'] [b, c] = false) : PE X (.Compare a [op, op'] [b, c] pos) (tChainK X.K r r' ta tb tc) := by
  refine ⟨fun pins s σ H Q I h => ?_⟩
  refine Compare_chain (thn (ha.run pins s σ H _ I h) fun v s1 ⟨x, H1, I1, r1, q1⟩ => chain_link (thn (hb.run pins s1 σ H1 _ I1 q1) fun u s2 ⟨y, H2, I2, r2, q2⟩ =>
    thn (ho pins s2 σ H2 x y v u _ I2 r1 r2 q2) fun d s3 ⟨z, H3, I3, r3, q0⟩ => ?_)) hm
  obtain ⟨k, e, q3⟩ := q0 (kf_inv I3)
  subst e
  cases r3
  refine wpAny_truthy_bool ?_
  cases k with
  | false => exact ite_ff ⟨.bl false, H3, I3, rfl, q3⟩
  | true => exact ite_tt (chain_last (thn (hc.run pins s3 σ H3 _ I3 q3) fun w' s4 ⟨z', H4, I4, r4, q4⟩ => ho' pins s4 σ H4 y z' u w' Q I4 r2 r4 q4))
theorem pt_chainK {op op' : CmpOp} {r r' : R2} {ta tb tc : TE} (ho : OpR X (compareOp op) r) (ho' : OpR X (compareOp op') r') (ha : PE X a ta) (hb : PE X b tb) (hc : PE X c tc)
    (hm : lastMarks [op, op'] [b, c] = false) : PT X (.Compare a [op, op'] [b, c] pos) (fun σ H Q => tChainK X.K r r' ta tb tc σ H fun z H3 => KF X.K H3 → ∃ k, z = .bl k ∧ Q k H3) := by
  refine ⟨fun pins s σ H Q I h => ?_⟩
  refine isTrue_chain (thn (ha.run pins s σ H _ I h) fun v s1 ⟨x, H1, I1, r1, q1⟩ => test_link (thn (hb.run pins s1 σ H1 _ I1 q1) fun u s2 ⟨y, H2, I2, r2, q2⟩ =>
    thn (ho pins s2 σ H2 x y v u _ I2 r1 r2 q2) fun d s3 ⟨z, H3, I3, r3, q0⟩ => ?_)) hm
  obtain ⟨k, e, q3⟩ := q0 (kf_inv I3)
  subst e
  cases r3
  refine wpAny_truthy_bool ?_
  cases k with
  | false =>
    rw [if_neg Bool.false_ne_true] at q3
    obtain ⟨k', e', q'⟩ := q3 (kf_inv I3)
    cases e'
    exact ite_ff ⟨H3, I3, q'⟩
  | true =>
    refine ite_tt (test_last (thn (hc.run pins s3 σ H3 _ I3 q3) fun w' s4 ⟨z', H4, I4, r4, q4⟩ => thn (ho' pins s4 σ H4 y z' u w' _ I4 r2 r4 q4) fun d' s5 ⟨z2, H5, I5, r5, q50⟩ => ?_))
    obtain ⟨k2, e2, q5⟩ := q50 (kf_inv I5)
    subst e2
    cases r5
    exact wpAny_truthy_bool ⟨H5, I5, q5⟩
def chnE (F F' : D → D → Rs D) (f g h : DE) : DE := fun ρ => do
  let x ← f ρ
  let y ← g ρ
  let r ← F x y
  let t ← blD r
  if t then (do let z ← h ρ; F' y z) else pure (.bool false)
theorem chain_core (C : Ctx X G L bl) {r r' : R2} {F F' : D → D → Rs D} (s : Says G r F) (s' : Says G r' F') {σ : L2.St} {H : Hp} {Q : VK} (w : tS G (chnE F F' f g h) σ H Q) : tChainK X.K r r' (tW G f) (tW G g) (tW G h) σ H fun v H' => KF X.K H' → Q v H' := fun k0 => by
  obtain ⟨O, ρ, R, p⟩ := w k0
  refine ⟨O, ρ, R, p.bind.imp fun dx _ q x H1 s1 k1 ax => fun _ => ?_⟩
  refine ⟨O, ρ, R.same s1, q.bind.imp fun dy _ q2 y H2 s2 k2 ay => ?_⟩
  have R2 := R.same (s1.trans s2)
  rw [C.K]
  refine s O H2 x y dx dy _ k2 R2.trk (ax.same s2) ay (q2.bind.imp fun d _ q3 v H' s3 k3 a3 => ?_)
  cases d with
  | bool b =>
    cases a3
    refine ⟨b, rfl, ?_⟩
    cases b with
    | false => exact fun _ => q3 _ H' (s1.trans (s2.trans s3)) k3 rfl
    | true =>
      refine fun _ => ⟨O, ρ, R2.same s3, (show Post G H (h ρ >>= fun z => F' dy z) _ from q3).bind.imp fun dz _ q4 z H4 s4 k4 az => ?_⟩
      exact s' O H4 y z dy dz Q k4 (R2.same (s3.trans s4)).trk (ay.same (s3.trans s4)) az (Post.imp q4 fun d _ q5 v H5 s5 k5 a5 => q5 v H5 (s1.trans (s2.trans (s3.trans (s4.trans s5)))) k5 a5)
  | _ => exact q3.elim
theorem d_chain (C : Ctx X G L bl) {op op' : CmpOp} {r r' : R2} {F F' : D → D → Rs D} (ho : OpR X (compareOp op) r) (ho' : OpR X (compareOp op') r') (s : Says G r F) (s' : Says G r' F') (hm : lastMarks [op, op'] [b, c] = false)
    (ha : PE X a (tW G f)) (hb : PE X b (tW G g)) (hc : PE X c (tW G h)) : PE X (.Compare a [op, op'] [b, c] pos) (tS G (chnE F F' f g h)) :=
  pe_imp (pe_chainK ho ho' ha hb hc hm) fun σ H Q kf w => chain_core C s s' w
theorem t_chain (C : Ctx X G L bl) {op op' : CmpOp} {r r' : R2} {F F' : D → D → Rs D} (ho : OpR X (compareOp op) r) (ho' : OpR X (compareOp op') r') (s : Says G r F) (s' : Says G r' F') (hm : lastMarks [op, op'] [b, c] = false)
    (ha : PE X a (tW G f)) (hb : PE X b (tW G g)) (hc : PE X c (tW G h)) : PT X (.Compare a [op, op'] [b, c] pos) (tTst G (tstE (chnE F F' f g h))) := by
  refine pt_imp (pt_chainK ho ho' ha hb hc hm) fun σ H Q kf w => ?_
  have w' : tS G (chnE F F' f g h) σ H fun z H3 => ∃ k, z = .bl k ∧ (KF X.K H3 → Q k H3) := fun k => by
    obtain ⟨O, ρ, R, p⟩ := w k
    refine ⟨O, ρ, R, p.bind.imp fun d _ q v H' s1 k1 a1 => ?_⟩
    cases d with
    | bool b => cases a1; exact ⟨b, rfl, fun _ => q H' s1 k1⟩
    | _ => exact q.elim
  exact chain_core C s s' w'
theorem t_not (C : Ctx X G L bl) (ha : PT X a (tTst G (tstE f))) : PT X (.UnaryOp .Not a pos) (tTst G (tstE (notE f))) := by
  refine pt_imp (pt_not ha) fun σ H Q kf w => fun k => ?_
  obtain ⟨O, ρ, R, p⟩ := w k
  refine ⟨O, ρ, R, ?_⟩
  have p1 : Post G H (f ρ >>= fun x => blD x >>= fun b => Rs.ok (!b)) fun b => ∀ H', Same H H' → KF G.K H' → Q b H' := by
    have e : tstE (notE f) ρ = (f ρ >>= fun x => blD x >>= fun b => Rs.ok (!b)) := by
      unfold tstE notE
      cases f ρ with
      | ok x => cases x <;> rfl
      | exc c => rfl
      | stuck => rfl
    rw [← e]; exact p
  have p2 := p1
  unfold tstE
  cases hf : f ρ with
  | ok x =>
    rw [hf] at p2
    cases x with
    | bool b => exact fun H' s1 k1 => fun _ => p2 H' s1 k1
    | _ => exact p2.elim
  | exc c => rw [hf] at p2; exact p2
  | stuck => rw [hf] at p2; exact p2
theorem t_and1 {op} (ha : PT X a (tTst G (tstE f))) : PW X (.BoolOp op [a] pos) (tTst G (tstE f)) := by
  cases op with
  | And => exact pw_and1 ha
  | Or => exact pw_or1 ha
theorem t_and (C : Ctx X G L bl) {rest : List Expr} (ha : PT X a (tTst G (tstE f))) (hb : PW X (.BoolOp .And (b :: rest) pos) (tTst G (tstE g))) : PW X (.BoolOp .And (a :: b :: rest) pos) (tTst G (tstE (andE f g))) := by
  have hi := pw_and ha hb
  refine ⟨fun whole pins s σ H Q I w => hi.run whole pins s σ H Q I fun k => ?_⟩
  obtain ⟨O, ρ, R, p⟩ := w k
  refine ⟨O, ρ, R, ?_⟩
  unfold tstE andE at p
  unfold tstE
  cases hf : f ρ with
  | ok x =>
    rw [hf] at p
    cases x with
    | bool b =>
      cases b with
      | true => exact fun H' s1 k1 => (if_pos rfl).mpr fun _ => ⟨O, ρ, R.same s1, Post.imp (H := H) (r := (g ρ >>= fun x => blD x)) p fun b' _ q H2 s2 k2 => q H2 (s1.trans s2) k2⟩
      | false => exact fun H' s1 k1 => (if_neg Bool.false_ne_true).mpr (p H' s1 k1)
    | _ => exact p.elim
  | exc c => rw [hf] at p; exact p
  | stuck => rw [hf] at p; exact p
theorem t_or (C : Ctx X G L bl) {rest : List Expr} (ha : PT X a (tTst G (tstE f))) (hb : PW X (.BoolOp .Or (b :: rest) pos) (tTst G (tstE g))) : PW X (.BoolOp .Or (a :: b :: rest) pos) (tTst G (tstE (orE f g))) := by
  have hi := pw_or ha hb
  refine ⟨fun whole pins s σ H Q I w => hi.run whole pins s σ H Q I fun k => ?_⟩
  obtain ⟨O, ρ, R, p⟩ := w k
  refine ⟨O, ρ, R, ?_⟩
  unfold tstE orE at p
  unfold tstE
  cases hf : f ρ with
  | ok x =>
    rw [hf] at p
    cases x with
    | bool b =>
      cases b with
      | false => exact fun H' s1 k1 => (if_neg Bool.false_ne_true).mpr fun _ => ⟨O, ρ, R.same s1, Post.imp (H := H) (r := (g ρ >>= fun x => blD x)) p fun b' _ q H2 s2 k2 => q H2 (s1.trans s2) k2⟩
      | true => exact fun H' s1 k1 => (if_pos rfl).mpr (p H' s1 k1)
    | _ => exact p.elim
  | exc c => rw [hf] at p; exact p
  | stuck => rw [hf] at p; exact p
def iteE (t f g : DE) : DE := fun ρ => do let x ← t ρ; let b ← blD x; if b then f ρ else g ρ
theorem d_ite (C : Ctx X G L bl) {t : DE} (hc : PT X c (tTst G (tstE t))) (ha : PE X a (tS G f)) (hb : PE X b (tS G g)) : PE X (.IfExp c a b pos) (tS G (iteE t f g)) := by
  refine pe_imp (pe_ifExp hc ha hb) fun σ H Q kf w => fun k => ?_
  obtain ⟨O, ρ, R, p⟩ := w k
  refine ⟨O, ρ, R, ?_⟩
  unfold iteE at p
  unfold tstE
  cases hf : t ρ with
  | ok x =>
    rw [hf] at p
    cases x with
    | bool b =>
      cases b with
      | true => exact fun H' s1 k1 => (if_pos rfl).mpr fun _ => ⟨O, ρ, R.same s1, Post.imp (H := H) (r := f ρ) p fun d _ q v H2 s2 k2 a2 => fun _ => q v H2 (s1.trans s2) k2 a2⟩
      | false => exact fun H' s1 k1 => (if_neg Bool.false_ne_true).mpr fun _ => ⟨O, ρ, R.same s1, Post.imp (H := H) (r := g ρ) p fun d _ q v H2 s2 k2 a2 => fun _ => q v H2 (s1.trans s2) k2 a2⟩
    | _ => exact p.elim
  | exc c => rw [hf] at p; exact p
  | stuck => rw [hf] at p; exact p
end
end Den
namespace Den
open PySem PySem.Spec PyProof.Rows L2
section
variable {G : Gc} {O : Addr → Prop} {σ : L2.St} {H : Hp} {ρ : Ro}
theorem set_at {α : Type} {l : List α} {i j : Nat} {x y : α} (h : (l.set i x)[j]? = some y) : (i = j ∧ x = y ∧ i < l.length) ∨ (i ≠ j ∧ l[j]? = some y) := by
  by_cases e : i = j
  · subst e
    by_cases hl : i < l.length
    · rw [List.getElem?_set_self hl] at h
      exact .inl ⟨rfl, Option.some.inj h, hl⟩
    · rw [List.getElem?_eq_none (by simpa using hl)] at h; cases h
  · rw [List.getElem?_set_ne e] at h
    exact .inr ⟨e, h⟩
theorem Rep.set {i : Nat} {d : D} {v : V} (R : Rep G O σ H ρ) (a : At G.K H O d v) (hw : G.own i = false) : Rep G O (σ.set i (some v)) H (ρ.set i (some d)) := by
  refine ⟨R.base, R.sub, R.trk, R.fre, by rw [List.length_set, List.length_set]; exact R.len, fun j e hj nj => ?_, fun j e hj nj => ?_, fun j k e e' b hjk nj nk hj hk h1 h2 => ?_, ⟨fun j b e => ?_, fun j b e => ?_⟩⟩
  · rcases set_at hj with ⟨rfl, e1, hl⟩ | ⟨ne, hj'⟩
    · cases e1
      exact ⟨v, List.getElem?_set_self (by rw [← R.len]; exact hl), a⟩
    · obtain ⟨u, e1, h1⟩ := R.slot j e hj' nj
      exact ⟨u, by rw [List.getElem?_set_ne ne]; exact e1, h1⟩
  · have ne : i ≠ j := fun z => by subst z; rw [hw] at nj; cases nj
    rw [List.getElem?_set_ne ne] at hj
    obtain ⟨b, e1, r⟩ := R.owns j e hj nj
    exact ⟨b, by rw [List.getElem?_set_ne ne]; exact e1, r⟩
  · have n1 : i ≠ j := fun z => by subst z; rw [hw] at nj; cases nj
    have n2 : i ≠ k := fun z => by subst z; rw [hw] at nk; cases nk
    rw [List.getElem?_set_ne n1] at hj h1
    rw [List.getElem?_set_ne n2] at hk h2
    exact R.dist j k e e' b hjk nj nk hj hk h1 h2
  · obtain ⟨q1, q2, q3⟩ := R.dpa.1 j b e
    have ne : i ≠ j := fun z => by subst z; rw [hw] at q1; cases q1
    refine ⟨q1, q2, fun d hd => ?_⟩
    rw [List.getElem?_set_ne ne] at hd ⊢
    exact q3 d hd
  · obtain ⟨q1, q2⟩ := R.dpa.2 j b e
    have ne : i ≠ j := fun z => by subst z; rw [hw] at q1; cases q1
    exact ⟨q1, by rw [List.getElem?_set_ne ne]; exact q2⟩
theorem Rep.drop {i : Nat} (R : Rep G O σ H ρ) (hw : (G.own i && G.dct i) = false) : Rep G O (σ.set i none) H (ρ.set i none) := by
  refine ⟨R.base, R.sub, R.trk, R.fre, by rw [List.length_set, List.length_set]; exact R.len, fun j e hj nj => ?_, fun j e hj nj => ?_, fun j k e e' b hjk nj nk hj hk h1 h2 => ?_, ⟨fun j b e => ?_, fun j b e => ?_⟩⟩
  · rcases set_at hj with ⟨rfl, e1, hl⟩ | ⟨ne, hj'⟩
    · cases e1
    · obtain ⟨u, e1, h1⟩ := R.slot j e hj' nj
      exact ⟨u, by rw [List.getElem?_set_ne ne]; exact e1, h1⟩
  · rcases set_at hj with ⟨rfl, e1, hl⟩ | ⟨ne, hj'⟩
    · cases e1
    · obtain ⟨b, e1, r⟩ := R.owns j e hj' nj
      exact ⟨b, by rw [List.getElem?_set_ne ne]; exact e1, r⟩
  · rcases set_at hj with ⟨_, e1, _⟩ | ⟨n1, hj'⟩
    · cases e1
    rcases set_at hk with ⟨_, e1, _⟩ | ⟨n2, hk'⟩
    · cases e1
    rw [List.getElem?_set_ne n1] at h1
    rw [List.getElem?_set_ne n2] at h2
    exact R.dist j k e e' b hjk nj nk hj' hk' h1 h2
  · obtain ⟨q1, q2, q3⟩ := R.dpa.1 j b e
    refine ⟨q1, q2, fun d hd => ?_⟩
    rcases set_at hd with ⟨_, e1, _⟩ | ⟨n1, hd'⟩
    · cases e1
    rw [List.getElem?_set_ne n1]
    exact q3 d hd'
  · obtain ⟨q1, q2⟩ := R.dpa.2 j b e
    have ne : i ≠ j := fun z => by subst z; rw [hw] at q1; cases q1
    exact ⟨q1, by rw [List.getElem?_set_ne ne]; exact q2⟩
theorem Rep.forget {i : Nat} (R : Rep G O σ H ρ) : Rep G O σ H (ρ.set i none) := by
  refine ⟨R.base, R.sub, R.trk, R.fre, by rw [List.length_set]; exact R.len, fun j e hj nj => ?_, fun j e hj nj => ?_, fun j k e e' b hjk nj nk hj hk h1 h2 => ?_, ⟨fun j b e => ?_, fun j b e => ?_⟩⟩
  · rcases set_at hj with ⟨rfl, e1, hl⟩ | ⟨ne, hj'⟩
    · cases e1
    · exact R.slot j e hj' nj
  · rcases set_at hj with ⟨rfl, e1, hl⟩ | ⟨ne, hj'⟩
    · cases e1
    · exact R.owns j e hj' nj
  · rcases set_at hj with ⟨_, e1, _⟩ | ⟨n1, hj'⟩
    · cases e1
    rcases set_at hk with ⟨_, e1, _⟩ | ⟨n2, hk'⟩
    · cases e1
    exact R.dist j k e e' b hjk nj nk hj' hk' h1 h2
  · obtain ⟨q1, q2, q3⟩ := R.dpa.1 j b e
    refine ⟨q1, q2, fun d hd => ?_⟩
    rcases set_at hd with ⟨_, e1, _⟩ | ⟨n1, hd'⟩
    · cases e1
    exact q3 d hd'
  · exact R.dpa.2 j b e
def wipeR (ρ : Ro) : List Nat → Ro
  | [] => ρ
  | v :: vs => (wipeR ρ vs).set v none
def Gc.ndv (G : Gc) (vs : List Nat) : Prop := ∀ i ∈ vs, (G.own i && G.dct i) = false
theorem Rep.wipe (R : Rep G O σ H ρ) : ∀ vs : List Nat, G.ndv vs → Rep G O (L2.wipe σ vs) H (wipeR ρ vs)
  | [], _ => R
  | v :: vs, h => (R.wipe vs fun i hi => h i (List.mem_cons_of_mem _ hi)).drop (h v List.mem_cons_self)
theorem wipe_get {σ : L2.St} : ∀ {vs : List Nat} {j : Nat}, (L2.wipe σ vs)[j]? = if j ∈ vs then (if j < σ.length then some none else none) else σ[j]?
  | [], j => by simp [L2.wipe]
  | v :: vs, j => by
    unfold L2.wipe
    by_cases e : v = j
    · subst e
      rw [if_pos List.mem_cons_self]
      by_cases hl : v < σ.length
      · rw [if_pos hl, List.getElem?_set_self (by rw [wipe_length]; exact hl)]
      · rw [if_neg hl, List.getElem?_eq_none (by rw [List.length_set, wipe_length]; omega)]
    · rw [List.getElem?_set_ne e, wipe_get (vs := vs) (j := j)]
      by_cases h : j ∈ vs
      · rw [if_pos h, if_pos (List.mem_cons_of_mem _ h)]
      · rw [if_neg h, if_neg (fun z => (List.mem_cons.mp z).elim (fun q => e q.symm) h)]
theorem wipe_eq {σ σ' : L2.St} {vs : List Nat} (hl : σ'.length = σ.length) (h : ∀ j, j ∉ vs → σ'[j]? = σ[j]?) : L2.wipe σ' vs = L2.wipe σ vs := by
  apply List.ext_getElem?
  intro j
  rw [wipe_get, wipe_get, hl]
  by_cases hj : j ∈ vs
  · rw [if_pos hj, if_pos hj]
  · rw [if_neg hj, if_neg hj]; exact h j hj
end
theorem wipe_wipe {σ : L2.St} {vs : List Nat} : L2.wipe (L2.wipe σ vs) vs = L2.wipe σ vs := wipe_eq (wipe_length _ _) fun j hj => by rw [wipe_get, if_neg hj]
abbrev Gc.noE (G : Gc) : Gc := { G with E := fun _ _ _ => False }
theorem Rep.noE {G : Gc} {O : Addr → Prop} {σ : L2.St} {H : Hp} {ρ : Ro} (R : Rep G O σ H ρ) : Rep G.noE O σ H ρ := ⟨R.base, R.sub, R.trk, R.fre, R.len, R.slot, R.owns, R.dist, R.dpa⟩
abbrev STg := D → Ro → Rs Ro
def AtB (b : Bool) (K : W.Frag) (H : Hp) (O : Addr → Prop) (d : D) (v : V) : Prop := if b = true then At K H O d v else match d with
  | .tuple ds => ∃ a vs, v = .ref a ∧ SqT K H a vs ∧ AtL K H O ds vs
  | d => At K H O d v
theorem At.b {K : W.Frag} {H : Hp} {O : Addr → Prop} {d : D} {v : V} (h : At K H O d v) : ∀ b, AtB b K H O d v
  | true => h
  | false => by
    cases d with
    | tuple ds => obtain ⟨a, vs, rfl, h1, _, h3⟩ := h; exact ⟨a, vs, rfl, h1.q, h3⟩
    | _ => exact h
def tTg (G : Gc) (b : Bool) (vs : List Nat) (st : STg) : TG := fun v σ H Q => KF G.K H → ∃ O ρ d ρ', Rep G O σ H ρ ∧ AtB b G.K H O d v ∧ st d ρ = .ok ρ' ∧ ∀ σ', Rep G O σ' H ρ' → L2.wipe σ' vs = L2.wipe σ vs → Q σ' H
theorem pg_imp {X : Cx} {tg : Expr} {t t' : TG} (h : PG X tg t) (hi : ∀ v σ H Q, KF X.K H → t' v σ H Q → t v σ H Q) : PG X tg t' := ⟨fun pins s σ H v u Q I r w => h.run pins s σ H v u Q I r (hi v σ H Q (kf_inv I) w)⟩
def setN (i : Nat) : STg := fun d ρ => .ok (ρ.set i (some d))
def setAll : List Nat → List D → Ro → Rs Ro
  | [], [], ρ => .ok ρ
  | i :: is, d :: ds, ρ => setAll is ds (ρ.set i (some d))
  | _, _, _ => .stuck
def setT (is : List Nat) : STg := fun d ρ => match d with
  | .tuple ds => setAll is ds ρ
  | _ => .stuck
section
variable {X : Cx} {G : Gc} {pos : Pos}
theorem g_name {vs : List Nat} {i : Nat} {x : Str} (hK : X.K = G.K) (hN : X.N.Nodup) (hi : X.N[i]? = some x) (hx : Loc X.env.scope x) (hf : X.fn x = true ∨ X.env.scope.names.lookup x = some .local) (hw : G.own i = false) (hv : i ∈ vs) : PG X (.Name x pos) (tTg G true vs (setN i)) := by
  refine pg_imp (pg_name hN hi hx hf) fun v σ H Q kf w => ?_
  obtain ⟨O, ρ, d, ρ', R, a, e, q⟩ := w (hK ▸ kf)
  cases e
  refine q _ (R.set a hw) (wipe_eq (by simp) fun j hj => ?_)
  rw [List.getElem?_set_ne (by rintro rfl; exact hj hv)]
def tTgs (G : Gc) (vs : List Nat) (is : List Nat) : TGs := fun us σ H Q => KF G.K H → ∃ O ρ ds ρ', Rep G O σ H ρ ∧ AtL G.K H O ds us ∧ setAll is ds ρ = .ok ρ' ∧ ∀ σ', Rep G O σ' H ρ' → L2.wipe σ' vs = L2.wipe σ vs → Q σ' H
theorem gs_nil {vs : List Nat} (hK : X.K = G.K) : PGs X [] (tTgs G vs []) := ⟨fun pins s σ H us uv Q I r w => by
  obtain ⟨O, ρ, ds, ρ', R, a, e, q⟩ := w (hK ▸ kf_inv I)
  cases ds with
  | nil =>
    cases a
    cases e
    exact (pgs_nil (X := X)).run pins s σ H [] uv Q I r ⟨rfl, q σ R rfl⟩
  | cons _ _ => cases e⟩
theorem gs_cons {vs : List Nat} {i : Nat} {is : List Nat} {x : Str} {p : Pos} {es : List Expr} (hK : X.K = G.K) (hN : X.N.Nodup) (hi : X.N[i]? = some x) (hx : Loc X.env.scope x) (hf : X.fn x = true ∨ X.env.scope.names.lookup x = some .local) (hw : G.own i = false) (hv : i ∈ vs)
    (h : PGs X es (tTgs G vs is)) : PGs X (.Name x p :: es) (tTgs G vs (i :: is)) := ⟨fun pins s σ H us uv Q I r w => by
  have k := hK ▸ kf_inv I
  obtain ⟨O, ρ, ds, ρ', R, a, e, q⟩ := w k
  cases ds with
  | nil => cases e
  | cons d ds =>
    obtain ⟨v, ur, rfl, a1, a2⟩ := a
    refine (pgs_cons (pg_name (pos := p) hN hi hx hf) h rfl).run pins s σ H (v :: ur) uv Q I r ⟨v, ur, rfl, fun _ => ?_⟩
    refine ⟨O, _, ds, ρ', R.set a1 hw, a2, e, fun σ' R' hw' => q σ' R' (hw'.trans (wipe_eq (by simp) fun j hj => ?_))⟩
    rw [List.getElem?_set_ne (by rintro rfl; exact hj hv)]⟩
theorem setAll_len : ∀ (is : List Nat) (ds : List D) (ρ ρ' : Ro), setAll is ds ρ = .ok ρ' → ds.length = is.length := by
  intro is
  induction is with
  | nil => intro ds ρ ρ' h; cases ds with
    | nil => rfl
    | cons _ _ => cases h
  | cons i is ih => intro ds ρ ρ' h; cases ds with
    | nil => cases h
    | cons d ds => rw [List.length_cons, List.length_cons, ih ds _ ρ' h]
theorem g_tup {b : Bool} {vs : List Nat} {is : List Nat} {es : List Expr} {k : Nat} (hK : X.K = G.K) (hc : X.calm = true) (h : PGs X es (tTgs G vs is)) (hn : (assignEach es X.env).length = is.length) (hst : (assignEach es X.env).findIdx? (·.1) = none) : PG X (.Tuple es k pos) (tTg G b vs (setT is)) := by
  refine pg_imp (pg_tup (n := is.length) hc h hn hst) fun v σ H Q kf w => ?_
  obtain ⟨O, ρ, d, ρ', R, a, e, q⟩ := w (hK ▸ kf)
  cases d with
  | tuple ds =>
    have a' : ∃ p us, v = .ref p ∧ SqT G.K H p us ∧ AtL G.K H O ds us := by
      cases b with
      | true => obtain ⟨p, us, e, h1, _, h3⟩ := a; exact ⟨p, us, e, h1.q, h3⟩
      | false => exact a
    obtain ⟨p, us, rfl, h1, h2⟩ := a'
    rw [hK]
    exact ⟨p, us, rfl, h1, by rw [h2.length]; exact setAll_len _ _ _ _ e, fun _ => ⟨O, ρ, ds, ρ', R, h2, e, q⟩⟩
  | _ => cases e
end
structure Walk (K : W.Frag) (b : Bool) (M O : Addr → Prop) (J : It) (H0 : Hp) (ds : List D) : Prop where
  len : ds.length ≤ sizeLine
  go : ∀ i d H, ds[i]? = some d → Kp M H0 H → J.go i H ∧ ∀ x H', J.yld i H x H' → Same H H' ∧ ∀ O', (∀ a, O' a → O a ∨ (H0 a = none ∧ K.lookup a = none)) → Trk O' H → AtB b K H' O' d x
  stop : ∀ H, Kp M H0 H → J.stop ds.length H
mutual
theorem At.move {K : W.Frag} {M O O' : Addr → Prop} {H H' : Hp} (hm : ∀ a, M a → O a) (k : Kp M H H') (g : ∀ a, O' a → O a ∨ (H a = none ∧ K.lookup a = none)) : ∀ {d : D} {v : V}, At K H O d v → At K H' O' d v
  | .none, _, h => h
  | .bool _, _, h => h
  | .int _, _, h => h
  | .str _, _, h => h
  | .list _, _, h => by
    obtain ⟨a, vs, e, h1, h2, h3⟩ := h
    exact ⟨a, vs, e, sqL_kp k (fun z => h2 (hm a z)) h1, fun z => (g a z).elim h2 fun q => sqL_there q.1 q.2 h1 rfl, AtL.move hm k g h3⟩
  | .tuple _, _, h => by
    obtain ⟨a, vs, e, h1, h2, h3⟩ := h
    exact ⟨a, vs, e, sqN_kp k (fun z => h2 (hm a z)) h1, fun z => (g a z).elim h2 fun q => sqT_there q.1 q.2 h1.q rfl, AtL.move hm k g h3⟩
  | .dict _, _, h => h.elim
theorem AtL.move {K : W.Frag} {M O O' : Addr → Prop} {H H' : Hp} (hm : ∀ a, M a → O a) (k : Kp M H H') (g : ∀ a, O' a → O a ∨ (H a = none ∧ K.lookup a = none)) : ∀ {ds : List D} {vs : List V}, AtL K H O ds vs → AtL K H' O' ds vs
  | [], _, h => h
  | _ :: _, _, h => by
    obtain ⟨v, r, e, h1, h2⟩ := h
    exact ⟨v, r, e, At.move hm k g h1, AtL.move hm k g h2⟩
end
theorem walk_list {K : W.Frag} {M O : Addr → Prop} {H : Hp} {a : Addr} {ds : List D} {vs : List V} (hm : ∀ a, M a → O a) (hz : vs.length ≤ sizeLine) (h1 : SqL K H a vs) (n : ¬ M a) (h2 : AtL K H O ds vs) : Walk K true M O (Itl K a) H ds where
  len := by rw [← h2.length]; exact hz
  go := fun i d H' e k => by
    obtain ⟨v, e1, a1⟩ := h2.get e
    have q := sqL_kp k n h1
    refine ⟨⟨vs, v, q, e1⟩, fun x H'' y => ?_⟩
    obtain ⟨rfl, y2⟩ := y
    have := y2 vs q
    rw [e1] at this; cases this
    exact ⟨Same.refl _, fun O' g t => a1.move hm k g⟩
  stop := fun H' k => ⟨vs, sqL_kp k n h1, by rw [h2.length]; exact Nat.le_refl _⟩
theorem walk_tup {K : W.Frag} {M O : Addr → Prop} {H : Hp} {a : Addr} {ds : List D} {vs : List V} (hm : ∀ a, M a → O a) (hz : vs.length ≤ sizeLine) (h1 : SqT K H a vs) (n : ¬ M a) (h2 : AtL K H O ds vs) : Walk K true M O (Itt K a) H ds where
  len := by rw [← h2.length]; exact hz
  go := fun i d H' e k => by
    obtain ⟨v, e1, a1⟩ := h2.get e
    have q := sqT_kp k n h1
    refine ⟨⟨vs, v, q, e1⟩, fun x H'' y => ?_⟩
    obtain ⟨rfl, y2⟩ := y
    have := y2 vs q
    rw [e1] at this; cases this
    exact ⟨Same.refl _, fun O' g t => a1.move hm k g⟩
  stop := fun H' k => ⟨vs, sqT_kp k n h1, by rw [h2.length]; exact Nat.le_refl _⟩
def rngD (lo : Int) (n : Nat) : List D := (List.range n).map fun i : Nat => PyData.int (lo + (i : Int))
theorem rngD_length (lo : Int) (n : Nat) : (rngD lo n).length = n := by unfold rngD; simp
theorem walk_rng {K : W.Frag} {M O : Addr → Prop} {H : Hp} {lo : Int} {n : Nat} (hz : n ≤ sizeLine) : Walk K true M O (Itr lo n) H (rngD lo n) where
  len := by rw [rngD_length]; exact hz
  go := fun i d H' e k => by
    unfold rngD at e
    rw [List.getElem?_map] at e
    by_cases hi : i < n
    · rw [List.getElem?_range hi] at e
      cases e
      refine ⟨hi, fun x H'' y => ?_⟩
      obtain ⟨rfl, rfl⟩ := y
      exact ⟨Same.refl _, fun _ _ _ => rfl⟩
    · rw [List.getElem?_eq_none (by simpa using hi)] at e; cases e
  stop := fun H' k => by rw [rngD_length]; exact Nat.le_refl n
abbrev mk (wk : Bool) (O : Addr → Prop) : Addr → Prop := if wk = true then fun _ => False else O
theorem mk_le {wk : Bool} {O : Addr → Prop} : ∀ a, mk wk O a → O a := by
  cases wk with
  | true => exact fun _ h => h.elim
  | false => exact fun _ h => h
abbrev DI := Ro → Rs (List D)
def tIt (G : Gc) (wk b : Bool) (f : DI) : TI := fun σ H R => KF G.K H → ∃ O ρ, Rep G O σ H ρ ∧ Post G H (f ρ) fun ds => ∀ J H', Same H H' → KF G.K H' → Walk G.K b (mk wk O) O J H' ds → R J H'
section
variable {X : Cx} {G : Gc} {L : Nat} {bl : List Str} {tg e a b : Expr} {f g : DE} {pos : Pos}
theorem pi_imp {iter : Expr} {t t' : TI} (h : PI X tg iter t) (hi : ∀ σ H R, KF X.K H → t' σ H R → t σ H fun J H' => KF X.K H' → R J H') : PI X tg iter t' :=
  ⟨fun pins s σ H R I w => thn (h.run pins s σ H _ I (hi σ H R (kf_inv I) w)) fun v s1 h1 => thn h1 fun itv s2 h2 => by
    obtain ⟨it, fp, tn, J, H', e, I2, T, st, ff, q⟩ := h2
    exact ⟨it, fp, tn, J, H', e, I2, T, st, ff, q (kf_inv I2)⟩⟩
theorem pi_or {iter : Expr} {t t' : TI} (h : PI X tg iter t) (h' : PI X tg iter t') : PI X tg iter (fun σ H R => t σ H R ∨ t' σ H R) :=
  ⟨fun pins s σ H R I w => w.elim (h.run pins s σ H R I) (h'.run pins s σ H R I)⟩
theorem pi_listB {l : Expr} {tl : TE} (hl : PE X l tl) : PI X tg l (fun σ H R => tl σ H fun x H1 => ∃ a xs, x = .ref a ∧ SqL X.K H1 a xs ∧ (xs.length ≤ sizeLine → R (Itl X.K a) H1)) := by
  refine ⟨fun pins s σ H R I h => ?_⟩
  refine thn (hl.run pins s σ H _ I h) fun v s1 ⟨x, H1, I1, r1, q1⟩ => ?_
  obtain ⟨a, xs, e, hq, q⟩ := q1
  subst e
  cases r1
  obtain ⟨its, rv, p, hz⟩ := I1.list hq
  refine wpAny_pyIter_list p.isList ?_
  refine ⟨s1.heap.objs.size, [s1.heap.objs.size], _, _, H1, rfl, I1.kept (t' := s1.toks) fun b o e => Heap.get?_push_of_some _ e, turn_list a _, ⟨_, Heap.get?_push_size _ rfl, rfl, rfl⟩, fun b hb => ?_, q hz⟩
  have e : b = s1.heap.objs.size := by simpa using hb
  subst e
  exact I1.fpOk (Nat.le_refl _) (I1.hok.fresh (Nat.le_refl _))
theorem pi_tupB {l : Expr} {tl : TE} (hl : PE X l tl) : PI X tg l (fun σ H R => tl σ H fun x H1 => ∃ a xs, x = .ref a ∧ SqT X.K H1 a xs ∧ (xs.length ≤ sizeLine → R (Itt X.K a) H1)) := by
  refine ⟨fun pins s σ H R I h => ?_⟩
  refine thn (hl.run pins s σ H _ I h) fun v s1 ⟨x, H1, I1, r1, q1⟩ => ?_
  obtain ⟨a, xs, e, hq, q⟩ := q1
  subst e
  cases r1
  obtain ⟨its, rv, p, hz⟩ := I1.tuple hq
  refine wpAny_pyIter_tuple (show s1.heap.IsTuple a its.toArray from p) ?_
  refine ⟨s1.heap.objs.size, [s1.heap.objs.size], _, _, H1, rfl, I1.kept (t' := s1.toks) fun b o e => Heap.get?_push_of_some _ e, turn_tuple a _, ⟨_, Heap.get?_push_size _ rfl, rfl, rfl⟩, fun b hb => ?_, q hz⟩
  have e : b = s1.heap.objs.size := by simpa using hb
  subst e
  exact I1.fpOk (Nat.le_refl _) (I1.hok.fresh (Nat.le_refl _))
def seqD : D → Rs (List D)
  | .list ds => .ok ds
  | .tuple ds => .ok ds
  | _ => .stuck
def seqE (f : DE) : DI := fun ρ => do let d ← f ρ; seqD d
theorem i_seqW (C : Ctx X G L bl) (ha : PE X a (tW G f)) : PI X tg a (tIt G true true (seqE f)) := by
  refine pi_imp (pi_or (pi_listB ha) (pi_tupB ha)) fun σ H R kf w => ?_
  have k0 := C.kf kf
  obtain ⟨O, ρ, R0, p⟩ := w k0
  have p' := p.bind
  cases hf : f ρ with
  | ok d =>
    rw [hf] at p'
    cases d with
    | list ds =>
      refine .inl fun k => ⟨O, ρ, R0, ?_⟩
      rw [hf]
      intro v H' s1 k1 a1
      obtain ⟨a, vs, rfl, h1, h2⟩ := a1
      rw [C.K]
      exact ⟨a, vs, rfl, h1, fun hz _ => p' _ _ s1 k1 (walk_list mk_le hz h1 (fun z => z) h2)⟩
    | tuple ds =>
      refine .inr fun k => ⟨O, ρ, R0, ?_⟩
      rw [hf]
      intro v H' s1 k1 a1
      obtain ⟨a, vs, rfl, h1, n1, h2⟩ := a1
      rw [C.K]
      exact ⟨a, vs, rfl, h1.q, fun hz _ => p' _ _ s1 k1 (walk_tup mk_le hz h1.q (fun z => z) h2)⟩
    | _ => exact p'.elim
  | exc c =>
    rw [hf] at p'
    exact .inl fun k => ⟨O, ρ, R0, by rw [hf]; exact p'⟩
  | stuck => rw [hf] at p'; exact p'.elim
theorem i_seqS (C : Ctx X G L bl) (ha : PE X a (tS G f)) : PI X tg a (tIt G false true (seqE f)) := by
  refine pi_imp (pi_or (pi_listB ha) (pi_tupB ha)) fun σ H R kf w => ?_
  have k0 := C.kf kf
  obtain ⟨O, ρ, R0, p⟩ := w k0
  have p' := p.bind
  cases hf : f ρ with
  | ok d =>
    rw [hf] at p'
    cases d with
    | list ds =>
      refine .inl fun k => ⟨O, ρ, R0, ?_⟩
      rw [hf]
      intro v H' s1 k1 a1
      obtain ⟨a, vs, rfl, h1, n1, h2⟩ := a1
      rw [C.K]
      exact ⟨a, vs, rfl, h1, fun hz _ => p' _ _ s1 k1 (walk_list mk_le hz h1 n1 h2)⟩
    | tuple ds =>
      refine .inr fun k => ⟨O, ρ, R0, ?_⟩
      rw [hf]
      intro v H' s1 k1 a1
      obtain ⟨a, vs, rfl, h1, n1, h2⟩ := a1
      rw [C.K]
      exact ⟨a, vs, rfl, h1.q, fun hz _ => p' _ _ s1 k1 (walk_tup mk_le hz h1.q n1 h2)⟩
    | _ => exact p'.elim
  | exc c =>
    rw [hf] at p'
    exact .inl fun k => ⟨O, ρ, R0, by rw [hf]; exact p'⟩
  | stuck => rw [hf] at p'; exact p'.elim
def rng1 (f : DE) : DI := fun ρ => do let d ← f ρ; let j ← intD d; if -(big : Int) ≤ j ∧ j ≤ big then .ok (rngD 0 j.toNat) else .stuck
def rng2 (f g : DE) : DI := fun ρ => do let d ← f ρ; let d' ← g ρ; let i ← intD d; let j ← intD d'; if (-(big : Int) ≤ i ∧ i ≤ big) ∧ (-(big : Int) ≤ j ∧ j ≤ big) then .ok (rngD i (j - i).toNat) else .stuck
theorem two_big {i j : Int} (hi : -(big : Int) ≤ i) (hj : j ≤ big) : (j - i).toNat ≤ sizeLine := by rw [sizeLine_eq]; unfold big at *; omega
theorem i_rng1 (C : Ctx X G L bl) {wk : Bool} {p : Pos} (hg : Gl X "range") (hm : X.mg "range" = none) (ha : PA X [a] (tArgW G (consArg f noArg))) (hs : starEach [a] X.env = [(false, eval a X.env)]) : PI X tg (.Call (.Name "range" p) [a] [] pos) (tIt G wk true (rng1 f)) := by
  refine pi_imp (pi_range1 hg hm ha hs) fun σ H R kf w => fun k => ?_
  obtain ⟨O, ρ, R0, q⟩ := w k
  refine ⟨O, ρ, R0, ?_⟩
  have q' := q.bind
  unfold consArg noArg
  cases hf : f ρ with
  | ok d =>
    rw [hf] at q'
    cases d with
    | int j =>
      have q2 : Post G H (if -(big : Int) ≤ j ∧ j ≤ big then Rs.ok (rngD 0 j.toNat) else Rs.stuck) _ := q'
      split at q2
      · rename_i hj
        intro vs H1 s1 k1 a1
        obtain ⟨v, r, rfl, a2, a3⟩ := a1
        cases a2; cases a3
        exact ⟨j, rfl, by unfold big at hj; omega, by unfold big at hj; omega, fun _ => q2 _ _ s1 k1 (walk_rng (by have := two_big (i := 0) (j := j) (by unfold big; omega) hj.2; simpa using this))⟩
      · exact q2.elim
    | _ => exact q'.elim
  | exc c => rw [hf] at q'; exact q'
  | stuck => rw [hf] at q'; exact q'.elim
theorem i_rng2 (C : Ctx X G L bl) {wk : Bool} {p : Pos} (hg : Gl X "range") (hm : X.mg "range" = none) (ha : PA X [a, b] (tArgW G (consArg f (consArg g noArg)))) (hs : starEach [a, b] X.env = [(false, eval a X.env), (false, eval b X.env)]) (hs2 : starEach [b] X.env = [(false, eval b X.env)]) : PI X tg (.Call (.Name "range" p) [a, b] [] pos) (tIt G wk true (rng2 f g)) := by
  refine pi_imp (pi_range2 hg hm ha hs hs2) fun σ H R kf w => fun k => ?_
  obtain ⟨O, ρ, R0, q⟩ := w k
  refine ⟨O, ρ, R0, ?_⟩
  have q' := q.bind
  unfold consArg noArg
  cases hf : f ρ with
  | ok d =>
    rw [hf] at q'
    have q3 := Post.bind (G := G) (H := H) (r := g ρ) q'
    cases hg' : g ρ with
    | ok d' =>
      rw [hg'] at q3
      have q4 : Post G H (intD d >>= fun i => intD d' >>= fun j => if (-(big : Int) ≤ i ∧ i ≤ big) ∧ (-(big : Int) ≤ j ∧ j ≤ big) then Rs.ok (rngD i (j - i).toNat) else Rs.stuck) _ := q3
      cases d with
      | int i =>
        cases d' with
        | int j =>
          have q2 : Post G H (if (-(big : Int) ≤ i ∧ i ≤ big) ∧ (-(big : Int) ≤ j ∧ j ≤ big) then Rs.ok (rngD i (j - i).toNat) else Rs.stuck) _ := q4
          split at q2
          · rename_i hj
            intro vs H1 s1 k1 a1
            obtain ⟨v, r, rfl, a2, v', r', rfl, a3, a4⟩ := a1
            cases a2; cases a3; cases a4
            exact ⟨i, j, rfl, ⟨by unfold big at hj; omega, by unfold big at hj; omega, by unfold big at hj; omega, by unfold big at hj; omega⟩, fun _ => q2 _ _ s1 k1 (walk_rng (two_big hj.1.1 hj.2.2))⟩
          · exact q2.elim
        | _ => exact q4.elim
      | _ => exact q4.elim
    | exc c => rw [hg'] at q3; exact q3
    | stuck => rw [hg'] at q3; exact q3.elim
  | exc c => rw [hf] at q'; exact q'
  | stuck => rw [hf] at q'; exact q'.elim
end
def compL (st : STg) (ft : Ro → Rs Bool) (fe : DE) (ρ : Ro) : List D → Rs (List D)
  | [] => .ok []
  | d :: ds => do
    let ρ1 ← st d ρ
    let b ← ft ρ1
    if b then (do let y ← fe ρ1; let r ← compL st ft fe ρ ds; pure (y :: r)) else compL st ft fe ρ ds
def compE (vs : List Nat) (fi : DI) (st : STg) (ft : Ro → Rs Bool) (fe : DE) : DE := fun ρ => do
  let ds ← fi ρ
  let r ← (compL st ft fe (wipeR ρ vs) ds).noexc
  pure (.list r)
theorem Rep.plus {G : Gc} {O : Addr → Prop} {σ : L2.St} {H : Hp} {ρ : Ro} {p : Addr} {o : HO} (R : Rep G O σ H ρ) (n : H p = none) (nk : G.K.lookup p = none) : Rep G (fun a => O a ∨ a = p) σ (upd H p o) ρ := by
  have s := same_upd (o := o) n
  have R' := R.same s
  refine ⟨R'.base, fun a h => .inl (R.sub a h), fun a h => ?_, fun a h hn => ?_, R.len, fun i d e nw => ?_, fun i d e nw => ?_, R.dist, R.dpa⟩
  · rcases h with h | h
    · exact R'.trk a h
    · exact ⟨o, by rw [h]; exact upd_same⟩
  · rcases h with h | h
    · exact R.fre a h hn
    · rw [h]; exact R.base.free n
  · obtain ⟨v, e1, h1⟩ := R.slot i d e nw
    exact ⟨v, e1, (h1.grow n nk).same s⟩
  · obtain ⟨a, e1, h1, h2, h3⟩ := R.owns i d e nw
    exact ⟨a, e1, (h1.grow n nk).same s, .inl h2, h3⟩
section
variable {X : Cx} {G : Gc} {L : Nat} {bl : List Str} {tg iter elt : Expr} {ifs : List Expr} {fi : DI} {st : STg} {ft : Ro → Rs Bool} {fe : DE} {pos : Pos} {scope : Scope} {own : List (Str × Nat)}
theorem comp_core (C : Ctx X G L bl) {vs : List Nat} (hvs : G.ndv vs) {σ : L2.St} {H : Hp} {Q : VK} {bi : Bool} (w : tF G (compE vs fi st ft fe) σ H Q) : tLc (tIt G true bi fi) (tTg G.noE bi vs st) (tTst G.noE ft) (tS G.noE fe) vs σ H fun v H' => KF X.K H' → Q v H' := fun k => by
  obtain ⟨O, ρ, R, p⟩ := w k
  refine ⟨O, ρ, R, p.bind.imp fun ds _ q J H1 s1 k1 wk => ?_⟩
  intro Dd hD
  have q' := q.bind
  cases hc : compL st ft fe (wipeR ρ vs) ds with
  | exc c => rw [hc] at q'; exact q'.elim
  | stuck => rw [hc] at q'; exact q'.elim
  | ok rs =>
    rw [hc] at q'
    have R1 := R.same s1
    refine ⟨fun i m H5 => m = ds.length - i ∧ i ≤ ds.length ∧ Same H1 H5 ∧ ∃ us rs1 rs2, H5 Dd = some (.lst us) ∧ AtL G.K H5 (fun a => O a ∨ a = Dd) rs1 us ∧ rs1.length ≤ i ∧ compL st ft fe (wipeR ρ vs) (ds.drop i) = .ok rs2 ∧ rs = rs1 ++ rs2,
      ⟨ds.length, by simp, Nat.zero_le _, same_upd hD, [], [], rs, upd_same, rfl, Nat.le_refl _, by simpa using hc, rfl⟩, ?_⟩
    rintro i m H5 ⟨rfl, hi, s5, us, rs1, rs2, e5, a5, l5, c5, er⟩
    by_cases hlt : i < ds.length
    · have hd : ds[i]? = some ds[i] := List.getElem?_eq_getElem hlt
      obtain ⟨go, y⟩ := wk.go i ds[i] H5 hd (.of_same s5)
      refine .inr ⟨go, fun H6 => Same H1 H6 ∧ ∃ us rs1 rs2, H6 Dd = some (.lst us) ∧ AtL G.K H6 (fun a => O a ∨ a = Dd) rs1 us ∧ rs1.length ≤ i + 1 ∧ compL st ft fe (wipeR ρ vs) (ds.drop (i + 1)) = .ok rs2 ∧ rs = rs1 ++ rs2, fun H6 ⟨s6, us, rs1, rs2, r⟩ => ⟨ds.length - (i + 1), by omega, rfl, hlt, s6, us, rs1, rs2, r⟩, fun x H6 hy k6 => ?_⟩
      obtain ⟨s6, a6⟩ := y x H6 hy
      have nk : G.K.lookup Dd = none := kf_no (H := H6) k6 (s6 _ _ e5)
      rw [List.drop_eq_getElem_cons hlt] at c5
      have c6 : (st ds[i] (wipeR ρ vs) >>= fun ρ1 => ft ρ1 >>= fun b => if b = true then (fe ρ1 >>= fun y => compL st ft fe (wipeR ρ vs) (ds.drop (i + 1)) >>= fun r => Rs.ok (y :: r)) else compL st ft fe (wipeR ρ vs) (ds.drop (i + 1))) = .ok rs2 := c5
      cases hst : st ds[i] (wipeR ρ vs) with
      | exc c => rw [hst] at c6; cases c6
      | stuck => rw [hst] at c6; cases c6
      | ok ρ1 =>
        rw [hst] at c6
        have R6 : Rep G (fun a => O a ∨ a = Dd) (L2.wipe σ vs) H6 (wipeR ρ vs) := by
          have Ra : Rep G (fun a => O a ∨ a = Dd) σ (upd H1 Dd (.lst [])) ρ := R1.plus hD nk
          have Rb : Rep G (fun a => O a ∨ a = Dd) σ H6 ρ := by
            have R0 := R1.same (s5.trans s6)
            refine ⟨R0.base, Ra.sub, fun a h => ?_, Ra.fre, R0.len, fun j d e nw => ?_, fun j d e nw => ?_, R0.dist, R0.dpa⟩
            · rcases h with h | h
              · exact R0.trk a h
              · exact ⟨_, by rw [h]; exact s6 _ _ e5⟩
            · obtain ⟨v, e1, h1⟩ := R1.slot j d e nw
              exact ⟨v, e1, (h1.grow hD nk).same (s5.trans s6)⟩
            · obtain ⟨a, e1, h1, h2, h3⟩ := R1.owns j d e nw
              exact ⟨a, e1, (h1.grow hD nk).same (s5.trans s6), .inl h2, h3⟩
          exact Rb.wipe vs hvs
        have a7 : AtB bi G.K H6 (fun a => O a ∨ a = Dd) ds[i] x := a6 _ (fun a z => z.imp id fun z => by rw [z]; exact ⟨hD, nk⟩) (fun a z => by
          rcases z with z | z
          · exact (R1.same s5).trk a z
          · exact ⟨_, by rw [z]; exact e5⟩)
        refine ⟨_, wipeR ρ vs, ds[i], ρ1, R6.noE, a7, hst, fun σ' R' hw' => ⟨hw'.trans wipe_wipe, fun k7 => ⟨_, ρ1, R', ?_⟩⟩⟩
        have c7 : (ft ρ1 >>= fun b => if b = true then (fe ρ1 >>= fun y => compL st ft fe (wipeR ρ vs) (ds.drop (i + 1)) >>= fun r => Rs.ok (y :: r)) else compL st ft fe (wipeR ρ vs) (ds.drop (i + 1))) = .ok rs2 := c6
        cases hft : ft ρ1 with
        | exc c => rw [hft] at c7; cases c7
        | stuck => rw [hft] at c7; cases c7
        | ok b =>
          rw [hft] at c7
          intro H7 s7 k7
          have s17 : Same H1 H7 := s5.trans (s6.trans s7)
          cases b with
          | false =>
            have c8 : compL st ft fe (wipeR ρ vs) (ds.drop (i + 1)) = .ok rs2 := c7
            exact (if_neg Bool.false_ne_true).mpr ⟨s17, us, rs1, rs2, (s6.trans s7) _ _ e5, a5.same (s6.trans s7), by omega, c8, er⟩
          | true =>
            have c8 : (fe ρ1 >>= fun y => compL st ft fe (wipeR ρ vs) (ds.drop (i + 1)) >>= fun r => Rs.ok (y :: r)) = .ok rs2 := c7
            refine (if_pos rfl).mpr fun k8 => ⟨_, ρ1, R'.same s7, ?_⟩
            cases hfe : fe ρ1 with
            | exc c => rw [hfe] at c8; cases c8
            | stuck => rw [hfe] at c8; cases c8
            | ok y =>
              rw [hfe] at c8
              intro v H8 s8 k9 a8
              have c9 : (compL st ft fe (wipeR ρ vs) (ds.drop (i + 1)) >>= fun r => Rs.ok (y :: r)) = .ok rs2 := c8
              cases hcl : compL st ft fe (wipeR ρ vs) (ds.drop (i + 1)) with
              | exc c => rw [hcl] at c9; cases c9
              | stuck => rw [hcl] at c9; cases c9
              | ok rs3 =>
                rw [hcl] at c9
                cases c9
                have e8 : H8 Dd = some (.lst us) := (s6.trans (s7.trans s8)) _ _ e5
                have kp : Kp (fun a => O a ∨ a = Dd) H8 (upd H8 Dd (.lst (us ++ [v]))) := fun b o eb nb => by
                  rw [upd_ne fun z => nb (.inr z)]; exact eb
                have hl5 := a5.length
                have hlen := wk.len
                refine ⟨us, e8, by omega, fun b o eb => ?_, us ++ [v], rs1 ++ [y], rs3, upd_same, AtL.keep kp ((a5.same (s6.trans (s7.trans s8))).append (.one a8)), by simp; omega, rfl, by rw [er]; simp⟩
                rw [upd_ne (ne_of_none eb hD)]
                exact (s17.trans s8) _ _ eb
    · have e : i = ds.length := by omega
      subst e
      have hs' := wk.stop H5 (.of_same s5)
      refine .inl ⟨hs', fun k5 => ?_⟩
      have c6 : rs2 = [] := by
        rw [List.drop_length] at c5
        have : Rs.ok ([] : List D) = Rs.ok rs2 := c5
        cases this; rfl
      subst c6
      rw [List.append_nil] at er
      subst er
      exact q' Dd rs us H5 rfl (s1.trans s5) (C.kf k5) (s1.free hD) e5 a5
theorem d_comp (C : Ctx X G L bl) {bi : Bool} (hi : PI X tg iter (tIt G true bi fi)) (ok : BlkOk X.N X.env.scope scope own) (hvs : G.ndv (own.map (·.2)))
    (hg : ∀ (s : Shared) (H : Hp) (Cc : Addr) (cl : List (Str × Addr)) (fp : List Addr), PG (X.blk s H scope (compEnvC scope cl Cc X.env) fp) tg (tTg G.noE bi (own.map (·.2)) st))
    (ht : ∀ (s : Shared) (H : Hp) (Cc : Addr) (cl : List (Str × Addr)) (fp : List Addr), PTs (X.blk s H scope (compEnvC scope cl Cc X.env) fp) ifs (tTst G.noE ft))
    (he : ∀ (s : Shared) (H : Hp) (Cc : Addr) (cl : List (Str × Addr)) (fp : List Addr), PE (X.blk s H scope (compEnvC scope cl Cc X.env) fp) elt (tS G.noE fe))
    (hs : ∀ x, foldedSetIterable iter X.env x = pure x) : PE X (.ListComp elt [⟨tg, iter, ifs, 0⟩] scope pos) (tF G (compE (own.map (·.2)) fi st ft fe)) :=
  pe_imp (pe_lc C.calm C.nd hi ok hg ht he hs) fun σ H Q kf w => comp_core C hvs w
end
end Den
namespace Den
open PySem PySem.Spec PyProof.Rows L2
def compL2 (st : STg) (fi1 : DI) (st1 : STg) (ft1 : Ro → Rs Bool) (fe : DE) (vs1 : List Nat) (ρ : Ro) : List D → Rs (List D)
  | [] => .ok []
  | d :: ds => do
    let ρ1 ← st d ρ
    let ds1 ← fi1 ρ1
    let r1 ← compL st1 ft1 fe (wipeR ρ1 vs1) ds1
    let r ← compL2 st fi1 st1 ft1 fe vs1 ρ ds
    pure (r1 ++ r)
def compE2 (vs : List Nat) (fi : DI) (st : STg) (fi1 : DI) (st1 : STg) (ft1 : Ro → Rs Bool) (fe : DE) (vs1 : List Nat) : DE := fun ρ => do
  let ds ← fi ρ
  let r ← (compL2 st fi1 st1 ft1 fe vs1 (wipeR ρ vs) ds).noexc
  if r.length ≤ big then pure (.list r) else .stuck
section
variable {X : Cx} {G : Gc} {L : Nat} {bl : List Str} {tg iter tg1 iter1 elt e : Expr} {ifs : List Expr} {fi fi1 : DI} {st st1 : STg} {ft1 : Ro → Rs Bool} {fe f : DE} {pos : Pos} {scope : Scope} {own : List (Str × Nat)} {vs1 : List Nat}
theorem p_nil (hK : X.K = G.K) : PTs X [] (tTst G fun _ => .ok true) := ⟨fun pins s σ H Q I w => by
  have k := hK ▸ kf_inv I
  obtain ⟨O, ρ, R, q⟩ := w k
  exact pts_nil.run pins s σ H Q I (q H (Same.refl H) k)⟩
theorem p_one (ht : PT X e (tTst G (tstE f))) : PTs X [e] (tTst G (tstE f)) := pts_one ht
abbrev _root_.Den.Gc.wO (G : Gc) (O0 : Addr → Prop) : Gc := { G with E := fun _ _ _ => False, O0 := O0 }
theorem Rep.wO {O : Addr → Prop} {σ : L2.St} {H : Hp} {ρ : Ro} {O0 : Addr → Prop} (R : Rep G O σ H ρ) (h1 : ∀ a, O0 a → O a) (h0 : ∀ a, G.O0 a → O0 a) (h2 : ∀ i d a, ρ[i]? = some (some d) → G.own i = true → σ[i]? = some (some (.ref a)) → ¬ O0 a) : Rep (G.wO O0) O σ H ρ :=
  ⟨R.base, h1, R.trk, fun a h n => R.fre a h fun z => n (h0 a z), R.len, R.slot, fun i d e nw => let ⟨a, e1, q1, q2, _⟩ := R.owns i d e nw; ⟨a, e1, q1, q2, h2 i d a e nw e1⟩, R.dist, R.dpa⟩
theorem comp2_core (C : Ctx X G L bl) {bi bi1 : Bool} {vs : List Nat} (hvs : G.ndv vs) (hvs1 : G.ndv vs1) {σ : L2.St} {H : Hp} {Q : VK} (w : tF G (compE2 vs fi st fi1 st1 ft1 fe vs1) σ H Q) : tLc2 (tIt G true bi fi) (fun v σ H Q => ∃ O0, tTg (G.wO O0) bi vs st v σ H Q) tYes (fun σ H R => ∃ O0, tIt (G.wO O0) false bi1 fi1 σ H R) (fun v σ H Q => ∃ O0, tTg (G.wO O0) bi1 vs1 st1 v σ H Q) (fun σ H Q => ∃ O0, tTst (G.wO O0) ft1 σ H Q) (fun σ H Q => ∃ O0, tS (G.wO O0) fe σ H Q) vs vs1 σ H fun v H' => KF X.K H' → Q v H' := fun k => by
  obtain ⟨O, ρ, R, p⟩ := w k
  refine ⟨O, ρ, R, p.bind.imp fun ds _ q J H1 s1 k1 wk => ?_⟩
  intro Dd hD
  have q0 := q.bind
  cases hc : compL2 st fi1 st1 ft1 fe vs1 (wipeR ρ vs) ds with
  | exc c => rw [hc] at q0; exact q0.elim
  | stuck => rw [hc] at q0; exact q0.elim
  | ok rs =>
    rw [hc] at q0
    have q1 : Post G H (if rs.length ≤ big then Rs.ok (PyData.list rs) else .stuck) _ := q0
    by_cases hbig : rs.length ≤ big
    case neg => rw [if_neg hbig] at q1; exact q1.elim
    rw [if_pos hbig] at q1
    have hline := big_line hbig
    have R1 := R.same s1
    refine ⟨fun i m H5 => m = ds.length - i ∧ i ≤ ds.length ∧ Same H1 H5 ∧ ∃ us rs1 rs2, H5 Dd = some (.lst us) ∧ AtL G.K H5 (fun a => O a ∨ a = Dd) rs1 us ∧ compL2 st fi1 st1 ft1 fe vs1 (wipeR ρ vs) (ds.drop i) = .ok rs2 ∧ rs = rs1 ++ rs2,
      ⟨ds.length, by simp, Nat.zero_le _, same_upd hD, [], [], rs, upd_same, rfl, by simpa using hc, rfl⟩, ?_⟩
    rintro i m H5 ⟨rfl, hi, s5, us, rs1, rs2, e5, a5, c5, er⟩
    by_cases hlt : i < ds.length
    · have hd : ds[i]? = some ds[i] := List.getElem?_eq_getElem hlt
      obtain ⟨go, y⟩ := wk.go i ds[i] H5 hd (.of_same s5)
      refine .inr ⟨go, fun H6 => Same H1 H6 ∧ ∃ us rs1 rs2, H6 Dd = some (.lst us) ∧ AtL G.K H6 (fun a => O a ∨ a = Dd) rs1 us ∧ compL2 st fi1 st1 ft1 fe vs1 (wipeR ρ vs) (ds.drop (i + 1)) = .ok rs2 ∧ rs = rs1 ++ rs2, fun H6 ⟨s6, us, rs1, rs2, r⟩ => ⟨ds.length - (i + 1), by omega, rfl, hlt, s6, us, rs1, rs2, r⟩, fun x H6 hy => ⟨fun a => G.O0 a ∨ a = Dd, fun k6 => ?_⟩⟩
      obtain ⟨s6, a6⟩ := y x H6 hy
      have nk : G.K.lookup Dd = none := kf_no (H := H6) k6 (s6 _ _ e5)
      rw [List.drop_eq_getElem_cons hlt] at c5
      have c6 : (st ds[i] (wipeR ρ vs) >>= fun ρ1 => fi1 ρ1 >>= fun ds1 => compL st1 ft1 fe (wipeR ρ1 vs1) ds1 >>= fun r1 => compL2 st fi1 st1 ft1 fe vs1 (wipeR ρ vs) (ds.drop (i + 1)) >>= fun r => Rs.ok (r1 ++ r)) = .ok rs2 := c5
      cases hst : st ds[i] (wipeR ρ vs) with
      | exc c => rw [hst] at c6; cases c6
      | stuck => rw [hst] at c6; cases c6
      | ok ρ1 =>
        rw [hst] at c6
        have Rb : Rep G (fun a => O a ∨ a = Dd) σ H6 ρ := by
          have Ra : Rep G (fun a => O a ∨ a = Dd) σ (upd H1 Dd (.lst [])) ρ := R1.plus hD nk
          have R0 := R1.same (s5.trans s6)
          refine ⟨R0.base, Ra.sub, fun a h => ?_, Ra.fre, R0.len, fun j d e nw => ?_, fun j d e nw => ?_, R0.dist, R0.dpa⟩
          · rcases h with h | h
            · exact R0.trk a h
            · exact ⟨_, by rw [h]; exact s6 _ _ e5⟩
          · obtain ⟨v, e1, h1⟩ := R1.slot j d e nw
            exact ⟨v, e1, (h1.grow hD nk).same (s5.trans s6)⟩
          · obtain ⟨a, e1, h1, h2, h3⟩ := R1.owns j d e nw
            exact ⟨a, e1, (h1.grow hD nk).same (s5.trans s6), .inl h2, h3⟩
        have Rc : Rep (G.wO fun a => G.O0 a ∨ a = Dd) (fun a => O a ∨ a = Dd) σ H6 ρ := Rb.wO (fun a z => z.imp (R.sub a) id) (fun a z => .inl z) fun j d a e nw e1 z => by
          obtain ⟨a', e1', h1, _, h3⟩ := R1.owns j d e nw
          rw [e1] at e1'; cases e1'
          rcases z with z | z
          · exact h3 z
          · obtain ⟨o', e2⟩ := h1.there
            rw [z, hD] at e2; cases e2
        have R6 := Rc.wipe vs hvs
        have a7 : AtB bi G.K H6 (fun a => O a ∨ a = Dd) ds[i] x := a6 _ (fun a z => z.imp id fun z => by rw [z]; exact ⟨hD, nk⟩) (fun a z => by
          rcases z with z | z
          · exact (R1.same s5).trk a z
          · exact ⟨_, by rw [z]; exact e5⟩)
        refine ⟨_, wipeR ρ vs, ds[i], ρ1, R6, a7, hst, fun σ' R' hw' => ⟨hw'.trans wipe_wipe, ?_⟩⟩
        unfold tYes
        simp only [if_true]
        refine ⟨fun a => G.O0 a ∨ a = Dd, fun k7 => ⟨_, ρ1, R', ?_⟩⟩
        have c7 : (fi1 ρ1 >>= fun ds1 => compL st1 ft1 fe (wipeR ρ1 vs1) ds1 >>= fun r1 => compL2 st fi1 st1 ft1 fe vs1 (wipeR ρ vs) (ds.drop (i + 1)) >>= fun r => Rs.ok (r1 ++ r)) = .ok rs2 := c6
        cases hfi : fi1 ρ1 with
        | exc c => rw [hfi] at c7; cases c7
        | stuck => rw [hfi] at c7; cases c7
        | ok ds1 =>
          rw [hfi] at c7
          intro J1 H7 s7 k7 wk1
          have c8 : (compL st1 ft1 fe (wipeR ρ1 vs1) ds1 >>= fun r1 => compL2 st fi1 st1 ft1 fe vs1 (wipeR ρ vs) (ds.drop (i + 1)) >>= fun r => Rs.ok (r1 ++ r)) = .ok rs2 := c7
          cases hcl : compL st1 ft1 fe (wipeR ρ1 vs1) ds1 with
          | exc c => rw [hcl] at c8; cases c8
          | stuck => rw [hcl] at c8; cases c8
          | ok r1 =>
            rw [hcl] at c8
            have c9 : (compL2 st fi1 st1 ft1 fe vs1 (wipeR ρ vs) (ds.drop (i + 1)) >>= fun r => Rs.ok (r1 ++ r)) = .ok rs2 := c8
            cases hcl2 : compL2 st fi1 st1 ft1 fe vs1 (wipeR ρ vs) (ds.drop (i + 1)) with
            | exc c => rw [hcl2] at c9; cases c9
            | stuck => rw [hcl2] at c9; cases c9
            | ok r2 =>
              rw [hcl2] at c9
              cases c9
              have e7 : H7 Dd = some (.lst us) := (s6.trans s7) _ _ e5
              have s17 : Same H1 H7 := s5.trans (s6.trans s7)
              have R7 := R'.same s7
              refine ⟨fun j k H8 => k = ds1.length - j ∧ j ≤ ds1.length ∧ (∀ b o, H7 b = some o → b ≠ Dd → H8 b = some o) ∧ ∃ us q1 q2, H8 Dd = some (.lst us) ∧ AtL G.K H8 (fun a => O a ∨ a = Dd) (rs1 ++ q1) us ∧ compL st1 ft1 fe (wipeR ρ1 vs1) (ds1.drop j) = .ok q2 ∧ r1 = q1 ++ q2,
                ⟨ds1.length, by simp, Nat.zero_le _, fun b o e _ => e, us, [], r1, e7, by rw [List.append_nil]; exact a5.same (s6.trans s7), by simpa using hcl, rfl⟩, ?_⟩
              rintro j k8 H8 ⟨rfl, hj, b8, us8, q1', q2, e8, a8, c8', er1⟩
              have sH : Same H1 H8 := fun b o eb => b8 b o (s17 _ _ eb) (ne_of_none eb hD)
              have kp : Kp (fun a => O a ∨ a = Dd) H7 H8 := fun b o eb nb => b8 b o eb fun z => nb (.inr z)
              have R8 : Rep (G.wO fun a => G.O0 a ∨ a = Dd) (fun a => O a ∨ a = Dd) σ' H8 ρ1 := by
                refine ⟨R.base.trans (s1.trans sH), R7.sub, fun a h => ?_, R7.fre, R7.len, fun j d e nw => ?_, fun j d e nw => ?_, R7.dist, R7.dpa⟩
                · by_cases ha : a = Dd
                  · exact ⟨_, by rw [ha]; exact e8⟩
                  · obtain ⟨o, eo⟩ := R7.trk a h
                    exact ⟨o, b8 _ _ eo ha⟩
                · obtain ⟨v, e1, h1⟩ := R7.slot j d e nw
                  exact ⟨v, e1, h1.keep kp⟩
                · obtain ⟨a, e1, h1, h2, h3⟩ := R7.owns j d e nw
                  exact ⟨a, e1, h1.keep kp fun o e2 => b8 _ _ e2 (fun z => h3 (.inr z)), h2, h3⟩
              by_cases hjl : j < ds1.length
              · have hd1 : ds1[j]? = some ds1[j] := List.getElem?_eq_getElem hjl
                obtain ⟨go1, y1⟩ := wk1.go j ds1[j] H8 hd1 kp
                refine .inr ⟨go1, fun H9 => (∀ b o, H7 b = some o → b ≠ Dd → H9 b = some o) ∧ ∃ us q1 q2, H9 Dd = some (.lst us) ∧ AtL G.K H9 (fun a => O a ∨ a = Dd) (rs1 ++ q1) us ∧ compL st1 ft1 fe (wipeR ρ1 vs1) (ds1.drop (j + 1)) = .ok q2 ∧ r1 = q1 ++ q2, fun H9 ⟨b9, us, q1, q2, r⟩ => ⟨ds1.length - (j + 1), by omega, rfl, hjl, b9, us, q1, q2, r⟩, fun x1 H9 hy1 => ⟨fun a => G.O0 a ∨ a = Dd, fun k9 => ?_⟩⟩
                obtain ⟨s9, a9⟩ := y1 x1 H9 hy1
                rw [List.drop_eq_getElem_cons hjl] at c8'
                have d6 : (st1 ds1[j] (wipeR ρ1 vs1) >>= fun ρ2 => ft1 ρ2 >>= fun b => if b = true then (fe ρ2 >>= fun y => compL st1 ft1 fe (wipeR ρ1 vs1) (ds1.drop (j + 1)) >>= fun r => Rs.ok (y :: r)) else compL st1 ft1 fe (wipeR ρ1 vs1) (ds1.drop (j + 1))) = .ok q2 := c8'
                cases hst1 : st1 ds1[j] (wipeR ρ1 vs1) with
                | exc c => rw [hst1] at d6; cases d6
                | stuck => rw [hst1] at d6; cases d6
                | ok ρ2 =>
                  rw [hst1] at d6
                  refine ⟨_, wipeR ρ1 vs1, ds1[j], ρ2, (R8.same s9).wipe vs1 hvs1, a9 _ (fun a z => .inl z) R8.trk, hst1, fun σ2 R2 hw2 => ⟨hw2.trans wipe_wipe, fun a => G.O0 a ∨ a = Dd, fun kA => ⟨_, ρ2, R2, ?_⟩⟩⟩
                  have d7 : (ft1 ρ2 >>= fun b => if b = true then (fe ρ2 >>= fun y => compL st1 ft1 fe (wipeR ρ1 vs1) (ds1.drop (j + 1)) >>= fun r => Rs.ok (y :: r)) else compL st1 ft1 fe (wipeR ρ1 vs1) (ds1.drop (j + 1))) = .ok q2 := d6
                  cases hft : ft1 ρ2 with
                  | exc c => rw [hft] at d7; cases d7
                  | stuck => rw [hft] at d7; cases d7
                  | ok b =>
                    rw [hft] at d7
                    intro HA sA kA'
                    cases b with
                    | false =>
                      have d8 : compL st1 ft1 fe (wipeR ρ1 vs1) (ds1.drop (j + 1)) = .ok q2 := d7
                      rw [if_neg Bool.false_ne_true]
                      exact ⟨fun b o eb nb => (s9.trans sA) _ _ (b8 b o eb nb), us8, q1', q2, (s9.trans sA) _ _ e8, a8.same (s9.trans sA), d8, er1⟩
                    | true =>
                      have d8 : (fe ρ2 >>= fun y => compL st1 ft1 fe (wipeR ρ1 vs1) (ds1.drop (j + 1)) >>= fun r => Rs.ok (y :: r)) = .ok q2 := d7
                      rw [if_pos rfl]
                      refine ⟨fun a => G.O0 a ∨ a = Dd, fun kB => ⟨_, ρ2, R2.same sA, ?_⟩⟩
                      cases hfe : fe ρ2 with
                      | exc c => rw [hfe] at d8; cases d8
                      | stuck => rw [hfe] at d8; cases d8
                      | ok y' =>
                        rw [hfe] at d8
                        intro v HB sB kB' aB
                        have d9 : (compL st1 ft1 fe (wipeR ρ1 vs1) (ds1.drop (j + 1)) >>= fun r => Rs.ok (y' :: r)) = .ok q2 := d8
                        cases hcq : compL st1 ft1 fe (wipeR ρ1 vs1) (ds1.drop (j + 1)) with
                        | exc c => rw [hcq] at d9; cases d9
                        | stuck => rw [hcq] at d9; cases d9
                        | ok q3 =>
                          rw [hcq] at d9
                          cases d9
                          have eB : HB Dd = some (.lst us8) := (s9.trans (sA.trans sB)) _ _ e8
                          have kp2 : Kp (fun a => O a ∨ a = Dd) HB (upd HB Dd (.lst (us8 ++ [v]))) := fun b o eb nb => by
                            rw [upd_ne fun z => nb (.inr z)]; exact eb
                          have hl8 := a8.length
                          refine ⟨us8, eB, ?_, fun b o eb nb => ?_, us8 ++ [v], q1' ++ [y'], q3, upd_same, ?_, rfl, by rw [er1]; simp⟩
                          · rw [hl8]
                            have : rs.length = (rs1 ++ (r1 ++ r2)).length := by rw [er]
                            rw [er1] at this
                            simp only [List.length_append, List.length_cons] at this ⊢
                            omega
                          · rw [upd_ne nb]
                            exact (s9.trans (sA.trans sB)) _ _ (b8 b o eb nb)
                          · rw [← List.append_assoc]
                            exact AtL.keep kp2 ((a8.same (s9.trans (sA.trans sB))).append (.one aB))
              · have ej : j = ds1.length := by omega
                subst ej
                refine .inl ⟨wk1.stop H8 kp, sH, us8, rs1 ++ r1, r2, e8, ?_, rfl, by rw [er]; simp⟩
                rw [List.drop_length] at c8'
                have : Rs.ok ([] : List D) = Rs.ok q2 := c8'
                cases this
                rw [List.append_nil] at er1
                rw [er1]
                exact a8
    · have e : i = ds.length := by omega
      subst e
      have hs' := wk.stop H5 (.of_same s5)
      refine .inl ⟨hs', fun k5 => ?_⟩
      have c6 : rs2 = [] := by
        rw [List.drop_length] at c5
        have : Rs.ok ([] : List D) = Rs.ok rs2 := c5
        cases this; rfl
      subst c6
      rw [List.append_nil] at er
      subst er
      exact q1 Dd rs us H5 rfl (s1.trans s5) (C.kf k5) (s1.free hD) e5 a5
theorem d_comp2 (C : Ctx X G L bl) {bi bi1 : Bool} (hi : PI X tg iter (tIt G true bi fi)) (ok : BlkOk X.N X.env.scope scope own) (hvs : G.ndv (own.map (·.2))) (hv : ∀ i ∈ vs1, i ∈ own.map (·.2))
    (hg : ∀ (O0 : Addr → Prop) (s : Shared) (H : Hp) (Cc : Addr) (cl : List (Str × Addr)) (fp : List Addr), PG (X.blk s H scope (compEnvC scope cl Cc X.env) fp) tg (tTg (G.wO O0) bi (own.map (·.2)) st))
    (hi1 : ∀ (O0 : Addr → Prop) (s : Shared) (H : Hp) (Cc : Addr) (cl : List (Str × Addr)) (fp : List Addr), PI (X.blk s H scope (compEnvC scope cl Cc X.env) fp) tg1 iter1 (tIt (G.wO O0) false bi1 fi1))
    (hg1 : ∀ (O0 : Addr → Prop) (s : Shared) (H : Hp) (Cc : Addr) (cl : List (Str × Addr)) (fp : List Addr), PG (X.blk s H scope (compEnvC scope cl Cc X.env) fp) tg1 (tTg (G.wO O0) bi1 vs1 st1))
    (ht1 : ∀ (O0 : Addr → Prop) (s : Shared) (H : Hp) (Cc : Addr) (cl : List (Str × Addr)) (fp : List Addr), PTs (X.blk s H scope (compEnvC scope cl Cc X.env) fp) ifs (tTst (G.wO O0) ft1))
    (he : ∀ (O0 : Addr → Prop) (s : Shared) (H : Hp) (Cc : Addr) (cl : List (Str × Addr)) (fp : List Addr), PE (X.blk s H scope (compEnvC scope cl Cc X.env) fp) elt (tS (G.wO O0) fe))
    (hs : ∀ x, foldedSetIterable iter X.env x = pure x) (hs1 : ∀ env x, foldedSetIterable iter1 env x = pure x) : PE X (.ListComp elt [⟨tg, iter, [], 0⟩, ⟨tg1, iter1, ifs, 0⟩] scope pos) (tF G (compE2 (own.map (·.2)) fi st fi1 st1 ft1 fe vs1)) := by
  have hgE : ∀ (s : Shared) (H : Hp) (Cc : Addr) (cl : List (Str × Addr)) (fp : List Addr), PG (X.blk s H scope (compEnvC scope cl Cc X.env) fp) tg (fun v σ H Q => ∃ O0, tTg (G.wO O0) bi (own.map (·.2)) st v σ H Q) :=
    fun s H Cc cl fp => ⟨fun pins s' σ H' v u Q I r ⟨O0, w⟩ => (hg O0 s H Cc cl fp).run pins s' σ H' v u Q I r w⟩
  have hgE1 : ∀ (s : Shared) (H : Hp) (Cc : Addr) (cl : List (Str × Addr)) (fp : List Addr), PG (X.blk s H scope (compEnvC scope cl Cc X.env) fp) tg1 (fun v σ H Q => ∃ O0, tTg (G.wO O0) bi1 vs1 st1 v σ H Q) :=
    fun s H Cc cl fp => ⟨fun pins s' σ H' v u Q I r ⟨O0, w⟩ => (hg1 O0 s H Cc cl fp).run pins s' σ H' v u Q I r w⟩
  have hiE1 : ∀ (s : Shared) (H : Hp) (Cc : Addr) (cl : List (Str × Addr)) (fp : List Addr), PI (X.blk s H scope (compEnvC scope cl Cc X.env) fp) tg1 iter1 (fun σ H R => ∃ O0, tIt (G.wO O0) false bi1 fi1 σ H R) :=
    fun s H Cc cl fp => ⟨fun pins s' σ H' R I ⟨O0, w⟩ => (hi1 O0 s H Cc cl fp).run pins s' σ H' R I w⟩
  have htE1 : ∀ (s : Shared) (H : Hp) (Cc : Addr) (cl : List (Str × Addr)) (fp : List Addr), PTs (X.blk s H scope (compEnvC scope cl Cc X.env) fp) ifs (fun σ H Q => ∃ O0, tTst (G.wO O0) ft1 σ H Q) :=
    fun s H Cc cl fp => ⟨fun pins s' σ H' R I ⟨O0, w⟩ => (ht1 O0 s H Cc cl fp).run pins s' σ H' R I w⟩
  have heE : ∀ (s : Shared) (H : Hp) (Cc : Addr) (cl : List (Str × Addr)) (fp : List Addr), PE (X.blk s H scope (compEnvC scope cl Cc X.env) fp) elt (fun σ H Q => ∃ O0, tS (G.wO O0) fe σ H Q) :=
    fun s H Cc cl fp => ⟨fun pins s' σ H' R I ⟨O0, w⟩ => (he O0 s H Cc cl fp).run pins s' σ H' R I w⟩
  exact pe_imp (pe_lc2 (tt := tYes) C.calm C.nd hi ok hv hgE (fun _ _ _ _ _ => pts_nil) hiE1 hgE1 htE1 heE hs hs1) fun σ H Q kf w => comp2_core C hvs (fun i hi => hvs i (hv i hi)) w
end
end Den
namespace Den
open PySem PySem.Spec PyProof.Rows L2
def spD (K : W.Frag) (cl : Nat → Value) (n : Nat) (g : List D → Rs D) : Sp := fun vs H Q E => vs.length = n ∧ ∃ ds O0, (∀ a, O0 a → ∃ o, H a = some o) ∧ AtL K H O0 ds vs ∧
  match g ds with
  | .ok d => ∀ v H', Same H H' → KF K H' → At K H' O0 d v → Q v H'
  | .exc c => ∀ H', Same H H' → E (cl c) none H'
  | .stuck => False
structure FnD (X : Cx) (cl : Nat → Value) (L : Nat) (x : Str) (n : Nat) (g : List D → Rs D) : Prop where
  ex : ∃ f fd ps, FnOk X.prog X.w X.K X.mg X.base (L2.CX X.prog X.w) L f fd ps (spD X.K cl n g) ∧ ps.length = n ∧ X.mg x = some (.ref f) ∧ W.keepIn X.K (.ref f) = true ∧ Binds X.K fd ps []
structure FnA (X : Cx) (cl : Nat → Value) (L : Nat) (f : Addr) (n : Nat) (g : List D → Rs D) : Prop where
  ex : ∃ fd ps, FnOk X.prog X.w X.K X.mg X.base (L2.CX X.prog X.w) L f fd ps (spD X.K cl n g) ∧ ps.length = n ∧ W.keepIn X.K (.ref f) = true ∧ Binds X.K fd ps []
section
variable {X : Cx} {G : Gc} {L : Nat} {bl : List Str} {e : Expr} {es : List Expr} {fs : Ro → Rs (List D)} {F : List D → Rs D} {pos p : Pos} {x : Str} {bid T : String}
def appE (F : List D → Rs D) (fs : Ro → Rs (List D)) : DE := fun ρ => do let ds ← fs ρ; F ds
theorem d_call (C : Ctx X G L bl) {n : Nat} (hF : FnD X G.cl L x n F) (hg : Gl X x) (hn : (e :: es).length = n) (hdb : (x == ("__debug__" : Str)) = false) (ha : PA X (e :: es) (tArg G fs)) (hl : ∀ ρ ds, fs ρ = .ok ds → ds.length = n)
    (he : starEach (e :: es) X.env = (false, eval e X.env) :: starEach es X.env) (hpl : (backTo pos (starEach es X.env)).any (·.1) = false) : PE X (.Call (.Name x p) (e :: es) [] pos) (tS G (appE F fs)) := by
  obtain ⟨f, fd, ps, hf, hps, hm, hk, hb⟩ := hF.ex
  refine pe_imp (pe_call hf C.room hg hm hk hb .nil C.pass ha hdb he hpl) fun σ H Q kf w => fun k => ?_
  obtain ⟨O, ρ, R, q⟩ := w k
  refine ⟨O, ρ, R, q.bind.imp fun ds e q vs H1 s1 k1 a1 => ?_⟩
  show spD X.K G.cl n F (vs ++ []) H1 _ G.E
  rw [List.append_nil]
  refine ⟨by rw [a1.length]; exact hl ρ ds e, ds, O, fun a h => (R.same s1).trk a h, C.K ▸ a1, ?_⟩
  cases hF : F ds with
  | ok d => rw [hF] at q; exact fun v H' s2 k2 a2 => fun _ => q v H' (s1.trans s2) (C.K ▸ k2) (C.K ▸ a2)
  | exc c => rw [hF] at q; exact fun H' s2 => q H' ((R.base.trans s1).trans s2)
  | stuck => rw [hF] at q; exact q.elim
def SaysL (G : Gc) (r : List V → Hp → VK → Prop) (F : List D → Rs D) : Prop := ∀ (O : Addr → Prop) (H : Hp) (vs : List V) (ds : List D) (Q : VK), KF G.K H → Trk O H → AtCL G.K H O ds vs →
  PostV G O H (F ds) Q → r vs H fun v H' => KF G.K H' → Q v H'
theorem d_blt (C : Ctx X G L bl) {r : List V → Hp → VK → Prop} (hc : CallR X (.builtin bid) r) (s : SaysL G r F) (hg : Gl X x) (hm : x ∈ bl) (hv : bootBuiltins x = some (.builtin bid)) (hn : x ≠ "__name__") (hdb : (x == ("__debug__" : Str)) = false) (ha : PA X (e :: es) (tArgW G fs))
    (he : starEach (e :: es) X.env = (false, eval e X.env) :: starEach es X.env) (hpl : (backTo pos (starEach es X.env)).any (·.1) = false) : PE X (.Call (.Name x p) (e :: es) [] pos) (tS G (appE F fs)) := by
  refine pe_imp (pe_callB hc hg (C.blt x hm) hv ha hn hdb he hpl) fun σ H Q kf w => fun k => ?_
  obtain ⟨O, ρ, R, q⟩ := w k
  refine ⟨O, ρ, R, q.bind.imp fun ds e q vs H1 s1 k1 a1 => ?_⟩
  rw [C.K]
  exact s O H1 vs ds Q k1 (R.same s1).trk a1 (Post.imp q fun d _ q2 v H' s2 k2 a2 => q2 v H' (s1.trans s2) k2 a2)
theorem d_bty (C : Ctx X G L bl) {r : List V → Hp → VK → Prop} (hc : CallR X (.type T) r) (s : SaysL G r F) (hg : Gl X x) (hm : x ∈ bl) (hv : bootBuiltins x = some (.type T)) (hn : x ≠ "__name__") (hdb : (x == ("__debug__" : Str)) = false) (ha : PA X (e :: es) (tArgW G fs))
    (he : starEach (e :: es) X.env = (false, eval e X.env) :: starEach es X.env) (hpl : (backTo pos (starEach es X.env)).any (·.1) = false) : PE X (.Call (.Name x p) (e :: es) [] pos) (tS G (appE F fs)) := by
  refine pe_imp (pe_callTy hc hg (C.blt x hm) hv ha hn hdb he hpl) fun σ H Q kf w => fun k => ?_
  obtain ⟨O, ρ, R, q⟩ := w k
  refine ⟨O, ρ, R, q.bind.imp fun ds e q vs H1 s1 k1 a1 => ?_⟩
  rw [C.K]
  exact s O H1 vs ds Q k1 (R.same s1).trk a1 (Post.imp q fun d _ q2 v H' s2 k2 a2 => q2 v H' (s1.trans s2) k2 a2)
def lenD : List D → Rs D
  | [.list ds] => .ok (.int ds.length)
  | [.tuple ds] => .ok (.int ds.length)
  | [.str x] => if x.length ≤ big then .ok (.int x.length) else .stuck
  | _ => .stuck
theorem says_len : SaysL G (fun xs H Q => ∃ x n, xs = [x] ∧ LenV G.K x H n ∧ Q (.int n) H) lenD := by
  intro O H vs ds Q k t a p
  unfold lenD at p
  split at p
  · obtain ⟨v, r, rfl, a1, a2⟩ := a
    cases a2
    obtain ⟨b, us, rfl, h1, h2⟩ := a1
    refine ⟨_, us.length, rfl, .inl ⟨us, h1, rfl⟩, ?_⟩
    rw [h2.length]
    exact post_sc k p rfl
  · obtain ⟨v, r, rfl, a1, a2⟩ := a
    cases a2
    obtain ⟨b, us, rfl, h1, _, h2⟩ := a1
    refine ⟨_, us.length, rfl, .inr ⟨us, h1.q, rfl⟩, ?_⟩
    rw [h2.length]
    exact post_sc k p rfl
  · obtain ⟨v, r, rfl, a1, a2⟩ := a
    cases a2
    cases a1
    split at p
    · rename_i hz
      exact ⟨_, _, rfl, ⟨big_line hz, rfl⟩, post_sc k p rfl⟩
    · exact p.elim
  · exact p.elim
def blsO : List D → Option (List Bool)
  | [] => some []
  | .bool b :: r => (blsO r).map (b :: ·)
  | _ => none
theorem bls_eq : ∀ {ds : List D} {bs : List Bool}, blsO ds = some bs → ds = bs.map PyData.bool
  | [], _, h => by cases h; rfl
  | d :: r, bs, h => by
    cases d with
    | bool b =>
      obtain ⟨cs, h1, rfl⟩ := Option.map_eq_some_iff.mp (show (blsO r).map (b :: ·) = some bs from h)
      rw [bls_eq h1]; rfl
    | _ => cases h
@[simp] theorem bls_map (bs : List Bool) : blsO (bs.map PyData.bool) = some bs := by
  induction bs with
  | nil => rfl
  | cons b bs ih => show (blsO (bs.map PyData.bool)).map (b :: ·) = _; rw [ih]; rfl
def allD : List D → Rs D
  | [.list ds] => match blsO ds with | some bs => .ok (.bool (bs.all id)) | none => .stuck
  | _ => .stuck
def anyD : List D → Rs D
  | [.list ds] => match blsO ds with | some bs => .ok (.bool (bs.any id)) | none => .stuck
  | _ => .stuck
theorem says_all : SaysL G (rAll G.K) allD := by
  intro O H vs ds Q k t a p
  unfold allD at p
  split at p
  · obtain ⟨v, r, rfl, a1, a2⟩ := a
    cases a2
    obtain ⟨b, us, rfl, h1, h2⟩ := a1
    split at p
    · rename_i hb
      rw [bls_eq hb] at h2
      rw [atL_bls h2] at h1
      exact ⟨b, _, rfl, h1, post_sc k p rfl⟩
    · exact p.elim
  · exact p.elim
theorem says_any : SaysL G (rAny G.K) anyD := by
  intro O H vs ds Q k t a p
  unfold anyD at p
  split at p
  · obtain ⟨v, r, rfl, a1, a2⟩ := a
    cases a2
    obtain ⟨b, us, rfl, h1, h2⟩ := a1
    split at p
    · rename_i hb
      rw [bls_eq hb] at h2
      rw [atL_bls h2] at h1
      exact ⟨b, _, rfl, h1, post_sc k p rfl⟩
    · exact p.elim
  · exact p.elim
def intsO : List D → Option (List Int)
  | [] => some []
  | .int b :: r => (intsO r).map (b :: ·)
  | _ => none
theorem ints_eq : ∀ {ds : List D} {bs : List Int}, intsO ds = some bs → ds = bs.map PyData.int
  | [], _, h => by cases h; rfl
  | d :: r, bs, h => by
    cases d with
    | int b =>
      obtain ⟨cs, h1, rfl⟩ := Option.map_eq_some_iff.mp (show (intsO r).map (b :: ·) = some bs from h)
      rw [ints_eq h1]; rfl
    | _ => cases h
@[simp] theorem ints_map (bs : List Int) : intsO (bs.map PyData.int) = some bs := by
  induction bs with
  | nil => rfl
  | cons b bs ih => show (intsO (bs.map PyData.int)).map (b :: ·) = _; rw [ih]; rfl
def maxL : Int → List Int → Int
  | m, [] => m
  | m, x :: r => maxL (if x > m then x else m) r
def minL : Int → List Int → Int
  | m, [] => m
  | m, x :: r => minL (if x < m then x else m) r
theorem maxL_spec : ∀ (r : List Int) (m : Int), (maxL m r = m ∨ maxL m r ∈ r) ∧ m ≤ maxL m r ∧ ∀ y ∈ r, y ≤ maxL m r
  | [], m => ⟨.inl rfl, Int.le_refl _, fun _ h => by cases h⟩
  | x :: r, m => by
    obtain ⟨h1, h2, h3⟩ := maxL_spec r (if x > m then x else m)
    refine ⟨?_, ?_, fun y hy => ?_⟩
    · rcases h1 with h1 | h1
      · by_cases hx : x > m
        · rw [if_pos hx] at h1; exact .inr (by show maxL _ r ∈ _; rw [if_pos hx, h1]; exact List.mem_cons_self)
        · rw [if_neg hx] at h1; exact .inl (by show maxL _ r = _; rw [if_neg hx, h1])
      · exact .inr (List.mem_cons_of_mem _ h1)
    · show m ≤ maxL _ r
      by_cases hx : x > m
      · rw [if_pos hx] at h2 ⊢; omega
      · rw [if_neg hx] at h2 ⊢; omega
    · show y ≤ maxL _ r
      rcases List.mem_cons.mp hy with rfl | hy
      · by_cases hx : y > m
        · rw [if_pos hx] at h2 ⊢; omega
        · rw [if_neg hx] at h2 ⊢; omega
      · exact h3 y hy
theorem minL_spec : ∀ (r : List Int) (m : Int), (minL m r = m ∨ minL m r ∈ r) ∧ minL m r ≤ m ∧ ∀ y ∈ r, minL m r ≤ y
  | [], m => ⟨.inl rfl, Int.le_refl _, fun _ h => by cases h⟩
  | x :: r, m => by
    obtain ⟨h1, h2, h3⟩ := minL_spec r (if x < m then x else m)
    refine ⟨?_, ?_, fun y hy => ?_⟩
    · rcases h1 with h1 | h1
      · by_cases hx : x < m
        · rw [if_pos hx] at h1; exact .inr (by show minL _ r ∈ _; rw [if_pos hx, h1]; exact List.mem_cons_self)
        · rw [if_neg hx] at h1; exact .inl (by show minL _ r = _; rw [if_neg hx, h1])
      · exact .inr (List.mem_cons_of_mem _ h1)
    · show minL _ r ≤ m
      by_cases hx : x < m
      · rw [if_pos hx] at h2 ⊢; omega
      · rw [if_neg hx] at h2 ⊢; omega
    · show minL _ r ≤ y
      rcases List.mem_cons.mp hy with rfl | hy
      · by_cases hx : y < m
        · rw [if_pos hx] at h2 ⊢; omega
        · rw [if_neg hx] at h2 ⊢; omega
      · exact h3 y hy
def maxD : List D → Rs D
  | [.list ds] => match intsO ds with | some (m :: r) => .ok (.int (maxL m r)) | _ => .stuck
  | [.int i, .int j] => .ok (.int (if j > i then j else i))
  | _ => .stuck
def minD : List D → Rs D
  | [.list ds] => match intsO ds with | some (m :: r) => .ok (.int (minL m r)) | _ => .stuck
  | [.int i, .int j] => .ok (.int (if j < i then j else i))
  | _ => .stuck
def rMaxA (K : W.Frag) : List V → Hp → VK → Prop := fun vs H Q => rMax K vs H Q ∨ ∃ i j, vs = [.int i, .int j] ∧ Q (.int (if j > i then j else i)) H
def rMinA (K : W.Frag) : List V → Hp → VK → Prop := fun vs H Q => rMin K vs H Q ∨ ∃ i j, vs = [.int i, .int j] ∧ Q (.int (if j < i then j else i)) H
theorem cr_maxA (hc : X.calm = true) : CallR X (.builtin "max") (rMaxA X.K) := (cr_max hc).or (call_max2 hc)
theorem cr_minA (hc : X.calm = true) : CallR X (.builtin "min") (rMinA X.K) := (cr_min hc).or (call_min2 hc)
theorem says_max : SaysL G (rMaxA G.K) maxD := by
  intro O H vs ds Q k t a p
  unfold maxD at p
  split at p
  · obtain ⟨v, r, rfl, a1, a2⟩ := a
    cases a2
    obtain ⟨b, us, rfl, h1, h2⟩ := a1
    split at p
    · rename_i m r hb
      rw [ints_eq hb] at h2
      rw [atL_ints h2] at h1
      refine .inl ⟨b, m :: r, rfl, h1, by simp, fun m' hm' hle => ?_⟩
      obtain ⟨q1, q2, q3⟩ := maxL_spec r m
      have e : m' = maxL m r := by
        refine Int.le_antisymm ?_ ?_
        · rcases List.mem_cons.mp hm' with e | e
          · rw [e]; exact q2
          · exact q3 m' e
        · rcases q1 with e | e
          · rw [e]; exact hle m List.mem_cons_self
          · exact hle _ (List.mem_cons_of_mem _ e)
      rw [e]
      exact post_sc k p rfl
    · exact p.elim
  · obtain ⟨v, r, rfl, a1, v', r', rfl, a2, a3⟩ := a
    cases a1; cases a2; cases a3
    exact .inr ⟨_, _, rfl, post_sc k p rfl⟩
  · exact p.elim
theorem says_min : SaysL G (rMinA G.K) minD := by
  intro O H vs ds Q k t a p
  unfold minD at p
  split at p
  · obtain ⟨v, r, rfl, a1, a2⟩ := a
    cases a2
    obtain ⟨b, us, rfl, h1, h2⟩ := a1
    split at p
    · rename_i m r hb
      rw [ints_eq hb] at h2
      rw [atL_ints h2] at h1
      refine .inl ⟨b, m :: r, rfl, h1, by simp, fun m' hm' hle => ?_⟩
      obtain ⟨q1, q2, q3⟩ := minL_spec r m
      have e : m' = minL m r := by
        refine Int.le_antisymm ?_ ?_
        · rcases q1 with e | e
          · rw [e]; exact hle m List.mem_cons_self
          · exact hle _ (List.mem_cons_of_mem _ e)
        · rcases List.mem_cons.mp hm' with e | e
          · rw [e]; exact q2
          · exact q3 m' e
      rw [e]
      exact post_sc k p rfl
    · exact p.elim
  · obtain ⟨v, r, rfl, a1, v', r', rfl, a2, a3⟩ := a
    cases a1; cases a2; cases a3
    exact .inr ⟨_, _, rfl, post_sc k p rfl⟩
  · exact p.elim
def tupleD : List D → Rs D
  | [.list ds] => .ok (.tuple ds)
  | _ => .stuck
def listD : List D → Rs D
  | [.list ds] => .ok (.list ds)
  | [.tuple ds] => .ok (.list ds)
  | _ => .stuck
theorem says_tuple : SaysL G (fun xs H Q => ∃ p ys, xs = [.ref p] ∧ ((SqL G.K H p ys ∧ NewT H ys Q) ∨ (SqT G.K H p ys ∧ Q (.ref p) H))) tupleD := by
  intro O H vs ds Q k t a p
  unfold tupleD at p
  split at p
  · obtain ⟨v, r, rfl, a1, a2⟩ := a
    cases a2
    obtain ⟨b, us, rfl, h1, h2⟩ := a1
    exact ⟨b, us, rfl, .inl ⟨h1, fun l o hl hd k' => p _ _ (same_upd hl) k' (new_tup t hl hd h2)⟩⟩
  · exact p.elim
theorem says_list : SaysL G (fun xs H Q => ∃ p ys, xs = [.ref p] ∧ (SqL G.K H p ys ∨ SqT G.K H p ys) ∧ ∀ l, H l = none → Q (.ref l) (upd H l (.lst ys))) listD := by
  intro O H vs ds Q k t a p
  unfold listD at p
  split at p
  · obtain ⟨v, r, rfl, a1, a2⟩ := a
    cases a2
    obtain ⟨b, us, rfl, h1, h2⟩ := a1
    exact ⟨b, us, rfl, .inl h1, fun l hl k' => p _ _ (same_upd hl) k' (new_list t hl h2)⟩
  · obtain ⟨v, r, rfl, a1, a2⟩ := a
    cases a2
    obtain ⟨b, us, rfl, h1, _, h2⟩ := a1
    exact ⟨b, us, rfl, .inr h1.q, fun l hl k' => p _ _ (same_upd hl) k' (new_list t hl h2)⟩
  · exact p.elim
def insI (x : Int) : List Int → List Int
  | [] => [x]
  | y :: r => if x ≤ y then x :: y :: r else y :: insI x r
def srtI : List Int → List Int
  | [] => []
  | x :: r => insI x (srtI r)
theorem insI_perm (x : Int) : ∀ r, (insI x r).Perm (x :: r)
  | [] => .refl _
  | y :: r => by
    unfold insI
    split
    · exact .refl _
    · exact ((insI_perm x r).cons y).trans (.swap x y r)
theorem srtI_perm : ∀ r, (srtI r).Perm r
  | [] => .refl _
  | x :: r => (insI_perm x _).trans ((srtI_perm r).cons x)
theorem insI_mem {x y : Int} {r : List Int} : y ∈ insI x r ↔ y = x ∨ y ∈ r := by rw [(insI_perm x r).mem_iff, List.mem_cons]
theorem insI_srt (x : Int) : ∀ r, r.Pairwise (· ≤ ·) → (insI x r).Pairwise (· ≤ ·)
  | [], _ => by simp [insI]
  | y :: r, h => by
    unfold insI
    obtain ⟨h1, h2⟩ := List.pairwise_cons.mp h
    split
    · rename_i hxy
      refine List.pairwise_cons.mpr ⟨fun z hz => ?_, h⟩
      rcases List.mem_cons.mp hz with rfl | hz
      · exact hxy
      · exact Int.le_trans hxy (h1 z hz)
    · rename_i hxy
      refine List.pairwise_cons.mpr ⟨fun z hz => ?_, insI_srt x r h2⟩
      rcases insI_mem.mp hz with rfl | hz
      · omega
      · exact h1 z hz
theorem srtI_srt : ∀ r, (srtI r).Pairwise (· ≤ ·)
  | [] => .nil
  | x :: r => insI_srt x _ (srtI_srt r)
theorem srt_unique : ∀ {a b : List Int}, a.Perm b → a.Pairwise (· ≤ ·) → b.Pairwise (· ≤ ·) → a = b
  | [], b, h, _, _ => (h.nil_eq)
  | x :: a, [], h, _, _ => by have := h.length_eq; simp at this
  | x :: a, y :: b, h, ha, hb => by
    obtain ⟨a1, a2⟩ := List.pairwise_cons.mp ha
    obtain ⟨b1, b2⟩ := List.pairwise_cons.mp hb
    have e : x = y := by
      refine Int.le_antisymm ?_ ?_
      · have : y ∈ x :: a := h.mem_iff.mpr List.mem_cons_self
        rcases List.mem_cons.mp this with e | e
        · rw [e]; exact Int.le_refl _
        · exact a1 y e
      · have : x ∈ y :: b := h.mem_iff.mp List.mem_cons_self
        rcases List.mem_cons.mp this with e | e
        · rw [e]; exact Int.le_refl _
        · exact b1 x e
    subst e
    rw [srt_unique (List.Perm.cons_inv h) a2 b2]
def sortedD : List D → Rs D
  | [.list ds] => match intsO ds with | some ns => if ns.length < 64 then .ok (.list ((srtI ns).map PyData.int)) else .stuck | none => .stuck
  | _ => .stuck
theorem says_sorted : SaysL G (rSorted G.K) sortedD := by
  intro O H vs ds Q k t a p
  unfold sortedD at p
  split at p
  · obtain ⟨v, r, rfl, a1, a2⟩ := a
    cases a2
    obtain ⟨b, us, rfl, h1, h2⟩ := a1
    split at p
    · rename_i ns hb
      split at p
      · rename_i hz
        rw [ints_eq hb] at h2
        rw [atL_ints h2] at h1
        refine ⟨b, ns, rfl, h1, hz, fun ns' q hp hs hq k' => ?_⟩
        have e : ns' = srtI ns := srt_unique (hp.trans (srtI_perm ns).symm) hs (srtI_srt ns)
        subst e
        exact p _ _ (same_upd hq) k' (new_list t hq (atL_of_ints _))
      · exact p.elim
    · exact p.elim
  · exact p.elim
end
end Den
namespace Den
open PySem PySem.Spec PyProof.Rows L2
inductive Ty | int | bool | str | list | tuple
  deriving DecidableEq
def Ty.nm : Ty → String
  | .int => "int" | .bool => "bool" | .str => "str" | .list => "list" | .tuple => "tuple"
def tyN : D → String
  | .none => "NoneType" | .bool _ => "bool" | .int _ => "int" | .str _ => "str" | .list _ => "list" | .tuple _ => "tuple" | .dict _ => "dict"
def isiD : Ty → D → Bool
  | .int, .int _ => true
  | .int, .bool _ => true
  | .bool, .bool _ => true
  | .str, .str _ => true
  | .list, .list _ => true
  | .tuple, .tuple _ => true
  | _, _ => false
theorem isi_kit : ∀ (T : Ty) (d : D) (hd : ∀ k, d ≠ .dict k), kitB (tyN d) T.nm = some (isiD T d)
  | .int, .none, _ => (by decide +kernel : kitB "NoneType" "int" = some false)
  | .int, .bool _, _ => (by decide +kernel : kitB "bool" "int" = some true)
  | .int, .int _, _ => (by decide +kernel : kitB "int" "int" = some true)
  | .int, .str _, _ => (by decide +kernel : kitB "str" "int" = some false)
  | .int, .list _, _ => (by decide +kernel : kitB "list" "int" = some false)
  | .int, .tuple _, _ => (by decide +kernel : kitB "tuple" "int" = some false)
  | .bool, .none, _ => (by decide +kernel : kitB "NoneType" "bool" = some false)
  | .bool, .bool _, _ => (by decide +kernel : kitB "bool" "bool" = some true)
  | .bool, .int _, _ => (by decide +kernel : kitB "int" "bool" = some false)
  | .bool, .str _, _ => (by decide +kernel : kitB "str" "bool" = some false)
  | .bool, .list _, _ => (by decide +kernel : kitB "list" "bool" = some false)
  | .bool, .tuple _, _ => (by decide +kernel : kitB "tuple" "bool" = some false)
  | .str, .none, _ => (by decide +kernel : kitB "NoneType" "str" = some false)
  | .str, .bool _, _ => (by decide +kernel : kitB "bool" "str" = some false)
  | .str, .int _, _ => (by decide +kernel : kitB "int" "str" = some false)
  | .str, .str _, _ => (by decide +kernel : kitB "str" "str" = some true)
  | .str, .list _, _ => (by decide +kernel : kitB "list" "str" = some false)
  | .str, .tuple _, _ => (by decide +kernel : kitB "tuple" "str" = some false)
  | .list, .none, _ => (by decide +kernel : kitB "NoneType" "list" = some false)
  | .list, .bool _, _ => (by decide +kernel : kitB "bool" "list" = some false)
  | .list, .int _, _ => (by decide +kernel : kitB "int" "list" = some false)
  | .list, .str _, _ => (by decide +kernel : kitB "str" "list" = some false)
  | .list, .list _, _ => (by decide +kernel : kitB "list" "list" = some true)
  | .list, .tuple _, _ => (by decide +kernel : kitB "tuple" "list" = some false)
  | .tuple, .none, _ => (by decide +kernel : kitB "NoneType" "tuple" = some false)
  | .tuple, .bool _, _ => (by decide +kernel : kitB "bool" "tuple" = some false)
  | .tuple, .int _, _ => (by decide +kernel : kitB "int" "tuple" = some false)
  | .tuple, .str _, _ => (by decide +kernel : kitB "str" "tuple" = some false)
  | .tuple, .list _, _ => (by decide +kernel : kitB "list" "tuple" = some false)
  | .tuple, .tuple _, _ => (by decide +kernel : kitB "tuple" "tuple" = some true)
  | _, .dict k, h => absurd rfl (h k)
theorem tyx_of {K : W.Frag} {H : Hp} {O : Addr → Prop} : ∀ {d : D} {x : V}, AtC K H O d x → TyX K H x (.type (tyN d))
  | .none, _, h => by cases h; exact .base .non
  | .bool b, _, h => by cases h; exact .base (.bl b)
  | .int i, _, h => by cases h; exact .base (.int i)
  | .str z, _, h => by cases h; exact .base (.str z)
  | .list _, _, h => by
    obtain ⟨a, vs, rfl, h1, _⟩ := h
    rcases h1 with (h1 | ⟨o, h1⟩) | ⟨o, its, n, h1, h2, _⟩
    · exact .base (.lst h1)
    · exact .base (.frz h1)
    · exact .kList h1 h2
  | .tuple _, _, h => by
    obtain ⟨a, vs, rfl, h1, _⟩ := h
    rcases h1.q with (h1 | ⟨o, h1⟩) | ⟨o, its, n, h1, h2, _⟩
    · exact .base (.tup h1)
    · exact .fTuple h1
    · exact .kTuple h1 h2
  | .dict _, _, h => h.elim
section
variable {X : Cx} {G : Gc} {L : Nat} {bl : List Str} {e a b tgx : Expr} {f g : DE} {pos p p1 p2 : Pos} {x : Str}
def isiE (T : Ty) (f : DE) : DE := fun ρ => do let d ← f ρ; pure (.bool (isiD T d))
theorem d_isi (C : Ctx X G L bl) {T : Ty} {y : Str} (ha : PE X a (tW G f)) (hg : Gl X "isinstance") (hm : ("isinstance" : Str) ∈ bl) (hgy : Gl X y) (hmy : y ∈ bl) (hvy : bootBuiltins y = some (.type T.nm)) (hny : y ≠ "__name__") (hdy : (y == ("__debug__" : Str)) = false)
    (he : starEach (a :: [.Name y p2]) X.env = (false, eval a X.env) :: starEach [.Name y p2] X.env) : PE X (.Call (.Name "isinstance" p1) [a, .Name y p2] [] pos) (tS G (isiE T f)) := by
  have hb : PE X (.Name y p2) (tC (.ty T.nm)) := pe_bltn hgy (C.blt y hmy) hvy rfl hny hdy
  refine pe_imp (pe_callB call_isi hg (C.blt _ hm) (by decide +kernel) (pa_cons ha (pa_cons hb pa_nil rfl) he) (by decide +kernel) (by decide +kernel) he rfl) fun σ H Q kf w => fun k => ?_
  obtain ⟨O, ρ, R, q⟩ := w k
  refine ⟨O, ρ, R, q.bind.imp fun d _ q v H1 s1 k1 a1 => ?_⟩
  rw [C.K]
  refine ⟨v, .ty T.nm, _, _, isiD T d, rfl, .ty _, tyx_of a1, kit_ty (isi_kit T d fun z e => ?_), fun _ => q _ H1 s1 k1 rfl⟩
  subst e
  exact a1.elim
theorem rgV_at {K : W.Frag} {H : Hp} {O : Addr → Prop} (lo hi : Int) : AtL K H O (rngD lo (hi - lo).toNat) (rgV lo hi) := by
  unfold rngD rgV
  generalize (List.range (hi - lo).toNat) = l
  induction l with
  | nil => rfl
  | cons i r ih => exact ⟨_, _, rfl, rfl, ih⟩
def lstI (fi : DI) : DE := fun ρ => do let ds ← fi ρ; pure (.list ds)
def tupI (fi : DI) : DE := fun ρ => do let ds ← fi ρ; pure (.tuple ds)
theorem rg_ok {i j : Int} (h : (-(big : Int) ≤ i ∧ i ≤ big) ∧ (-(big : Int) ≤ j ∧ j ≤ big)) : RgOk i j := by
  unfold RgOk; unfold big at h; omega
theorem d_lrng1 (C : Ctx X G L bl) (hc : X.calm = true) (hg : Gl X "list") (hm : ("list" : Str) ∈ bl) (hg2 : Gl X "range") (hm2 : ("range" : Str) ∈ bl) (ha : PE X a (tW G f)) (na : starEach [a] X.env = (false, eval a X.env) :: starEach [] X.env) (na2 : starEach [.Call (.Name "range" p1) [a] [] p2] X.env = (false, eval (.Call (.Name "range" p1) [a] [] p2) X.env) :: starEach [] X.env) :
    PE X (.Call (.Name "list" p) [.Call (.Name "range" p1) [a] [] p2] [] pos) (tF G (lstI (rng1 f))) := by
  refine pe_imp (pe_listRg hc hg (C.blt _ hm) (prg_1 hg2 (C.blt _ hm2) ha na) na2) fun σ H Q kf w => fun k => ?_
  obtain ⟨O, ρ, R, q⟩ := w k
  refine ⟨O, ρ, R, q.bind.bind.imp fun d _ q v H1 s1 k1 a1 => ?_⟩
  cases d with
  | int j =>
    cases a1
    refine ⟨j, rfl, ?_⟩
    have q2 : Post G H (if -(big : Int) ≤ j ∧ j ≤ big then Rs.ok (rngD 0 j.toNat) else Rs.stuck) _ := q
    split at q2
    · rename_i hj
      refine ⟨rg_ok ⟨by unfold big; omega, hj⟩, fun n hn k' => ?_⟩
      have r := rgV_at (K := G.K) (H := upd H1 n (.lst (rgV 0 j))) (O := fun a => O a ∨ a = n) 0 j
      rw [Int.sub_zero] at r
      exact q2 n _ _ _ rfl (s1.trans (same_upd hn)) (C.kf k') (s1.free hn) upd_same r
    · exact q2.elim
  | _ => exact q.elim
theorem d_trng1 (C : Ctx X G L bl) (hc : X.calm = true) (hg : Gl X "tuple") (hm : ("tuple" : Str) ∈ bl) (hg2 : Gl X "range") (hm2 : ("range" : Str) ∈ bl) (ha : PE X a (tW G f)) (na : starEach [a] X.env = (false, eval a X.env) :: starEach [] X.env) (na2 : starEach [.Call (.Name "range" p1) [a] [] p2] X.env = (false, eval (.Call (.Name "range" p1) [a] [] p2) X.env) :: starEach [] X.env) :
    PE X (.Call (.Name "tuple" p) [.Call (.Name "range" p1) [a] [] p2] [] pos) (tS G (tupI (rng1 f))) := by
  refine pe_imp (pe_tupRgF hc hg (C.blt _ hm) (prg_1 hg2 (C.blt _ hm2) ha na) na2) fun σ H Q kf w => fun k => ?_
  obtain ⟨O, ρ, R, q⟩ := w k
  refine ⟨O, ρ, R, q.bind.bind.imp fun d _ q v H1 s1 k1 a1 => ?_⟩
  cases d with
  | int j =>
    cases a1
    refine ⟨j, rfl, ?_⟩
    have q2 : Post G H (if -(big : Int) ≤ j ∧ j ≤ big then Rs.ok (rngD 0 j.toNat) else Rs.stuck) _ := q
    split at q2
    · rename_i hj
      refine ⟨rg_ok ⟨by unfold big; omega, hj⟩, fun n o hn hd k' => ?_⟩
      have r := rgV_at (K := G.K) (H := H1) (O := O) 0 j
      rw [Int.sub_zero] at r
      exact q2 _ _ (s1.trans (same_upd hn)) (C.kf k') (new_tup (R.same s1).trk hn hd r)
    · exact q2.elim
  | _ => exact q.elim
theorem d_lrng2 (C : Ctx X G L bl) (hc : X.calm = true) (hg : Gl X "list") (hm : ("list" : Str) ∈ bl) (hg2 : Gl X "range") (hm2 : ("range" : Str) ∈ bl) (ha : PE X a (tW G f)) (hb : PE X b (tW G g)) (na : starEach [a, b] X.env = (false, eval a X.env) :: starEach [b] X.env) (nb : starEach [b] X.env = (false, eval b X.env) :: starEach [] X.env) (na2 : starEach [.Call (.Name "range" p1) [a, b] [] p2] X.env = (false, eval (.Call (.Name "range" p1) [a, b] [] p2) X.env) :: starEach [] X.env) :
    PE X (.Call (.Name "list" p) [.Call (.Name "range" p1) [a, b] [] p2] [] pos) (tF G (lstI (rng2 f g))) := by
  refine pe_imp (pe_listRg hc hg (C.blt _ hm) (prg_2 hg2 (C.blt _ hm2) ha hb na nb (by rw [nb]; rfl)) na2) fun σ H Q kf w => fun k => ?_
  obtain ⟨O, ρ, R, q⟩ := w k
  refine ⟨O, ρ, R, q.bind.bind.imp fun d _ q v H1 s1 k1 a1 => fun _ => ⟨O, ρ, R.same s1, q.bind.imp fun d' _ q v' H2 s2 k2 a2 => ?_⟩⟩
  have q3 : Post G H (intD d >>= fun i => intD d' >>= fun j => if (-(big : Int) ≤ i ∧ i ≤ big) ∧ (-(big : Int) ≤ j ∧ j ≤ big) then Rs.ok (rngD i (j - i).toNat) else Rs.stuck) _ := q
  cases d with
  | int i =>
    cases d' with
    | int j =>
      cases a1; cases a2
      refine ⟨i, j, rfl, rfl, ?_⟩
      have q2 : Post G H (if (-(big : Int) ≤ i ∧ i ≤ big) ∧ (-(big : Int) ≤ j ∧ j ≤ big) then Rs.ok (rngD i (j - i).toNat) else Rs.stuck) _ := q3
      split at q2
      · rename_i hj
        refine ⟨rg_ok hj, fun n hn k' => ?_⟩
        exact q2 n _ _ _ rfl (s1.trans (s2.trans (same_upd hn))) (C.kf k') (s1.free (s2.free hn)) upd_same (rgV_at i j)
      · exact q2.elim
    | _ => exact q3.elim
  | _ => exact q3.elim
end
end Den
namespace Den
open PySem PySem.Spec PyProof.Rows L2
open AutoSeq1 (wpAny_loadPart')
theorem meets_enumerate_newT (l : Addr) (items : Array Value) :
    Meets (Builtin.«enumerate.__new__» ⟨[.type "enumerate", .ref l], []⟩) (fun _ R s => s.heap.IsTuple l items ∧
      R (.ok (.ret (.ref (s.heap.push { cls := .type "tuple_iterator", data := .fields #[.ref l, .int 0 0] }).objs.size)))
        { s with heap := (s.heap.push { cls := .type "tuple_iterator", data := .fields #[.ref l, .int 0 0] }).push { cls := .type "enumerate", data := .fields #[.none, .bool false, .ref s.heap.objs.size, rawInt 0, .none, .none] } }) :=
  .of_wp fun prog w A R s h => by
    obtain ⟨hp, g, d, tk, os⟩ := s; obtain ⟨hL, h⟩ := h
    have hsub := sub_enumerate
    have q1 : ∀ {A' : Around} {E : Value → Shared → Prop} {Q : Value → Shared → Prop}, Q (.ref hp.objs.size) ⟨hp.push { cls := .type "tuple_iterator", data := .fields #[.ref l, .int 0 0] }, g, d, tk, os⟩ → wpAny (model prog w) A' (pyIter (.ref l)) Q E ⟨hp, g, d, tk, os⟩ :=
      fun q => wpAny_pyIter_tuple hL q
    wp_walk using q1
    refine wpAny_stack_any fun st => wpAny_pure ?_
    split
    · rename_i c _ _ _ _ _
      cases (c == Value.type "enumerate")
      · wp_walk using q1
        exact ⟨_, rfl, h⟩
      · wp_walk using q1
        exact ⟨_, rfl, h⟩
    · wp_walk using q1
      exact ⟨_, rfl, h⟩
section
variable {prog : Program} {w : World} {A : Around} {E : Value → Shared → Prop} {s : Shared}
theorem call_enumerate_tuple {l : Addr} {items : Array Value} {Q : Value → Shared → Prop} (hL : s.heap.IsTuple l items)
    (h : ∀ h', IsEnum h' (s.heap.objs.size + 1) s.heap.objs.size 0 .none → h'.IsTupleIter s.heap.objs.size l 0 → h'.objs.size = s.heap.objs.size + 2 →
      (∀ b o, s.heap.get? b = some o → h'.get? b = some o) → Q (.ref (s.heap.objs.size + 1)) { s with heap := h' }) :
    wpAny (model prog w) A (call (.type "enumerate") [.ref l]) Q E s := by
  refine callType_new F.called_enumerate (by decide) (F.typeCall_enumerate_1 _) (F.newCall_enumerate_1 _) (fun obj => F.args_object_init_2 obj _) F.entry_enumerate_new
    (meets_enumerate_newT l items) ⟨hL, ?_⟩
  have hz : (s.heap.push { cls := .type "tuple_iterator", data := .fields #[.ref l, .int 0 0] }).objs.size = s.heap.objs.size + 1 := Heap.size_push ..
  show _ ∧ _
  rw [hz]
  have he : IsEnum ((s.heap.push { cls := .type "tuple_iterator", data := .fields #[.ref l, .int 0 0] }).push
      { cls := .type "enumerate", data := .fields #[.none, .bool false, .ref s.heap.objs.size, rawInt 0, .none, .none] }) (s.heap.objs.size + 1) s.heap.objs.size 0 .none := by
    have := Heap.get?_push_size (s.heap.push { cls := .type "tuple_iterator", data := .fields #[.ref l, .int 0 0] })
      (o := { cls := .type "enumerate", data := .fields #[.none, .bool false, .ref s.heap.objs.size, rawInt 0, .none, .none] }) rfl
    rw [hz] at this; exact this
  refine ⟨⟨_, he, rfl⟩, h _ he ⟨_, Heap.get?_push_of_some _ (Heap.get?_push_size _ rfl), rfl, rfl⟩ (by rw [Heap.size_push, hz]) fun b o x => Heap.get?_push_of_some _ (Heap.get?_push_of_some _ x)⟩
theorem enum_endT {e it l : Addr} {i : Nat} {j : Int} {items : Array Value} {old : Value} {Q : Option Value → Shared → Prop} (hh : A.handled = none)
    (he : IsEnum s.heap e it j old) (hit : s.heap.IsTupleIter it l i) (hl : s.heap.IsTuple l items) (hx : items[i]? = none)
    (hQ : ∀ h', Heap.ExtBut it s.heap h' → Q none { s with heap := h' }) : wpAny (model prog w) A (pyNext (.ref e)) Q E s := by
  have hT : s.TypeIs (.ref e) "enumerate" := ⟨_, he, rfl⟩
  unfold pyNext
  refine wpAny_bind (wpAny_attempt (wpAny_callSpecial?_slot (name := Str.ofString "__next__") hT F.slot_enumerate_next
    (wpAny_call_entry F.slot_enumerate_next hT F.entry_enumerate_next ?_ (F.args_enumerate_next_1 _))))
  show wpAny _ _ (field (.ref e) 2 >>= _) _ _ _
  refine wpAny_bind (wpAny_field he rfl (x := .ref it) rfl ?_)
  refine wpAny_bind (wpAny_nextOf_tuple_end (A := A.in1) hh hit hl hx fun h' x he' hx' => ?_)
  obtain ⟨o, ho, hc⟩ := hx'
  refine wpAny_bind (wpAny_isInstance (T := "StopIteration") (b := true) ⟨o, ho, hc⟩ isSubtype_stop ?_)
  exact wpAny_pure (hQ _ he')
end
def IteT (K : W.Frag) (a : Addr) : It :=
  ⟨fun i H => ∃ (xs : List V) (x : V), SqT K H a xs ∧ xs[i]? = some x, fun i H v H' => ∃ T x, v = .ref T ∧ H T = none ∧ H' = upd H T (.tup [.int (i : Nat), x]) ∧ ∀ xs, SqT K H a xs → xs[i]? = some x, fun i H => ∃ xs : List V, SqT K H a xs ∧ xs.length ≤ i⟩
theorem turn_enumT {P : Program} {w : World} {K : W.Frag} {elts : List Expr} {kk : Nat} {tpos : Pos} (a e it : Addr) :
    Turn P w K (.Tuple elts kk tpos) (IteT K a) [e, it] e (fun i h => (∃ old, IsEnum h e it ((i : Nat) : Int) old) ∧ h.IsTupleIter it a i ∧ e ≠ it ∧ a ≠ it ∧ a ≠ e) where
  mem := by simp
  obj := fun i h st b hb => by
    obtain ⟨⟨old, he⟩, ⟨o, ho, hc, hd⟩, _⟩ := st
    have e' : b = e ∨ b = it := by simpa using hb
    rcases e' with z | z
    · rw [z]; exact ⟨_, he, fun v q => nomatch q⟩
    · rw [z]; exact ⟨o, ho, fun v q => by rw [hd] at q; cases q⟩
  keep := fun i h h' st k => let ⟨⟨old, he⟩, hi, hne⟩ := st; ⟨⟨old, k e (by simp) _ he⟩, hi.at fun o q => k it (by simp) o q, hne⟩
  item := by
    intro X hP hw hK hc i pins s σ H E I hf st hg
    subst hP hw hK
    obtain ⟨⟨old, he⟩, hit, hne, hai, hae⟩ := st
    obtain ⟨xs, x, hq, hx⟩ := hg
    obtain ⟨its, rv, p, hz⟩ := I.tuple hq
    obtain ⟨u, hu, ru⟩ := rv.get hx
    have hel : e < s.heap.objs.size := Heap.lt_size he
    have hil : it < s.heap.objs.size := by obtain ⟨_, q, _⟩ := hit; exact Heap.lt_size q
    have hlt : i < its.toArray.size := by
      have := (List.getElem?_eq_some_iff.mp hu).1
      simpa using this
    refine wpAny_pyNext_enum_itemD (Draws.tuple (prog := X.prog) (w := X.w) (A := X.A.in1) (show X.A.in1.handled = none from I.ok.hd hc) it a hai its.toArray) he ⟨hit, p⟩ hlt hne (by
      intro z
      rcases List.mem_cons.mp z with z | z
      · exact hne z
      · exact hae (List.mem_singleton.mp z).symm) fun v h' tk hv ho hst' hT hsz hk => ?_
    have ev : v = u := by
      have hv' : its[i]? = some v := by simpa using hv
      rw [hu] at hv'; exact (Option.some.inj hv').symm
    subst ev
    refine ⟨_, rfl, wpAny_letOwnedTupleGo_enum (s := { s with heap := h', toks := tk + 1 }) ho fun h'' he' sb => ?_⟩
    have hT2 : h''.get? s.heap.objs.size = some { cls := .type "tuple", data := .seq #[.int i tk, v] } := (sb.2 _ (Nat.ne_of_gt hel)).trans hT
    have new : ObjOk X.prog X.w (upd H s.heap.objs.size (.tup [.int (i : Nat), x])) h'' s.heap.objs.size (.tup [.int (i : Nat), x]) :=
      ⟨by show 2 ≤ sizeLine; decide, [.int i tk, v], .cons ⟨_, rfl⟩ (.cons ru .nil), ⟨_, hT2, rfl, _, rfl⟩⟩
    have I1 : L2.Inv X pins σ (upd H s.heap.objs.size (.tup [.int (i : Nat), x])) { s with heap := h'', toks := tk + 1 } :=
      I.turnedNew (ch := [e, it]) (fun b ob hb q => (sb.2 b (fun z => hb (by simp [z]))).trans (hk b ob (fun z => hb (by simp [z])) (fun z => hb (by simp [z])) q)) hf (Nat.le_refl _) new
    refine ⟨.ref s.heap.objs.size, _, I1, rfl, ⟨_, x, rfl, I.hok.fresh (Nat.le_refl _), rfl, fun ys hy => by rw [I.tuple_inj hy hq]; exact hx⟩, ⟨⟨v, ?_⟩, hst'.1.at fun o q => (sb.2 it (Ne.symm hne)).trans q, hne, hai, hae⟩, fun b hb => ?_⟩
    · have e1 : ((i + 1 : Nat) : Int) = (i : Int) + 1 := by omega
      rw [e1]; exact he'
    · have hb' : b < s.heap.objs.size := by
        have e' : b = e ∨ b = it := by simpa using hb
        rcases e' with z | z
        · rw [z]; exact hel
        · rw [z]; exact hil
      rw [upd_ne (Nat.ne_of_lt hb')]
      exact (hf b hb).1
  done := by
    intro X hP hw hK hc i pins s σ H E I hf st hg
    subst hP hw hK
    obtain ⟨⟨old, he⟩, hit, hne, hai, hae⟩ := st
    obtain ⟨xs, hq, hx⟩ := hg
    obtain ⟨its, rv, p, hz⟩ := I.tuple hq
    obtain ⟨f0, f1, f2, f3, f4, f5⟩ := hf it (by simp)
    have hl := rv.length
    exact enum_endT (I.ok.hd hc) he hit p (by simp; omega) fun h' eb => ⟨rfl, I.turned (t' := s.toks) (fun b o hb q => eb b o hb q) f0 f1 f3 f4 f5⟩
  self := fun A i s Q E st h => let ⟨⟨_, he⟩, _⟩ := st; wpAny_pyIter_enum he h
section
variable {X : Cx} {G : Gc} {L : Nat} {bl : List Str} {e a b : Expr} {f g : DE} {pos p tpos : Pos} {elts : List Expr} {kk : Nat}
theorem pi_enumA {te : TE} (hg : Gl X "enumerate") (hm : X.mg "enumerate" = none) (ha : PE X a te) (hs : starEach [a] X.env = (false, eval a X.env) :: starEach [] X.env) :
    PI X (.Tuple elts kk tpos) (.Call (.Name "enumerate" p) [a] [] pos) (fun σ H R => te σ H fun v H1 => ∃ q xs, v = .ref q ∧ ((SqL X.K H1 q xs ∧ (xs.length ≤ sizeLine → R (Ite X.K q) H1)) ∨ (SqT X.K H1 q xs ∧ (xs.length ≤ sizeLine → R (IteT X.K q) H1)))) := by
  refine ⟨fun pins s σ H R I h => ?_⟩
  refine Call_ (ld_blt I hg hm boot_enumerate (PyProof.Rows.callWith_type1 (thn ((pa_cons ha pa_nil hs).run pos pins s σ H (fun vs H1 => ∃ q xs, vs = [.ref q] ∧ ((SqL X.K H1 q xs ∧ (xs.length ≤ sizeLine → R (Ite X.K q) H1)) ∨ (SqT X.K H1 q xs ∧ (xs.length ≤ sizeLine → R (IteT X.K q) H1)))) I ?_) fun us s1 ⟨vs, H1, I1, r1, q1⟩ => ?_) hs rfl))
  · have key : ∀ (Q Q' : VK), (∀ v H', Q v H' → Q' v H') → Q = Q' → True := fun _ _ _ _ => trivial
    show te σ H fun x H1 => tNil σ H1 fun xs H2 => _
    unfold tNil
    have e : (fun (x : V) (H1 : Hp) => ∃ q xs, [x] = [V.ref q] ∧ ((SqL X.K H1 q xs ∧ (xs.length ≤ sizeLine → R (Ite X.K q) H1)) ∨ (SqT X.K H1 q xs ∧ (xs.length ≤ sizeLine → R (IteT X.K q) H1)))) = (fun (v : V) (H1 : Hp) => ∃ q xs, v = .ref q ∧ ((SqL X.K H1 q xs ∧ (xs.length ≤ sizeLine → R (Ite X.K q) H1)) ∨ (SqT X.K H1 q xs ∧ (xs.length ≤ sizeLine → R (IteT X.K q) H1)))) := by
      funext x H1
      simp only [List.cons.injEq, and_true]
    rw [e]
    exact h
  · obtain ⟨a, xs, ex, hq⟩ := q1
    subst ex
    cases r1 with
    | cons r rr =>
      cases rr
      cases r
      have fin : ∀ {h' : Heap} {b : Addr}, b ∈ [s1.heap.objs.size + 1, s1.heap.objs.size] → FpOk X pins H1 b := fun {h' b} hb => by
        have e' : b = s1.heap.objs.size + 1 ∨ b = s1.heap.objs.size := by simpa using hb
        have hle : s1.heap.objs.size ≤ b := by
          rcases e' with z | z
          · rw [z]; exact Nat.le_add_right _ _
          · rw [z]; exact Nat.le_refl _
        exact I1.fpOk hle (I1.hok.fresh hle)
      rcases hq with ⟨hq, q⟩ | ⟨hq, q⟩
      · obtain ⟨its, rv, p', hz⟩ := I1.list hq
        refine call_enumerate_list p'.isList fun h' he hit hsz hk => wpAny_pyIter_enum he ?_
        exact ⟨s1.heap.objs.size + 1, [s1.heap.objs.size + 1, s1.heap.objs.size], _, _, H1, rfl, I1.kept (t' := s1.toks) hk, turn_enum a (s1.heap.objs.size + 1) s1.heap.objs.size, ⟨⟨.none, he⟩, hit, Nat.succ_ne_self _⟩, fun b hb => fin (h' := h') hb, q hz⟩
      · obtain ⟨its, rv, p', hz⟩ := I1.tuple hq
        have hlt := p'.lt
        refine call_enumerate_tuple (show s1.heap.IsTuple a its.toArray from p') fun h' he hit hsz hk => wpAny_pyIter_enum he ?_
        exact ⟨s1.heap.objs.size + 1, [s1.heap.objs.size + 1, s1.heap.objs.size], _, _, H1, rfl, I1.kept (t' := s1.toks) hk, turn_enumT a (s1.heap.objs.size + 1) s1.heap.objs.size, ⟨⟨.none, he⟩, hit, Nat.succ_ne_self _, Nat.ne_of_lt hlt, Nat.ne_of_lt (Nat.lt_succ_of_lt hlt)⟩, fun b hb => fin (h' := h') hb, q hz⟩
def enuL : Nat → List D → List D
  | _, [] => []
  | n, d :: ds => .tuple [.int (n : Int), d] :: enuL (n + 1) ds
theorem enuL_length : ∀ (ds : List D) (n : Nat), (enuL n ds).length = ds.length
  | [], _ => rfl
  | _ :: ds, n => by simp [enuL, enuL_length ds (n + 1)]
theorem enuL_get : ∀ (ds : List D) (n i : Nat), (enuL n ds)[i]? = (ds[i]?).map fun d => .tuple [.int ((n + i : Nat) : Int), d]
  | [], _, _ => by simp [enuL]
  | d :: ds, n, 0 => by simp [enuL]
  | d :: ds, n, i + 1 => by
    have := enuL_get ds (n + 1) i
    simp only [enuL, List.getElem?_cons_succ, this]
    congr 1
    funext x
    rw [show n + 1 + i = n + (i + 1) by omega]
theorem walk_enum {K : W.Frag} {M O : Addr → Prop} {H : Hp} {a : Addr} {ds : List D} {vs : List V} (hm : ∀ a, M a → O a) (hz : vs.length ≤ sizeLine) (h1 : SqL K H a vs) (n : ¬ M a) (h2 : AtL K H O ds vs) : Walk K false M O (Ite K a) H (enuL 0 ds) where
  len := by rw [enuL_length, ← h2.length]; exact hz
  go := fun i d H' e k => by
    rw [enuL_get] at e
    obtain ⟨d', e', rfl⟩ := Option.map_eq_some_iff.mp e
    obtain ⟨v, e1, a1⟩ := h2.get e'
    have q := sqL_kp k n h1
    refine ⟨⟨vs, v, q, e1⟩, fun x H'' y => ?_⟩
    obtain ⟨T, x', rfl, nT, rfl, y2⟩ := y
    have := y2 vs q
    rw [e1] at this; cases this
    refine ⟨same_upd nT, fun O' g t => ⟨T, _, rfl, .of upd_same, _, _, rfl, by rw [Nat.zero_add]; rfl, _, _, rfl, (a1.move hm k g).same (same_upd nT), rfl⟩⟩
  stop := fun H' k => ⟨vs, sqL_kp k n h1, by rw [enuL_length, h2.length]; exact Nat.le_refl _⟩
theorem walk_enumT {K : W.Frag} {M O : Addr → Prop} {H : Hp} {a : Addr} {ds : List D} {vs : List V} (hm : ∀ a, M a → O a) (hz : vs.length ≤ sizeLine) (h1 : SqT K H a vs) (n : ¬ M a) (h2 : AtL K H O ds vs) : Walk K false M O (IteT K a) H (enuL 0 ds) where
  len := by rw [enuL_length, ← h2.length]; exact hz
  go := fun i d H' e k => by
    rw [enuL_get] at e
    obtain ⟨d', e', rfl⟩ := Option.map_eq_some_iff.mp e
    obtain ⟨v, e1, a1⟩ := h2.get e'
    have q := sqT_kp k n h1
    refine ⟨⟨vs, v, q, e1⟩, fun x H'' y => ?_⟩
    obtain ⟨T, x', rfl, nT, rfl, y2⟩ := y
    have := y2 vs q
    rw [e1] at this; cases this
    refine ⟨same_upd nT, fun O' g t => ⟨T, _, rfl, .of upd_same, _, _, rfl, by rw [Nat.zero_add]; rfl, _, _, rfl, (a1.move hm k g).same (same_upd nT), rfl⟩⟩
  stop := fun H' k => ⟨vs, sqT_kp k n h1, by rw [enuL_length, h2.length]; exact Nat.le_refl _⟩
def enuE (f : DE) : DI := fun ρ => do let ds ← seqE f ρ; pure (enuL 0 ds)
theorem i_enumS (C : Ctx X G L bl) (hg : Gl X "enumerate") (hm : ("enumerate" : Str) ∈ bl) (ha : PE X a (tS G f)) (hs : starEach [a] X.env = (false, eval a X.env) :: starEach [] X.env) : PI X (.Tuple elts kk tpos) (.Call (.Name "enumerate" p) [a] [] pos) (tIt G false false (enuE f)) := by
  refine pi_imp (pi_enumA hg (C.blt _ hm) ha hs) fun σ H R kf w => fun k => ?_
  obtain ⟨O, ρ, R0, q⟩ := w k
  refine ⟨O, ρ, R0, q.bind.bind.imp fun d _ q v H1 s1 k1 a1 => ?_⟩
  rw [C.K]
  cases d with
  | list ds =>
    obtain ⟨a, vs, rfl, h1, n1, h2⟩ := a1
    exact ⟨a, vs, rfl, .inl ⟨h1, fun hz _ => q _ _ s1 k1 (walk_enum mk_le hz h1 n1 h2)⟩⟩
  | tuple ds =>
    obtain ⟨a, vs, rfl, h1, n1, h2⟩ := a1
    exact ⟨a, vs, rfl, .inr ⟨h1.q, fun hz _ => q _ _ s1 k1 (walk_enumT mk_le hz h1.q n1 h2)⟩⟩
  | _ => exact q.elim
end
end Den
namespace Den
open PySem PySem.Spec PyProof.Rows L2
def zipL : List D → List D → List D
  | x :: xs, y :: ys => .tuple [x, y] :: zipL xs ys
  | _, _ => []
theorem zipL_length : ∀ xs ys : List D, (zipL xs ys).length = min xs.length ys.length
  | [], _ => by simp [zipL]
  | _ :: _, [] => by simp [zipL]
  | x :: xs, y :: ys => by simp [zipL, zipL_length xs ys]
theorem zipL_get : ∀ (xs ys : List D) (i : Nat) (d : D), (zipL xs ys)[i]? = some d → ∃ x y, xs[i]? = some x ∧ ys[i]? = some y ∧ d = .tuple [x, y]
  | [], _, i, d, h => by simp [zipL] at h
  | _ :: _, [], i, d, h => by simp [zipL] at h
  | x :: xs, y :: ys, 0, d, h => by
    simp [zipL] at h
    exact ⟨x, y, rfl, rfl, h.symm⟩
  | x :: xs, y :: ys, i + 1, d, h => by
    obtain ⟨a, b, h1, h2, h3⟩ := zipL_get xs ys i d (by simpa [zipL] using h)
    exact ⟨a, b, by simpa using h1, by simpa using h2, h3⟩
section
variable {K : W.Frag} {M O : Addr → Prop} {H : Hp} {a b : Addr} {ds es : List D} {vs us : List V}
theorem walk_zipL (hm : ∀ a, M a → O a) (hz : vs.length ≤ sizeLine) (h1 : SqL K H a vs) (n1 : ¬ M a) (l1 : AtL K H O ds vs) (h2 : SqL K H b us) (n2 : ¬ M b) (l2 : AtL K H O es us) : Walk K false M O (Itz K a b) H (zipL ds es) where
  len := by rw [zipL_length, ← l1.length]; omega
  go := fun i d H' e k => by
    obtain ⟨x, y, ex, ey, rfl⟩ := zipL_get _ _ _ _ e
    obtain ⟨v, e1, a1⟩ := l1.get ex
    obtain ⟨u, e2, a2⟩ := l2.get ey
    have q1 := sqL_kp k n1 h1
    have q2 := sqL_kp k n2 h2
    refine ⟨⟨vs, us, v, u, q1, q2, e1, e2⟩, fun z H'' yy => ?_⟩
    obtain ⟨T, x', y', rfl, nT, rfl, z1, z2⟩ := yy
    have w1 := z1 vs q1
    have w2 := z2 us q2
    rw [e1] at w1; rw [e2] at w2
    cases w1; cases w2
    exact ⟨same_upd nT, fun O' g t => ⟨T, _, rfl, .of upd_same, _, _, rfl, (a1.move hm k g).same (same_upd nT), _, _, rfl, (a2.move hm k g).same (same_upd nT), rfl⟩⟩
  stop := fun H' k => ⟨vs, us, sqL_kp k n1 h1, sqL_kp k n2 h2, by rw [zipL_length, l1.length, l2.length]; omega⟩
theorem walk_zipT (hm : ∀ a, M a → O a) (hz : vs.length ≤ sizeLine) (h1 : SqT K H a vs) (n1 : ¬ M a) (l1 : AtL K H O ds vs) (h2 : SqT K H b us) (n2 : ¬ M b) (l2 : AtL K H O es us) : Walk K false M O (RZ.ItzT K a b) H (zipL ds es) where
  len := by rw [zipL_length, ← l1.length]; omega
  go := fun i d H' e k => by
    obtain ⟨x, y, ex, ey, rfl⟩ := zipL_get _ _ _ _ e
    obtain ⟨v, e1, a1⟩ := l1.get ex
    obtain ⟨u, e2, a2⟩ := l2.get ey
    have q1 := sqT_kp k n1 h1
    have q2 := sqT_kp k n2 h2
    refine ⟨⟨vs, us, v, u, q1, q2, e1, e2⟩, fun z H'' yy => ?_⟩
    obtain ⟨T, x', y', rfl, nT, rfl, z1, z2⟩ := yy
    have w1 := z1 vs q1
    have w2 := z2 us q2
    rw [e1] at w1; rw [e2] at w2
    cases w1; cases w2
    exact ⟨same_upd nT, fun O' g t => ⟨T, _, rfl, .of upd_same, _, _, rfl, (a1.move hm k g).same (same_upd nT), _, _, rfl, (a2.move hm k g).same (same_upd nT), rfl⟩⟩
  stop := fun H' k => ⟨vs, us, sqT_kp k n1 h1, sqT_kp k n2 h2, by rw [zipL_length, l1.length, l2.length]; omega⟩
end
def zipD : List D → Rs (List D)
  | [.list xs, .list ys] => if xs.length ≤ big then .ok (zipL xs ys) else .stuck
  | [.tuple xs, .tuple ys] => if xs.length ≤ big then .ok (zipL xs ys) else .stuck
  | _ => .stuck
def zipE (fs : Ro → Rs (List D)) : DI := fun ρ => do let ds ← fs ρ; zipD ds
section
variable {X : Cx} {G : Gc} {L : Nat} {bl : List Str} {a b : Expr} {fs : Ro → Rs (List D)} {pos p tpos : Pos} {elts : List Expr} {kk : Nat}
theorem i_zipS (C : Ctx X G L bl) (hg : Gl X "zip") (hm : X.mg "zip" = none) (ha : PA X [a, b] (tArg G fs)) (hs : starEach [a, b] X.env = (false, eval a X.env) :: starEach [b] X.env) (hpl : (backTo pos (starEach [b] X.env)).any (·.1) = false) : PI X (.Tuple elts kk tpos) (.Call (.Name "zip" p) [a, b] [] pos) (tIt G false false (zipE fs)) := by
  refine pi_imp (RZ.pi_zipA hg hm ha hs hpl) fun σ H R kf w => fun k => ?_
  obtain ⟨O, ρ, R0, q⟩ := w k
  refine ⟨O, ρ, R0, q.bind.imp fun ds _ q vs H1 s1 k1 a1 => ?_⟩
  unfold zipD at q
  split at q
  · split at q
    · rename_i hz
      obtain ⟨v, r, rfl, ⟨a', us, rfl, h1, n1, l1⟩, v2, r2, rfl, ⟨b', us2, rfl, h2, n2, l2⟩, e⟩ := a1
      cases e
      refine ⟨a', b', us, us2, rfl, .inl ⟨C.K ▸ h1, C.K ▸ h2, fun _ => ?_⟩⟩
      rw [C.K]
      exact q _ _ s1 k1 (walk_zipL (mk_le (wk := false)) (by rw [l1.length]; exact big_line hz) h1 n1 l1 h2 n2 l2)
    · exact q.elim
  · split at q
    · rename_i hz
      obtain ⟨v, r, rfl, ⟨a', us, rfl, h1, n1, l1⟩, v2, r2, rfl, ⟨b', us2, rfl, h2, n2, l2⟩, e⟩ := a1
      cases e
      refine ⟨a', b', us, us2, rfl, .inr ⟨C.K ▸ h1.q, C.K ▸ h2.q, fun _ => ?_⟩⟩
      rw [C.K]
      exact q _ _ s1 k1 (walk_zipT (mk_le (wk := false)) (by rw [l1.length]; exact big_line hz) h1.q n1 l1 h2.q n2 l2)
    · exact q.elim
  · exact q.elim
end
end Den
namespace Den
open PySem PySem.Spec PyProof.Rows L2
inductive Fl | nx | rt (d : D) | bk | ct
abbrev DS := Ro → Rs (Fl × Ro)
def Stp (K : W.Frag) (O : Addr → Prop) (H : Hp) (O' : Addr → Prop) (H' : Hp) : Prop := Kp O H H' ∧ ∀ a, O' a → O a ∨ (H a = none ∧ K.lookup a = none)
theorem Stp.same {K : W.Frag} {O : Addr → Prop} {H H' : Hp} (s : Same H H') : Stp K O H O H' := ⟨.of_same s, fun _ h => .inl h⟩
theorem Stp.trans {K : W.Frag} {O O' O'' : Addr → Prop} {H H' H'' : Hp} (a : Stp K O H O' H') (b : Stp K O' H' O'' H'') : Stp K O H O'' H'' := by
  refine ⟨fun x o e n => b.1 x o (a.1 x o e n) fun z => ?_, fun x z => ?_⟩
  · rcases a.2 x z with q | q
    · exact n q
    · rw [q.1] at e; cases e
  · rcases b.2 x z with q | q
    · exact a.2 x q
    · by_cases hO : O x
      · exact .inl hO
      · refine .inr ⟨?_, q.2⟩
        cases e : H x with
        | none => rfl
        | some o =>
          have := a.1 x o e hO
          rw [q.1] at this; cases this
def PostS (G : Gc) (O : Addr → Prop) (H : Hp) (r : Rs (Fl × Ro)) (Dn : Ends) : Prop :=
  match r with
  | .ok (.nx, ρ') => ∀ O' σ' H', Stp G.K O H O' H' → Rep G O' σ' H' ρ' → Dn.nx σ' H'
  | .ok (.rt d, ρ') => ∀ v H', SameX G H' → KF G.K H' → At G.K H' G.O0 d v → DpAt G H' ρ' → Dn.rt v H'
  | .ok (.bk, ρ') => ∀ O' σ' H', Stp G.K O H O' H' → Rep G O' σ' H' ρ' → Dn.bk σ' H'
  | .ok (.ct, ρ') => ∀ O' σ' H', Stp G.K O H O' H' → Rep G O' σ' H' ρ' → Dn.ct σ' H'
  | .exc c => ∀ H', SameX G H' → G.E (G.cl c) none H'
  | .stuck => False
def tSS (G : Gc) (f : DS) : TS := fun Dn σ H => KF G.K H → ∃ O ρ, Rep G O σ H ρ ∧ PostS G O H (f ρ) Dn
theorem PostS.step {G : Gc} {O O' : Addr → Prop} {H H' : Hp} {r : Rs (Fl × Ro)} {Dn : Ends} (p : PostS G O H r Dn) (s : Stp G.K O H O' H') : PostS G O' H' r Dn := by
  cases r with
  | ok a =>
    obtain ⟨fl, ρ'⟩ := a
    cases fl with
    | nx => exact fun O2 σ2 H2 s2 R2 => p O2 σ2 H2 (s.trans s2) R2
    | rt d => exact p
    | bk => exact fun O2 σ2 H2 s2 R2 => p O2 σ2 H2 (s.trans s2) R2
    | ct => exact fun O2 σ2 H2 s2 R2 => p O2 σ2 H2 (s.trans s2) R2
  | exc c => exact p
  | stuck => exact p
theorem PostS.exc_of {α : Type} {G : Gc} {O : Addr → Prop} {H : Hp} {r : Rs α} {f : α → Rs (Fl × Ro)} {Dn : Ends} {Q : α → Prop} (p : PostS G O H (r >>= f) Dn) (h : ∀ a, r = .ok a → PostS G O H (f a) Dn → Q a) : Post G H r Q := by
  cases r with
  | ok a => exact h a rfl p
  | exc c => exact p
  | stuck => exact p
section
variable {X : Cx} {G : Gc} {L : Nat} {bl : List Str} {a b c e tg iter : Expr} {st : Stmt} {rest : List Stmt} {f g h : DE} {F U : DS} {pos p : Pos} {x : Str}
structure SCtx (X : Cx) (G : Gc) (L : Nat) (bl : List Str) : Prop extends Ctx X G L bl where
  po : PassesOwn (model X.prog X.w) X.A X.env X.xe
  fn : ∀ x, X.fn x = true
def nxS : DS := fun ρ => .ok (.nx, ρ)
def seqS (f g : DS) : DS := fun ρ => do
  let r ← f ρ
  match r with
  | (.nx, ρ1) => g ρ1
  | r => .ok r
theorem ss_nil (C : Ctx X G L bl) : PSs X [] (tSS G nxS) := by
  refine pss_imp pss_nil fun Dn σ H kf w => ?_
  obtain ⟨O, ρ, R, q⟩ := w (C.kf kf)
  exact q O σ H (.same (Same.refl _)) R
theorem ss_cons (C : Ctx X G L bl) (h1 : PS X st (tSS G F)) (h2 : PSs X rest (tSS G U)) : PSs X (st :: rest) (tSS G (seqS F U)) := by
  refine pss_imp (pss_cons h1 h2) fun Dn σ H kf w => fun k => ?_
  obtain ⟨O, ρ, R, q⟩ := w k
  refine ⟨O, ρ, R, ?_⟩
  unfold seqS at q
  cases hF : F ρ with
  | ok r =>
    rw [hF] at q
    obtain ⟨fl, ρ1⟩ := r
    cases fl with
    | nx => exact fun O' σ' H' s R' k' => ⟨O', ρ1, R', PostS.step (r := U ρ1) q s⟩
    | rt d => exact q
    | bk => exact q
    | ct => exact q
  | exc c => rw [hF] at q; exact q
  | stuck => rw [hF] at q; exact q
def retS (f : DE) : DS := fun ρ => do let d ← f ρ; pure (.rt d, ρ)
theorem s_ret (ha : PE X a (tS G f)) : PS X (.Return (some a) pos) (tSS G (retS f)) := by
  refine ps_imp (ps_ret ha) fun Dn σ H kf w => fun k => ?_
  obtain ⟨O, ρ, R, q⟩ := w k
  refine ⟨O, ρ, R, PostS.exc_of (r := f ρ) (O := O) q fun d _ q v H' s k' a => ?_⟩
  exact q v H' (R.base.trans s) k' (a.less R.sub) (R.dpAt s)
theorem s_retO (C : Ctx X G L bl) {i : Nat} {p : Pos} (hdt : G.dct i = false) (hN : X.N[i]? = some x) (hv : Vis X.env.scope x) (hd : (x == ("__debug__" : Str)) = false) (hcd : (x == ("__classdict__" : Str)) = false) : PS X (.Return (some (.Name x p)) pos) (tSS G (retS (vaR i))) := by
  refine ps_imp (ps_ret (pe_var hN hv hd hcd)) fun Dn σ H kf w => ?_
  have k := C.kf kf
  obtain ⟨O, ρ, R, q⟩ := w k
  unfold retS vaR at q
  split at q
  · rename_i d e
    cases hw : G.own i with
    | false =>
      obtain ⟨v, e1, h1⟩ := R.slot i d e hw
      exact ⟨v, e1, q v H R.base k (h1.less R.sub) (R.dpAt (Same.refl _))⟩
    | true =>
      obtain ⟨a, ds, vs, rfl, e1, e2, h1, h2, h3⟩ := R.lst e hw hdt
      exact ⟨.ref a, e1, q _ H R.base k ⟨a, vs, rfl, .of e2, h3, h1.less R.sub⟩ (R.dpAt (Same.refl _))⟩
  · exact q.elim
def retN : DS := fun ρ => .ok (.rt .none, ρ)
theorem s_retN (C : Ctx X G L bl) : PS X (.Return none pos) (tSS G retN) := by
  refine ps_imp ps_retN fun Dn σ H kf w => ?_
  have k := C.kf kf
  obtain ⟨O, ρ, R, q⟩ := w k
  exact q .non H R.base k rfl (R.dpAt (Same.refl _))
def iteS (t : DE) (f g : DS) : DS := fun ρ => do let b ← tstE t ρ; if b then f ρ else g ρ
theorem s_if {A B : List Stmt} {t : DE} (hc : PT X c (tTst G (tstE t))) (ha : PSs X A (tSS G F)) (hb : PSs X B (tSS G U)) : PS X (.If c A B pos) (tSS G (iteS t F U)) := by
  refine ps_imp (ps_if hc ha hb) fun Dn σ H kf w => fun k => ?_
  obtain ⟨O, ρ, R, q⟩ := w k
  refine ⟨O, ρ, R, PostS.exc_of (r := tstE t ρ) (O := O) q fun b _ q H' s k' => ?_⟩
  cases b with
  | true => exact (if_pos rfl).mpr fun k'' => ⟨O, ρ, R.same s, PostS.step (r := F ρ) q (.same s)⟩
  | false => exact (if_neg Bool.false_ne_true).mpr fun k'' => ⟨O, ρ, R.same s, PostS.step (r := U ρ) q (.same s)⟩
def exprS (f : DE) : DS := fun ρ => do let _ ← f ρ; pure (.nx, ρ)
theorem s_expr (ha : PE X a (tS G f)) (hs : swapsWith a none pos.line X.env = pure false) : PS X (.Expr a pos) (tSS G (exprS f)) := by
  refine ps_imp (ps_expr ha hs) fun Dn σ H kf w => fun k => ?_
  obtain ⟨O, ρ, R, q⟩ := w k
  refine ⟨O, ρ, R, PostS.exc_of (r := f ρ) (O := O) q fun d _ q v H' s k' a => ?_⟩
  exact q O σ H' (.same s) (R.same s)
end
end Den
namespace Den
open PySem PySem.Spec PyProof.Rows L2
theorem Rep.plusD {G : Gc} {O : Addr → Prop} {σ : L2.St} {H H1 : Hp} {ρ : Ro} {p : Addr} {o : HO} (R : Rep G O σ H ρ) (s : Same H H1) (n : H p = none) (e : H1 p = some o) (nk : G.K.lookup p = none) : Rep G (fun a => O a ∨ a = p) σ H1 ρ := by
  have R' := R.same s
  refine ⟨R'.base, fun a h => .inl (R.sub a h), fun a h => ?_, fun a h hn => ?_, R.len, fun i d e nw => ?_, fun i d e nw => ?_, R.dist, R.dpa⟩
  · rcases h with h | h
    · exact R'.trk a h
    · exact ⟨o, by rw [h]; exact e⟩
  · rcases h with h | h
    · exact R.fre a h hn
    · rw [h]; exact R.base.free n
  · obtain ⟨v, e1, h1⟩ := R.slot i d e nw
    exact ⟨v, e1, (h1.grow n nk).same s⟩
  · obtain ⟨a, e1, h1, h2, h3⟩ := R.owns i d e nw
    exact ⟨a, e1, (h1.grow n nk).same s, .inl h2, h3⟩
structure New (G : Gc) (O : Addr → Prop) (H H1 : Hp) (p : Addr) (t : Bool) (d : D) : Prop where
  s : Same H H1
  n : H p = none
  k : G.K.lookup p = none
  at_ : OwnAt G.P G.w G.K H1 (fun a => O a ∨ a = p) p t d
theorem Rep.setOwn {G : Gc} {O : Addr → Prop} {σ : L2.St} {H H1 : Hp} {ρ : Ro} {i : Nat} {p : Addr} {d0 : D} (R : Rep G O σ H ρ) (N : New G O H H1 p (G.dct i) d0) (hw : G.own i = true) (hdp : ∀ a, G.dp ≠ some (i, a) ∧ G.fv ≠ some (i, a)) :
    Rep G (fun a => O a ∨ a = p) (σ.set i (some (.ref p))) H1 (ρ.set i (some d0)) := by
  obtain ⟨s, n, nk, oa⟩ := N
  obtain ⟨oo, e⟩ := oa.there
  have R' := R.plusD s n e nk
  have np : ¬ G.O0 p := fun z => by
    obtain ⟨o, e'⟩ := R.trk p (R.sub p z)
    rw [n] at e'; cases e'
  have older : ∀ j d, ρ[j]? = some (some d) → G.own j = true → ∀ b, σ[j]? = some (some (.ref b)) → b ≠ p := fun j d hj nj b hb z => by
    obtain ⟨b', e1, h1, _⟩ := R.owns j d hj nj
    rw [hb] at e1; cases e1
    obtain ⟨o', e2⟩ := h1.there
    rw [z, n] at e2; cases e2
  refine ⟨R'.base, R'.sub, R'.trk, R'.fre, by rw [List.length_set, List.length_set]; exact R.len, fun j e' hj nj => ?_, fun j e' hj nj => ?_, fun j k e1 e2 b hjk nj nk' hj hk h1 h2 => ?_, ⟨fun j b e' => ?_, fun j b e' => ?_⟩⟩
  · have ne : i ≠ j := fun z => by subst z; rw [hw] at nj; cases nj
    rw [List.getElem?_set_ne ne] at hj
    obtain ⟨u, e1, h1⟩ := R'.slot j e' hj nj
    exact ⟨u, by rw [List.getElem?_set_ne ne]; exact e1, h1⟩
  · rcases set_at hj with ⟨rfl, e1, hl⟩ | ⟨ne, hj'⟩
    · cases e1
      exact ⟨p, List.getElem?_set_self (by rw [← R.len]; exact hl), oa, .inr rfl, np⟩
    · obtain ⟨a', e1, r⟩ := R'.owns j e' hj' nj
      exact ⟨a', by rw [List.getElem?_set_ne ne]; exact e1, r⟩
  · rcases set_at hj with ⟨rfl, q1, l1⟩ | ⟨n1, hj'⟩
    · rcases set_at hk with ⟨rfl, _, _⟩ | ⟨n2, hk'⟩
      · exact hjk rfl
      · rw [List.getElem?_set_self (by rw [← R.len]; exact l1)] at h1
        cases h1
        rw [List.getElem?_set_ne n2] at h2
        exact older k e2 hk' nk' p h2 rfl
    · rw [List.getElem?_set_ne n1] at h1
      rcases set_at hk with ⟨rfl, q2, l2⟩ | ⟨n2, hk'⟩
      · rw [List.getElem?_set_self (by rw [← R.len]; exact l2)] at h2
        cases h2
        exact older j e1 hj' nj p h1 rfl
      · rw [List.getElem?_set_ne n2] at h2
        exact R.dist j k e1 e2 b hjk nj nk' hj' hk' h1 h2
  · obtain ⟨q1, q2, q3⟩ := R.dpa.1 j b e'
    have ne : i ≠ j := fun z => by subst z; exact (hdp b).1 e'
    refine ⟨q1, q2, fun d hd => ?_⟩
    rw [List.getElem?_set_ne ne] at hd ⊢
    exact q3 d hd
  · obtain ⟨q1, q2⟩ := R.dpa.2 j b e'
    have ne : i ≠ j := fun z => by subst z; exact (hdp b).2 e'
    exact ⟨q1, by rw [List.getElem?_set_ne ne]; exact q2⟩
inductive Kd | v | l | d
  deriving DecidableEq
def Kd.t : Kd → Bool | .d => true | _ => false
def Gc.kd (G : Gc) (i : Nat) : Kd := if G.own i = true then (if G.dct i = true then .d else .l) else .v
def Mix (G : Gc) : Hp → Hp → (Addr → Prop) → (Addr → Prop) → List Kd → List D → List V → Prop
  | H, H', O, O', [], [], [] => Same H H' ∧ O' = O
  | H, H', O, O', k :: fl, d :: ds, v :: vs => if k = .v then ∃ H1, Same H H1 ∧ At G.K H1 O d v ∧ Mix G H1 H' O O' fl ds vs
    else ∃ H1 p, v = .ref p ∧ New G O H H1 p k.t d ∧ Mix G H1 H' (fun a => O a ∨ a = p) O' fl ds vs
  | _, _, _, _, _, _, _ => False
def setV : L2.St → List Nat → List V → L2.St
  | σ, i :: is, v :: vs => setV (σ.set i (some v)) is vs
  | σ, _, _ => σ
def setD : Ro → List Nat → List D → Ro
  | ρ, i :: is, d :: ds => setD (ρ.set i (some d)) is ds
  | ρ, _, _ => ρ
theorem Mix.stp {G : Gc} : ∀ {fl : List Kd} {ds : List D} {vs : List V} {H H' : Hp} {O O' : Addr → Prop}, Mix G H H' O O' fl ds vs → Same H H' ∧ ∀ a, O' a → O a ∨ (H a = none ∧ G.K.lookup a = none)
  | [], [], [], _, _, _, _, h => ⟨h.1, fun a z => .inl (by rw [h.2] at z; exact z)⟩
  | k :: fl, d :: ds, v :: vs, H, H', O, O', h => by
    unfold Mix at h
    split at h
    · obtain ⟨H1, s, _, h2⟩ := h
      obtain ⟨s2, q⟩ := Mix.stp h2
      refine ⟨s.trans s2, fun a z => (q a z).imp id fun r => ⟨s.free r.1, r.2⟩⟩
    · obtain ⟨H1, p, _, N, h2⟩ := h
      obtain ⟨s2, q⟩ := Mix.stp h2
      refine ⟨N.s.trans s2, fun a z => ?_⟩
      rcases q a z with (r | r) | r
      · exact .inl r
      · exact .inr (by rw [r]; exact ⟨N.n, N.k⟩)
      · exact .inr ⟨N.s.free r.1, r.2⟩
  | [], _ :: _, _, _, _, _, _, h => h.elim
  | [], [], _ :: _, _, _, _, _, h => h.elim
  | _ :: _, [], _, _, _, _, _, h => h.elim
  | _ :: _, _ :: _, [], _, _, _, _, h => h.elim
theorem Mix.length {G : Gc} : ∀ {fl : List Kd} {ds : List D} {vs : List V} {H H' : Hp} {O O' : Addr → Prop}, Mix G H H' O O' fl ds vs → vs.length = fl.length
  | [], [], [], _, _, _, _, _ => rfl
  | k :: fl, d :: ds, v :: vs, _, _, _, _, h => by
    unfold Mix at h
    split at h
    · obtain ⟨_, _, _, h2⟩ := h; simp [Mix.length h2]
    · obtain ⟨_, _, _, _, h2⟩ := h; simp [Mix.length h2]
  | [], _ :: _, _, _, _, _, _, h => h.elim
  | [], [], _ :: _, _, _, _, _, h => h.elim
  | _ :: _, [], _, _, _, _, _, h => h.elim
  | _ :: _, _ :: _, [], _, _, _, _, h => h.elim
theorem Gc.kd_v {G : Gc} {i : Nat} : G.kd i = .v ↔ G.own i = false := by
  unfold Gc.kd
  cases G.own i <;> cases G.dct i <;> simp
theorem Gc.kd_t {G : Gc} {i : Nat} (h : G.kd i ≠ .v) : G.own i = true ∧ (G.kd i).t = G.dct i := by
  unfold Gc.kd at *
  cases h1 : G.own i <;> cases h2 : G.dct i <;> simp_all [Kd.t]
theorem Mix.rep {G : Gc} : ∀ {is : List Nat} {fl : List Kd} {ds : List D} {vs : List V} {H H' : Hp} {O O' : Addr → Prop} {σ : L2.St} {ρ : Ro}, fl = is.map G.kd → (∀ i ∈ is, ∀ a, G.dp ≠ some (i, a) ∧ G.fv ≠ some (i, a)) → Rep G O σ H ρ → Mix G H H' O O' fl ds vs → Rep G O' (setV σ is vs) H' (setD ρ is ds)
  | [], [], [], [], _, _, _, _, _, _, _, _, R, h => by
    rw [h.2]
    exact R.same h.1
  | i :: is, k :: fl, d :: ds, v :: vs, H, H', O, O', σ, ρ, e, hdp, R, h => by
    obtain ⟨e1, e2⟩ := List.cons.inj e
    unfold Mix at h
    split at h
    · rename_i hk
      obtain ⟨H1, s, a, h2⟩ := h
      exact Mix.rep (is := is) (fl := fl) (ds := ds) (vs := vs) e2 (fun i hi => hdp i (List.mem_cons_of_mem _ hi)) ((R.same s).set a (Gc.kd_v.mp (e1 ▸ hk))) h2
    · rename_i hk
      obtain ⟨H1, p, rfl, N, h2⟩ := h
      obtain ⟨q1, q2⟩ := Gc.kd_t (i := i) (e1 ▸ hk)
      rw [e1, q2] at N
      exact Mix.rep (is := is) (fl := fl) (ds := ds) (vs := vs) e2 (fun i hi => hdp i (List.mem_cons_of_mem _ hi)) (R.setOwn N q1 (hdp i List.mem_cons_self)) h2
  | _, [], _ :: _, _, _, _, _, _, _, _, _, _, _, h => h.elim
  | _, [], [], _ :: _, _, _, _, _, _, _, _, _, _, h => h.elim
  | _, _ :: _, [], _, _, _, _, _, _, _, _, _, _, h => h.elim
  | _, _ :: _, _ :: _, [], _, _, _, _, _, _, _, _, _, h => h.elim
  | [], _ :: _, _ :: _, _ :: _, _, _, _, _, _, _, e, _, _, _ => nomatch e
  | _ :: _, [], [], [], _, _, _, _, _, _, e, _, _, _ => nomatch e
def tMix (G : Gc) (fl : List Kd) (f : Ro → Rs (List D)) : TA := fun σ H Q => KF G.K H → ∃ O ρ, Rep G O σ H ρ ∧ Post G H (f ρ) fun ds => ∀ vs H' O', KF G.K H' → Mix G H H' O O' fl ds vs → Q vs H'
section
variable {X : Cx} {G : Gc} {L : Nat} {bl : List Str} {a b c e tg iter : Expr} {es : List Expr} {st : Stmt} {f g h : DE} {fs : Ro → Rs (List D)} {fl : List Kd} {F U : DS} {pos p : Pos} {x : Str} {i : Nat}
theorem m_nil (C : Ctx X G L bl) : PA X [] (tMix G [] noArg) := by
  refine pa_imp pa_nil fun σ H Q kf w => ?_
  have k := C.kf kf
  obtain ⟨O, ρ, R, p⟩ := w k
  exact fun _ => p [] H O k ⟨Same.refl H, rfl⟩
theorem m_consS (C : Ctx X G L bl) (ha : PE X e (tS G f)) (hs : PA X es (tMix G fl fs)) (hst : starEach (e :: es) X.env = (false, eval e X.env) :: starEach es X.env) : PA X (e :: es) (tMix G (.v :: fl) (consArg f fs)) := by
  refine pa_imp (pa_cons ha hs hst) fun σ H Q kf w => fun k => ?_
  obtain ⟨O, ρ, R, p⟩ := w k
  refine ⟨O, ρ, R, p.bind.imp fun d _ q v H1 s1 k1 a1 => fun _ => ?_⟩
  refine ⟨O, ρ, R.same s1, q.bind.imp fun ds _ q2 vs H2 O2 k2 m2 => fun _ => ?_⟩
  exact q2 (v :: vs) H2 O2 k2 ((if_pos rfl).mpr ⟨H1, s1, a1, m2⟩)
theorem m_consF (C : Ctx X G L bl) (ha : PE X e (tF G f)) (hl : ∀ ρ d, f ρ = .ok d → ∃ ds, d = .list ds) (hs : PA X es (tMix G fl fs)) (hst : starEach (e :: es) X.env = (false, eval e X.env) :: starEach es X.env) : PA X (e :: es) (tMix G (.l :: fl) (consArg f fs)) := by
  refine pa_imp (pa_cons ha hs hst) fun σ H Q kf w => fun k => ?_
  obtain ⟨O, ρ, R, p⟩ := w k
  refine ⟨O, ρ, R, p.bind.imp fun d e1 q p' ds us H1 ed s1 k1 n e2 a1 => fun _ => ?_⟩
  have nk := kf_no k1 e2
  refine ⟨fun a => O a ∨ a = p', ρ, R.plusD s1 n e2 nk, q.bind.imp fun ds' _ q2 vs H2 O2 k2 m2 => fun _ => ?_⟩
  subst ed
  exact q2 (.ref p' :: vs) H2 O2 k2 ((if_neg (by decide)).mpr ⟨H1, p', rfl, ⟨s1, n, nk, us, e2, a1⟩, m2⟩)
def asgS (is : List Nat) (fs : Ro → Rs (List D)) : DS := fun ρ => do let ds ← fs ρ; pure (.nx, setD ρ is ds)
theorem vis_of_loc {sc : Scope} {x : Str} (h : Loc sc x) : Vis sc x := h.elim .inl fun z => .inr (.inl z)
theorem s_set (C : SCtx X G L bl) {px : Pos} (hi : X.N[i]? = some x) (hx : Loc X.env.scope x) (he : PE X e (tS G f)) (hw : G.own i = false) (hs : swapsWith e (some (.Name x px)) pos.line X.env = pure false) :
    PS X (.Assign [.Name x px] e pos) (tSS G (asgS [i] (consArg f noArg))) := by
  refine ps_imp (ps_set C.nd hi hx he hs (.inl (C.fn x))) fun Dn σ H kf w => fun k => ?_
  obtain ⟨O, ρ, R, q⟩ := w k
  refine ⟨O, ρ, R, ?_⟩
  unfold asgS consArg noArg at q
  cases hf : f ρ with
  | ok d =>
    rw [hf] at q
    exact fun v H' s k' a => q O _ H' (.same s) ((R.same s).set a hw)
  | exc c => rw [hf] at q; exact q
  | stuck => rw [hf] at q; exact q
theorem s_setO (C : SCtx X G L bl) {px : Pos} (hi : X.N[i]? = some x) (hx : Loc X.env.scope x) (he : PE X e (tF G f)) (hw : G.own i = true) (hdt : G.dct i = false) (hdp : ∀ a, G.dp ≠ some (i, a) ∧ G.fv ≠ some (i, a)) (hs : swapsWith e (some (.Name x px)) pos.line X.env = pure false) :
    PS X (.Assign [.Name x px] e pos) (tSS G (asgS [i] (consArg f noArg))) := by
  refine ps_imp (ps_set C.nd hi hx he hs (.inl (C.fn x))) fun Dn σ H kf w => fun k => ?_
  obtain ⟨O, ρ, R, q⟩ := w k
  refine ⟨O, ρ, R, ?_⟩
  unfold asgS consArg noArg at q
  cases hf : f ρ with
  | ok d =>
    rw [hf] at q
    intro p ds us H' ed s k' n e a
    subst ed
    have N : New G O H H' p (G.dct i) (.list ds) := by rw [hdt]; exact ⟨s, n, kf_no k' e, us, e, a⟩
    exact q (fun a => O a ∨ a = p) _ H' ⟨.of_same s, fun a z => z.imp id fun r => by rw [r]; exact ⟨N.n, N.k⟩⟩ (R.setOwn N hw hdp)
  | exc c => rw [hf] at q; exact q
  | stuck => rw [hf] at q; exact q
def asgT (stg : STg) (f : DE) : DS := fun ρ => do let d ← f ρ; let ρ' ← (stg d ρ).noexc; pure (.nx, ρ')
theorem s_asg (C : SCtx X G L bl) {vs : List Nat} {stg : STg} (he : PE X e (tS G f)) {bi : Bool} (hg : PG X tg (tTg G bi vs stg)) (hs : swapsWithSole [tg] e pos.line X.env = pure false) (hw : swappedStores [tg] e X.env = pure none) (h1 : (assignEach [tg] X.env).map (·.2) = [assign tg X.env]) :
    PS X (.Assign [tg] e pos) (tSS G (asgT stg f)) := by
  refine ps_imp (ps_asg he hg hs hw h1) fun Dn σ H kf w => fun k => ?_
  obtain ⟨O, ρ, R, q⟩ := w k
  refine ⟨O, ρ, R, PostS.exc_of (r := f ρ) (O := O) q fun d _ q v H' s k' a => ?_⟩
  intro _
  cases hst : stg d ρ with
  | ok ρ' =>
    rw [hst] at q
    exact ⟨O, ρ, d, ρ', R.same s, a.b bi, hst, fun σ' R' _ => q O σ' H' (.same s) R'⟩
  | exc c => rw [hst] at q; exact q.elim
  | stuck => rw [hst] at q; exact q.elim
theorem s_par2 (C : SCtx X G L bl) {j : Nat} {y : Str} {px py pt : Pos} {kt k2 : Nat} {pt2 : Pos} (hi : X.N[i]? = some x) (hj : X.N[j]? = some y) (hij : i ≠ j) (hx : X.env.scope.names.lookup x = some .local) (hy : X.env.scope.names.lookup y = some .local)
    (ha : PA X [a, b] (tMix G ([i, j].map G.kd) fs)) (hdp : ∀ k ∈ [i, j], ∀ a, G.dp ≠ some (k, a) ∧ G.fv ≠ some (k, a)) (hl : ∀ ρ ds, fs ρ = .ok ds → ds.length = 2)
    (hw : swappedStores [.Tuple [.Name x px, .Name y py] kt pt] (.Tuple [a, b] k2 pt2) X.env = pure (some [x, y])) (hs : swapsWithSole [.Tuple [.Name x px, .Name y py] kt pt] (.Tuple [a, b] k2 pt2) pos.line X.env = pure false) :
    PS X (.Assign [.Tuple [.Name x px, .Name y py] kt pt] (.Tuple [a, b] k2 pt2) pos) (tSS G (asgS [i, j] fs)) := by
  refine ps_imp (ps_par C.calm C.nd hi hj hij hx hy ha hw hs) fun Dn σ H kf w => fun k => ?_
  obtain ⟨O, ρ, R, q⟩ := w k
  refine ⟨O, ρ, R, PostS.exc_of (r := fs ρ) (O := O) q fun ds e q vs H' O' k' m => ?_⟩
  obtain ⟨s, g⟩ := Mix.stp m
  have r := Mix.rep rfl hdp R m
  have h2 := hl ρ ds e
  have h3 := Mix.length m
  match ds, vs, h2, h3, r, q with
  | [d1, d2], [v1, v2], _, _, r, q => exact ⟨v1, v2, rfl, q O' _ H' ⟨.of_same s, g⟩ r⟩
theorem s_par3 (C : SCtx X G L bl) {j l : Nat} {y z : Str} {px py pz pt : Pos} {kt k2 : Nat} {pt2 : Pos} (hi : X.N[i]? = some x) (hj : X.N[j]? = some y) (hll : X.N[l]? = some z) (hij : i ≠ j) (hil : i ≠ l) (hjl : j ≠ l) (hx : X.env.scope.names.lookup x = some .local) (hy : X.env.scope.names.lookup y = some .local) (hz : X.env.scope.names.lookup z = some .local)
    (ha : PA X [a, b, c] (tMix G ([i, j, l].map G.kd) fs)) (hdp : ∀ k ∈ [i, j, l], ∀ a, G.dp ≠ some (k, a) ∧ G.fv ≠ some (k, a)) (hl : ∀ ρ ds, fs ρ = .ok ds → ds.length = 3)
    (hw : swappedStores [.Tuple [.Name x px, .Name y py, .Name z pz] kt pt] (.Tuple [a, b, c] k2 pt2) X.env = pure (some [x, y, z])) (hs : swapsWithSole [.Tuple [.Name x px, .Name y py, .Name z pz] kt pt] (.Tuple [a, b, c] k2 pt2) pos.line X.env = pure false) :
    PS X (.Assign [.Tuple [.Name x px, .Name y py, .Name z pz] kt pt] (.Tuple [a, b, c] k2 pt2) pos) (tSS G (asgS [i, j, l] fs)) := by
  refine ps_imp (ps_par3 C.calm C.nd hi hj hll hij hil hjl hx hy hz ha hw hs) fun Dn σ H kf w => fun k => ?_
  obtain ⟨O, ρ, R, q⟩ := w k
  refine ⟨O, ρ, R, PostS.exc_of (r := fs ρ) (O := O) q fun ds e q vs H' O' k' m => ?_⟩
  obtain ⟨s, g⟩ := Mix.stp m
  have r := Mix.rep rfl hdp R m
  have h2 := hl ρ ds e
  have h3 := Mix.length m
  match ds, vs, h2, h3, r, q with
  | [d1, d2, d3], [v1, v2, v3], _, _, r, q => exact ⟨v1, v2, v3, rfl, q O' _ H' ⟨.of_same s, g⟩ r⟩
def gNames (is : List Nat) : TGs := fun vs σ H Q => vs.length = is.length ∧ Q (setV σ is vs) H
theorem gn_nil : PGs X [] (gNames []) := ⟨fun pins s σ H us uv Q I r w => by
  cases us with
  | nil => exact (pgs_nil (X := X)).run pins s σ H [] uv Q I r ⟨rfl, w.2⟩
  | cons _ _ => exact absurd w.1 (by simp)⟩
theorem gn_cons (C : SCtx X G L bl) {is : List Nat} (hi : X.N[i]? = some x) (hx : Loc X.env.scope x) (h : PGs X es (gNames is)) : PGs X (.Name x p :: es) (gNames (i :: is)) := ⟨fun pins s σ H us uv Q I r w => by
  cases us with
  | nil => exact absurd w.1 (by simp)
  | cons v ur => exact (pgs_cons (pg_name (pos := p) C.nd hi hx (.inl (C.fn x))) h rfl).run pins s σ H (v :: ur) uv Q I r ⟨v, ur, rfl, by simpa using w.1, w.2⟩⟩
theorem s_tup (C : SCtx X G L bl) {is : List Nat} {ts : List Expr} {kt k2 : Nat} {pt pt2 : Pos} (hg : PGs X ts (gNames is)) (ha : PA X es (tMix G (is.map G.kd) fs)) (hdp : ∀ k ∈ is, ∀ a, G.dp ≠ some (k, a) ∧ G.fv ≠ some (k, a)) (hz : is.length ≤ big) (hn : (assignEach ts X.env).length = is.length) (hst : (assignEach ts X.env).findIdx? (·.1) = none)
    (hs : swapsWithSole [.Tuple ts kt pt] (.Tuple es k2 pt2) pos.line X.env = pure false) (hw : swappedStores [.Tuple ts kt pt] (.Tuple es k2 pt2) X.env = pure none) (h1 : (assignEach [.Tuple ts kt pt] X.env).map (·.2) = [assign (.Tuple ts kt pt) X.env]) :
    PS X (.Assign [.Tuple ts kt pt] (.Tuple es k2 pt2) pos) (tSS G (asgS is fs)) := by
  refine ps_imp (ps_asg (pe_tup ha) (pg_tup (n := is.length) C.calm hg hn hst) hs hw h1) fun Dn σ H kf w => fun k => ?_
  obtain ⟨O, ρ, R, q⟩ := w k
  refine ⟨O, ρ, R, PostS.exc_of (r := fs ρ) (O := O) q fun ds e q vs H' O' k' m => ?_⟩
  obtain ⟨s, g⟩ := Mix.stp m
  have r := Mix.rep rfl hdp R m
  have hl := Mix.length m
  rw [List.length_map] at hl
  refine ⟨by rw [hl]; exact big_line hz, fun T hT => ⟨T, vs, rfl, .of upd_same, hl, hl, ?_⟩⟩
  exact q O' _ _ ⟨.of_same (s.trans (same_upd hT)), g⟩ (r.same (same_upd hT))
end
end Den
namespace Den
open PySem PySem.Spec PyProof.Rows L2
section
variable {X : Cx} {G : Gc} {L : Nat} {bl : List Str} {a b c e tg iter : Expr} {es : List Expr} {st : Stmt} {A : List Stmt} {f g h : DE} {fs : Ro → Rs (List D)} {F U : DS} {pos p : Pos} {x y : Str} {i j : Nat}
def movS (i j : Nat) : DS := fun ρ => match ρ[j]? with
  | some (some d) => .ok (.nx, (ρ.set j none).set i (some d))
  | _ => .stuck
theorem s_mov (C : SCtx X G L bl) {px py : Pos} (hi : X.N[i]? = some x) (hx : Loc X.env.scope x) (hj : X.N[j]? = some y) (hy : Vis X.env.scope y) (hd : (y == ("__debug__" : Str)) = false) (hcd : (y == ("__classdict__" : Str)) = false) (hw : G.own i = false) (hwj : G.own j = true) (hdj : G.dct j = false) :
    PS X (.Assign [.Name x px] (.Name y py) pos) (tSS G (movS i j)) := by
  refine ps_imp (ps_set C.nd hi hx (pe_var hj hy hd hcd) rfl (.inl (C.fn x))) fun Dn σ H kf w => ?_
  have k := C.kf kf
  obtain ⟨O, ρ, R, q⟩ := w k
  unfold movS at q
  split at q
  · rename_i d e
    obtain ⟨a, ds, vs, rfl, e1, e2, h1, h2, h3⟩ := R.lst e hwj hdj
    refine ⟨.ref a, e1, ?_⟩
    have R1 : Rep G (fun z => O z ∧ z ≠ a) σ H (ρ.set j none) := by
      have R0 := R.forget (i := j)
      refine ⟨R.base, fun z hz => ⟨R.sub z hz, fun q => h3 (q ▸ hz)⟩, fun z hz => R.trk z hz.1, fun z hz n => R.fre z hz.1 n, R0.len, fun m d hm nm => ?_, fun m d hm nm => ?_, R0.dist, R0.dpa⟩
      · obtain ⟨v, q1, q2⟩ := R0.slot m d hm nm
        exact ⟨v, q1, q2.less fun z hz => hz.1⟩
      · obtain ⟨b, q1, q3, q4, q5⟩ := R0.owns m d hm nm
        refine ⟨b, q1, q3.less fun z hz => hz.1, ⟨q4, fun z => ?_⟩, q5⟩
        subst z
        rcases set_at hm with ⟨_, e1', _⟩ | ⟨ne, hm'⟩
        · cases e1'
        · exact R.dist j m _ d b ne hwj nm e hm' e1 q1
    have a1 : At G.K H (fun z => O z ∧ z ≠ a) (.list ds) (.ref a) := ⟨a, vs, rfl, .of e2, fun z => z.2 rfl, h1.less fun z hz => hz.1⟩
    exact q _ _ H ⟨.of_same (Same.refl H), fun z hz => .inl hz.1⟩ (R1.set a1 hw)
  · exact q.elim
theorem Rep.writeD {O : Addr → Prop} {σ : L2.St} {H H' : Hp} {ρ : Ro} {q : Addr} {d0 d' : D} (R : Rep G O σ H ρ) (hw : G.own i = true) (e : ρ[i]? = some (some d0)) (e1 : σ[i]? = some (some (.ref q))) (hO : O q) (hO0 : ¬ G.O0 q) (kq : ∀ b o, H b = some o → b ≠ q → H' b = some o) (oa : OwnAt G.P G.w G.K H' O q (G.dct i) d') :
    Rep G O σ H' (ρ.set i (some d')) ∧ Stp G.K O H O H' := by
  have kp : Kp O H H' := fun b o eb nb => kq b o eb (by rintro rfl; exact nb hO)
  have hil : i < ρ.length := (List.getElem?_eq_some_iff.mp e).1
  refine ⟨⟨fun b o eb nb => ?_, R.sub, fun z hz => ?_, R.fre, by rw [List.length_set]; exact R.len, fun m d hm nm => ?_, fun m d hm nm => ?_, fun m n d2 d3 b hmn nm nn hm hn h1 h2 => ?_, ⟨fun m b em => ?_, R.dpa.2⟩⟩, kp, fun z hz => .inl hz⟩
  · have : b ≠ q := fun z => by
      subst z
      rcases R.fre b hO hO0 with z | z
      · rw [z] at eb; cases eb
      · exact nb z
    exact kq _ _ (R.base b o eb nb) this
  · by_cases hz' : z = q
    · rw [hz']; exact oa.there
    · obtain ⟨o, eo⟩ := R.trk z hz
      exact ⟨o, kq _ _ eo hz'⟩
  · have ne : i ≠ m := fun z => by subst z; rw [hw] at nm; cases nm
    rw [List.getElem?_set_ne ne] at hm
    obtain ⟨v, q1, q2⟩ := R.slot m d hm nm
    exact ⟨v, q1, q2.keep kp⟩
  · rcases set_at hm with ⟨rfl, e', _⟩ | ⟨ne, hm'⟩
    · cases e'
      exact ⟨q, e1, oa, hO, hO0⟩
    · obtain ⟨b, q1, q3, q4, q5⟩ := R.owns m d hm' nm
      refine ⟨b, q1, q3.keep kp fun o eo => kq _ _ eo fun z => ?_, q4, q5⟩
      subst z
      exact R.dist i m _ d b ne hw nm e hm' e1 q1
  · have old2 : ∀ {m d}, (ρ.set i (some d'))[m]? = some (some d) → ∃ d0, ρ[m]? = some (some d0) := fun {m d} hm => by
      rcases set_at hm with ⟨rfl, _, _⟩ | ⟨_, hm'⟩
      · exact ⟨_, e⟩
      · exact ⟨_, hm'⟩
    obtain ⟨d0, h0⟩ := old2 hm
    obtain ⟨d1, h1'⟩ := old2 hn
    exact R.dist m n d0 d1 b hmn nm nn h0 h1' h1 h2
  · obtain ⟨q1, q2, q3⟩ := R.dpa.1 m b em
    refine ⟨q1, q2, fun d hd => ?_⟩
    rcases set_at hd with ⟨rfl, _, _⟩ | ⟨_, hd'⟩
    · exact q3 _ e
    · exact q3 d hd'
theorem Rep.write {O : Addr → Prop} {σ : L2.St} {H : Hp} {ρ : Ro} {q : Addr} {ds ds' : List D} {us : List V} (R : Rep G O σ H ρ) (hw : G.own i = true) (hdt : G.dct i = false) (e : ρ[i]? = some (some (.list ds))) (e1 : σ[i]? = some (some (.ref q))) (hO : O q) (hO0 : ¬ G.O0 q) (a : AtL G.K H O ds' us) :
    Rep G O σ (upd H q (.lst us)) (ρ.set i (some (.list ds'))) ∧ Stp G.K O H O (upd H q (.lst us)) := by
  have kp : Kp O H (upd H q (.lst us)) := fun b o eb nb => by rw [upd_ne (by rintro rfl; exact nb hO)]; exact eb
  refine R.writeD hw e e1 hO hO0 (fun b o eb nb => by rw [upd_ne nb]; exact eb) ?_
  rw [hdt]
  exact ⟨us, upd_same, a.keep kp⟩
def appS (i : Nat) (f : DE) : DS := fun ρ => match ρ[i]? with
  | some (some (.list ds)) => do let d ← f ρ; if ds.length < big then .ok (.nx, ρ.set i (some (.list (ds ++ [d])))) else .stuck
  | _ => .stuck
theorem s_app (C : SCtx X G L bl) {px apos cpos : Pos} (hi : X.N[i]? = some x) (hx : Vis X.env.scope x) (hd : (x == ("__debug__" : Str)) = false) (hcd : (x == ("__classdict__" : Str)) = false) (hw : G.own i = true) (hdt : G.dct i = false) (he : PE X e (tS G f))
    (hst : starEach (e :: []) X.env = (false, eval e X.env) :: starEach [] X.env) (hline : (apos.endLine == cpos.line) = true) :
    PS X (.Expr (.Call (.Attribute (.Name x px) "append" apos) [e] [] cpos) pos) (tSS G (appS i f)) := by
  refine ps_imp (ps_expr (pe_bm PySem.F.plainAttrs_list PySem.F.slot_list_append PySem.F.type_list_append mt_append (pe_var hi hx hd hcd) (pa_cons he pa_nil hst) rfl (by rw [hst]; rfl) hline hst rfl) rfl) fun Dn σ H kf w => ?_
  have k := C.kf kf
  obtain ⟨O, ρ, R, q⟩ := w k
  unfold appS at q
  split at q
  · rename_i ds e
    obtain ⟨a, ds0, vs, ed, e1, e2, h1, h2, h3⟩ := R.lst e hw hdt
    cases ed
    refine ⟨.ref a, e1, .inl ⟨rfl, vs, .of e2⟩, fun k' => ⟨O, ρ, R, PostS.exc_of (r := f ρ) (O := O) q fun d _ q v H1 s k1 a1 => ?_⟩⟩
    split at q
    · rename_i hz
      refine ⟨a, vs, v, rfl, rfl, s _ _ e2, by rw [h1.length]; exact big_lt hz, ?_⟩
      obtain ⟨R2, s2⟩ := (R.same s).write (us := vs ++ [v]) (ds' := ds ++ [d]) hw hdt e e1 h2 h3 ((h1.same s).append (.one a1))
      exact q O σ _ ((Stp.same s).trans s2) R2
    · exact q.elim
  · exact q.elim
def lsD : D → Option (List D) | .list ds => some ds | _ => none
def extS (i : Nat) (f : DE) : DS := fun ρ => match ρ[i]? with
  | some (some (.list ds)) => do let d ← f ρ; match d with
    | .list es => if ds.length + es.length ≤ big then .ok (.nx, ρ.set i (some (.list (ds ++ es)))) else .stuck
    | _ => .stuck
  | _ => .stuck
theorem s_ext (C : SCtx X G L bl) {px apos cpos : Pos} (hi : X.N[i]? = some x) (hx : Vis X.env.scope x) (hd : (x == ("__debug__" : Str)) = false) (hcd : (x == ("__classdict__" : Str)) = false) (hw : G.own i = true) (hdt : G.dct i = false) (he : PE X e (tF G f))
    (hst : starEach (e :: []) X.env = (false, eval e X.env) :: starEach [] X.env) (hline : (apos.endLine == cpos.line) = true) :
    PS X (.Expr (.Call (.Attribute (.Name x px) "extend" apos) [e] [] cpos) pos) (tSS G (extS i f)) := by
  refine ps_imp (ps_expr (pe_bm PySem.F.plainAttrs_list PySem.F.slot_list_extend PySem.F.type_list_extend mt_extend (pe_var hi hx hd hcd) (pa_cons he pa_nil hst) rfl (by rw [hst]; rfl) hline hst rfl) rfl) fun Dn σ H kf w => ?_
  have k := C.kf kf
  obtain ⟨O, ρ, R, q⟩ := w k
  unfold extS at q
  split at q
  · rename_i ds e
    obtain ⟨a, ds0, vs, ed, e1, e2, h1, h2, h3⟩ := R.lst e hw hdt
    cases ed
    refine ⟨.ref a, e1, .inl ⟨rfl, vs, .of e2⟩, fun k' => ⟨O, ρ, R, PostS.exc_of (r := f ρ) (O := O) q fun d _ q p' es us H1 ed s k1 n e3 a1 => ?_⟩⟩
    subst ed
    simp only at q
    split at q
    · rename_i hz
      refine ⟨a, p', vs, us, rfl, rfl, s _ _ e2, e3, by rw [h1.length, a1.length]; exact big_line hz, ?_⟩
      obtain ⟨R2, s2⟩ := (R.same s).write (us := vs ++ us) (ds' := ds ++ es) hw hdt e e1 h2 h3 ((h1.same s).append (a1.less fun z hz => .inl hz))
      exact q O σ _ ((Stp.same s).trans s2) R2
    · exact q.elim
  · exact q.elim
abbrev endK (K : W.Frag) (Dn : Ends) : Ends := { nx := fun σ H => KF K H → Dn.nx σ H, rt := fun v H => KF K H → Dn.rt v H, bk := fun σ H => KF K H → Dn.bk σ H, ct := fun σ H => KF K H → Dn.ct σ H }
theorem ps_impK {t t' : TS} (h : PS X st t) (hi : ∀ Dn σ H, KF X.K H → t' Dn σ H → t (endK X.K Dn) σ H) : PS X st t' :=
  ⟨fun pins s σ H Dn I h' => thn (h.run pins s σ H (endK X.K Dn) I (hi Dn σ H (kf_inv I) h')) fun f s1 q => by
    cases f with
    | next => obtain ⟨σ', H', I', q⟩ := q; exact ⟨σ', H', I', q (kf_inv I')⟩
    | brk => obtain ⟨σ', H', I', q⟩ := q; exact ⟨σ', H', I', q (kf_inv I')⟩
    | cont => obtain ⟨σ', H', I', q⟩ := q; exact ⟨σ', H', I', q (kf_inv I')⟩
    | ret u => obtain ⟨v, σ', H', I', r, q⟩ := q; exact ⟨v, σ', H', I', r, q (kf_inv I')⟩⟩
theorem tF_set (hdt : G.dct i = false) (hdp : ∀ a, G.dp ≠ some (i, a) ∧ G.fv ≠ some (i, a)) {Dn : Ends} {σ : L2.St} {H : Hp} (hl : ∀ ρ d, f ρ = .ok d → ∃ ds, d = .list ds) (h : tSS G (asgS [i] (consArg f noArg)) Dn σ H) : tF G f σ H fun v H1 => Dn.nx (σ.set i (some v)) H1 := fun k => by
  obtain ⟨O, ρ, R, q⟩ := h k
  refine ⟨O, ρ, R, ?_⟩
  unfold asgS consArg noArg at q
  cases hf : f ρ with
  | ok d =>
    rw [hf] at q
    intro p ds us H' ed s k' n e a
    subst ed
    have N : New G O H H' p (G.dct i) (.list ds) := by rw [hdt]; exact ⟨s, n, kf_no k' e, us, e, a⟩
    cases hw' : G.own i with
    | true => exact q (fun a => O a ∨ a = p) _ H' ⟨.of_same s, fun a z => z.imp id fun r => by rw [r]; exact ⟨N.n, N.k⟩⟩ (R.setOwn N hw' hdp)
    | false =>
      refine q O _ H' (.same s) ((R.same s).set ⟨p, us, rfl, .of e, fun z => ?_, a.less fun z hz => .inl hz⟩ hw')
      obtain ⟨o, e'⟩ := R.trk p z
      rw [n] at e'; cases e'
  | exc c => rw [hf] at q; exact q
  | stuck => rw [hf] at q; exact q
theorem s_setLc (C : SCtx X G L bl) {bi : Bool} {scope : Scope} {own : List (Str × Nat)} {py spos : Pos} {elt : Expr} {ifs : List Expr} {fi : DI} {sg : STg} {ft : Ro → Rs Bool} {fe : DE} (hdt : G.dct i = false) (hdp : ∀ a, G.dp ≠ some (i, a) ∧ G.fv ≠ some (i, a)) (hy : X.N[i]? = some y) (hyl : X.env.scope.names.lookup y = some .local)
    (hsw : swapsWith (.ListComp elt [⟨tg, iter, ifs, 0⟩] scope pos) (some (.Name y py)) spos.line X.env = pure true) (hi : PI X tg iter (tIt G true bi fi)) (ok : BlkOk X.N X.env.scope scope own) (hvs : G.ndv (own.map (·.2)))
    (hg : ∀ (s : Shared) (H : Hp) (Cc : Addr) (cl : List (Str × Addr)) (fp : List Addr), PG (X.blk s H scope (compEnvC scope cl Cc X.env) fp) tg (tTg G.noE bi (own.map (·.2)) sg))
    (ht : ∀ (s : Shared) (H : Hp) (Cc : Addr) (cl : List (Str × Addr)) (fp : List Addr), PTs (X.blk s H scope (compEnvC scope cl Cc X.env) fp) ifs (tTst G.noE ft))
    (he : ∀ (s : Shared) (H : Hp) (Cc : Addr) (cl : List (Str × Addr)) (fp : List Addr), PE (X.blk s H scope (compEnvC scope cl Cc X.env) fp) elt (tS G.noE fe))
    (hs : ∀ x, foldedSetIterable iter X.env x = pure x) (hl : ∀ ρ d, compE (own.map (·.2)) fi sg ft fe ρ = .ok d → ∃ ds, d = .list ds) : PS X (.Assign [.Name y py] (.ListComp elt [⟨tg, iter, ifs, 0⟩] scope pos) spos) (tSS G (asgS [i] (consArg (compE (own.map (·.2)) fi sg ft fe) noArg))) :=
  ps_impK (ps_setLc C.calm C.nd hy hyl hsw hi ok hg ht he hs) fun Dn σ H kf w => comp_core C.toCtx hvs (tF_set hdt hdp hl w)
theorem s_setLc2 (C : SCtx X G L bl) {bi bi1 : Bool} {scope : Scope} {own : List (Str × Nat)} {vs1 : List Nat} {py spos : Pos} {elt tg1 iter1 : Expr} {ifs : List Expr} {fi fi1 : DI} {sg sg1 : STg} {ft : Ro → Rs Bool} {fe : DE} (hdt : G.dct i = false) (hdp : ∀ a, G.dp ≠ some (i, a) ∧ G.fv ≠ some (i, a)) (hy : X.N[i]? = some y) (hyl : X.env.scope.names.lookup y = some .local)
    (hsw : swapsWith (.ListComp elt [⟨tg, iter, [], 0⟩, ⟨tg1, iter1, ifs, 0⟩] scope pos) (some (.Name y py)) spos.line X.env = pure true) (hi : PI X tg iter (tIt G true bi fi)) (ok : BlkOk X.N X.env.scope scope own) (hvs : G.ndv (own.map (·.2))) (hv : ∀ i ∈ vs1, i ∈ own.map (·.2))
    (hg : ∀ (O0 : Addr → Prop) (s : Shared) (H : Hp) (Cc : Addr) (cl : List (Str × Addr)) (fp : List Addr), PG (X.blk s H scope (compEnvC scope cl Cc X.env) fp) tg (tTg (G.wO O0) bi (own.map (·.2)) sg))
    (hi1 : ∀ (O0 : Addr → Prop) (s : Shared) (H : Hp) (Cc : Addr) (cl : List (Str × Addr)) (fp : List Addr), PI (X.blk s H scope (compEnvC scope cl Cc X.env) fp) tg1 iter1 (tIt (G.wO O0) false bi1 fi1))
    (hg1 : ∀ (O0 : Addr → Prop) (s : Shared) (H : Hp) (Cc : Addr) (cl : List (Str × Addr)) (fp : List Addr), PG (X.blk s H scope (compEnvC scope cl Cc X.env) fp) tg1 (tTg (G.wO O0) bi1 vs1 sg1))
    (ht1 : ∀ (O0 : Addr → Prop) (s : Shared) (H : Hp) (Cc : Addr) (cl : List (Str × Addr)) (fp : List Addr), PTs (X.blk s H scope (compEnvC scope cl Cc X.env) fp) ifs (tTst (G.wO O0) ft))
    (he : ∀ (O0 : Addr → Prop) (s : Shared) (H : Hp) (Cc : Addr) (cl : List (Str × Addr)) (fp : List Addr), PE (X.blk s H scope (compEnvC scope cl Cc X.env) fp) elt (tS (G.wO O0) fe))
    (hs : ∀ x, foldedSetIterable iter X.env x = pure x) (hs1 : ∀ env x, foldedSetIterable iter1 env x = pure x) (hl : ∀ ρ d, compE2 (own.map (·.2)) fi sg fi1 sg1 ft fe vs1 ρ = .ok d → ∃ ds, d = .list ds) : PS X (.Assign [.Name y py] (.ListComp elt [⟨tg, iter, [], 0⟩, ⟨tg1, iter1, ifs, 0⟩] scope pos) spos) (tSS G (asgS [i] (consArg (compE2 (own.map (·.2)) fi sg fi1 sg1 ft fe vs1) noArg))) :=
  ps_impK (ps_setLc2 (tt := tYes) C.calm C.nd hy hyl hsw hi ok hv
    (fun s H Cc cl fp => ⟨fun pins s' σ H' v u Q I r ⟨O0, w⟩ => (hg O0 s H Cc cl fp).run pins s' σ H' v u Q I r w⟩) (fun _ _ _ _ _ => pts_nil)
    (fun s H Cc cl fp => ⟨fun pins s' σ H' R I ⟨O0, w⟩ => (hi1 O0 s H Cc cl fp).run pins s' σ H' R I w⟩)
    (fun s H Cc cl fp => ⟨fun pins s' σ H' v u Q I r ⟨O0, w⟩ => (hg1 O0 s H Cc cl fp).run pins s' σ H' v u Q I r w⟩)
    (fun s H Cc cl fp => ⟨fun pins s' σ H' R I ⟨O0, w⟩ => (ht1 O0 s H Cc cl fp).run pins s' σ H' R I w⟩)
    (fun s H Cc cl fp => ⟨fun pins s' σ H' R I ⟨O0, w⟩ => (he O0 s H Cc cl fp).run pins s' σ H' R I w⟩) hs hs1) fun Dn σ H kf w => comp2_core C.toCtx hvs (fun i hi => hvs i (hv i hi)) (tF_set hdt hdp hl w)
theorem compE_list {vs : List Nat} {fi : DI} {sg : STg} {ft : Ro → Rs Bool} {fe : DE} : ∀ ρ d, compE vs fi sg ft fe ρ = .ok d → ∃ ds, d = .list ds := fun ρ d h => by
  unfold compE at h
  cases h1 : fi ρ with
  | ok ds =>
    rw [h1] at h
    cases h2 : (compL sg ft fe (wipeR ρ vs) ds).noexc with
    | ok r => rw [Rs.ok_bind, h2] at h; cases h; exact ⟨r, rfl⟩
    | exc c => rw [Rs.ok_bind, h2] at h; cases h
    | stuck => rw [Rs.ok_bind, h2] at h; cases h
  | exc c => rw [h1] at h; cases h
  | stuck => rw [h1] at h; cases h
theorem compE2_list {vs vs1 : List Nat} {fi fi1 : DI} {sg sg1 : STg} {ft : Ro → Rs Bool} {fe : DE} : ∀ ρ d, compE2 vs fi sg fi1 sg1 ft fe vs1 ρ = .ok d → ∃ ds, d = .list ds := fun ρ d h => by
  unfold compE2 at h
  cases h1 : fi ρ with
  | ok ds =>
    rw [h1] at h
    cases h2 : (compL2 sg fi1 sg1 ft fe vs1 (wipeR ρ vs) ds).noexc with
    | ok r =>
      rw [Rs.ok_bind, h2, Rs.ok_bind] at h
      split at h
      · cases h; exact ⟨r, rfl⟩
      · cases h
    | exc c => rw [Rs.ok_bind, h2] at h; cases h
    | stuck => rw [Rs.ok_bind, h2] at h; cases h
  | exc c => rw [h1] at h; cases h
  | stuck => rw [h1] at h; cases h
def bkS : DS := fun ρ => .ok (.bk, ρ)
def ctS : DS := fun ρ => .ok (.ct, ρ)
theorem s_break (C : Ctx X G L bl) : PS X (.Break pos) (tSS G bkS) := by
  refine ps_imp ps_break fun Dn σ H kf w => ?_
  obtain ⟨O, ρ, R, q⟩ := w (C.kf kf)
  exact q O σ H (.same (Same.refl _)) R
theorem s_cont (C : Ctx X G L bl) : PS X (.Continue pos) (tSS G ctS) := by
  refine ps_imp ps_continue fun Dn σ H kf w => ?_
  obtain ⟨O, ρ, R, q⟩ := w (C.kf kf)
  exact q O σ H (.same (Same.refl _)) R
theorem s_pass (C : Ctx X G L bl) : PS X (.Pass pos) (tSS G nxS) := by
  refine ps_imp ps_pass fun Dn σ H kf w => ?_
  obtain ⟨O, ρ, R, q⟩ := w (C.kf kf)
  exact q O σ H (.same (Same.refl _)) R
def forL (stg : STg) (b : DS) : List D → DS
  | [], ρ => .ok (.nx, ρ)
  | d :: ds, ρ => do
    let ρ1 ← (stg d ρ).noexc
    let r ← b ρ1
    match r with
    | (.nx, ρ2) => forL stg b ds ρ2
    | (.ct, ρ2) => forL stg b ds ρ2
    | (.bk, ρ2) => .ok (.nx, ρ2)
    | (.rt d, ρ2) => .ok (.rt d, ρ2)
def forS (fi : DI) (stg : STg) (b : DS) : DS := fun ρ => do let ds ← fi ρ; forL stg b ds ρ
theorem s_for (C : SCtx X G L bl) {bi : Bool} {fi : DI} {stg : STg} {vs : List Nat} (hi : PI X tg iter (tIt G false bi fi)) (hg : PG X tg (tTg G bi vs stg)) (hb : PSs X A (tSS G F)) (hs : ∀ x, foldedSetIterable iter X.env x = pure x) : PS X (.For tg iter A [] pos) (tSS G (forS fi stg F)) := by
  refine ps_imp (ps_for C.po C.calm hi hg hb hs) fun Dn σ H kf w => fun k => ?_
  obtain ⟨O, ρ, R, q⟩ := w k
  refine ⟨O, ρ, R, PostS.exc_of (r := fi ρ) (O := O) q fun ds _ q J H1 s1 k1 wk => ?_⟩
  have R1 := R.same s1
  have q1 : PostS G O H1 (forL stg F ds ρ) Dn := PostS.step q (.same s1)
  generalize hr : forL stg F ds ρ = r at q1
  refine ⟨fun i m σ' H' => m = ds.length - i ∧ i ≤ ds.length ∧ ∃ O' ρ', Stp G.K O H1 O' H' ∧ Rep G O' σ' H' ρ' ∧ forL stg F (ds.drop i) ρ' = r, ⟨ds.length, by simp, Nat.zero_le _, O, ρ, .same (Same.refl _), R1, by simpa using hr⟩, ?_⟩
  rintro i m σ' H' ⟨rfl, hil, O', ρ', s', R', e'⟩
  by_cases hlt : i < ds.length
  · have hd : ds[i]? = some ds[i] := List.getElem?_eq_getElem hlt
    obtain ⟨go, yy⟩ := wk.go i ds[i] H' hd s'.1
    refine .inr ⟨go, fun σ3 H3 => ∃ O3 ρ3, Stp G.K O H1 O3 H3 ∧ Rep G O3 σ3 H3 ρ3 ∧ forL stg F (ds.drop (i + 1)) ρ3 = r, fun σ3 H3 ⟨O3, ρ3, a1, a2, a3⟩ => ⟨ds.length - (i + 1), by omega, rfl, hlt, O3, ρ3, a1, a2, a3⟩, fun x H2 hy => fun k2 => ?_⟩
    obtain ⟨s2, a2⟩ := yy x H2 hy
    have a3 := a2 O' s'.2 R'.trk
    rw [List.drop_eq_getElem_cons hlt] at e'
    have e2 : ((stg ds[i] ρ').noexc >>= fun ρ1 => F ρ1 >>= fun r => match r with
      | (.nx, ρ2) => forL stg F (ds.drop (i + 1)) ρ2
      | (.ct, ρ2) => forL stg F (ds.drop (i + 1)) ρ2
      | (.bk, ρ2) => .ok (.nx, ρ2)
      | (.rt d, ρ2) => .ok (.rt d, ρ2)) = r := e'
    cases hst : stg ds[i] ρ' with
    | exc c => rw [hst] at e2; rw [← e2] at q1; exact q1.elim
    | stuck => rw [hst] at e2; rw [← e2] at q1; exact q1.elim
    | ok ρ1 =>
      rw [hst] at e2
      have e3 : (F ρ1 >>= fun r => match r with
        | (.nx, ρ2) => forL stg F (ds.drop (i + 1)) ρ2
        | (.ct, ρ2) => forL stg F (ds.drop (i + 1)) ρ2
        | (.bk, ρ2) => .ok (.nx, ρ2)
        | (.rt d, ρ2) => .ok (.rt d, ρ2)) = r := e2
      refine ⟨O', ρ', ds[i], ρ1, R'.same s2, a3, hst, fun σ4 R4 _ => fun k4 => ⟨O', ρ1, R4, ?_⟩⟩
      have s12 : Stp G.K O H1 O' H2 := s'.trans (.same s2)
      cases hF : F ρ1 with
      | exc c => rw [hF] at e3; rw [← e3] at q1; exact q1
      | stuck => rw [hF] at e3; rw [← e3] at q1; exact q1.elim
      | ok rr =>
        rw [hF] at e3
        obtain ⟨fl, ρ2⟩ := rr
        cases fl with
        | nx => exact fun O5 σ5 H5 s5 R5 => ⟨O5, ρ2, s12.trans s5, R5, e3⟩
        | ct => exact fun O5 σ5 H5 s5 R5 => ⟨O5, ρ2, s12.trans s5, R5, e3⟩
        | bk => rw [← e3] at q1; exact fun O5 σ5 H5 s5 R5 => q1 O5 σ5 H5 (s12.trans s5) R5
        | rt d => rw [← e3] at q1; exact q1
  · have e : i = ds.length := by omega
    subst e
    refine .inl ⟨wk.stop H' s'.1, ?_⟩
    rw [List.drop_length] at e'
    rw [← e'] at q1
    exact q1 O' σ' H' s' R'
def whlL (t : DE) (b : DS) : Nat → DS
  | 0, _ => .stuck
  | n + 1, ρ => do
    let c ← tstE t ρ
    if c then (do
      let r ← b ρ
      match r with
      | (.nx, ρ2) => whlL t b n ρ2
      | (.ct, ρ2) => whlL t b n ρ2
      | (.bk, ρ2) => .ok (.nx, ρ2)
      | (.rt d, ρ2) => .ok (.rt d, ρ2)) else .ok (.nx, ρ)
theorem s_while (C : SCtx X G L bl) {t : DE} (n : Nat) (hc : PT X c (tTst G (tstE t))) (hb : PSs X A (tSS G F)) : PS X (.While c A [] pos) (tSS G (whlL t F n)) := by
  refine ps_imp (ps_while C.po hc hb) fun Dn σ H kf w => ?_
  obtain ⟨O, ρ, R, q1⟩ := w (C.kf kf)
  generalize hr : whlL t F n ρ = r at q1
  refine ⟨fun m σ' H' => ∃ O' ρ', Stp G.K O H O' H' ∧ Rep G O' σ' H' ρ' ∧ whlL t F m ρ' = r, ⟨n, O, ρ, .same (Same.refl _), R, hr⟩, ?_⟩
  rintro m σ' H' ⟨O', ρ', s', R', e'⟩
  cases m with
  | zero =>
    have e2 : (Rs.stuck : Rs (Fl × Ro)) = r := e'
    rw [← e2] at q1; exact q1.elim
  | succ m =>
    have e2 : (tstE t ρ' >>= fun c => if c = true then (F ρ' >>= fun r => match r with
      | (.nx, ρ2) => whlL t F m ρ2
      | (.ct, ρ2) => whlL t F m ρ2
      | (.bk, ρ2) => .ok (.nx, ρ2)
      | (.rt d, ρ2) => .ok (.rt d, ρ2)) else Rs.ok (.nx, ρ')) = r := e'
    refine fun k => ⟨O', ρ', R', ?_⟩
    cases ht : tstE t ρ' with
    | exc cc => rw [ht] at e2; rw [← e2] at q1; exact q1
    | stuck => rw [ht] at e2; rw [← e2] at q1; exact q1.elim
    | ok b =>
      rw [ht] at e2
      intro H2 s2 k2
      have s12 : Stp G.K O H O' H2 := s'.trans (.same s2)
      cases b with
      | false =>
        have e3 : Rs.ok (Fl.nx, ρ') = r := e2
        rw [← e3] at q1
        exact (if_neg Bool.false_ne_true).mpr (q1 O' σ' H2 s12 (R'.same s2))
      | true =>
        refine (if_pos rfl).mpr ⟨fun σ3 H3 => ∃ O3 ρ3, Stp G.K O H O3 H3 ∧ Rep G O3 σ3 H3 ρ3 ∧ whlL t F m ρ3 = r, fun σ3 H3 z => ⟨m, Nat.lt_succ_self m, z⟩, fun k3 => ⟨O', ρ', R'.same s2, ?_⟩⟩
        have e3 : (F ρ' >>= fun r => match r with
          | (.nx, ρ2) => whlL t F m ρ2
          | (.ct, ρ2) => whlL t F m ρ2
          | (.bk, ρ2) => .ok (.nx, ρ2)
          | (.rt d, ρ2) => .ok (.rt d, ρ2)) = r := e2
        cases hF : F ρ' with
        | exc c => rw [hF] at e3; rw [← e3] at q1; exact q1
        | stuck => rw [hF] at e3; rw [← e3] at q1; exact q1.elim
        | ok rr =>
          rw [hF] at e3
          obtain ⟨fl, ρ2⟩ := rr
          cases fl with
          | nx => exact fun O5 σ5 H5 s5 R5 => ⟨O5, ρ2, s12.trans s5, R5, e3⟩
          | ct => exact fun O5 σ5 H5 s5 R5 => ⟨O5, ρ2, s12.trans s5, R5, e3⟩
          | bk => rw [← e3] at q1; exact fun O5 σ5 H5 s5 R5 => q1 O5 σ5 H5 (s12.trans s5) R5
          | rt d => rw [← e3] at q1; exact q1
structure ExC (X : Cx) (cl : Nat → Value) (c : Nat) (x : Str) : Prop where
  ex : ∃ C, cl c = .ref C ∧ W.excIn X.K C [.type "ValueError", .type "Exception", .type "BaseException", .type "object"] "ValueError.__new__" = true ∧ X.mg x = some (.ref C) ∧ W.keepIn X.K (.ref C) = true ∧ Raises X (.ref C)
def rsS (c : Nat) : DS := fun _ => .exc c
theorem s_raise (C : SCtx X G L bl) {cc : Nat} {m : Str} {jk : Nat} {p2 : Pos} (tk : Takes X (fun cls d _ H => G.E cls d H)) (E : ExC X G.cl cc x) (hg : Gl X x) (hdb : (x == ("__debug__" : Str)) = false) : PS X (.Raise (some (.Call (.Name x p) [.Constant (.str m) jk p2] [] pos)) none pos') (tSS G (rsS cc)) := by
  obtain ⟨Cc, e1, e2, e3, e4, e5⟩ := E.ex
  refine ps_imp (ps_raise C.calm tk (pmk_own PySem.F.excBase_ValueError e2 e3 e4 e5 hg hdb)) fun Dn σ H kf w => ?_
  obtain ⟨O, ρ, R, q1⟩ := w (C.kf kf)
  have q := q1 H R.base
  rw [e1] at q
  exact q
end
end Den
namespace Den
open PySem PySem.Spec PyProof.Rows L2
def namesE : List (Nat × Str × Pos) → List Expr
  | [] => []
  | (_, x, p) :: r => .Name x p :: namesE r
section
variable {X : Cx} {G : Gc} {L : Nat} {bl : List Str} {a b c e : Expr} {es : List Expr} {f g : DE} {gs : Ro → Rs (List D)} {pos p1 p2 : Pos} {ft : Nat → List D → Rs D} {n : Nat}
theorem atI_nat {vs : List Addr} {k : Nat} {f : Addr} (h : vs[k]? = some f) : atI (vs.map V.ref) (k : Int) = some (.ref f) := by
  have hlt : k < vs.length := by rw [List.getElem?_eq_some_iff] at h; exact h.1
  unfold atI ixN
  rw [if_pos (by omega)]
  have := (List.getElem?_eq_some_iff.mp h).2
  simp [hlt, this]
theorem fn_refs {cl : Nat → Value} : ∀ (js : List (Nat × Str × Pos)), (∀ p ∈ js, FnD X cl L p.2.1 n (ft p.1) ∧ Gl X p.2.1 ∧ (p.2.1 == ("__debug__" : Str)) = false) →
    ∃ fs : List Addr, fs.length = js.length ∧ PA X (namesE js) (fun σ H Q => Q (fs.map V.ref) H) ∧
      ∀ (k : Nat) (p : Nat × Str × Pos), js[k]? = some p → ∃ f fd ps, fs[k]? = some f ∧ FnOk X.prog X.w X.K X.mg X.base (L2.CX X.prog X.w) L f fd ps (spD X.K cl n (ft p.1)) ∧ ps.length = n ∧ W.keepIn X.K (.ref f) = true ∧ Binds X.K fd ps []
  | [], _ => ⟨[], rfl, pa_nil, fun k p e => by simp at e⟩
  | (i, x, p) :: r, h => by
    obtain ⟨fs, h1, h2, h3⟩ := fn_refs r fun p hp => h p (List.mem_cons_of_mem _ hp)
    obtain ⟨⟨f, fd, ps, g1, g2, g3, g4, g5⟩, h5, h6⟩ := h _ List.mem_cons_self
    refine ⟨f :: fs, by simp [h1], pa_imp (pa_cons (pe_glob h5 g3 (v := .ref f) rfl h6) h2 rfl) fun σ H Q kf w => fun _ => w, fun k q e => ?_⟩
    cases k with
    | zero =>
      simp at e; subst e
      exact ⟨f, fd, ps, rfl, g1, g2, g4, g5⟩
    | succ k => exact h3 k q (by simpa using e)
theorem pe_callC {fe : Expr} {tf : TE} {t : TA} (hf : PE X fe tf) (ha : PA X (e :: es) t) (hr : Room L X.A) (hx : Passes (L2.CX X.prog X.w) X G.E)
    (hev : eval (.Call fe (e :: es) [] pos) X.env = (do callWith pos (← eval fe X.env) [] (backTo pos (starEach (e :: es) X.env)) (backToKw pos (keywordEach [] X.env))))
    (he : starEach (e :: es) X.env = (false, eval e X.env) :: starEach es X.env) (hpl : (backTo pos (starEach es X.env)).any (·.1) = false) :
    PE X (.Call fe (e :: es) [] pos) (fun σ H Q => tf σ H fun v H1 => ∃ f fd ps sp, v = .ref f ∧ FnOk X.prog X.w X.K X.mg X.base (L2.CX X.prog X.w) L f fd ps sp ∧ W.keepIn X.K (.ref f) = true ∧ Binds X.K fd ps [] ∧ t σ H1 fun vs H2 => sp (vs ++ []) H2 Q G.E) := by
  refine ⟨fun pins s σ H Q I h => ?_⟩
  rw [hev]
  refine wpAny_bind (thn (hf.run pins s σ H _ I h) fun u s1 ⟨x, H1, I1, rx, f, fd, ps, sp, ex, F, hk, hb, q⟩ => ?_)
  subst ex
  obtain rfl : u = Value.ref f := rx
  refine PySem.W.callWith_K (h₀ := X.base) I1.ok.mod.kin hk (thn (ha.run pos pins s1 σ H1 _ I1 q) fun us s2 ⟨vs, H2, I2, r, q2⟩ => ⟨I2.kIn, ?_⟩) he hpl
  exact run_fn F hr hb .nil hx I2 r q2
def ccD (n : Nat) (ft : Nat → List D → Rs D) (js : List Nat) (g : DE) (gs : Ro → Rs (List D)) : DE := fun ρ => do
  let d ← g ρ
  let i ← intD d
  match (if 0 ≤ i then js[i.toNat]? else none) with
  | some j => do let ds ← gs ρ; ft j ds
  | none => .stuck
theorem d_ccall (C : Ctx X G L bl) {js : List (Nat × Str × Pos)} (hj : ∀ p ∈ js, FnD X G.cl L p.2.1 n (ft p.1) ∧ Gl X p.2.1 ∧ (p.2.1 == ("__debug__" : Str)) = false) (hjl : js.length ≤ 100) (hi : PE X b (tW G g)) (hpx : PlainIx b)
    (hn : (e :: es).length = n) (ha : PA X (e :: es) (tArg G gs)) (hl : ∀ ρ ds, gs ρ = .ok ds → ds.length = n)
    (he : starEach (e :: es) X.env = (false, eval e X.env) :: starEach es X.env) (hpl : (backTo pos (starEach es X.env)).any (·.1) = false) :
    PE X (.Call (.Subscript (.List (namesE js) p1) b p2) (e :: es) [] pos) (tS G (ccD n ft (js.map (·.1)) g gs)) := by
  obtain ⟨fs, h1, h2, h3⟩ := fn_refs js hj
  refine pe_imp (pe_callC (G := G) (L := L) (pe_ix ix_list (pe_lst h2) hi hpx) ha C.room C.pass rfl he hpl) fun σ H Q kf w => ?_
  obtain ⟨O, ρ, R, q⟩ := w (C.kf kf)
  refine ⟨by rw [List.length_map, h1, sizeLine_eq]; omega, fun p hp => fun k1 => ?_⟩
  have s1 : Same H (upd H p (.lst (fs.map V.ref))) := same_upd hp
  refine ⟨O, ρ, R.same s1, (q.bind).imp fun d _ q v H1 s2 k2 a1 => ?_⟩
  cases d with
  | int i =>
    cases a1
    have q1 : Post G H (match (if 0 ≤ i then (js.map (·.1))[i.toNat]? else none) with
      | some j => (do let ds ← gs ρ; ft j ds)
      | none => .stuck) _ := q
    split at q1
    · rename_i j hj'
      split at hj'
      · rename_i h0
        rw [List.getElem?_map] at hj'
        cases hp' : js[i.toNat]? with
        | none => rw [hp'] at hj'; cases hj'
        | some pj =>
          rw [hp'] at hj'
          cases hj'
          obtain ⟨f, fd, ps, e1, F, e2, e3, e4⟩ := h3 _ _ hp'
          have hlt : i.toNat < fs.length := by rw [List.getElem?_eq_some_iff] at e1; exact e1.1
          refine ⟨p, fs.map V.ref, i, .ref f, rfl, rfl, .of (s2 _ _ upd_same), ?_, f, fd, ps, _, rfl, F, e3, e4, fun k3 => ?_⟩
          · have : i = ((i.toNat : Nat) : Int) := by omega
            rw [this]
            exact atI_nat e1
          · refine ⟨O, ρ, (R.same s1).same s2, q1.bind.imp fun ds e q vs H3 s3 k3 a3 => ?_⟩
            show spD X.K G.cl n (ft pj.1) (vs ++ []) H3 _ G.E
            rw [List.append_nil]
            have S3 := (s1.trans s2).trans s3
            refine ⟨by rw [a3.length]; exact hl ρ ds e, ds, O, fun a h => (R.same S3).trk a h, C.K ▸ a3, ?_⟩
            cases hF : ft pj.1 ds with
            | ok d => rw [hF] at q; exact fun v H' s4 k4 a4 => fun _ => q v H' (S3.trans s4) (C.K ▸ k4) (C.K ▸ a4)
            | exc c => rw [hF] at q; exact fun H' s4 => q H' ((R.base.trans S3).trans s4)
            | stuck => rw [hF] at q; exact q.elim
      · cases hj'
    · exact q1.elim
  | _ => exact q.elim
def repL (ds : List D) (k : Int) : Rs D := if 0 ≤ k ∧ k ≤ 1000 then .ok (.list (List.replicate k.toNat ds).flatten) else .stuck
theorem atL_rep {K : W.Frag} {H : Hp} {O : Addr → Prop} {ds : List D} {vs : List V} (h : AtL K H O ds vs) : ∀ n : Nat, AtL K H O (List.replicate n ds).flatten (List.replicate n vs).flatten
  | 0 => rfl
  | n + 1 => by
    rw [List.replicate_succ, List.replicate_succ, List.flatten_cons, List.flatten_cons]
    exact h.append (atL_rep h n)
section
variable {X : Cx} {G : Gc} {L : Nat} {bl : List Str} {b : Expr} {es : List Expr} {g : DE} {fs : Ro → Rs (List D)} {pos p1 : Pos}
theorem f_rep (C : Ctx X G L bl) (ha : PA X es (tArg G fs)) (hl : ∀ ρ ds, fs ρ = .ok ds → ds.length ≤ 1000) (hb : PE X b (tW G g)) : PE X (.BinOp (.List es p1) .Mult b pos) (tF G fun ρ => do let ds ← fs ρ; let d ← g ρ; let k ← intD d; repL ds k) := by
  refine pe_imp (pe_op op_rep (pe_lst ha) hb) fun σ H Q kf w => fun k0 => ?_
  obtain ⟨O, ρ, R, q⟩ := w k0
  refine ⟨O, ρ, R, q.bind.imp fun ds e q vs H1 s1 k1 a1 => ?_⟩
  have hz := hl ρ ds e
  refine ⟨by rw [a1.length, sizeLine_eq]; omega, fun p hp => fun k2 => ?_⟩
  have s2 : Same H1 (upd H1 p (.lst vs)) := same_upd hp
  refine ⟨O, ρ, (R.same s1).same s2, q.bind.imp fun d _ q y H3 s3 k3 a3 => ?_⟩
  cases d with
  | int i =>
    cases a3
    have q1 : Post G H (if 0 ≤ i ∧ i ≤ 1000 then Rs.ok (PyData.list (List.replicate i.toNat ds).flatten) else Rs.stuck) _ := q
    split at q1
    · rename_i hi
      refine ⟨p, i, vs, rfl, rfl, s3 _ _ upd_same, by omega, by omega, ?_, fun r hr => fun k4 => ?_⟩
      · rw [a1.length, sizeLine_eq]
        have := Nat.mul_le_mul hz (show i.toNat ≤ 1000 by omega)
        omega
      · have S3 := (s1.trans s2).trans s3
        have al : AtL G.K H3 O (List.replicate i.toNat ds).flatten (List.replicate i.toNat vs).flatten := atL_rep (a1.same (s2.trans s3)) _
        exact q1 r _ _ _ rfl (S3.trans (same_upd hr)) (C.kf k4) (S3.free hr) upd_same ((al.grow hr (kf_no (C.kf k4) upd_same)).same (same_upd hr))
    · exact q1.elim
  | _ => exact q.elim
theorem repL_list {ds : List D} {k : Int} {d : D} (h : repL ds k = .ok d) : ∃ ds, d = .list ds := by
  unfold repL at h
  split at h
  · cases h; exact ⟨_, rfl⟩
  · cases h
end
structure TryM (K : W.Frag) (mg : Str → Option Value) (cl : Nat → Value) (ex : List Str) : Prop where
  pe : ∃ C0, mg "PanelError" = some (.ref C0) ∧ ∀ c x, ex[c]? = some x → ∃ Cc, cl c = .ref Cc ∧ W.exmOne K (.ref Cc) (.ref C0) = some true ∧ ExcC K Cc ∧
    ∀ j y, ex[j]? = some y → ∃ Cj, cl j = .ref Cj ∧ mg y = some (.ref Cj) ∧ W.kitOne K (.ref Cc) (.ref Cj) = some (c == j)
abbrev Isp := Pos × Pos × Pos × Pos
def issE (n : Str) : List (Str × Isp) → List Expr
  | [] => []
  | (x, p1, p2, p3, p4) :: r => .Call (.Name "isinstance" p1) [.Name n p2, .Name x p3] [] p4 :: issE n r
theorem iss_star (n : Str) (env : Env) : ∀ r : List (Str × Isp), starEach (issE n r) env = (issE n r).map fun e => (false, eval e env)
  | [] => rfl
  | (x, p1, p2, p3, p4) :: r => by
    show (false, _) :: starEach (issE n r) env = _
    rw [iss_star n env r]
    rfl
theorem pa_iss {Y : Cx} {a Cc : Addr} {i c : Nat} {n : Str} (hr : CallR Y (.builtin "isinstance") (rIsE Y.K Cc a)) (hi : Y.N[i]? = some n) (hv : Vis Y.env.scope n) (hd : (n == ("__debug__" : Str)) = false) (hcd : (n == ("__classdict__" : Str)) = false) (hg : Gl Y "isinstance") (hm : Y.mg "isinstance" = none) :
    ∀ (xs : List (Str × Isp)) (k : Nat), (∀ j x, (xs[j]?).map (·.1) = some x → ∃ Cj, Y.mg x = some (.ref Cj) ∧ W.kitOne Y.K (.ref Cc) (.ref Cj) = some (c == k + j) ∧ Gl Y x ∧ (x == ("__debug__" : Str)) = false) →
      PA Y (issE n xs) (fun σ H Q => σ[i]? = some (some (.ref a)) ∧ Q ((List.range' k xs.length).map fun j => V.bl (c == j)) H)
  | [], k, h => pa_imp pa_nil fun σ H Q kf w => fun _ => w.2
  | (x, p1, p2, p3, p4) :: r, k, h => by
    obtain ⟨Cj, h1, h2, h3, h4⟩ := h 0 x rfl
    have ih := pa_iss hr hi hv hd hcd hg hm r (k + 1) fun j y e => by
      obtain ⟨Cj, h1, h2, h3⟩ := h (j + 1) y (by simpa using e)
      exact ⟨Cj, h1, by rw [h2]; congr 2; omega, h3⟩
    have hc : PE Y (.Name x p3) (tC (.ref Cj)) := pe_glob h3 h1 rfl h4
    refine pa_imp (pa_cons (pe_callB hr hg hm (by decide +kernel) (pa_cons (pe_var hi hv hd hcd) (pa_cons hc pa_nil rfl) rfl) (by decide +kernel) (by decide +kernel) rfl rfl) ih rfl) fun σ H Q kf w => ?_
    refine ⟨.ref a, w.1, .ref Cj, .ref Cj, c == k, rfl, fun u r => r, by simpa using h2, w.1, ?_⟩
    intro _
    have := w.2
    rw [List.length_cons, List.range'_succ, List.map_cons] at this
    exact this
theorem pss_impK {X : Cx} {ss : List Stmt} {t t' : TS} (h : PSs X ss t) (hi : ∀ Dn σ H, KF X.K H → t' Dn σ H → t (endK X.K Dn) σ H) : PSs X ss t' :=
  ⟨fun pins s σ H Dn I h' => thn (h.run pins s σ H (endK X.K Dn) I (hi Dn σ H (kf_inv I) h')) fun f s1 q => by
    cases f with
    | next => obtain ⟨σ', H', I', q⟩ := q; exact ⟨σ', H', I', q (kf_inv I')⟩
    | brk => obtain ⟨σ', H', I', q⟩ := q; exact ⟨σ', H', I', q (kf_inv I')⟩
    | cont => obtain ⟨σ', H', I', q⟩ := q; exact ⟨σ', H', I', q (kf_inv I')⟩
    | ret u => obtain ⟨v, σ', H', I', r, q⟩ := q; exact ⟨v, σ', H', I', r, q (kf_inv I')⟩⟩
def tryD (m : Nat) (f : DS) : DS := fun ρ => match f ρ with
  | .exc c => if c < m then .ok (.rt (.int (c : Nat)), ρ) else .stuck
  | r => r
theorem s_tryI {X : Cx} {G : Gc} {L : Nat} {bl : List Str} {A : List Stmt} {F : DS} {i : Nat} {n : Str} {ex : List Str} {xs : List (Str × Isp)} {lp ap cp2 cp rp hpos np pos : Pos} {jk : Nat} (C : SCtx X G L bl) (hdp : G.dp = none) (hs : X.stack = X.env :: X.outer) (hf : X.env.frame = some X.env.locals) (hi : X.N[i]? = some n) (hln : X.env.scope.names.lookup n = some .local)
    (hd : (n == ("__debug__" : Str)) = false) (hcd : (n == ("__classdict__" : Str)) = false) (hg : Gl X "isinstance") (hm : ("isinstance" : Str) ∈ bl) (hgp : Gl X "PanelError") (T : TryM X.K X.mg G.cl ex) (hex : xs.map (·.1) = ex) (hxs : ∀ x ∈ ex, Gl X x ∧ (x == ("__debug__" : Str)) = false) (hlen : xs.length ≤ 100) (hline : (ap.endLine == cp.line) = true)
    (tk : Takes X (fun cls d _ H => G.E cls d H))
    (hb : ∀ (E : XK) (pn : List (Addr × Obj)) (xe : Value → Shared → Prop), Takes (X.tr pn xe) (fun cls d _ H => E cls d H) → PassesOwn (model X.prog X.w) X.A X.env xe → PSs (X.tr pn xe) A (tSS { G with E := E } F)) :
    PS X (.Try A [.ExceptHandler (some (.Name "PanelError" np)) (some n) [.Return (some (.Call (.Attribute (.List (issE n xs) lp) "index" ap) [.Constant (.bool true) jk cp2] [] cp)) rp] hpos] [] [] pos) (tSS G (tryD ex.length F)) := by
  obtain ⟨C0, g0, hC⟩ := T.pe
  have hnm : Names X "PanelError" (.ref C0) := ⟨hgp, by decide +kernel, .inl g0⟩
  let ts : Addr → Value → Option Addr → TS := fun a cls d D σ H => ∃ c x, ex[c]? = some x ∧ cls = G.cl c ∧ d = none ∧ σ[i]? = some (some (.ref a)) ∧ ∀ H', Same H H' → KF X.K H' → D.rt (.int (c : Nat)) H'
  refine ps_imp (ps_try_as (ts := ts) (Wout := fun cls d _ H => G.E cls d H) (tb := fun W D σ H => tSS { G with E := fun cls d H => ∀ σ : L2.St, σ.length = X.N.length → W cls d σ H } F D σ H) hs hf C.nd hi hln hnm tk (fun W pn xe tkW po => ?_) (fun a oe cls d pn hz hfd => ?_)) fun D σ H kf w => ?_
  · refine hb _ pn xe ?_ po
    intro u s' ⟨a, B, sI, pins, σ, H, cls, d, e, I, nb, up, sky, na, os, ag, q⟩
    exact tkW u s' ⟨a, B, sI, pins, σ, H, cls, d, e, I, nb, up, sky, na, os, ag, q σ I.len⟩
  · refine ⟨fun pins s σ H D I ⟨c, x, h1, h2, h3, h4, h5⟩ => ?_⟩
    have hcon : ∀ hP : PSs (X.suite a ((a, oe) :: pn)) [.Return (some (.Call (.Attribute (.List (issE n xs) lp) "index" ap) [.Constant (.bool true) jk cp2] [] cp)) rp] (fun D σ H => σ[i]? = some (some (.ref a)) ∧ ∀ H', Same H H' → KF X.K H' → D.rt (.int (c : Nat)) H'), _ := fun hP => hP.run pins s σ H D I ⟨h4, h5⟩
    refine hcon ?_
    obtain ⟨Cc, e1, e2, e3, e4⟩ := hC c x h1
    rw [e1] at h2
    subst h2 h3
    have hr := call_isE (pn := pn) (X := X) (a := a) e3 hz hfd
    have hpa := pa_iss (Y := X.suite a ((a, oe) :: pn)) (i := i) (c := c) (n := n) hr hi (.inl hln) hd hcd hg (C.blt _ hm) xs 0 fun j y e => by
      have ey : ex[j]? = some y := by rw [← hex, List.getElem?_map]; exact e
      obtain ⟨Cj, j1, j2, j3⟩ := e4 j y ey
      obtain ⟨j4, j5⟩ := hxs y (List.mem_of_getElem? ey)
      exact ⟨Cj, j2, by rw [Nat.zero_add]; exact j3, j4, j5⟩
    have hcl : c < xs.length := by
      have : c < ex.length := by rw [List.getElem?_eq_some_iff] at h1; exact h1.1
      rw [← hex] at this; simpa using this
    refine pss_impK (X := X.suite a ((a, oe) :: pn)) (pss_one (ps_ret (pe_bm PySem.F.plainAttrs_list PySem.F.slot_list_index PySem.F.type_list_index mt_index (pe_lst hpa) (pa_cons pe_bl pa_nil rfl) rfl rfl hline rfl rfl))) fun D σ H kf ⟨h4, h5⟩ => ?_
    refine ⟨h4, by rw [List.length_map, List.length_range', sizeLine_eq]; omega, fun p hp' => ⟨.inl ⟨rfl, _, .of upd_same⟩, ?_⟩⟩
    refine ⟨p, _, .bl true, c, .bl true, rfl, rfl, .of upd_same, rfl, ?_, ?_, rfl, fun m z' hm' hz' => ?_, ?_⟩
    · rw [List.all_map]; exact List.all_eq_true.mpr fun _ _ => rfl
    · rw [List.getElem?_map, List.getElem?_range' (by omega)]; simp
    · rw [List.getElem?_map, List.getElem?_range' (by omega)] at hz'
      have : z' = .bl false := by
        have e : (c == 0 + m) = false := by simp; omega
        simp at hz'
        rw [← hz']
        congr 1
        simp; omega
      rw [this]; rfl
    · exact fun k => h5 _ (same_upd hp') k
  · intro k
    obtain ⟨O, ρ, R, q⟩ := w (C.kf kf)
    refine ⟨O, ρ, ⟨R.base, R.sub, R.trk, R.fre, R.len, R.slot, R.owns, R.dist, R.dpa⟩, ?_⟩
    unfold tryD at q
    cases hF : F ρ with
    | ok r =>
      rw [hF] at q
      obtain ⟨fl, ρ'⟩ := r
      cases fl with
      | nx => exact fun O' σ' H' s R' => q O' σ' H' s ⟨R'.base, R'.sub, R'.trk, R'.fre, R'.len, R'.slot, R'.owns, R'.dist, R'.dpa⟩
      | rt d => exact q
      | bk => exact fun O' σ' H' s R' => q O' σ' H' s ⟨R'.base, R'.sub, R'.trk, R'.fre, R'.len, R'.slot, R'.owns, R'.dist, R'.dpa⟩
      | ct => exact fun O' σ' H' s R' => q O' σ' H' s ⟨R'.base, R'.sub, R'.trk, R'.fre, R'.len, R'.slot, R'.owns, R'.dist, R'.dpa⟩
    | exc c =>
      rw [hF] at q
      dsimp only at q
      split at q
      · rename_i hc
        intro H' s σ hσ
        obtain ⟨Cc, e1, e2, e3, e4⟩ := hC c _ (List.getElem?_eq_getElem hc)
        refine ⟨true, by rw [e1]; exact e2, fun _ a ha => ⟨c, _, List.getElem?_eq_getElem hc, rfl, rfl, ?_, ?_⟩, fun z => by cases z⟩
        · rw [List.getElem?_set_self (by rw [hσ]; rw [List.getElem?_eq_some_iff] at hi; exact hi.1)]
        · exact fun H2 s2 k2 => q _ _ (SameX.trans s s2) (C.kf k2) rfl (fun i a e => by rw [hdp] at e; cases e)
      · exact q.elim
    | stuck => rw [hF] at q; exact q.elim
end
end Den
namespace Den
open PySem PySem.Spec PyProof.Rows L2
section
variable {X : Cx} {pins : List (Addr × Obj)} {σ : L2.St} {H : Hp} {s : Shared} {O : Addr → Prop}
mutual
theorem nis_of (I : L2.Inv X pins σ H s) : ∀ {d : D} {v : V} {u : Value}, kPt d = true → At X.K H O d v → RelV v u → NestedIs s.heap (nk d) u
  | .none, _, _, _, a, r => by cases a; cases r; exact .none
  | .bool b, _, _, _, a, r => by cases a; cases r; exact .bool rfl
  | .int i, _, _, _, a, r => by cases a; obtain ⟨t, rfl⟩ := r; exact .int _ _
  | .str x, _, _, _, a, r => by cases a; obtain ⟨t, rfl⟩ := r; exact .text _ _
  | .tuple ds, _, _, k, a, r => by
    obtain ⟨p, vs, rfl, h1, _, h2⟩ := a
    cases r
    obtain ⟨its, rv, ⟨o, e1, e2, n, e3⟩, _⟩ := I.tuple h1.q
    exact .tup e1 e2 e3 (by simpa using niss_of I (show kPts ds = true from k) h2 rv)
theorem niss_of (I : L2.Inv X pins σ H s) : ∀ {ds : List D} {vs : List V} {us : List Value}, kPts ds = true → AtL X.K H O ds vs → Vals vs us → NestedAll s.heap (nks ds) us
  | [], _, _, _, a, r => by cases a; cases r; exact .nil
  | d :: ds, _, _, k, a, r => by
    obtain ⟨v, r', rfl, a1, a2⟩ := a
    cases r with
    | cons r1 r2 =>
      have k' : (kPt d && kPts ds) = true := k
      rw [Bool.and_eq_true] at k'
      exact .cons (nis_of I k'.1 a1 r1) (niss_of I k'.2 a2 r2)
end
theorem key_is (I : L2.Inv X pins σ H s) {d : D} {b : Addr} (k : kOk d = true) (a : At X.K H O d (.ref b)) : (nestedKind X.prog X.w).is s.heap (nk d) b := by
  unfold kOk at k
  simp only [Bool.and_eq_true, decide_eq_true_eq] at k
  exact ⟨nis_of I k.1.2 a rfl, k.2⟩
abbrev EnR : NestedKey × Addr × V → NestedKey × Addr × Value → Prop := fun p q => p.1 = q.1 ∧ p.2.1 = q.2.1 ∧ RelV p.2.2 q.2.2
theorem ens_is (I : L2.Inv X pins σ H s) : ∀ {kvs : List (D × D)} {es : List (NestedKey × Addr × V)} {xs : List (NestedKey × Addr × Value)}, DEs X.K H O kvs es → Paired EnR es xs → ∀ x ∈ xs, (nestedKind X.prog X.w).is s.heap x.1 x.2.1
  | [], _, _, h, p => by cases h; cases p; intro x hx; cases hx
  | q :: r, _, _, h, p => by
    obtain ⟨b, v, es', rfl, h1, h2, _, h4⟩ := h
    cases p with
    | cons e t =>
      intro x hx
      rcases List.mem_cons.mp hx with rfl | hx
      · obtain ⟨e1, e2, _⟩ := e
        have := key_is I h1 h2
        dsimp only at e1 e2
        rw [← e1, ← e2]
        exact this
      · exact ens_is I h4 t x hx
theorem dict_at (I : L2.Inv X pins σ H s) {a : Addr} {kvs : List (D × D)} {es : List (NestedKey × Addr × V)} (e : H a = some (dctO X.prog X.w a es)) (h : DEs X.K H O kvs es) :
    es.length ≤ sizeLine ∧ (a == sysModules) = false ∧ ∃ xs, Paired EnR es xs ∧ s.heap.DictOfH (nestedKind X.prog X.w) a xs := by
  obtain ⟨⟨z, hs, xs, p, nd, o, en, ep, e1, e2, e3, e4⟩, _, _⟩ := I.hok a _ e
  exact ⟨z, hs, xs, p, o, en, ep, e1, e2, e3, e4, ens_is I h p, nd⟩
def getKv (kvs : List (D × D)) (k : NestedKey) : Option D := (kvs.find? fun p => decide (nk p.1 = k)).map (·.2)
def putKv (kvs : List (D × D)) (k d : D) : List (D × D) := if (getKv kvs (nk k)).isSome = true then kvs.map (fun p => if nk p.1 = nk k then (p.1, d) else p) else kvs ++ [(k, d)]
theorem getKv_nil (k : NestedKey) : getKv [] k = none := rfl
theorem getKv_cons (p : D × D) (r : List (D × D)) (k : NestedKey) : getKv (p :: r) k = if nk p.1 = k then some p.2 else getKv r k := by
  unfold getKv
  rw [List.find?_cons]
  by_cases h : nk p.1 = k <;> simp [h]
theorem atKey_cons (x : NestedKey × Addr × Value) (r : List (NestedKey × Addr × Value)) (k : NestedKey) : atKey (x :: r) k = if x.1 = k then some x.2 else atKey r k := by
  unfold atKey
  rw [List.find?_cons]
  by_cases h : x.1 = k <;> simp [h]
theorem at_get {K : W.Frag} (k : NestedKey) : ∀ {kvs : List (D × D)} {es : List (NestedKey × Addr × V)} {xs : List (NestedKey × Addr × Value)}, DEs K H O kvs es → Paired EnR es xs →
    (getKv kvs k = none ∧ atKey xs k = none) ∨ ∃ d b v u, getKv kvs k = some d ∧ atKey xs k = some (b, u) ∧ At K H O d v ∧ RelV v u
  | [], _, _, h, p => by cases h; cases p; exact .inl ⟨rfl, rfl⟩
  | q :: r, _, _, h, p => by
    obtain ⟨b, v, es', rfl, h1, h2, h3, h4⟩ := h
    cases p with
    | cons e t =>
      obtain ⟨e1, e2, e3⟩ := e
      dsimp only at e1 e2 e3
      rw [getKv_cons, atKey_cons, ← e1]
      by_cases hk : nk q.1 = k
      · rw [if_pos hk, if_pos hk]
        exact .inr ⟨_, _, _, _, rfl, rfl, h3, e3⟩
      · rw [if_neg hk, if_neg hk]
        exact at_get k h4 t
theorem put_map {K : W.Frag} {kd d : D} {v : V} {u : Value} (a2 : At K H O d v) (r2 : RelV v u) : ∀ {kvs : List (D × D)} {es : List (NestedKey × Addr × V)} {xs : List (NestedKey × Addr × Value)}, DEs K H O kvs es → Paired EnR es xs →
    ∃ es', DEs K H O (kvs.map fun p => if nk p.1 = nk kd then (p.1, d) else p) es' ∧ Paired EnR es' (xs.map (putAt (nk kd) u)) ∧ es'.length = es.length
  | [], _, _, h, p => by cases h; cases p; exact ⟨[], rfl, .nil, rfl⟩
  | q :: r, _, _, h, p => by
    obtain ⟨b, w, es0, rfl, h1, h2, h3, h4⟩ := h
    cases p with
    | @cons _ x _ xs0 e t =>
      obtain ⟨e1, e2, e3⟩ := e
      dsimp only at e1 e2 e3
      obtain ⟨es', g1, g2, g3⟩ := put_map (kd := kd) a2 r2 h4 t
      by_cases hk : nk q.1 = nk kd
      · refine ⟨(nk q.1, b, v) :: es', ?_, ?_, by simp [g3]⟩
        · rw [List.map_cons, if_pos hk]
          exact ⟨b, v, es', rfl, h1, h2, a2, g1⟩
        · rw [List.map_cons]
          refine .cons ?_ g2
          unfold putAt
          rw [if_pos (e1 ▸ hk)]
          exact ⟨e1, e2, r2⟩
      · refine ⟨(nk q.1, b, w) :: es', ?_, ?_, by simp [g3]⟩
        · rw [List.map_cons, if_neg hk]
          exact ⟨b, w, es', rfl, h1, h2, h3, g1⟩
        · rw [List.map_cons]
          refine .cons ?_ g2
          unfold putAt
          rw [if_neg (e1 ▸ hk)]
          exact ⟨e1, e2, e3⟩
theorem DEs.snoc {K : W.Frag} {kd d : D} {b : Addr} {v : V} (k : kOk kd = true) (a1 : At K H O kd (.ref b)) (a2 : At K H O d v) : ∀ {kvs : List (D × D)} {es : List (NestedKey × Addr × V)}, DEs K H O kvs es → DEs K H O (kvs ++ [(kd, d)]) (es ++ [(nk kd, b, v)])
  | [], _, h => by cases h; exact ⟨b, v, [], rfl, k, a1, a2, rfl⟩
  | q :: r, _, h => by
    obtain ⟨b', w, es0, rfl, h1, h2, h3, h4⟩ := h
    exact ⟨b', w, _, rfl, h1, h2, h3, DEs.snoc k a1 a2 h4⟩
theorem Paired.snoc {α β : Type} {F : α → β → Prop} {a : α} {b : β} (e : F a b) : ∀ {l : List α} {m : List β}, Paired F l m → Paired F (l ++ [a]) (m ++ [b])
  | _, _, .nil => .cons e .nil
  | _, _, .cons r t => .cons r (Paired.snoc e t)
theorem put_rel {K : W.Frag} {kd d : D} {b : Addr} {v : V} {u : Value} {kvs : List (D × D)} {es : List (NestedKey × Addr × V)} {xs : List (NestedKey × Addr × Value)} (h : DEs K H O kvs es) (p : Paired EnR es xs) (k : kOk kd = true) (a1 : At K H O kd (.ref b)) (a2 : At K H O d v) (r2 : RelV v u) :
    ∃ es', DEs K H O (putKv kvs kd d) es' ∧ Paired EnR es' (storedH xs (nk kd) b u) ∧ es'.length ≤ es.length + 1 := by
  rcases at_get (nk kd) h p with ⟨e1, e2⟩ | ⟨d', b', v', u', e1, e2, _, _⟩
  · refine ⟨es ++ [(nk kd, b, v)], ?_, ?_, by simp⟩
    · unfold putKv
      rw [e1, if_neg (by simp)]
      exact h.snoc k a1 a2
    · rw [storedH_new e2]
      exact Paired.snoc ⟨rfl, rfl, r2⟩ p
  · obtain ⟨es', g1, g2, g3⟩ := put_map (kd := kd) a2 r2 h p
    refine ⟨es', ?_, ?_, by omega⟩
    · unfold putKv
      rw [e1, if_pos (show (some d').isSome = true from rfl)]
      exact g1
    · rw [storedH_old e2]
      exact g2
theorem dct_ok {P : Program} {w : World} {H' : Hp} {h : Heap} {a : Addr} {es : List (NestedKey × Addr × V)} (f : dctF P w a es h) : ObjOk P w H' h a (dctO P w a es) := by
  refine ⟨f, ?_, fun h1 h2 g k => ?_⟩
  · obtain ⟨_, _, _, _, _, o, _, _, e, _⟩ := f
    exact ⟨o, e⟩
  · obtain ⟨z, hs, xs, p, nd, o, en, ep, e, r⟩ := g
    exact ⟨z, hs, xs, p, nd, o, en, ep, k o e, r⟩
theorem dct_new {P : Program} {w : World} {H' : Hp} (h : Heap) (hb : sysModules < h.objs.size) : ObjOk P w H' (h.push { cls := .type "dict", data := .dict #[] }) h.objs.size (dctO P w h.objs.size []) :=
  dct_ok ⟨Nat.zero_le _, beq_eq_false_iff_ne.mpr (Ne.symm (Nat.ne_of_lt hb)), [], .nil, .nil, _, #[], 0, Heap.get?_push_size _ rfl, ⟨rfl, rfl, rfl⟩, rfl, rfl⟩
theorem pe_dnewX {pos : Pos} : PE X (.Dict [] [] pos) (fun _ H Q => ∀ p, H p = none → Q (.ref p) (upd H p (dctO X.prog X.w p []))) := ⟨fun pins s σ H Q I q =>
  wpAny_Dict_empty ⟨.ref s.heap.objs.size, _, I.laid (t' := s.toks) (fun _ _ e => Heap.get?_push_of_some _ e) (Nat.le_refl _) (dct_new s.heap I.big), rfl, q _ (I.hok.fresh (Nat.le_refl _))⟩⟩
end
section
variable {X : Cx} {G : Gc} {L : Nat} {bl : List Str} {e : Expr} {es : List Expr} {fs : Ro → Rs (List D)} {fl : List Kd} {pos : Pos}
theorem m_consD (C : Ctx X G L bl) (hs : PA X es (tMix G fl fs)) (hst : starEach (.Dict [] [] pos :: es) X.env = (false, eval (.Dict [] [] pos) X.env) :: starEach es X.env) : PA X (.Dict [] [] pos :: es) (tMix G (.d :: fl) (consArg (fun _ => .ok (.dict [])) fs)) := by
  refine pa_imp (pa_cons pe_dnewX hs hst) fun σ H Q kf w => ?_
  obtain ⟨O, ρ, R, p⟩ := w (C.kf kf)
  rw [C.P, C.w]
  intro p' hp k1
  have nk := kf_no k1 upd_same
  refine ⟨fun a => O a ∨ a = p', ρ, R.plusD (same_upd hp) hp upd_same nk, (Post.imp (Post.bind (H := H) p) fun ds _ q2 vs H2 O2 k2 m2 => fun _ => ?_)⟩
  exact q2 (.ref p' :: vs) H2 O2 k2 ((if_neg (by decide)).mpr ⟨_, p', rfl, ⟨same_upd hp, hp, nk, [], upd_same, rfl⟩, m2⟩)
end
end Den
namespace Den
open PySem PySem.Spec PyProof.Rows L2
structure KyAt (P : Program) (w : World) (K : W.Frag) (H : Hp) (O : Addr → Prop) (a : Addr) (y : V) (kvs : List (D × D)) (es : List (NestedKey × Addr × V)) (kd : D) (b : Addr) : Prop where
  y : y = .ref b
  d : H a = some (dctO P w a es)
  e : DEs K H O kvs es
  k : kOk kd = true
  at_ : At K H O kd (.ref b)
theorem key_ref {K : W.Frag} {H : Hp} {O : Addr → Prop} {kd : D} {y : V} (k : kOk kd = true) (a : At K H O kd y) : ∃ b, y = .ref b := by
  cases kd with
  | tuple ds => obtain ⟨b, _, rfl, _⟩ := a; exact ⟨b, rfl⟩
  | _ => simp [kOk] at k
def rInX (P : Program) (w : World) (K : W.Frag) (neg : Bool) : R2 := fun y x H Q => ∃ O a kvs es kd b, x = .ref a ∧ KyAt P w K H O a y kvs es kd b ∧ Q (.bl (if neg then !(getKv kvs (nk kd)).isSome else (getKv kvs (nk kd)).isSome)) H
section
variable {X : Cx} {G : Gc} {L : Nat} {bl : List Str} {e : Expr} {f g : DE} {pos px p2 : Pos} {x : Str} {i : Nat}
theorem hu_in1 (h : X.A.units + 64 < cLine) : (nestedKind X.prog X.w).room X.A.in1 := by
  show X.A.units + 1 + 8 < cLine
  omega
theorem op_inX (hu : X.A.units + 64 < cLine) : OpR X (compareOp .In) (rInX X.prog X.w X.K false) := by
  intro pins s σ H y x u v Q I ry rx h
  obtain ⟨O, a, kvs, es, kd, b, rfl, ⟨rfl, d, e, k, ka⟩, q⟩ := h
  cases rx; cases ry
  obtain ⟨z, hs, xs, p, dd⟩ := dict_at I d e
  refine wpAny_in_heap (hu_in1 hu) (key_is I k ka) hs dd ?_
  have hq : (atKey xs (nk kd)).isSome = (getKv kvs (nk kd)).isSome := by
    rcases at_get (nk kd) e p with ⟨e1, e2⟩ | ⟨_, _, _, _, e1, e2, _⟩ <;> rw [e1, e2] <;> rfl
  rw [hq]
  exact ⟨.bl _, H, I.tok _, rfl, q⟩
theorem op_notInX (hu : X.A.units + 64 < cLine) : OpR X (compareOp .NotIn) (rInX X.prog X.w X.K true) := by
  intro pins s σ H y x u v Q I ry rx h
  obtain ⟨O, a, kvs, es, kd, b, rfl, ⟨rfl, d, e, k, ka⟩, q⟩ := h
  cases rx; cases ry
  obtain ⟨z, hs, xs, p, dd⟩ := dict_at I d e
  have hq : (atKey xs (nk kd)).isSome = (getKv kvs (nk kd)).isSome := by
    rcases at_get (nk kd) e p with ⟨e1, e2⟩ | ⟨_, _, _, _, e1, e2, _⟩ <;> rw [e1, e2] <;> rfl
  refine wpAny_notIn_heap (hu_in1 hu) (key_is I k ka) hs dd ?_
  rw [hq]
  exact ⟨.bl _, H, I.tok _, rfl, q⟩
def tDv (G : Gc) (i : Nat) : TE := fun σ H Q => ∃ a, σ[i]? = some (some (.ref a)) ∧ Q (.ref a) H
theorem pe_dv (hN : X.N[i]? = some x) (hv : Vis X.env.scope x) (hd : (x == ("__debug__" : Str)) = false) (hcd : (x == ("__classdict__" : Str)) = false) : PE X (.Name x px) (tDv G i) :=
  pe_imp (pe_var hN hv hd hcd) fun σ H Q kf ⟨a, e, q⟩ => ⟨.ref a, e, fun _ => q⟩
def dinE (neg : Bool) (f : DE) (i : Nat) : DE := fun ρ => do
  let k ← f ρ
  match ρ[i]? with
  | some (some (.dict kvs)) => if kOk k = true then .ok (.bool (if neg then !(getKv kvs (nk k)).isSome else (getKv kvs (nk k)).isSome)) else .stuck
  | _ => .stuck
theorem dct_slot {O : Addr → Prop} {σ : L2.St} {H : Hp} {ρ : Ro} {kvs : List (D × D)} (R : Rep G O σ H ρ) (hw : G.own i = true) (hdt : G.dct i = true) (e : ρ[i]? = some (some (.dict kvs))) : ∃ a es, σ[i]? = some (some (.ref a)) ∧ H a = some (dctO G.P G.w a es) ∧ DEs G.K H O kvs es ∧ O a ∧ ¬ G.O0 a := by
  obtain ⟨a, kvs', es, e0, e1, e2, e3, e4, e5⟩ := R.dctA e hw hdt
  cases e0
  exact ⟨a, es, e1, e2, e3, e4, e5⟩
theorem din_core (C : Ctx X G L bl) {neg : Bool} (hw : G.own i = true) (hdt : G.dct i = true) {σ : L2.St} {H : Hp} {Q : VK} (w : tS G (dinE neg f i) σ H Q) : tOp (rInX X.prog X.w X.K neg) (tS G f) (tDv G i) σ H Q := fun k0 => by
  obtain ⟨O, ρ, R, p⟩ := w k0
  refine ⟨O, ρ, R, p.bind.imp fun d _ q y H1 s1 k1 a1 => ?_⟩
  split at q
  · rename_i kvs e
    split at q
    · rename_i hk
      obtain ⟨a, es, e1, e2, e3, e4, e5⟩ := dct_slot (R.same s1) hw hdt e
      obtain ⟨b, rfl⟩ := key_ref hk a1
      refine ⟨a, e1, O, a, kvs, es, d, b, rfl, ⟨rfl, ?_, C.K ▸ e3, hk, C.K ▸ a1⟩, ?_⟩
      · rw [C.P, C.w]; exact e2
      · exact q _ H1 s1 k1 rfl
    · exact q.elim
  · exact q.elim
theorem tS_kf {K : W.Frag} {h : DE} {σ : L2.St} {H : Hp} {Q : VK} (w : tS G h σ H Q) : tS G h σ H fun v H' => KF K H' → Q v H' := fun k => by
  obtain ⟨O, ρ, R, p⟩ := w k
  exact ⟨O, ρ, R, p.imp fun d _ q v H' s k a => fun _ => q v H' s k a⟩
theorem d_din (C : Ctx X G L bl) {neg : Bool} (hN : X.N[i]? = some x) (hv : Vis X.env.scope x) (hd : (x == ("__debug__" : Str)) = false) (hcd : (x == ("__classdict__" : Str)) = false) (hw : G.own i = true) (hdt : G.dct i = true) (hk : PE X e (tS G f)) : PE X (.Compare e [if neg then .NotIn else .In] [.Name x px] pos) (tS G (dinE neg f i)) := by
  cases neg with
  | false => exact pe_imp (pe_cmpR (op_inX C.hu0) hk (pe_dv (G := G) hN hv hd hcd) rfl) fun σ H Q kf w => din_core (Q := fun v H' => KF X.K H' → Q v H') C hw hdt (tS_kf w)
  | true => exact pe_imp (pe_cmpR (op_notInX C.hu0) hk (pe_dv (G := G) hN hv hd hcd) rfl) fun σ H Q kf w => din_core (Q := fun v H' => KF X.K H' → Q v H') C hw hdt (tS_kf w)
theorem t_din (C : Ctx X G L bl) {neg : Bool} (hN : X.N[i]? = some x) (hv : Vis X.env.scope x) (hd : (x == ("__debug__" : Str)) = false) (hcd : (x == ("__classdict__" : Str)) = false) (hw : G.own i = true) (hdt : G.dct i = true) (hk : PE X e (tS G f)) : PT X (.Compare e [if neg then .NotIn else .In] [.Name x px] pos) (tTst G (tstE (dinE neg f i))) := by
  have core : ∀ σ H (Q : Bool → Hp → Prop), tTst G (tstE (dinE neg f i)) σ H Q → tS G (dinE neg f i) σ H fun z H3 => KF X.K H3 → ∃ k, z = .bl k ∧ (KF X.K H3 → Q k H3) := fun σ H Q w k => by
    obtain ⟨O, ρ, R, p⟩ := w k
    refine ⟨O, ρ, R, p.bind.imp fun d _ q v H' s1 k1 a1 => ?_⟩
    cases d with
    | bool b => cases a1; exact fun _ => ⟨b, rfl, fun _ => q H' s1 k1⟩
    | _ => exact q.elim
  cases neg with
  | false => exact pt_imp (pt_cmpK (op_inX C.hu0) hk (pe_dv (G := G) hN hv hd hcd) rfl) fun σ H Q kf w => din_core C hw hdt (core σ H Q w)
  | true => exact pt_imp (pt_cmpK (op_notInX C.hu0) hk (pe_dv (G := G) hN hv hd hcd) rfl) fun σ H Q kf w => din_core C hw hdt (core σ H Q w)
def tGetX (P : Program) (w : World) (K : W.Frag) (td ty : TE) : TE := fun σ H Q => td σ H fun x H1 => ty σ H1 fun y H2 => ∃ O a kvs es kd b d, x = .ref a ∧ KyAt P w K H2 O a y kvs es kd b ∧ getKv kvs (nk kd) = some d ∧ ∀ v, At K H2 O d v → Q v H2
theorem pe_getX {o j : Expr} {td ty : TE} (hu : X.A.units + 64 < cLine) (ho : PE X o td) (hi : PE X j ty) (hs : NoSl j) : PE X (.Subscript o j pos) (tGetX X.prog X.w X.K td ty) := by
  refine ⟨fun pins s σ H Q I h => ?_⟩
  refine subD_of PySem.F.slot_dict_getitem.lookup hs (thn (ho.run pins s σ H _ I h) fun u s1 ⟨x, H1, I1, rx, q1⟩ => thn (hi.run pins s1 σ H1 _ I1 q1) fun iv s2 ⟨y, H2, I2, ry, O, a, kvs, es, kd, b, d, ex, ⟨ey, ed, ee, k, ka⟩, hg, q2⟩ => ?_)
  subst ex ey
  cases rx; cases ry
  obtain ⟨z, hs, xs, p, dd⟩ := dict_at I2 ed ee
  refine ⟨dd.typeIs, ?_⟩
  rcases at_get (nk kd) ee p with ⟨e1, e2⟩ | ⟨d', b', v', u', e1, e2, a3, r3⟩
  · rw [hg] at e1; cases e1
  · rw [hg] at e1; cases e1
    exact wpAny_getItem_heap (hu_in1 hu) (key_is I2 k ka) dd e2 ⟨v', H2, I2.tok _, r3, q2 v' a3⟩
def dgetE (f : DE) (i : Nat) : DE := fun ρ => match ρ[i]? with
  | some (some (.dict kvs)) => do
    let k ← f ρ
    if kOk k = true then (match getKv kvs (nk k) with | some d => .ok d | none => .stuck) else .stuck
  | _ => .stuck
theorem d_dget (C : Ctx X G L bl) (hN : X.N[i]? = some x) (hv : Vis X.env.scope x) (hd : (x == ("__debug__" : Str)) = false) (hcd : (x == ("__classdict__" : Str)) = false) (hw : G.own i = true) (hdt : G.dct i = true) (hk : PE X e (tS G f)) (hs : NoSl e) : PE X (.Subscript (.Name x px) e pos) (tS G (dgetE f i)) := by
  refine pe_imp (pe_getX C.hu0 (pe_dv (G := G) hN hv hd hcd) hk hs) fun σ H Q kf w => ?_
  obtain ⟨O, ρ, R, p⟩ := w (C.kf kf)
  unfold dgetE at p
  split at p
  · rename_i kvs e
    obtain ⟨a, es, e1, e2, e3, e4, e5⟩ := dct_slot R hw hdt e
    refine ⟨a, e1, fun k1 => ⟨O, ρ, R, p.bind.imp fun d _ q y H1 s1 k1 a1 => ?_⟩⟩
    split at q
    · rename_i hk
      split at q
      · rename_i d' hg
        obtain ⟨b, rfl⟩ := key_ref hk a1
        refine ⟨O, a, kvs, es, d, b, d', rfl, ⟨rfl, ?_, C.K ▸ e3.same s1, hk, C.K ▸ a1⟩, hg, fun v av => fun _ => q v H1 s1 k1 (C.K ▸ av)⟩
        rw [C.P, C.w]; exact s1 _ _ e2
      · exact q.elim
    · exact q.elim
  · exact p.elim
def sPutX (P : Program) (w : World) (K : W.Frag) (td ty tv : TE) : TS := fun Dn σ H => tv σ H fun v H1 => td σ H1 fun x H2 => ty σ H2 fun y H3 => ∃ O a kvs es kd b d, x = .ref a ∧ KyAt P w K H3 O a y kvs es kd b ∧ At K H3 O d v ∧ es.length < sizeLine ∧
  ∀ es', DEs K H3 O (putKv kvs kd d) es' → Dn.nx σ (upd H3 a (dctO P w a es'))
theorem ps_putX {o j value : Expr} {pos' : Pos} {td ty tv : TE} (hu : X.A.units + 64 < cLine) (ho : PE X o td) (hi : PE X j ty) (hv : PE X value tv) (hs : swapsWith value (some (.Subscript o j pos')) pos.line X.env = pure false) :
    PS X (.Assign [.Subscript o j pos'] value pos) (sPutX X.prog X.w X.K td ty tv) := by
  refine ⟨fun pins s σ H D I h => ?_⟩
  refine wpAny_Assign_Subscript (thn (hv.run pins s σ H _ I h) fun r s1 ⟨v, H1, I1, rv, q1⟩ => thn (ho.run pins s1 σ H1 _ I1 q1) fun u s2 ⟨x, H2, I2, rx, q2⟩ => thn (hi.run pins s2 σ H2 _ I2 q2) fun iv s3 ⟨y, H3, I3, ry, O, a, kvs, es, kd, b, d, ex, ⟨ey, ed, ee, k, ka⟩, av, hz, q3⟩ => ?_) hs
  subst ex ey
  cases rx; cases ry
  obtain ⟨z, hs, xs, p, dd⟩ := dict_at I3 ed ee
  obtain ⟨es', g1, g2, g3⟩ := put_rel ee p k ka av rv
  have hl : xs.length ≤ sizeLine := by rw [← Paired.length p]; exact z
  refine wpAny_setItem_heap (hsz := hl) (hu_in1 hu) (key_is I3 k ka) dd fun h' dd' sb => ?_
  obtain ⟨o, en, ep, e1, e2, e3, e4, _, nd⟩ := dd'
  refine ⟨σ, _, ?_, q3 es' g1⟩
  refine d_write I3 (by rw [ed]; exact True.intro) sb ⟨o, e1⟩ (dct_ok ⟨by omega, hs, _, g2, nd, o, en, ep, e1, e2, e3, e4⟩)
def dsetS (fk fv : DE) (i : Nat) : DS := fun ρ => match ρ[i]? with
  | some (some (.dict kvs)) => do
    let d ← fv ρ
    let k ← fk ρ
    if kOk k = true ∧ kvs.length < big then .ok (.nx, ρ.set i (some (.dict (putKv kvs k d)))) else .stuck
  | _ => .stuck
theorem s_dset (C : SCtx X G L bl) {fk fv : DE} {value : Expr} {pos' : Pos} (hN : X.N[i]? = some x) (hv : Vis X.env.scope x) (hd : (x == ("__debug__" : Str)) = false) (hcd : (x == ("__classdict__" : Str)) = false) (hw : G.own i = true) (hdt : G.dct i = true) (hk : PE X e (tS G fk)) (hval : PE X value (tS G fv))
    (hs : swapsWith value (some (.Subscript (.Name x px) e pos')) pos.line X.env = pure false) : PS X (.Assign [.Subscript (.Name x px) e pos'] value pos) (tSS G (dsetS fk fv i)) := by
  refine ps_imp (ps_putX C.hu0 (pe_dv (G := G) hN hv hd hcd) hk hval hs) fun Dn σ H kf w => fun k0 => ?_
  obtain ⟨O, ρ, R, p⟩ := w k0
  refine ⟨O, ρ, R, ?_⟩
  unfold dsetS at p
  split at p
  · rename_i kvs e
    obtain ⟨a, es, e1, e2, e3, e4, e5⟩ := dct_slot R hw hdt e
    refine PostS.exc_of (r := fv ρ) (O := O) p fun d _ q v H1 s1 k1 a1 => ⟨a, e1, fun k1' => ⟨O, ρ, R.same s1, Post.imp (H := H) (PostS.exc_of (r := fk ρ) (O := O) (H := H) q fun kd _ q => q) fun kd _ q y H2 s2 k2 a2 => ?_⟩⟩
    split at q
    · rename_i hkd
      obtain ⟨b, rfl⟩ := key_ref hkd.1 a2
      have hz := e3.length
      refine ⟨O, a, kvs, es, kd, b, d, rfl, ⟨rfl, ?_, C.K ▸ e3.same (s1.trans s2), hkd.1, C.K ▸ a2⟩, C.K ▸ a1.same s2, by rw [hz]; exact big_lt hkd.2, fun es' g => ?_⟩
      · rw [C.P, C.w]; exact (s1.trans s2) _ _ e2
      · rw [C.K] at g
        rw [C.P, C.w]
        have kp : Kp O H2 (upd H2 a (dctO G.P G.w a es')) := fun b o eb nb => by rw [upd_ne (by rintro rfl; exact nb e4)]; exact eb
        obtain ⟨R2, st⟩ := (R.same (s1.trans s2)).writeD (H' := upd H2 a (dctO G.P G.w a es')) (d' := .dict (putKv kvs kd d)) hw e e1 e4 e5 (fun b o eb nb => by rw [upd_ne nb]; exact eb) (by rw [hdt]; exact ⟨es', upd_same, g.keep kp⟩)
        exact q O σ _ ((Stp.same (s1.trans s2)).trans st) R2
    · exact q.elim
  · exact p.elim
end
end Den
namespace Den
open PySem PySem.Spec PyProof.Rows L2
def tDcX (P : Program) (w : World) (K : W.Frag) (wi : TI) (g : TG) (tk tv : TE) (ws : List Nat) : TE := fun σ H Q => wi σ H fun J H1 => ∀ D, H1 D = none → ∃ W : Nat → Nat → Hp → Prop, (∃ m, W 0 m (upd H1 D (dctO P w D []))) ∧ ∀ i m H, W i m H →
  (J.stop i H ∧ Q (.ref D) H) ∨ (J.go i H ∧ ∃ Z : Hp → Prop, (∀ H', Z H' → ∃ m', m' < m ∧ W (i + 1) m' H') ∧ ∀ x H', J.yld i H x H' → g x (wipe σ ws) H' fun τ H2 => wipe τ ws = wipe σ ws ∧
    tk τ H2 fun y H4 => tv τ H4 fun z H5 => ∃ O kvs es kd b d, KyAt P w K H5 O D y kvs es kd b ∧ At K H5 O d z ∧ es.length < sizeLine ∧ ∀ es', DEs K H5 O (putKv kvs kd d) es' → Z (upd H5 D (dctO P w D es')))
section
variable {X : Cx} {pins : List (Addr × Obj)} {σ : L2.St} {H : Hp} {s : Shared}
theorem put_in (hu : X.A.units + 64 < cLine) (I : L2.Inv X pins σ H s) {E : Value → Shared → Prop} {D : Addr} {y z : V} {u r : Value} {O : Addr → Prop} {kvs : List (Den.D × Den.D)} {es : List (NestedKey × Addr × V)} {kd d : Den.D} {b : Addr} (ky : KyAt X.prog X.w X.K H O D y kvs es kd b) (az : At X.K H O d z) (hz : es.length < sizeLine) (ry : RelV y u) (rz : RelV z r) {Q : Unit → Shared → Prop}
    (q : ∀ es' s', DEs X.K H O (putKv kvs kd d) es' → L2.Inv X pins σ (upd H D (dctO X.prog X.w D es')) s' → Q () s') : wpAny (model X.prog X.w) X.A (dictSet D u r) Q E s := by
  obtain ⟨rfl, hd, he, k, ka⟩ := ky
  cases ry
  obtain ⟨z1, hs, xs, p, dd⟩ := dict_at I hd he
  obtain ⟨es', g1, g2, g3⟩ := put_rel he p k ka az rz
  have hl : xs.length ≤ sizeLine := by rw [← Paired.length p]; exact z1
  have room : (nestedKind X.prog X.w).room X.A := by
    show X.A.units + 8 < cLine
    omega
  refine wpAny_dictSet_heap (hsz := hl) room (key_is I k ka) dd fun h' dd' sb => q es' _ g1 ?_
  obtain ⟨o, en, ep, e1, e2, e3, e4, _, nd⟩ := dd'
  exact d_write I (by rw [hd]; exact True.intro) sb ⟨o, e1⟩ (dct_ok ⟨by omega, hs, _, g2, nd, o, en, ep, e1, e2, e3, e4⟩)
theorem dcX_core {Q : VK} {kx vx tg iter : Expr} {scope : Scope} {own : List (Str × Nat)} {pos ip : Pos} {wi : TI} {g : TG} {tk tv : TE} {use : Option (Value → Sem Unit)} {Qf : Value → Shared → Prop}
    (calm : X.calm = true) (hu : X.A.units + 64 < cLine) (nd : X.N.Nodup) (I : L2.Inv X pins σ H s) (walk : PI X tg iter wi) (bk : BlkOk X.N X.env.scope scope own)
    (pgt : ∀ (s : Shared) (H : Hp) (C : Addr) (cl : List (Str × Addr)) (fp : List Addr), PG (X.blk s H scope (compEnvC scope cl C X.env) fp) tg g)
    (pkt : ∀ (s : Shared) (H : Hp) (C : Addr) (cl : List (Str × Addr)) (fp : List Addr), PE (X.blk s H scope (compEnvC scope cl C X.env) fp) kx tk)
    (pvt : ∀ (s : Shared) (H : Hp) (C : Addr) (cl : List (Str × Addr)) (fp : List Addr), PE (X.blk s H scope (compEnvC scope cl C X.env) fp) vx tv) (fold : ∀ x, foldedSetIterable iter X.env x = pure x)
    (w0 : tDcX X.prog X.w X.K wi g tk tv (own.map (·.2)) σ H Q)
    (out : ∀ D C s' m H', L2.Inv X pins σ H' s' → Q (.ref D) H' → s'.heap.Ns C m → FpOk X pins H' C → compPost (model X.prog X.w) X.A X.xe use Qf (.ref D) C (.ok .next) s') :
    wpAny (model X.prog X.w) X.A (comprehension (.DictComp kx vx [⟨tg, iter, [], 0⟩] scope pos) scope X.env ip newDict false (eval iter X.env) use) Qf X.xe s := by
  have cells : ∀ n ∈ scope.names, n.2 = .free → ∃ c, X.env.cells.lookup n.1 = some c := fun n hn e =>
    (bk.free n hn e).elim (fun z => I.ok.has _ (.inl z)) fun z => I.ok.has _ (.inr z)
  refine wpAny_comprehension_free (use := use) rfl fold (closure_ok cells) bk.kind (fun n hn e => by rw [bk.uniq n hn, e]) (thn (walk.run pins s σ H _ I w0) fun v1 sA hA => thn hA fun v2 sB hB => ?_)
  obtain ⟨it, fp, tn, J, HB, rfl, IB, T, stB, fB, turns⟩ := hB
  refine wpAny_newObj_type (newEnv_comp ?_)
  have hDn : HB sB.heap.objs.size = none := IB.hok.fresh (Nat.le_refl _)
  obtain ⟨W, ⟨m0, start⟩, turn⟩ := turns sB.heap.objs.size hDn
  have IC : L2.Inv X pins σ (upd HB sB.heap.objs.size (dctO X.prog X.w sB.heap.objs.size [])) { sB with heap := sB.heap.push { cls := .type "dict", data := .dict #[] } } :=
    IB.laid (t' := sB.toks) (fun _ _ e => Heap.get?_push_of_some _ e) (Nat.le_refl _) (dct_new sB.heap IB.big)
  have below : ∀ b ∈ fp, b < sB.heap.objs.size := fun b hb => by
    obtain ⟨o, e, _⟩ := T.obj _ _ stB b hb
    exact Heap.lt_size e
  have hsz : ({ sB with heap := sB.heap.push { cls := .type "dict", data := .dict #[] } } : Shared).heap.objs.size = sB.heap.objs.size + 1 := Heap.size_push ..
  have stC : tn 0 ({ sB with heap := sB.heap.push { cls := .type "dict", data := .dict #[] } } : Shared).heap := T.keep _ _ _ stB fun b _ o e => Heap.get?_push_of_some _ e
  have fC : ∀ b ∈ fp, FpOk X pins (upd HB sB.heap.objs.size (dctO X.prog X.w sB.heap.objs.size [])) b ∧ b < ({ sB with heap := sB.heap.push { cls := .type "dict", data := .dict #[] } } : Shared).heap.objs.size := fun b hb => by
    have lt := below b hb
    refine ⟨⟨?_, (fB b hb).2⟩, by rw [hsz]; exact Nat.lt_succ_of_lt lt⟩
    rw [upd_ne (Nat.ne_of_lt lt)]
    exact (fB b hb).1
  generalize sB.heap.objs.size = D at *
  generalize ({ sB with heap := sB.heap.push { cls := .type "dict", data := .dict #[] } } : Shared) = sC at *
  generalize upd HB D (dctO X.prog X.w D []) = HC at *
  have IE := block_start IC bk nd fC
  have pg := pgt sC HC sC.heap.objs.size (cellsFrom (sC.heap.objs.size + 1) scope.names (cloFrom X.env.cells scope.names [])) fp
  have pk := pkt sC HC sC.heap.objs.size (cellsFrom (sC.heap.objs.size + 1) scope.names (cloFrom X.env.cells scope.names [])) fp
  have pv := pvt sC HC sC.heap.objs.size (cellsFrom (sC.heap.objs.size + 1) scope.names (cloFrom X.env.cells scope.names [])) fp
  show codeAny _ _ (.compStart (.DictComp kx vx [⟨tg, iter, [], 0⟩] scope pos) 0 (.ref it) (.ref D) (compEnvC scope (cellsFrom (sC.heap.objs.size + 1) scope.names (cloFrom X.env.cells scope.names [])) sC.heap.objs.size X.env)) (compPost (model X.prog X.w) X.A X.xe use Qf (.ref D) sC.heap.objs.size) { sC with heap := pushCells (sC.heap.push { cls := .type "dict", data := .dict #[] }) scope.names }
  generalize hce : compEnvC scope (cellsFrom (sC.heap.objs.size + 1) scope.names (cloFrom X.env.cells scope.names [])) sC.heap.objs.size X.env = ce at IE pg pk pv ⊢
  have cl0 : ce.locals = sC.heap.objs.size := by rw [← hce] <;> rfl
  generalize hsE : ({ sC with heap := pushCells (sC.heap.push { cls := .type "dict", data := .dict #[] }) scope.names } : Shared) = sE at IE ⊢
  have stE : tn 0 sE.heap := T.keep _ _ _ stC fun b _ o e => by rw [← hsE]; exact pushCells_keeps _ _ _ _ (Heap.get?_push_of_some _ e)
  have tame : ∀ {τ : L2.St} {K : Hp} {s' : Shared}, L2.Inv (X.blk sC HC scope ce fp) [] τ K s' → (∀ b ∈ fp, K b = none) → ∀ b ∈ fp, FpOk (X.blk sC HC scope ce fp) [] K b := fun {τ K s'} I' no b hb =>
    ⟨no b hb, (I'.ok.exf b hb).1, I'.ok.exfs b hb, .inl hb, fun x c e => (I'.ok.exf b hb).2 x c e, fun p hp => absurd (show p ∈ ([] : List (Addr × Obj)) ++ [] from hp) (by simp)⟩
  have run : codeAny (model X.prog X.w) X.A (.compLoop (.DictComp kx vx [⟨tg, iter, [], 0⟩] scope pos) 0 (.ref it) (.ref D) ce) (compPost (model X.prog X.w) X.A X.xe use Qf (.ref D) sC.heap.objs.size) sE := by
    refine compLoop_anyD (fun n s' => ∃ i K, L2.Inv (X.blk sC HC scope ce fp) [] (wipe σ (own.map (·.2))) K s' ∧ tn i s'.heap ∧ (∀ b ∈ fp, K b = none) ∧ W i n K) ?_ m0 ⟨0, HC, IE, stE, fun b hb => (fC b hb).1.1, start⟩
    rintro n s5 ⟨i, H5, I5, st5, no5, w5⟩
    rcases turn i n H5 w5 with ⟨stop, qe⟩ | ⟨go, Z, hZ, step⟩
    · refine thnF (T.done (X.blk sC HC scope ce fp) rfl rfl rfl calm i [] s5 _ H5 (fun _ _ => False) I5 (tame I5 no5) st5 stop) fun r s6 ⟨hr, I6⟩ => ?_
      subst hr
      have I7 : L2.Inv X pins σ H5 s6 := IC.call' (ch := fp) I6.os I6.base I6.hok I6.bare fun b hb => ⟨(fC b hb).1.2.2.2.1, (fC b hb).1.2.1, (fC b hb).1.2.2.2.2.1, (fC b hb).1.2.2.2.2.2⟩
      have free : H5 sC.heap.objs.size = none := by
        have z : H5 ce.locals = none := I6.free
        rwa [cl0] at z
      obtain ⟨mm, names, _⟩ := I6.loc
      have names' : s6.heap.Ns ce.locals mm := names
      rw [cl0] at names'
      exact out D sC.heap.objs.size s6 mm H5 I7 qe names' (IC.fpOk (Nat.le_refl _) free)
    · refine thnF (T.item (X.blk sC HC scope ce fp) rfl rfl rfl calm i [] s5 _ H5 (fun _ _ => False) I5 (tame I5 no5) st5 go) fun r s6 ⟨u, hr, h6⟩ => ?_
      subst hr
      refine thnF h6 fun _ s7 ⟨x, H7, I7, r7, y7, st7, no7⟩ => ?_
      have I7' := I7.pinned (tame I7 no7) (T.obj _ _ st7)
      refine thnF (pg.run _ s7 _ H7 x u _ I7' r7 (step x H7 y7)) fun _ s8 ⟨τ, H8, I8, hw, q8⟩ => ?_
      refine thnF ((pts_nil (X := X.blk sC HC scope ce fp)).run _ s8 τ H8 (fun b Hb => b = true ∧ Hb = H8) I8 ⟨rfl, rfl⟩) fun t s9 ⟨H9, I9, ht, e9⟩ => ?_
      subst ht e9
      simp only [if_true]
      refine thnF (pk.run _ s9 τ H9 _ I9 q8) fun v3 s10 ⟨yk, H10, I10, r10, q10⟩ => thnF (pv.run _ s10 τ H10 _ I10 q10) fun v4 s11 ⟨yv, H11, I11, r11, O, kvs, es, kd, b, d, ky, az, hz, nx⟩ => ?_
      refine put_in (X := X.blk sC HC scope ce fp) hu I11 ky az hz r10 r11 fun es' s12 de I12 => ?_
      obtain ⟨m', hm, w'⟩ := hZ _ (nx es' de)
      have held : ∀ b ∈ fp, ∀ o, s7.heap.get? b = some o → s12.heap.get? b = some o ∧ (upd H11 D (dctO X.prog X.w D es')) b = none := fun b hb o e =>
        ⟨(I12.pin (b, o) (List.mem_append_right _ (List.mem_append_right _ (mem_pinsAt hb e)))).1, (I12.pin (b, o) (List.mem_append_right _ (List.mem_append_right _ (mem_pinsAt hb e)))).2.1⟩
      have len : (wipe σ (own.map (·.2))).length = τ.length := by rw [← hw, wipe_length]
      refine ⟨m', hm, i + 1, _, (I12.unpinned (pins := [])).weak len (fun j v e => ?_), T.keep _ _ _ st7 fun b hb o e => (held b hb o e).1, fun b hb => ?_, w'⟩
      · rw [← hw] at e
        exact (wipe_some e).1
      · obtain ⟨o, e, _⟩ := T.obj _ _ st7 b hb
        exact (held b hb o e).2
  exact codeAny_compStart_dict run (T.self X.A 0 _ _ _ stE run)
end
end Den
namespace Den
open PySem PySem.Spec PyProof.Rows L2
section
variable {X : Cx} {G : Gc} {L : Nat} {bl : List Str}
theorem ps_setDcX {i : Nat} {y : Str} {py : Pos} {kx vx tg iter : Expr} {scope : Scope} {own : List (Str × Nat)} {pos spos : Pos} {wi : TI} {g : TG} {tk tv : TE} (calm : X.calm = true) (hu : X.A.units + 64 < cLine) (nd : X.N.Nodup) (hy : X.N[i]? = some y) (hyl : X.env.scope.names.lookup y = some .local)
    (sw : swapsWith (.DictComp kx vx [⟨tg, iter, [], 0⟩] scope pos) (some (.Name y py)) spos.line X.env = pure true) (walk : PI X tg iter wi) (bk : BlkOk X.N X.env.scope scope own)
    (pgt : ∀ (s : Shared) (H : Hp) (C : Addr) (cl : List (Str × Addr)) (fp : List Addr), PG (X.blk s H scope (compEnvC scope cl C X.env) fp) tg g)
    (pkt : ∀ (s : Shared) (H : Hp) (C : Addr) (cl : List (Str × Addr)) (fp : List Addr), PE (X.blk s H scope (compEnvC scope cl C X.env) fp) kx tk)
    (pvt : ∀ (s : Shared) (H : Hp) (C : Addr) (cl : List (Str × Addr)) (fp : List Addr), PE (X.blk s H scope (compEnvC scope cl C X.env) fp) vx tv) (fold : ∀ x, foldedSetIterable iter X.env x = pure x) :
    PS X (.Assign [.Name y py] (.DictComp kx vx [⟨tg, iter, [], 0⟩] scope pos) spos) (fun Dn σ H => tDcX X.prog X.w X.K wi g tk tv (own.map (·.2)) σ H fun v H1 => Dn.nx (σ.set i (some v)) H1) := by
  refine ⟨fun pins s σ H Dn I w => ?_⟩
  rw [exec_Assign_Name_used _ _ _ _ sw]
  refine wpAny_bind (wpAny_standAt (wpAny_bind ?_))
  show wpAny _ X.A (do let _ ← comprehension (.DictComp kx vx [⟨tg, iter, [], 0⟩] scope pos) scope X.env (firstIterPos [⟨tg, iter, [], 0⟩] pos) newDict false (eval iter X.env) (some (assign (.Name y py) X.env))) _ _ s
  refine wpAny_bind (thn (dcX_core (Qf := fun _ s' => SP X pins Dn .next s') calm hu nd I walk bk pgt pkt pvt fold w fun D C s' m K J q names f => ?_) fun _ s' hq => wpAny_pure (wpAny_pure hq))
  show wpAny _ _ (assign (.Name y py) X.env (.ref D)) _ _ _
  refine wpAny_assign_Name (store_ok2 (v := V.ref D) J nd hy (.inl hyl) rfl (fun s2 J2 ⟨a, same, at_⟩ => ?_) (.inr hyl))
  obtain ⟨f0, f1, f2, f3, f4, f5⟩ := f
  have apart : C ≠ a := at_.elim (fun z => by rw [z]; exact f1) fun z e => f4 y a z e.symm
  exact ⟨m, names.sameBut same apart, fun s3 same3 => ⟨_, K, J2.turned (t' := s2.toks) (fun b o hb e => (same3.2 b hb).trans e) f0 f1 f3 f4 f5, q⟩⟩
def dcpL (st : STg) (fk fv : DE) (ρ : Ro) : List D → List (D × D) → Rs (List (D × D))
  | [], acc => .ok acc
  | d :: ds, acc => do
    let ρ1 ← st d ρ
    let k ← fk ρ1
    let v ← fv ρ1
    if kOk k = true ∧ acc.length < big then dcpL st fk fv ρ ds (putKv acc k v) else .stuck
def dcpS (i : Nat) (vs : List Nat) (fi : DI) (st : STg) (fk fv : DE) : DS := fun ρ => do
  let ds ← fi ρ
  let kvs ← (dcpL st fk fv (wipeR ρ vs) ds []).noexc
  pure (.nx, ρ.set i (some (.dict kvs)))
theorem s_dcp (C : SCtx X G L bl) {bi : Bool} {i : Nat} {y : Str} {py : Pos} {kx vx tg iter : Expr} {scope : Scope} {own : List (Str × Nat)} {pos spos : Pos} {fi : DI} {st : STg} {fk fv : DE} (hw : G.own i = true) (hdt : G.dct i = true) (hdp : ∀ a, G.dp ≠ some (i, a) ∧ G.fv ≠ some (i, a)) (hy : X.N[i]? = some y) (hyl : X.env.scope.names.lookup y = some .local)
    (sw : swapsWith (.DictComp kx vx [⟨tg, iter, [], 0⟩] scope pos) (some (.Name y py)) spos.line X.env = pure true) (walk : PI X tg iter (tIt G true bi fi)) (bk : BlkOk X.N X.env.scope scope own) (hvs : G.ndv (own.map (·.2)))
    (pgt : ∀ (s : Shared) (H : Hp) (C : Addr) (cl : List (Str × Addr)) (fp : List Addr), PG (X.blk s H scope (compEnvC scope cl C X.env) fp) tg (tTg G.noE bi (own.map (·.2)) st))
    (pkt : ∀ (s : Shared) (H : Hp) (C : Addr) (cl : List (Str × Addr)) (fp : List Addr), PE (X.blk s H scope (compEnvC scope cl C X.env) fp) kx (tS G.noE fk))
    (pvt : ∀ (s : Shared) (H : Hp) (C : Addr) (cl : List (Str × Addr)) (fp : List Addr), PE (X.blk s H scope (compEnvC scope cl C X.env) fp) vx (tS G.noE fv)) (fold : ∀ x, foldedSetIterable iter X.env x = pure x) :
    PS X (.Assign [.Name y py] (.DictComp kx vx [⟨tg, iter, [], 0⟩] scope pos) spos) (tSS G (dcpS i (own.map (·.2)) fi st fk fv)) := by
  refine ps_impK (ps_setDcX C.calm C.hu0 C.nd hy hyl sw walk bk pgt pkt pvt fold) fun Dn σ H kf w => fun k => ?_
  obtain ⟨O, ρ, R, p⟩ := w k
  generalize own.map (·.2) = vs at *
  refine ⟨O, ρ, R, PostS.exc_of (r := fi ρ) (O := O) p fun ds _ q J H1 s1 k1 wk => ?_⟩
  intro Dd hD
  cases hc : dcpL st fk fv (wipeR ρ vs) ds [] with
  | exc c => rw [hc] at q; exact q.elim
  | stuck => rw [hc] at q; exact q.elim
  | ok rs =>
    rw [hc] at q
    have R1 := R.same s1
    rw [C.P, C.w, C.K]
    refine ⟨fun i m H5 => m = ds.length - i ∧ i ≤ ds.length ∧ Same H1 H5 ∧ ∃ kvs es, H5 Dd = some (dctO G.P G.w Dd es) ∧ DEs G.K H5 (fun a => O a ∨ a = Dd) kvs es ∧ dcpL st fk fv (wipeR ρ vs) (ds.drop i) kvs = .ok rs,
      ⟨ds.length, by simp, Nat.zero_le _, same_upd hD, [], [], upd_same, rfl, by simpa using hc⟩, ?_⟩
    rintro i' m H5 ⟨rfl, hi, s5, kvs, es, e5, a5, c5⟩
    by_cases hlt : i' < ds.length
    · have hd : ds[i']? = some ds[i'] := List.getElem?_eq_getElem hlt
      obtain ⟨go, y⟩ := wk.go i' ds[i'] H5 hd (.of_same s5)
      refine .inr ⟨go, fun H6 => Same H1 H6 ∧ ∃ kvs es, H6 Dd = some (dctO G.P G.w Dd es) ∧ DEs G.K H6 (fun a => O a ∨ a = Dd) kvs es ∧ dcpL st fk fv (wipeR ρ vs) (ds.drop (i' + 1)) kvs = .ok rs, fun H6 ⟨s6, kvs, es, r⟩ => ⟨ds.length - (i' + 1), by omega, rfl, hlt, s6, kvs, es, r⟩, fun x H6 hy k6 => ?_⟩
      obtain ⟨s6, a6⟩ := y x H6 hy
      have nk : G.K.lookup Dd = none := kf_no (H := H6) k6 (s6 _ _ e5)
      rw [List.drop_eq_getElem_cons hlt] at c5
      have c6 : (st ds[i'] (wipeR ρ vs) >>= fun ρ1 => fk ρ1 >>= fun k => fv ρ1 >>= fun v => if kOk k = true ∧ kvs.length < big then dcpL st fk fv (wipeR ρ vs) (ds.drop (i' + 1)) (putKv kvs k v) else .stuck) = .ok rs := c5
      cases hst : st ds[i'] (wipeR ρ vs) with
      | exc c => rw [hst] at c6; cases c6
      | stuck => rw [hst] at c6; cases c6
      | ok ρ1 =>
        rw [hst] at c6
        have R6 : Rep G (fun a => O a ∨ a = Dd) (L2.wipe σ vs) H6 (wipeR ρ vs) := ((R1.same s5).same s6 |> fun R0 => by
          have Ra : Rep G (fun a => O a ∨ a = Dd) σ (upd H1 Dd (dctO G.P G.w Dd [])) ρ := R1.plus hD nk
          refine ⟨R0.base, Ra.sub, fun a h => ?_, Ra.fre, R0.len, fun j d e nw => ?_, fun j d e nw => ?_, R0.dist, R0.dpa⟩
          · rcases h with h | h
            · exact R0.trk a h
            · exact ⟨_, by rw [h]; exact s6 _ _ e5⟩
          · obtain ⟨v, e1, h1⟩ := R1.slot j d e nw
            exact ⟨v, e1, (h1.grow hD nk).same (s5.trans s6)⟩
          · obtain ⟨a, e1, h1, h2, h3⟩ := R1.owns j d e nw
            exact ⟨a, e1, (h1.grow hD nk).same (s5.trans s6), .inl h2, h3⟩ : Rep G (fun a => O a ∨ a = Dd) σ H6 ρ).wipe vs hvs
        have a7 : AtB bi G.K H6 (fun a => O a ∨ a = Dd) ds[i'] x := a6 _ (fun a z => z.imp id fun z => by rw [z]; exact ⟨hD, nk⟩) (fun a z => by
          rcases z with z | z
          · exact (R1.same s5).trk a z
          · exact ⟨_, by rw [z]; exact e5⟩)
        refine ⟨_, wipeR ρ vs, ds[i'], ρ1, R6.noE, a7, hst, fun σ' R' hw' => ⟨hw'.trans wipe_wipe, fun k7 => ⟨_, ρ1, R', ?_⟩⟩⟩
        have c7 : (fk ρ1 >>= fun k => fv ρ1 >>= fun v => if kOk k = true ∧ kvs.length < big then dcpL st fk fv (wipeR ρ vs) (ds.drop (i' + 1)) (putKv kvs k v) else .stuck) = .ok rs := c6
        cases hfk : fk ρ1 with
        | exc c => rw [hfk] at c7; cases c7
        | stuck => rw [hfk] at c7; cases c7
        | ok kd =>
          rw [hfk] at c7
          have c8 : (fv ρ1 >>= fun v => if kOk kd = true ∧ kvs.length < big then dcpL st fk fv (wipeR ρ vs) (ds.drop (i' + 1)) (putKv kvs kd v) else .stuck) = .ok rs := c7
          intro yk H7 s7 k7' ak
          refine fun k8 => ⟨_, ρ1, R'.same s7, ?_⟩
          cases hfv : fv ρ1 with
          | exc c => rw [hfv] at c8; cases c8
          | stuck => rw [hfv] at c8; cases c8
          | ok vd =>
            rw [hfv] at c8
            have c9 : (if kOk kd = true ∧ kvs.length < big then dcpL st fk fv (wipeR ρ vs) (ds.drop (i' + 1)) (putKv kvs kd vd) else .stuck) = .ok rs := c8
            intro yv H8 s8 k9 av
            split at c9
            · rename_i hk
              obtain ⟨b, rfl⟩ := key_ref hk.1 ak
              have s68 := s6.trans (s7.trans s8)
              have hz := a5.length
              refine ⟨_, kvs, es, kd, b, vd, ⟨rfl, s68 _ _ e5, a5.same s68, hk.1, ak.same s8⟩, av, by rw [hz]; exact big_lt hk.2, fun es' g => ⟨fun b o eb => ?_, putKv kvs kd vd, es', upd_same, ?_, c9⟩⟩
              · rw [upd_ne (ne_of_none eb hD)]
                exact (s5.trans s68) _ _ eb
              · have kp : Kp (fun a => O a ∨ a = Dd) H8 (upd H8 Dd (dctO G.P G.w Dd es')) := fun b o eb nb => by
                  rw [upd_ne fun z => nb (.inr z)]; exact eb
                exact g.keep kp
            · cases c9
    · have e : i' = ds.length := by omega
      subst e
      refine .inl ⟨wk.stop H5 (.of_same s5), fun k5 => ?_⟩
      have ek : kvs = rs := by
        rw [List.drop_length] at c5
        have : Rs.ok kvs = Rs.ok rs := c5
        cases this; rfl
      subst ek
      have N : New G O H H5 Dd (G.dct i) (.dict kvs) := by
        rw [hdt]
        exact ⟨s1.trans s5, s1.free hD, kf_no k5 e5, es, e5, a5⟩
      exact q _ _ H5 ⟨.of_same (s1.trans s5), fun a z => z.imp id fun r => by rw [r]; exact ⟨N.n, N.k⟩⟩ (R.setOwn N hw hdp)
end
end Den
namespace Den
open PySem PySem.Spec PyProof.Rows L2
def spM (P : Program) (w : World) (K : W.Frag) (cl : Nat → Value) (n : Nat) (g : List D → Rs D) : Sp := fun vs H Q E => ∃ vs0 ds O0 a kvs es, vs = vs0 ++ [.ref a] ∧ vs0.length = n ∧ (∀ b, O0 b → ∃ o, H b = some o) ∧ ¬ O0 a ∧ AtL K H O0 ds vs0 ∧ H a = some (dctO P w a es) ∧ DEs K H O0 kvs es ∧
  match g (ds ++ [.dict kvs]) with
  | .ok (.tuple [d, .dict kvs']) => ∀ v H' es', (∀ b o, H b = some o → b ≠ a → H' b = some o) → KF K H' → At K H' O0 d v → H' a = some (dctO P w a es') → DEs K H' O0 kvs' es' → Q v H'
  | .exc c => ∀ H', (∀ b o, H b = some o → b ≠ a → H' b = some o) → E (cl c) none H'
  | _ => False
structure FnM (X : Cx) (cl : Nat → Value) (L : Nat) (x : Str) (n : Nat) (g : List D → Rs D) : Prop where
  ex : ∃ f fd ps, FnOk X.prog X.w X.K X.mg X.base (L2.CX X.prog X.w) L f fd ps (spM X.prog X.w X.K cl n g) ∧ ps.length = n + 1 ∧ X.mg x = some (.ref f) ∧ W.keepIn X.K (.ref f) = true ∧ Binds X.K fd ps []
theorem dct_no {K : W.Frag} {H : Hp} {P : Program} {w : World} {a b : Addr} {es : List (NestedKey × Addr × V)} {vs : List V} (nk : K.lookup a = none) (e : H a = some (dctO P w a es)) : (SqL K H b vs → b ≠ a) ∧ (SqT K H b vs → b ≠ a) := by
  refine ⟨fun h z => ?_, fun h z => ?_⟩
  · subst z
    rcases h with (h | ⟨o, h⟩) | ⟨o, _, _, h, _⟩
    · rw [e] at h; cases h
    · rw [e] at h; cases h
    · rw [nk] at h; cases h
  · subst z
    rcases h with (h | ⟨o, h⟩) | ⟨o, _, _, h, _⟩
    · rw [e] at h; cases h
    · rw [e] at h; cases h
    · rw [nk] at h; cases h
mutual
theorem At.more {K : W.Frag} {H : Hp} {O O' : Addr → Prop} {P : Program} {w : World} {a : Addr} {es : List (NestedKey × Addr × V)} (nk : K.lookup a = none) (e : H a = some (dctO P w a es)) (ho : ∀ b, O' b → O b ∨ b = a) : ∀ {d : D} {v : V}, At K H O d v → At K H O' d v
  | .none, _, h => h
  | .bool _, _, h => h
  | .int _, _, h => h
  | .str _, _, h => h
  | .list _, _, h => by
    obtain ⟨b, vs, r, h1, h2, h3⟩ := h
    exact ⟨b, vs, r, h1, fun z => (ho b z).elim h2 ((dct_no nk e).1 h1), AtL.more nk e ho h3⟩
  | .tuple _, _, h => by
    obtain ⟨b, vs, r, h1, h2, h3⟩ := h
    exact ⟨b, vs, r, h1, fun z => (ho b z).elim h2 ((dct_no nk e).2 h1.q), AtL.more nk e ho h3⟩
  | .dict _, _, h => h.elim
theorem AtL.more {K : W.Frag} {H : Hp} {O O' : Addr → Prop} {P : Program} {w : World} {a : Addr} {es : List (NestedKey × Addr × V)} (nk : K.lookup a = none) (e : H a = some (dctO P w a es)) (ho : ∀ b, O' b → O b ∨ b = a) : ∀ {ds : List D} {vs : List V}, AtL K H O ds vs → AtL K H O' ds vs
  | [], _, h => h
  | _ :: _, _, h => by
    obtain ⟨v, r, q, h1, h2⟩ := h
    exact ⟨v, r, q, At.more nk e ho h1, AtL.more nk e ho h2⟩
end
theorem DEs.more {K : W.Frag} {H : Hp} {O O' : Addr → Prop} {P : Program} {w : World} {a : Addr} {es : List (NestedKey × Addr × V)} (nk : K.lookup a = none) (e : H a = some (dctO P w a es)) (ho : ∀ b, O' b → O b ∨ b = a) : ∀ {kvs : List (D × D)} {es2 : List (NestedKey × Addr × V)}, DEs K H O kvs es2 → DEs K H O' kvs es2
  | [], _, h => h
  | _ :: _, _, h => by
    obtain ⟨b, v, r, q, h1, h2, h3, h4⟩ := h
    exact ⟨b, v, r, q, h1, h2.more nk e ho, h3.more nk e ho, DEs.more nk e ho h4⟩
abbrev DX := Ro → Rs (D × Ro)
def tX (G : Gc) (f : DX) : TE := fun σ H Q => KF G.K H → ∃ O ρ, Rep G O σ H ρ ∧ Post G H (f ρ) fun r => ∀ v H', Stp G.K O H O H' → KF G.K H' → Rep G O σ H' r.2 → At G.K H' O r.1 v → Q v H'
def pureX (f : DE) : DX := fun ρ => do let d ← f ρ; pure (d, ρ)
def mcX (F : List D → Rs D) (fs : Ro → Rs (List D)) (i : Nat) : DX := fun ρ => match ρ[i]? with
  | some (some (.dict kvs)) => do
    let ds ← fs ρ
    match (← F (ds ++ [.dict kvs])) with
    | .tuple [d, .dict kvs'] => .ok (d, ρ.set i (some (.dict kvs')))
    | _ => .stuck
  | _ => .stuck
def mnE (F : List D → Rs D) (fs : Ro → Rs (List D)) : DE := fun ρ => do
    let ds ← fs ρ
    match (← F (ds ++ [.dict []])) with
    | .tuple [d, .dict _] => .ok d
    | _ => .stuck
section
variable {X : Cx} {G : Gc} {L : Nat} {bl : List Str} {e : Expr} {es : List Expr} {f : DE} {fs : Ro → Rs (List D)} {F : List D → Rs D} {pos p py pd : Pos} {x y : Str} {n i : Nat}
theorem x_pure (ha : PE X e (tS G f)) : PE X e (tX G (pureX f)) := pe_imp ha fun σ H Q kf w k => by
  obtain ⟨O, ρ, R, q⟩ := w k
  exact ⟨O, ρ, R, q.bind.imp fun d _ q v H' s k' a => fun _ => q v H' (.same s) k' (R.same s) a⟩
def tArgD (G : Gc) (fs : Ro → Rs (List D)) (i : Nat) : TA := fun σ H Q => KF G.K H → ∃ O ρ, Rep G O σ H ρ ∧ ∃ a, σ[i]? = some (some (.ref a)) ∧ Post G H (fs ρ) fun ds => ∀ vs H', Same H H' → KF G.K H' → AtL G.K H' O ds vs → Q (vs ++ [.ref a]) H'
theorem ad_nil (C : Ctx X G L bl) (hN : X.N[i]? = some y) (hv : Vis X.env.scope y) (hd : (y == ("__debug__" : Str)) = false) (hcd : (y == ("__classdict__" : Str)) = false) : PA X [.Name y py] (tArgD G noArg i) :=
  pa_imp (pa_cons (pe_dv (G := G) hN hv hd hcd) pa_nil rfl) fun σ H Q kf w => by
    obtain ⟨O, ρ, R, a, ea, q⟩ := w (C.kf kf)
    exact ⟨a, ea, fun _ => q [] H (Same.refl H) (C.kf kf) rfl⟩
theorem ad_cons (C : Ctx X G L bl) (ha : PE X e (tS G f)) (hs : PA X es (tArgD G fs i)) (hst : starEach (e :: es) X.env = (false, eval e X.env) :: starEach es X.env) : PA X (e :: es) (tArgD G (consArg f fs) i) :=
  pa_imp (pa_cons ha hs hst) fun σ H Q kf w k => by
    obtain ⟨O, ρ, R, a, ea, q⟩ := w k
    refine ⟨O, ρ, R, q.bind.imp fun d _ q v H1 s1 k1 a1 => fun _ => ⟨O, ρ, R.same s1, a, ea, q.bind.imp fun ds _ q vs H2 s2 k2 a2 => fun _ => ?_⟩⟩
    exact q (v :: vs) H2 (s1.trans s2) k2 ⟨v, vs, rfl, a1.same s2, a2⟩
theorem d_mc (C : Ctx X G L bl) (hF : FnM X G.cl L x n F) (hg : Gl X x) (hdb : (x == ("__debug__" : Str)) = false) (hw : G.own i = true) (hdt : G.dct i = true) (ha : PA X (e :: es) (tArgD G fs i)) (hl : ∀ ρ ds, fs ρ = .ok ds → ds.length = n)
    (he : starEach (e :: es) X.env = (false, eval e X.env) :: starEach es X.env) (hpl : (backTo pos (starEach es X.env)).any (·.1) = false) : PE X (.Call (.Name x p) (e :: es) [] pos) (tX G (mcX F fs i)) := by
  obtain ⟨f, fd, ps, hf, hps, hm, hk, hb⟩ := hF.ex
  refine pe_imp (pe_call hf C.room hg hm hk hb .nil C.pass ha hdb he hpl) fun σ H Q kf w => fun k => ?_
  obtain ⟨O, ρ, R, q⟩ := w k
  unfold mcX at q
  split at q
  · rename_i kvs ed
    obtain ⟨a, ens, e1, e2, e3, e4, e5⟩ := dct_slot R hw hdt ed
    refine ⟨O, ρ, R, a, e1, q.bind.imp fun ds eds q vs H1 s1 k1 a1 => ?_⟩
    show spM X.prog X.w X.K G.cl n F ((vs ++ [.ref a]) ++ []) H1 _ G.E
    rw [List.append_nil]
    have R1 := R.same s1
    have nka : G.K.lookup a = none := kf_no k1 (s1 _ _ e2)
    refine ⟨vs, ds, fun b => O b ∧ b ≠ a, a, kvs, ens, rfl, by rw [a1.length]; exact hl ρ ds eds, fun b h => R1.trk b h.1, fun h => h.2 rfl, C.K ▸ a1.less fun b h => h.1, by rw [C.P, C.w]; exact s1 _ _ e2, C.K ▸ (e3.same s1).less fun b h => h.1, ?_⟩
    have grow : ∀ b, O b → (O b ∧ b ≠ a) ∨ b = a := fun b h => by
      by_cases z : b = a
      · exact .inr z
      · exact .inl ⟨h, z⟩
    cases hr : F (ds ++ [.dict kvs]) with
    | ok r =>
      rw [hr] at q
      have q1 : Post G H (match r with
        | .tuple [d, .dict kvs'] => Rs.ok (d, ρ.set i (some (.dict kvs')))
        | _ => .stuck) _ := q
      split at q1
      · rename_i d kvs'
        intro v H' es' keep k' av ha' de
        have k2 : KF G.K H' := C.K ▸ k'
        rw [C.P, C.w] at ha'
        have nka' := kf_no k2 ha'
        have de' : DEs G.K H' O kvs' es' := (C.K ▸ de : DEs G.K H' (fun b => O b ∧ b ≠ a) kvs' es').more nka' ha' grow
        obtain ⟨R2, st⟩ := R1.writeD (H' := H') (d' := .dict kvs') hw ed e1 e4 e5 keep (by rw [hdt]; exact ⟨es', ha', de'⟩)
        exact fun _ => q1 v H' ((Stp.same s1).trans st) k2 R2 ((C.K ▸ av : At G.K H' (fun b => O b ∧ b ≠ a) d v).more nka' ha' grow)
      · exact q1.elim
    | exc c =>
      rw [hr] at q
      intro H' keep
      refine q H' fun b o eb nb => keep b o (R1.base b o eb nb) fun z => ?_
      subst z
      rcases R.fre b e4 e5 with z | z
      · rw [z] at eb; cases eb
      · exact nb z
    | stuck => rw [hr] at q; exact q.elim
  · exact q.elim
def tArgN (P : Program) (w : World) (G : Gc) (fs : Ro → Rs (List D)) : TA := fun σ H Q => KF G.K H → ∃ O ρ, Rep G O σ H ρ ∧ Post G H (fs ρ) fun ds => ∀ vs H' a, Same H H' → H a = none → H' a = some (dctO P w a []) → KF G.K H' → AtL G.K H' O ds vs → Q (vs ++ [.ref a]) H'
theorem an_nil (C : Ctx X G L bl) : PA X [.Dict [] [] pd] (tArgN X.prog X.w G noArg) :=
  pa_imp (pa_cons pe_dnewX pa_nil rfl) fun σ H Q kf w => by
    obtain ⟨O, ρ, R, q⟩ := w (C.kf kf)
    exact fun a ha k' => q [] _ a (same_upd ha) ha upd_same (C.kf k') rfl
theorem an_cons (C : Ctx X G L bl) (ha : PE X e (tS G f)) (hs : PA X es (tArgN X.prog X.w G fs)) (hst : starEach (e :: es) X.env = (false, eval e X.env) :: starEach es X.env) : PA X (e :: es) (tArgN X.prog X.w G (consArg f fs)) :=
  pa_imp (pa_cons ha hs hst) fun σ H Q kf w k => by
    obtain ⟨O, ρ, R, q⟩ := w k
    refine ⟨O, ρ, R, q.bind.imp fun d _ q v H1 s1 k1 a1 => fun _ => ⟨O, ρ, R.same s1, q.bind.imp fun ds _ q vs H2 a s2 na ea k2 a2 => fun _ => ?_⟩⟩
    exact q (v :: vs) H2 a (s1.trans s2) (s1.free na) ea k2 ⟨v, vs, rfl, a1.same s2, a2⟩
theorem d_mn (C : Ctx X G L bl) (hF : FnM X G.cl L x n F) (hg : Gl X x) (hdb : (x == ("__debug__" : Str)) = false) (ha : PA X (e :: es) (tArgN X.prog X.w G fs)) (hl : ∀ ρ ds, fs ρ = .ok ds → ds.length = n)
    (he : starEach (e :: es) X.env = (false, eval e X.env) :: starEach es X.env) (hpl : (backTo pos (starEach es X.env)).any (·.1) = false) : PE X (.Call (.Name x p) (e :: es) [] pos) (tS G (mnE F fs)) := by
  obtain ⟨f, fd, ps, hf, hps, hm, hk, hb⟩ := hF.ex
  refine pe_imp (pe_call hf C.room hg hm hk hb .nil C.pass ha hdb he hpl) fun σ H Q kf w => fun k => ?_
  obtain ⟨O, ρ, R, q⟩ := w k
  refine ⟨O, ρ, R, q.bind.imp fun ds eds q vs H1 a s1 na ea k1 a1 => ?_⟩
  show spM X.prog X.w X.K G.cl n F ((vs ++ [.ref a]) ++ []) H1 _ G.E
  rw [List.append_nil]
  refine ⟨vs, ds, O, a, [], [], rfl, by rw [a1.length]; exact hl ρ ds eds, (R.same s1).trk, Trk.not R.trk na, C.K ▸ a1, ea, rfl, ?_⟩
  have back : ∀ H', (∀ b o, H1 b = some o → b ≠ a → H' b = some o) → Same H H' := fun H' keep b o eb => keep b o (s1 _ _ eb) (ne_of_none eb na)
  cases hr : F (ds ++ [.dict []]) with
  | ok r =>
    rw [hr] at q
    have q1 : Post G H (match r with
      | .tuple [d, .dict _] => Rs.ok d
      | _ => .stuck) _ := q
    split at q1
    · rename_i d kvs'
      intro v H' es' keep k' av ha' de
      exact fun _ => q1 v H' (back H' keep) (C.K ▸ k') (C.K ▸ av)
    · exact q1.elim
  | exc c =>
    rw [hr] at q
    exact fun H' keep => q H' (R.base.trans (back H' keep))
  | stuck => rw [hr] at q; exact q.elim
end
end Den
namespace Den
open PySem PySem.Spec PyProof.Rows L2
section
variable {X : Cx} {G : Gc} {L : Nat} {bl : List Str} {a b e tg : Expr} {es : List Expr} {f g : DE} {fx : DX} {fs : Ro → Rs (List D)} {F2 : D → D → Rs D} {F : List D → Rs D} {pos p px : Pos} {x : Str} {n i : Nat}
def binRX (F2 : D → D → Rs D) (f : DE) (fx : DX) : DX := fun ρ => do let u ← f ρ; let (v, ρ') ← fx ρ; let d ← F2 u v; pure (d, ρ')
def binLX (F2 : D → D → Rs D) (fx : DX) (g : DE) : DX := fun ρ => do let (u, ρ') ← fx ρ; let v ← g ρ'; let d ← F2 u v; pure (d, ρ')
theorem Stp.kp {K : W.Frag} {O : Addr → Prop} {H H' : Hp} {O' : Addr → Prop} (s : Stp K O H O' H') : Kp O H H' := s.1
theorem x_binR (C : Ctx X G L bl) {op : Operator} {r : R2} (ho : OpR X (binaryOp op) r) (s : Says G r F2) (ha : PE X a (tS G f)) (hb : PE X b (tX G fx)) : PE X (.BinOp a op b pos) (tX G (binRX F2 f fx)) := by
  refine pe_imp (pe_op ho ha hb) fun σ H Q kf w => fun k0 => ?_
  obtain ⟨O, ρ, R, q⟩ := w k0
  refine ⟨O, ρ, R, q.bind.imp fun du _ q u H1 s1 k1 au => fun _ => ⟨O, ρ, R.same s1, q.bind.imp fun rv _ q v H2 st k2 R2 av => ?_⟩⟩
  rw [C.K]
  refine s O H2 u v du rv.1 _ k2 R2.trk (au.keep st.kp).c av.c (q.bind.imp fun d _ q z H3 s3 k3 az => ?_)
  exact q z H3 (((Stp.same s1).trans st).trans (.same s3)) k3 (R2.same s3) az
theorem x_binL (C : Ctx X G L bl) {op : Operator} {r : R2} (ho : OpR X (binaryOp op) r) (s : Says G r F2) (ha : PE X a (tX G fx)) (hb : PE X b (tS G g)) : PE X (.BinOp a op b pos) (tX G (binLX F2 fx g)) := by
  refine pe_imp (pe_op ho ha hb) fun σ H Q kf w => fun k0 => ?_
  obtain ⟨O, ρ, R, q⟩ := w k0
  refine ⟨O, ρ, R, q.bind.imp fun ru _ q u H1 st k1 R1 au => fun _ => ⟨O, ru.2, R1, q.bind.imp fun dv _ q v H2 s2 k2 av => ?_⟩⟩
  rw [C.K]
  refine s O H2 u v ru.1 dv _ k2 (R1.same s2).trk (au.same s2).c av.c (q.bind.imp fun d _ q z H3 s3 k3 az => ?_)
  exact q z H3 (st.trans (.same (s2.trans s3))) k3 ((R1.same s2).same s3) az
def consAX (f : DE) (fs : Ro → Rs (List D × Ro)) : Ro → Rs (List D × Ro) := fun ρ => do let d ← f ρ; let (ds, ρ') ← fs ρ; pure (d :: ds, ρ')
def lastAX (fx : DX) : Ro → Rs (List D × Ro) := fun ρ => do let (d, ρ') ← fx ρ; pure ([d], ρ')
def tArgX (G : Gc) (fs : Ro → Rs (List D × Ro)) : TA := fun σ H Q => KF G.K H → ∃ O ρ, Rep G O σ H ρ ∧ Post G H (fs ρ) fun r => ∀ vs H', Stp G.K O H O H' → KF G.K H' → Rep G O σ H' r.2 → AtL G.K H' O r.1 vs → Q vs H'
theorem ax_last (C : Ctx X G L bl) (ha : PE X e (tX G fx)) (hst : starEach [e] X.env = (false, eval e X.env) :: starEach [] X.env) : PA X [e] (tArgX G (lastAX fx)) :=
  pa_imp (pa_cons ha pa_nil hst) fun σ H Q kf w k => by
    obtain ⟨O, ρ, R, q⟩ := w k
    exact ⟨O, ρ, R, q.bind.imp fun r _ q v H1 st k1 R1 a1 => fun _ => q [v] H1 st k1 R1 ⟨v, [], rfl, a1, rfl⟩⟩
theorem ax_cons (C : Ctx X G L bl) {fa : Ro → Rs (List D × Ro)} (ha : PE X e (tS G f)) (hs : PA X es (tArgX G fa)) (hst : starEach (e :: es) X.env = (false, eval e X.env) :: starEach es X.env) : PA X (e :: es) (tArgX G (consAX f fa)) :=
  pa_imp (pa_cons ha hs hst) fun σ H Q kf w k => by
    obtain ⟨O, ρ, R, q⟩ := w k
    refine ⟨O, ρ, R, q.bind.imp fun d _ q v H1 s1 k1 a1 => fun _ => ⟨O, ρ, R.same s1, q.bind.imp fun r _ q vs H2 st k2 R2 a2 => fun _ => ?_⟩⟩
    exact q (v :: vs) H2 ((Stp.same s1).trans st) k2 R2 ⟨v, vs, rfl, a1.keep st.kp, a2⟩
def appX (F : List D → Rs D) (fa : Ro → Rs (List D × Ro)) : DX := fun ρ => do let (ds, ρ') ← fa ρ; let d ← F ds; pure (d, ρ')
theorem x_call (C : Ctx X G L bl) {fa : Ro → Rs (List D × Ro)} (hF : FnD X G.cl L x n F) (hg : Gl X x) (hdb : (x == ("__debug__" : Str)) = false) (ha : PA X (e :: es) (tArgX G fa)) (hl : ∀ ρ r, fa ρ = .ok r → r.1.length = n)
    (he : starEach (e :: es) X.env = (false, eval e X.env) :: starEach es X.env) (hpl : (backTo pos (starEach es X.env)).any (·.1) = false) : PE X (.Call (.Name x p) (e :: es) [] pos) (tX G (appX F fa)) := by
  obtain ⟨f, fd, ps, hf, hps, hm, hk, hb⟩ := hF.ex
  refine pe_imp (pe_call hf C.room hg hm hk hb .nil C.pass ha hdb he hpl) fun σ H Q kf w => fun k => ?_
  obtain ⟨O, ρ, R, q⟩ := w k
  refine ⟨O, ρ, R, q.bind.imp fun r er q vs H1 st k1 R1 a1 => ?_⟩
  show spD X.K G.cl n F (vs ++ []) H1 _ G.E
  rw [List.append_nil]
  refine ⟨by rw [a1.length]; exact hl ρ r er, r.1, O, R1.trk, C.K ▸ a1, ?_⟩
  have q1 : Post G H (F r.1 >>= fun d => Rs.ok (d, r.2)) _ := q
  cases hF : F r.1 with
  | ok d => rw [hF] at q1; exact fun v H' s2 k2 a2 => fun _ => q1 v H' (st.trans (.same s2)) (C.K ▸ k2) (R1.same s2) (C.K ▸ a2)
  | exc c => rw [hF] at q1; exact fun H' s2 => q1 H' (R1.base.trans s2)
  | stuck => rw [hF] at q1; exact q1.elim
def setXS (i : Nat) (fx : DX) : DS := fun ρ => do let (d, ρ') ← fx ρ; pure (.nx, ρ'.set i (some d))
theorem s_setX (C : SCtx X G L bl) (hi : X.N[i]? = some x) (hx : Loc X.env.scope x) (he : PE X e (tX G fx)) (hw : G.own i = false) (hs : swapsWith e (some (.Name x px)) pos.line X.env = pure false) :
    PS X (.Assign [.Name x px] e pos) (tSS G (setXS i fx)) := by
  refine ps_imp (ps_set C.nd hi hx he hs (.inl (C.fn x))) fun Dn σ H kf w => fun k => ?_
  obtain ⟨O, ρ, R, q⟩ := w k
  exact ⟨O, ρ, R, PostS.exc_of (r := fx ρ) (O := O) q fun r _ q v H' st k' R' a => q O _ H' st (R'.set a hw)⟩
def retXS (fx : DX) : DS := fun ρ => do let (d, ρ') ← fx ρ; pure (.rt d, ρ')
theorem s_retX (C : SCtx X G L bl) (he : PE X e (tX G fx)) : PS X (.Return (some e) pos) (tSS G (retXS fx)) := by
  refine ps_imp (ps_ret he) fun Dn σ H kf w => fun k => ?_
  obtain ⟨O, ρ, R, q⟩ := w k
  exact ⟨O, ρ, R, PostS.exc_of (r := fx ρ) (O := O) q fun r _ q v H' st k' R' a => q v H' R'.base k' (a.less R.sub) (R'.dpAt (Same.refl _))⟩
def expXS (fx : DX) : DS := fun ρ => do let (_, ρ') ← fx ρ; pure (.nx, ρ')
theorem s_expX (C : SCtx X G L bl) (he : PE X e (tX G fx)) (hs : swapsWith e none pos.line X.env = pure false) : PS X (.Expr e pos) (tSS G (expXS fx)) := by
  refine ps_imp (ps_expr he hs) fun Dn σ H kf w => fun k => ?_
  obtain ⟨O, ρ, R, q⟩ := w k
  exact ⟨O, ρ, R, PostS.exc_of (r := fx ρ) (O := O) q fun r _ q v H' st k' R' a => q O σ H' st R'⟩
def asgXS (stg : STg) (fx : DX) : DS := fun ρ => do let (d, ρ') ← fx ρ; let ρ2 ← (stg d ρ').noexc; pure (.nx, ρ2)
theorem s_asgX (C : SCtx X G L bl) {bi : Bool} {vs : List Nat} {stg : STg} (he : PE X e (tX G fx)) (hg : PG X tg (tTg G bi vs stg)) (hs : swapsWithSole [tg] e pos.line X.env = pure false) (hw : swappedStores [tg] e X.env = pure none) (h1 : (assignEach [tg] X.env).map (·.2) = [assign tg X.env]) :
    PS X (.Assign [tg] e pos) (tSS G (asgXS stg fx)) := by
  refine ps_imp (ps_asg he hg hs hw h1) fun Dn σ H kf w => fun k => ?_
  obtain ⟨O, ρ, R, q⟩ := w k
  refine ⟨O, ρ, R, PostS.exc_of (r := fx ρ) (O := O) q fun r _ q v H' st k' R' a => fun _ => ?_⟩
  obtain ⟨d, ρ'⟩ := r
  have q1 : PostS G O H ((stg d ρ').noexc >>= fun ρ2 => Rs.ok (Fl.nx, ρ2)) Dn := q
  cases hst : stg d ρ' with
  | ok ρ2 =>
    rw [hst] at q1
    exact ⟨O, ρ', d, ρ2, R', a.b bi, hst, fun σ' R2 _ => q1 O σ' H' st R2⟩
  | exc c => rw [hst] at q1; exact q1.elim
  | stuck => rw [hst] at q1; exact q1.elim
end
end Den
namespace Den
open PySem PySem.Spec PyProof.Rows L2
abbrev set0 (w : World) : Obj := { cls := .type "set", dict := none, data := .set #[] 0 (.fresh 0 0 (!w.params.followText "set-order")) }
section
variable {P : Program} {w : World} {A : Around} {E : Value → Shared → Prop} {s : Shared}
theorem set_ofList {l : Addr} {items : Array Value} (ns : List Int) {Q : Value → Shared → Prop} (hh : A.handled = none) (hl : s.heap.IsList l items) (hit : IntsAre items.toList ns) (hb : ns.length + 1 < scanBound)
    (h : ∀ (g : Heap) (tk c : Nat), SetR w g s.heap.objs.size (fun j => decide (j ∈ ns)) c → c ≤ ns.length → (∀ b o, s.heap.get? b = some o → g.get? b = some o) → Q (.ref s.heap.objs.size) { s with heap := g, toks := tk }) :
    wpAny (model P w) A (call (.type "set") [.ref l]) Q E s := by
  have size_eq : items.size = ns.length := by
    rw [← Array.length_toList]
    exact IntsAre.length hit
  obtain ⟨cc, tt, mro_eq⟩ := F.called_set.mro
  have made := F.called_set.made
  have subs := F.called_set.sub
  refine wpAny_call (codeAny_of_tree ?_)
  show wpAny _ _ (callAny (.type "set") _) _ _ _
  refine wpAny_pure ⟨Code.quiet_builtin _ (by decide +kernel), codeAny_builtin F.entry_type_call ?_⟩
  rw [Around.under_plain (weight_type_call_type "set" [.ref l] []) rfl]
  have f1 := F.called_set.notType
  have f2 := F.called_set.canCreate
  have f3 := F.typeCall_set_1 (.ref l)
  repeat (any_goals (first | assumption | wp_step))
  refine codeAny_mono (code_set_led1 (.ref l) (E := E) (Q₁ := fun v z => v = .ref s.heap.objs.size ∧ z = { s with heap := s.heap.push (set0 w) }) ⟨rfl, rfl⟩) fun r z hz => ?_
  cases r with
  | error e => exact hz
  | ok fl =>
    cases fl with
    | ret v =>
      obtain ⟨rfl, rfl⟩ := hz
      have at0 : (s.heap.push (set0 w)).get? s.heap.objs.size = some (set0 w) := Heap.get?_push_size _ rfl
      have ty0 : Shared.TypeIs { s with heap := s.heap.push (set0 w) } (.ref s.heap.objs.size) "set" := ⟨_, at0, rfl⟩
      have g1 := F.called_set.init.lookup
      have g2 := F.called_set.init.bind (.ref s.heap.objs.size)
      repeat (any_goals (first | assumption | wp_step))
      refine codeAny_mono (codeAny_call_builtin (R := wants (fun r y => r = .none ∧ ∃ g tk c, y = { s with heap := g, toks := tk } ∧ SetR w g s.heap.objs.size (fun j => decide (j ∈ ns)) c ∧ c ≤ ns.length ∧ (∀ b o, s.heap.get? b = some o → g.get? b = some o)) E)
        F.called_set.init.plain F.entry_set_init (check_set_init_1 ty0 ?_)) fun r2 z2 hz2 => ?_
      · obtain ⟨ol, hol, hcl, nl, hdl⟩ := hl
        obtain ⟨ocls, odict, odata, oslots⟩ := ol
        dsimp only at hcl hdl
        subst hcl hdl
        have atl : (s.heap.push (set0 w)).get? l = some { cls := .type "list", dict := odict, data := .seq items nl, slots := oslots } := Heap.get?_push_of_some _ hol
        have k1 := F.sub_list_set
        have k2 := F.sub_list_frozenset
        have k3 : (Value.type "list" == Value.type "dict") = false := by decide
        have isl : (s.heap.push (set0 w)).IsList l items := ⟨_, atl, rfl, nl, rfl⟩
        unfold Builtin.«set.__init__» noKeywords Builtin.Frozenset.updateFrom
        generalize hPI : pyIter = PI
        wp_walk
        subst hPI
        refine wpAny_pyIter_list isl ?_
        refine wpAny_bind (wpAny_runValue ?_)
        have ltl : l < s.heap.objs.size := Heap.lt_size hol
        have hh3 : A.in1.in1.in1.handled = none := by simp [hh]
        have nei : l ≠ (s.heap.push (set0 w)).objs.size := by
          rw [Heap.size_push]
          exact Nat.ne_of_lt (Nat.lt_succ_of_lt ltl)
        have nef : s.heap.objs.size ∉ [(s.heap.push (set0 w)).objs.size, l] := by
          rw [Heap.size_push]
          intro hm
          rcases List.mem_cons.mp hm with e | e
          · exact absurd e (Nat.ne_of_lt (Nat.lt_succ_self _))
          · exact absurd (List.mem_singleton.mp e) (Nat.ne_of_gt ltl)
        have val : ∀ (i : Nat) (v : Value), items[i]? = some v → ∃ k t, ns[i]? = some k ∧ v = .int k t := fun i v hv => by
          have hi : i < ns.length := by rw [← size_eq]; exact (Array.getElem?_eq_some_iff.mp hv).1
          obtain ⟨t, e⟩ := PyProof.Rows.IntsAre.int_at hit i v (by rw [Array.getElem?_toList]; exact hv)
          exact ⟨ns[i], t, List.getElem?_eq_getElem hi, by rw [e, List.getD_eq_getElem?_getD, List.getElem?_eq_getElem hi] <;> rfl⟩
        refine set_update_ints ((Walks.list hh3 _ l nei items).toS) s.heap.objs.size nef ns size_eq hb val (items.size - 0) 0 _ (by omega) (Nat.zero_le _) ⟨⟨_, Heap.get?_push_size _ rfl, rfl, rfl⟩, (isl.push _)⟩
          ⟨0, Nat.le_refl 0, setR_new_at (Heap.get?_push_of_some _ at0)⟩ fun z c mv le hR => ?_
        obtain ⟨g, g2, d2, tk2, os2⟩ := z
        obtain rfl : g2 = s.gens := mv.gens
        obtain rfl : d2 = s.drawn := mv.drawn
        obtain rfl : os2 = s.os := mv.os
        show wpAny _ _ _ _ _ _
        refine wpAny_pure ?_
        show wpAny _ _ (ret Value.none) _ _ _
        refine wpAny_pure ⟨rfl, g, tk2, c, rfl, hR, by omega, fun b o e => ?_⟩
        have lb : b < s.heap.objs.size := Heap.lt_size e
        refine mv.heap b o ?_ (Heap.get?_push_of_some _ (Heap.get?_push_of_some _ e))
        intro hm
        rcases List.mem_cons.mp hm with e | e
        · exact absurd e (Nat.ne_of_lt lb)
        · rw [Heap.size_push] at e
          exact absurd (List.mem_singleton.mp e) (Nat.ne_of_lt (Nat.lt_succ_of_lt lb))
      · cases r2 with
        | error e => exact hz2
        | ok fl2 =>
          cases fl2 with
          | ret r =>
            obtain ⟨rfl, g, tk, c, rfl, q1, q2, q3⟩ := hz2
            repeat (any_goals (first | assumption | wp_step))
            exact h _ _ _ q1 q2 q3
          | _ => exact hz2.elim
    | _ => exact hz.elim
end
def dedI : List Int → List Int
  | [] => []
  | x :: r => if x ∈ r then dedI r else x :: dedI r
theorem dedI_mem {x : Int} : ∀ l : List Int, x ∈ dedI l ↔ x ∈ l
  | [] => .rfl
  | y :: r => by
    unfold dedI
    split
    · rename_i h
      rw [dedI_mem r, List.mem_cons]
      exact ⟨.inr, fun z => z.elim (fun e => e ▸ h) id⟩
    · rw [List.mem_cons, List.mem_cons, dedI_mem r]
theorem dedI_nd : ∀ l : List Int, (dedI l).Nodup
  | [] => .nil
  | y :: r => by
    unfold dedI
    split
    · exact dedI_nd r
    · rename_i h
      exact List.nodup_cons.mpr ⟨fun z => h ((dedI_mem r).mp z), dedI_nd r⟩
theorem dedI_len : ∀ l : List Int, (dedI l).length ≤ l.length
  | [] => Nat.le_refl _
  | y :: r => by
    unfold dedI
    split
    · exact Nat.le_succ_of_le (dedI_len r)
    · exact Nat.succ_le_succ (dedI_len r)
def srtD : D → Rs D
  | .list ds => match intsO ds with
    | some ns => if ns.length < 4000 ∧ (dedI ns).length < 64 then .ok (.list ((srtI (dedI ns)).map PyData.int)) else .stuck
    | none => .stuck
  | _ => .stuck
theorem srt_lt {l : List Int} (h : l.Nodup) : (srtI l).Pairwise (· < ·) := by
  have h1 := srtI_srt l
  have h2 : (srtI l).Nodup := (srtI_perm l).nodup_iff.mpr h
  refine List.Pairwise.imp₂ (R := (· ≤ ·)) (S := (· ≠ ·)) (fun a b h1 h2 => by omega) h1 h2
theorem lt_unique {a b : List Int} (h : ∀ k, k ∈ a ↔ k ∈ b) (ha : a.Pairwise (· < ·)) (hb : b.Pairwise (· < ·)) : a = b := by
  have na : a.Nodup := ha.imp fun h => by omega
  have nb : b.Nodup := hb.imp fun h => by omega
  exact srt_unique ((List.perm_ext_iff_of_nodup na nb).mpr h) (ha.imp fun h => by omega) (hb.imp fun h => by omega)
end Den
namespace Den
open PySem PySem.Spec PyProof.Rows L2
section
variable {X : Cx} {G : Gc} {L : Nat} {bl : List Str} {a : Expr} {f : DE} {p p2 q pos : Pos}
theorem d_srtset (C : Ctx X G L bl) (hg : Gl X "sorted") (hm : X.mg "sorted" = none) (hg2 : Gl X "set") (hm2 : X.mg "set" = none) (ha : PE X a (tW G f))
    (na : starEach [a] X.env = (false, eval a X.env) :: starEach [] X.env) : PE X (.Call (.Name "sorted" p) [.Call (.Name "set" p2) [a] [] q] [] pos) (tS G fun ρ => do let x ← f ρ; srtD x) := by
  refine ⟨fun pins s σ H Q I h => ?_⟩
  have boot1 : bootBuiltins "sorted" = some (.builtin "sorted") := by decide +kernel
  refine Call_ (ld_blt I hg hm boot1 ?_)
  refine PyProof.Rows.callWith_builtin1 (PyProof.Rows.args_cons ?_ rfl) rfl rfl
  refine Call_ (ld_blt I hg2 hm2 PyProof.Rows.boot_set ?_)
  have kf := C.kf (kf_inv I)
  obtain ⟨O, ρ, R, w⟩ := h kf
  have tw : tW G f σ H fun x H1 => Same H H1 ∧ ∃ d, AtC G.K H1 O d x ∧ Post G H (srtD d) fun d => ∀ v H', Same H H' → KF G.K H' → At G.K H' O d v → Q v H' := fun _ =>
    ⟨O, ρ, R, w.bind.imp fun d _ q x H1 s1 k1 a1 => ⟨s1, d, a1, q⟩⟩
  refine PyProof.Rows.callWith_type1 (PyProof.Rows.args_cons (thn (ha.run pins s σ H _ I tw) fun v s1 ⟨x, H1, I1, r1, s01, d, a1, q1⟩ => PyProof.Rows.args_nil ?_) na) na rfl
  cases d with
  | list ds =>
    have q2 : Post G H (match intsO ds with
      | some ns => if ns.length < 4000 ∧ (dedI ns).length < 64 then Rs.ok (PyData.list ((srtI (dedI ns)).map PyData.int)) else .stuck
      | none => .stuck) _ := q1
    cases hi : intsO ds with
    | none => rw [hi] at q2; exact q2.elim
    | some ns =>
      rw [hi] at q2
      dsimp only at q2
      split at q2
      · rename_i h64
        obtain ⟨l, vs, rfl, h1, h2⟩ := a1
        cases r1
        have e := ints_eq hi
        subst e
        obtain rfl := atL_ints h2
        obtain ⟨its, rv, pl, _⟩ := I1.list (C.K ▸ h1)
        refine set_ofList ns (I1.ok.hd C.calm) pl.isList (by simpa using ints_of_vals rv) (by unfold scanBound; omega) fun g tk c hR hc hk => PyProof.Rows.args_nil ?_
        have I2 : Inv X pins σ H1 { s1 with heap := g, toks := tk } := I1.kept hk
        have ec : c = (dedI ns).length := by
          obtain ⟨o, es, ep, t, _, _, _, _, nd, mem, _, _, en, _⟩ := hR
          have e := ((List.perm_ext_iff_of_nodup nd (dedI_nd ns)).mpr fun k => by rw [← mem k, decide_eq_true_iff, dedI_mem]).length_eq
          rw [List.length_map, Array.length_toList] at e
          omega
        refine sorted_set hR (I2.ok.hd C.calm) (by omega) fun s' z out c2 ms k3 g3 o3 hz hg hi3 hs hm3 hl3 => ?_
        have em : ms = srtI (dedI ns) := lt_unique (fun k => by
          rw [hm3, decide_eq_true_iff, (srtI_perm _).mem_iff, dedI_mem]) hs (srt_lt (dedI_nd ns))
        subst em
        have hlen : ((srtI (dedI ns)).map V.int).length ≤ sizeLine := by rw [List.length_map, hl3, sizeLine_eq]; omega
        have hn : H1 z = none := I2.hok.fresh hz
        have J : Inv X pins σ (upd H1 z (.lst ((srtI (dedI ns)).map V.int))) { s1 with heap := s'.heap, gens := s'.gens, drawn := s'.drawn, toks := s'.toks } :=
          L2.Inv.call (s := { s1 with heap := g, toks := tk }) (ch := []) I2 (Un.laid k3 hz hn) (I2.hok.laid k3 hz ⟨hlen, out.toList, c2, vals_of_ints hi3, hg⟩) (by rw [g3]; exact I2.bare) fun _ w => nomatch w
        have es : s' = { s1 with heap := s'.heap, gens := s'.gens, drawn := s'.drawn, toks := s'.toks } := by
          cases s'
          cases s1
          cases o3
          rfl
        rw [es]
        have kJ := C.kf (kf_inv J)
        exact ⟨.ref z, _, J, rfl, q2 _ _ (s01.trans (same_upd hn)) kJ (new_list (R.same s01).trk hn (atL_of_ints _))⟩
      · exact q2.elim
  | _ => exact q1.elim
end
end Den
namespace Den
open PySem PySem.Spec PyProof.Rows L2
def ColR (X : Cx) (s : Shared) (x : Addr) (vs : List Value) : Prop := ∀ (E : Value → Shared → Prop) (R : List Value → Shared → Prop),
  (∀ h' tk, (∀ b o, s.heap.get? b = some o → h'.get? b = some o) → R vs { s with heap := h', toks := tk }) → wpAny (model X.prog X.w) X.A.in1 (collect (.ref x)) R E s
section
variable {X : Cx} {pins : List (Addr × Obj)} {σ : L2.St} {H : Hp} {s : Shared} {x : Addr} {vs : List Value} {O : Addr → Prop}
theorem col_tup (I : L2.Inv X pins σ H s) {us : List V} (h : SqT X.K H x us) : ∃ vs, Vals us vs ∧ ColR X s x vs := by
  obtain ⟨its, rv, ⟨o, e1, e2, n, e3⟩, z⟩ := I.tuple h
  refine ⟨its, rv, fun E R k => ?_⟩
  refine wpAny_collect_seq (hsz := ?_) x (.inr rfl) e1 e2 e3 fun h' kk => ?_
  · exact k h' s.toks kk
  · have := rv.length
    rw [List.size_toArray]; omega
theorem col_lst (I : L2.Inv X pins σ H s) {us : List V} (h : SqL X.K H x us) : ∃ vs, Vals us vs ∧ ColR X s x vs := by
  obtain ⟨its, rv, ⟨o, n, e1, e2, _, e3⟩, z⟩ := I.list h
  refine ⟨its, rv, fun E R k => ?_⟩
  refine wpAny_collect_seq (hsz := ?_) x (.inl rfl) e1 e2 e3 fun h' kk => ?_
  · exact k h' s.toks kk
  · have := rv.length
    rw [List.size_toArray]; omega
theorem col_dct (hc : X.calm = true) (I : L2.Inv X pins σ H s) {kvs : List (D × D)} {es : List (NestedKey × Addr × V)} (e : H x = some (dctO X.prog X.w x es)) (h : DEs X.K H O kvs es) : ColR X s x (es.map fun p => Value.ref p.2.1) := fun E R k => by
  obtain ⟨z, hs, xs, p, o, en, ep, e1, e2, e3, e4, _, _⟩ := dict_at I e h
  have hsz : en.size = xs.length := size_of_entries e4
  have hl := Paired.length p
  have raw : s.heap.DictRaw x en ep := ⟨o, e1, e2, e3⟩
  refine PySem.W.kdu_collect (A := X.A.in1) (PySem.KdlSrc.rawDict (prog := X.prog) (w := X.w) (es := en) (ep := ep) hs) (I.ok.hd hc) raw (by omega) fun h' tk acc kk it => ?_
  have ea : acc.toList = es.map fun p => Value.ref p.2.1 := by
    refine List.ext_getElem? fun j => ?_
    by_cases hj : j < en.size
    · have hja : j < acc.toList.length := by rw [Array.length_toList, it.1]; exact hj
      obtain ⟨hj', ev⟩ := it.2 j acc.toList[j] (by rw [← Array.getElem?_toList]; exact List.getElem?_eq_getElem hja)
      rw [List.getElem?_eq_getElem hja, ev]
      have h1 := entry_at e4 j
      have hx : j < xs.length := by omega
      rw [Array.getElem?_eq_getElem hj, List.getElem?_eq_getElem hx] at h1
      have h2 : en[j] = entryOfKey (nestedKind X.prog X.w) xs[j] := by simpa using h1
      rw [h2]
      have he : j < es.length := by omega
      rw [List.getElem?_map, List.getElem?_eq_getElem he]
      have h3 : es[j].2.1 = xs[j].2.1 := by
        have key : ∀ {es : List (NestedKey × Addr × V)} {xs : List (NestedKey × Addr × Value)}, Paired EnR es xs → ∀ j (h1 : j < es.length) (h2 : j < xs.length), es[j].2.1 = xs[j].2.1 := by
          intro es xs p
          induction p with
          | nil => intro j h1; simp at h1
          | cons r t ih =>
            intro j h1 h2
            cases j with
            | zero => exact r.2.1
            | succ j => exact ih j (by simpa using h1) (by simpa using h2)
        exact key p j he hx
      simp [entryOfKey, h3]
    · rw [List.getElem?_eq_none (by rw [Array.length_toList, it.1]; omega), List.getElem?_eq_none (by rw [List.length_map]; omega)]
  rw [ea]
  exact k h' tk kk
theorem sorted_ints_of (I : L2.Inv X pins σ H s) (col : ColR X s x vs) {ns : List Int} (hI : IntsAre vs ns) (h64 : ns.length < 64) {Q : VK} (q : ∀ (ms : List Int) (p : Addr), ms.Perm ns → ms.Pairwise (· ≤ ·) → H p = none → Q (.ref p) (upd H p (.lst (ms.map V.int)))) :
    wpAny (model X.prog X.w) X.A (call (.builtin "sorted") [.ref x]) (EP X pins σ Q) X.xe s := by
  have hvl : vs.length = ns.length := hI.length
  refine Calls.call_function_entry PyProof.Rows.kind_sorted PyProof.Rows.plain_sorted PyProof.Rows.entry_sorted (PyProof.Rows.args_sorted1 _) ?_
  unfold Builtin.«sorted»
  refine wpAny_bind (m := checkCount "sorted" 1 1 _) (wpAny_pure (wpAny_bind (col _ _ fun hp tk kk => ?_)))
  have J : L2.Inv X pins σ H { s with heap := hp, toks := tk } := I.kept kk
  refine wpAny_bind (wpAny_newList ?_ (by rw [hvl, sizeLine_eq]; omega))
  have lay : (hp.push (seqObj "list" vs.toArray 0)).get? hp.objs.size = some (seqObj "list" vs.toArray 0) := Heap.get?_push_size _ rfl
  refine wpAny_bind (wpAny_holding (wpAny_call_entry PyProof.Rows.slot_list_sort ⟨_, lay, rfl⟩ PyProof.Rows.entry_list_sort
    (PyProof.Rows.list_sort_tree (s := { s with heap := hp.push (seqObj "list" vs.toArray 0), toks := tk }) lay hI (by omega) fun out ms m1 m2 m3 => ⟨_, rfl, ?_⟩) (PyProof.Rows.args_list_sort _)))
  obtain ⟨ee, at_⟩ := PyProof.Rows.sortedHeap_at (vs := vs) (out := out) lay
  have hz : (ms.map V.int).length ≤ sizeLine := by rw [List.length_map, m2.length_eq, sizeLine_eq]; omega
  have new : ObjOk X.prog X.w (upd H hp.objs.size (.lst (ms.map V.int))) (PyProof.Rows.sortedHeap (hp.push (seqObj "list" vs.toArray 0)) hp.objs.size vs out) hp.objs.size (.lst (ms.map V.int)) := ⟨hz, out.toList, ee, vals_of_ints m1, by rw [Array.toArray_toList]; exact at_⟩
  refine wpAny_pure ⟨_, rfl, .ref hp.objs.size, _, J.laid (t' := tk) (fun b u eb => ?_) (Nat.le_refl _) new, rfl, q ms _ m2 m3 (J.hok.fresh (Nat.le_refl _))⟩
  have hlt : b < hp.objs.size := Heap.lt_size eb
  rw [PyProof.Rows.sortedHeap_old (Nat.ne_of_lt hlt) (by rw [PyProof.Rows.size_push']; exact Nat.lt_succ_of_lt hlt)]
  exact Heap.get?_push_of_some _ eb
theorem sorted_prs_of (I : L2.Inv X pins σ H s) (col : ColR X s x vs) {ys : List V} (rv : Vals ys vs) (h64 : ys.length < 64) (ht : ∀ y ∈ ys, ∃ ns, TupI X.K H y ns ∧ ns.length = 2 ∧ TS.Bd 64 ns) {Q : VK}
    (q : ∀ (zs : List V) (p : Addr), zs.Perm ys → zs.Pairwise (fun x y => ∀ n m, TupI X.K H x n → TupI X.K H y m → TS.code 64 n ≤ TS.code 64 m) → H p = none → Q (.ref p) (upd H p (.lst zs))) :
    wpAny (model X.prog X.w) X.A (call (.builtin "sorted") [.ref x]) (EP X pins σ Q) X.xe s := by
  have hvl := rv.length
  obtain ⟨b1, b2⟩ := bkV_refs rv fun y m => by
    obtain ⟨ns, ⟨t, e, _⟩, _⟩ := ht y m
    exact ⟨t, e⟩
  refine Calls.call_function_entry PyProof.Rows.kind_sorted PyProof.Rows.plain_sorted PyProof.Rows.entry_sorted (PyProof.Rows.args_sorted1 _) ?_
  unfold Builtin.«sorted»
  refine wpAny_bind (m := checkCount "sorted" 1 1 _) (wpAny_pure (wpAny_bind (col _ _ fun hp tk kk => ?_)))
  have J : L2.Inv X pins σ H { s with heap := hp, toks := tk } := I.kept kk
  refine wpAny_bind (wpAny_newList ?_ (by rw [sizeLine_eq]; omega))
  have lay : (hp.push (seqObj "list" vs.toArray 0)).get? hp.objs.size = some (seqObj "list" vs.toArray 0) := Heap.get?_push_size _ rfl
  have J2 : L2.Inv X pins σ H { s with heap := hp.push (seqObj "list" vs.toArray 0), toks := tk } := J.kept fun b o e => Heap.get?_push_of_some _ e
  have ok : TS.TupsOk (hp.push (seqObj "list" vs.toArray 0)) 2 64 vs := fun v hv => by
    obtain ⟨t, rfl⟩ := b2 v hv
    obtain ⟨ns, ⟨t', et, sq⟩, hn, hb⟩ := ht (.ref t) (by rw [b1]; exact List.mem_map.mpr ⟨_, hv, rfl⟩)
    cases et
    exact ⟨ns, tupI_raw J2 sq, hn, hb⟩
  refine wpAny_bind (wpAny_holding (TS.call_sort_tups (s := { s with heap := hp.push (seqObj "list" vs.toArray 0), toks := tk }) lay (by omega) (by decide) ok fun out m1 m2 => ?_))
  obtain ⟨ee, at_⟩ := PyProof.Rows.sortedHeap_at (vs := vs) (out := out) lay
  have rf : ∀ u ∈ out.toList, ∃ a, u = Value.ref a := fun u hu => b2 u (m1.mem_iff.mp hu)
  have pm : (out.toList.map bkV).Perm ys := by rw [b1]; exact m1.map bkV
  have new : ObjOk X.prog X.w (upd H hp.objs.size (.lst (out.toList.map bkV))) (PyProof.Rows.sortedHeap (hp.push (seqObj "list" vs.toArray 0)) hp.objs.size vs out) hp.objs.size (.lst (out.toList.map bkV)) :=
    ⟨by rw [pm.length_eq, sizeLine_eq]; omega, out.toList, ee, bkV_vals rf, by rw [Array.toArray_toList]; exact at_⟩
  refine wpAny_pure ⟨_, rfl, .ref hp.objs.size, _, J.laid (t' := tk) (fun b u eb => ?_) (Nat.le_refl _) new, rfl, q _ _ pm ?_ (J.hok.fresh (Nat.le_refl _))⟩
  · have hlt : b < hp.objs.size := Heap.lt_size eb
    rw [PyProof.Rows.sortedHeap_old (Nat.ne_of_lt hlt) (by rw [PyProof.Rows.size_push']; exact Nat.lt_succ_of_lt hlt)]
    exact Heap.get?_push_of_some _ eb
  · refine List.pairwise_map.mpr (m2.imp fun {u v} huv n m ⟨t, et, sn⟩ ⟨t', et', sm⟩ => ?_)
    rw [bkV_ref et, bkV_ref et'] at huv
    rw [← (tupI_raw J2 sn).ints, ← (tupI_raw J2 sm).ints]
    exact huv
end
end Den
namespace Den
open PySem PySem.Spec PyProof.Rows L2
def prO : D → Option (Int × Int)
  | .tuple [.int i, .int j] => if (0 ≤ i ∧ i < 64) ∧ (0 ≤ j ∧ j < 64) then some (i, j) else none
  | _ => none
def prsO : List D → Option (List (Int × Int))
  | [] => some []
  | d :: ds => match prO d, prsO ds with
    | some p, some r => some (p :: r)
    | _, _ => none
def prD (p : Int × Int) : D := .tuple [.int p.1, .int p.2]
def cdP (p : Int × Int) : Int := p.1 * 64 + p.2
def insP (x : Int × Int) : List (Int × Int) → List (Int × Int)
  | [] => [x]
  | y :: r => if cdP x ≤ cdP y then x :: y :: r else y :: insP x r
def srtP : List (Int × Int) → List (Int × Int)
  | [] => []
  | x :: r => insP x (srtP r)
theorem insP_perm (x : Int × Int) : ∀ r, (insP x r).Perm (x :: r)
  | [] => .refl _
  | y :: r => by
    unfold insP
    split
    · exact .refl _
    · exact ((insP_perm x r).cons y).trans (.swap x y r)
theorem srtP_perm : ∀ r, (srtP r).Perm r
  | [] => .refl _
  | x :: r => (insP_perm x _).trans ((srtP_perm r).cons x)
theorem insP_mem {x y : Int × Int} {r : List (Int × Int)} : y ∈ insP x r ↔ y = x ∨ y ∈ r := by rw [(insP_perm x r).mem_iff, List.mem_cons]
theorem insP_srt (x : Int × Int) : ∀ r, r.Pairwise (fun p q => cdP p ≤ cdP q) → (insP x r).Pairwise (fun p q => cdP p ≤ cdP q)
  | [], _ => by simp [insP]
  | y :: r, h => by
    unfold insP
    obtain ⟨h1, h2⟩ := List.pairwise_cons.mp h
    split
    · rename_i hxy
      refine List.pairwise_cons.mpr ⟨fun z hz => ?_, h⟩
      rcases List.mem_cons.mp hz with rfl | hz
      · exact hxy
      · exact Int.le_trans hxy (h1 z hz)
    · rename_i hxy
      refine List.pairwise_cons.mpr ⟨fun z hz => ?_, insP_srt x r h2⟩
      rcases insP_mem.mp hz with rfl | hz
      · omega
      · exact h1 z hz
theorem srtP_srt : ∀ r, (srtP r).Pairwise (fun p q => cdP p ≤ cdP q)
  | [] => .nil
  | x :: r => insP_srt x _ (srtP_srt r)
def bdP (p : Int × Int) : Prop := (0 ≤ p.1 ∧ p.1 < 64) ∧ (0 ≤ p.2 ∧ p.2 < 64)
theorem cdP_inj {p q : Int × Int} (hp : bdP p) (hq : bdP q) (h : cdP p = cdP q) : p = q := by
  unfold cdP at h
  unfold bdP at hp hq
  ext <;> omega
theorem srtP_unique : ∀ {a b : List (Int × Int)}, a.Perm b → (∀ p ∈ a, bdP p) → a.Pairwise (fun p q => cdP p ≤ cdP q) → b.Pairwise (fun p q => cdP p ≤ cdP q) → a = b
  | [], b, h, _, _, _ => (h.nil_eq)
  | x :: a, [], h, _, _, _ => by have := h.length_eq; simp at this
  | x :: a, y :: b, h, hb, ha, hb' => by
    obtain ⟨a1, a2⟩ := List.pairwise_cons.mp ha
    obtain ⟨b1, b2⟩ := List.pairwise_cons.mp hb'
    have hy : y ∈ x :: a := h.mem_iff.mpr List.mem_cons_self
    have e : x = y := by
      refine cdP_inj (hb x List.mem_cons_self) (hb y hy) (Int.le_antisymm ?_ ?_)
      · rcases List.mem_cons.mp hy with e | e
        · rw [e]; exact Int.le_refl _
        · exact a1 y e
      · have : x ∈ y :: b := h.mem_iff.mp List.mem_cons_self
        rcases List.mem_cons.mp this with e | e
        · rw [e]; exact Int.le_refl _
        · exact b1 x e
    subst e
    rw [srtP_unique (List.Perm.cons_inv h) (fun p hp => hb p (List.mem_cons_of_mem _ hp)) a2 b2]
theorem prO_eq {d : D} {p : Int × Int} (h : prO d = some p) : d = prD p ∧ bdP p := by
  unfold prO at h
  split at h
  · split at h
    · rename_i hb
      cases h
      exact ⟨rfl, hb⟩
    · cases h
  · cases h
theorem prsO_eq : ∀ {ds : List D} {ps : List (Int × Int)}, prsO ds = some ps → ds = ps.map prD ∧ ∀ p ∈ ps, bdP p
  | [], _, h => by cases h; exact ⟨rfl, fun p hp => by cases hp⟩
  | d :: ds, ps, h => by
    unfold prsO at h
    split at h
    · rename_i p r h1 h2
      cases h
      obtain ⟨e1, b1⟩ := prO_eq h1
      obtain ⟨e2, b2⟩ := prsO_eq h2
      refine ⟨by rw [List.map_cons, ← e1, ← e2], fun q hq => ?_⟩
      rcases List.mem_cons.mp hq with rfl | hq
      · exact b1
      · exact b2 q hq
    · cases h
theorem prsO_map : ∀ {ps : List (Int × Int)}, (∀ p ∈ ps, bdP p) → prsO (ps.map prD) = some ps
  | [], _ => rfl
  | p :: ps, h => by
    have h1 : prO (prD p) = some p := by
      unfold prO prD
      exact if_pos (h p List.mem_cons_self)
    show (match prO (prD p), prsO (ps.map prD) with | some p, some r => some (p :: r) | _, _ => none) = _
    rw [h1, prsO_map fun q hq => h q (List.mem_cons_of_mem _ hq)]
theorem prs_back {K : W.Frag} {H : Hp} {O : Addr → Prop} : ∀ {zs : List V}, (∀ z ∈ zs, ∃ p : Int × Int, At K H O (prD p) z ∧ bdP p) → ∃ ps : List (Int × Int), AtL K H O (ps.map prD) zs ∧ ∀ p ∈ ps, bdP p
  | [], _ => ⟨[], rfl, fun p h => by cases h⟩
  | z :: zs, h => by
    obtain ⟨p, a, b⟩ := h z List.mem_cons_self
    obtain ⟨ps, a2, b2⟩ := prs_back fun y hy => h y (List.mem_cons_of_mem _ hy)
    refine ⟨p :: ps, ⟨z, zs, rfl, a, a2⟩, fun q hq => ?_⟩
    rcases List.mem_cons.mp hq with rfl | hq
    · exact b
    · exact b2 q hq
theorem pr_tupI {K : W.Frag} {H : Hp} {O : Addr → Prop} {p : Int × Int} {y : V} (a : At K H O (prD p) y) : TupI K H y [p.1, p.2] := by
  obtain ⟨t, vs, rfl, h1, _, v1, r1, rfl, e1, v2, r2, rfl, e2, e3⟩ := a
  cases e1; cases e2; cases e3
  exact ⟨t, rfl, h1.q⟩
theorem bd_TS {p : Int × Int} (h : bdP p) : TS.Bd 64 [p.1, p.2] := fun m hm => by
  rcases List.mem_cons.mp hm with rfl | hm
  · exact h.1
  · rw [List.mem_singleton.mp hm]; exact h.2
section
variable {X : Cx} {pins : List (Addr × Obj)} {σ : L2.St} {H : Hp} {s : Shared} {O : Addr → Prop}
theorem tupI_inj (I : L2.Inv X pins σ H s) {y : V} {n m : List Int} (a : TupI X.K H y n) (b : TupI X.K H y m) : n = m := by
  obtain ⟨t, rfl, h1⟩ := a
  obtain ⟨t', e, h2⟩ := b
  cases e
  have := I.tuple_inj h1 h2
  have key : ∀ {n m : List Int}, n.map V.int = m.map V.int → n = m := by
    intro n
    induction n with
    | nil => intro m e; cases m with
      | nil => rfl
      | cons _ _ => cases e
    | cons a n ih => intro m e; cases m with
      | nil => cases e
      | cons b m => injection e with e1 e2; injection e1 with e1; rw [e1, ih e2]
  exact key this
theorem atL_mem : ∀ {ds : List D} {vs : List V} {K : W.Frag}, AtL K H O ds vs → ∀ v ∈ vs, ∃ d ∈ ds, At K H O d v
  | [], _, _, h, v, hv => by cases h; cases hv
  | d :: ds, _, _, h, v, hv => by
    obtain ⟨u, r, rfl, a1, a2⟩ := h
    rcases List.mem_cons.mp hv with rfl | hv
    · exact ⟨d, List.mem_cons_self, a1⟩
    · obtain ⟨d', h1, h2⟩ := atL_mem a2 v hv
      exact ⟨d', List.mem_cons_of_mem _ h1, h2⟩
theorem prs_sorted (I : L2.Inv X pins σ H s) {ps : List (Int × Int)} {ys zs : List V} (a : AtL X.K H O (ps.map prD) ys) (hb : ∀ p ∈ ps, bdP p) (pm : zs.Perm ys)
    (pw : zs.Pairwise (fun x y => ∀ n m, TupI X.K H x n → TupI X.K H y m → TS.code 64 n ≤ TS.code 64 m)) : AtL X.K H O ((srtP ps).map prD) zs := by
  have back : ∀ z ∈ zs, ∃ p : Int × Int, At X.K H O (prD p) z ∧ bdP p := fun z hz => by
    obtain ⟨d, hd, az⟩ := atL_mem a z (pm.mem_iff.mp hz)
    obtain ⟨p, hp, rfl⟩ := List.mem_map.mp hd
    exact ⟨p, az, hb p hp⟩
  obtain ⟨qs, aq, bq⟩ := prs_back back
  have key : ∀ {qs ps : List (Int × Int)} {zs ys : List V}, AtL X.K H O (qs.map prD) zs → AtL X.K H O (ps.map prD) ys → zs.Perm ys → qs.Perm ps := by
    intro qs ps zs ys h1 h2 pm
    classical
    let f : V → Int × Int := fun z => if h : ∃ p, At X.K H O (prD p) z then h.choose else (0, 0)
    have hf : ∀ z p, At X.K H O (prD p) z → f z = p := fun z p a => by
      have ex : ∃ p, At X.K H O (prD p) z := ⟨p, a⟩
      show (if h : ∃ p, At X.K H O (prD p) z then h.choose else (0, 0)) = p
      rw [dif_pos ex]
      have := tupI_inj I (pr_tupI ex.choose_spec) (pr_tupI a)
      simp only [List.cons.injEq, and_true] at this
      exact Prod.ext this.1 this.2
    have read : ∀ {qs : List (Int × Int)} {zs : List V}, AtL X.K H O (qs.map prD) zs → qs = zs.map f := by
      intro qs
      induction qs with
      | nil => intro zs h; cases h; rfl
      | cons q qs ih =>
        intro zs h
        obtain ⟨v, r, rfl, a1, a2⟩ := h
        rw [List.map_cons, ← ih a2, hf v q a1]
    rw [read h1, read h2]
    exact pm.map f
  have pq := key aq a pm
  have srt : qs.Pairwise (fun p q => cdP p ≤ cdP q) := by
    clear key pm back pq a
    induction qs generalizing zs with
    | nil => exact .nil
    | cons q qs ih =>
      obtain ⟨v, r, rfl, a1, a2⟩ := aq
      obtain ⟨p1, p2⟩ := List.pairwise_cons.mp pw
      refine List.pairwise_cons.mpr ⟨fun p hp => ?_, ih p2 a2 fun p hp => bq p (List.mem_cons_of_mem _ hp)⟩
      obtain ⟨i, hi⟩ := List.mem_iff_getElem?.mp hp
      obtain ⟨u, e1, e2⟩ := a2.get (i := i) (d := prD p) (by rw [List.getElem?_map, hi]; rfl)
      have := p1 u (List.mem_of_getElem? e1) _ _ (pr_tupI a1) (pr_tupI e2)
      rw [code_pair, code_pair] at this
      exact this
  have e : qs = srtP ps := srtP_unique (pq.trans (srtP_perm ps).symm) bq srt (srtP_srt ps)
  rw [← e]
  exact aq
end
def rSrtA (K : W.Frag) : List V → Hp → VK → Prop := fun vs H Q => ∃ x, vs = [.ref x] ∧
  ((∃ ns : List Int, (SqL K H x (ns.map V.int) ∨ SqT K H x (ns.map V.int)) ∧ ns.length < 64 ∧ ∀ (ms : List Int) (p : Addr), ms.Perm ns → ms.Pairwise (· ≤ ·) → H p = none → Q (.ref p) (upd H p (.lst (ms.map V.int)))) ∨
   (∃ (O : Addr → Prop) (ps : List (Int × Int)) (ys : List V), (SqL K H x ys ∨ SqT K H x ys) ∧ AtL K H O (ps.map prD) ys ∧ (∀ p ∈ ps, bdP p) ∧ ps.length < 64 ∧ ∀ (zs : List V) (p : Addr), AtL K H O ((srtP ps).map prD) zs → H p = none → Q (.ref p) (upd H p (.lst zs))))
def sortedA : List D → Rs D
  | [.list ds] => (match intsO ds with
    | some ns => if ns.length < 64 then .ok (.list ((srtI ns).map PyData.int)) else .stuck
    | none => (match prsO ds with
      | some ps => if ps.length < 64 then .ok (.list ((srtP ps).map prD)) else .stuck
      | none => .stuck))
  | [.tuple ds] => (match intsO ds with
    | some ns => if ns.length < 64 then .ok (.list ((srtI ns).map PyData.int)) else .stuck
    | none => .stuck)
  | _ => .stuck
section
variable {X : Cx} {G : Gc} {L : Nat} {bl : List Str}
theorem cr_srtA : CallR X (.builtin "sorted") (rSrtA X.K) := by
  intro pins s σ H vs us Q I r h
  obtain ⟨x, rfl, h⟩ := h
  rw [Vals.ref1 r]
  rcases h with ⟨ns, hs, h64, q⟩ | ⟨O, ps, ys, hs, al, hb, h64, q⟩
  · obtain ⟨vs, rv, col⟩ : ∃ vs, Vals (ns.map V.int) vs ∧ ColR X s x vs := hs.elim (col_lst I) (col_tup I)
    exact sorted_ints_of I col rv.ints h64 q
  · obtain ⟨vs, rv, col⟩ : ∃ vs, Vals ys vs ∧ ColR X s x vs := hs.elim (col_lst I) (col_tup I)
    refine sorted_prs_of I col rv (by rw [al.length, List.length_map]; exact h64) (fun y hy => ?_) fun zs p pm pw hp => q zs p (prs_sorted I al hb pm pw) hp
    obtain ⟨d, hd, ay⟩ := atL_mem al y hy
    obtain ⟨p, hp, rfl⟩ := List.mem_map.mp hd
    exact ⟨_, pr_tupI ay, rfl, bd_TS (hb p hp)⟩
theorem says_sortedA : SaysL G (rSrtA G.K) sortedA := by
  intro O H vs ds Q k t a p
  unfold sortedA at p
  split at p
  · rename_i ds
    obtain ⟨v, r, rfl, ⟨b, us, rfl, h1, h2⟩, e⟩ := a
    cases e
    split at p
    · rename_i ns hb
      split at p
      · rename_i hz
        rw [ints_eq hb] at h2
        rw [atL_ints h2] at h1
        refine ⟨b, rfl, .inl ⟨ns, .inl h1, hz, fun ms q hp hs hq k' => ?_⟩⟩
        have e := srt_unique (hp.trans (srtI_perm ns).symm) hs (srtI_srt ns)
        subst e
        exact p _ _ (same_upd hq) k' (new_list t hq (atL_of_ints _))
      · exact p.elim
    · split at p
      · rename_i ps hb
        split at p
        · rename_i hz
          obtain ⟨e1, e2⟩ := prsO_eq hb
          rw [e1] at h2
          exact ⟨b, rfl, .inr ⟨O, ps, us, .inl h1, h2, e2, hz, fun zs q az hq k' => p _ _ (same_upd hq) k' (new_list t hq az)⟩⟩
        · exact p.elim
      · exact p.elim
  · rename_i ds
    obtain ⟨v, r, rfl, ⟨b, us, rfl, h1, _, h2⟩, e⟩ := a
    cases e
    split at p
    · rename_i ns hb
      split at p
      · rename_i hz
        rw [ints_eq hb] at h2
        rw [atL_ints h2] at h1
        refine ⟨b, rfl, .inl ⟨ns, .inr h1.q, hz, fun ms q hp hs hq k' => ?_⟩⟩
        have e := srt_unique (hp.trans (srtI_perm ns).symm) hs (srtI_srt ns)
        subst e
        exact p _ _ (same_upd hq) k' (new_list t hq (atL_of_ints _))
      · exact p.elim
    · exact p.elim
  · exact p.elim
def rSrtX (P : Program) (w : World) (K : W.Frag) : List V → Hp → VK → Prop := fun vs H Q => ∃ (x : Addr) (O : Addr → Prop) (kvs : List (D × D)) (es : List (NestedKey × Addr × V)) (ps : List (Int × Int)), vs = [.ref x] ∧ H x = some (dctO P w x es) ∧ DEs K H O kvs es ∧ kvs.map (·.1) = ps.map prD ∧ (∀ p ∈ ps, bdP p) ∧ ps.length < 64 ∧
  ∀ (zs : List V) (p : Addr), AtL K H O ((srtP ps).map prD) zs → H p = none → Q (.ref p) (upd H p (.lst zs))
theorem des_keys {K : W.Frag} {H : Hp} {O : Addr → Prop} : ∀ {kvs : List (D × D)} {es : List (NestedKey × Addr × V)}, DEs K H O kvs es → AtL K H O (kvs.map (·.1)) (es.map fun p => V.ref p.2.1)
  | [], _, h => by cases h; rfl
  | q :: r, _, h => by
    obtain ⟨b, v, es', rfl, h1, h2, h3, h4⟩ := h
    exact ⟨.ref b, _, rfl, h2, des_keys h4⟩
theorem vals_refs : ∀ es : List (NestedKey × Addr × V), Vals (es.map fun p => V.ref p.2.1) (es.map fun p => Value.ref p.2.1)
  | [] => .nil
  | _ :: es => .cons rfl (vals_refs es)
theorem cr_srtX (hc : X.calm = true) : CallR X (.builtin "sorted") (rSrtX X.prog X.w X.K) := by
  intro pins s σ H vs us Q I r h
  obtain ⟨x, O, kvs, es, ps, rfl, hd, he, hk, hb, h64, q⟩ := h
  rw [Vals.ref1 r]
  have al := des_keys he
  rw [hk] at al
  refine sorted_prs_of I (col_dct hc I hd he) (vals_refs es) (by rw [al.length, List.length_map]; exact h64) (fun y hy => ?_) fun zs p pm pw hp => q zs p (prs_sorted I al hb pm pw) hp
  obtain ⟨d, hd, ay⟩ := atL_mem al y hy
  obtain ⟨p, hp, rfl⟩ := List.mem_map.mp hd
  exact ⟨_, pr_tupI ay, rfl, bd_TS (hb p hp)⟩
def dsrtE (i : Nat) : DE := fun ρ => match ρ[i]? with
  | some (some (.dict kvs)) => (match prsO (kvs.map (·.1)) with
    | some ps => if ps.length < 64 then .ok (.list ((srtP ps).map prD)) else .stuck
    | none => .stuck)
  | _ => .stuck
theorem d_dsrt (C : Ctx X G L bl) {i : Nat} {x : Str} {p px pos : Pos} (hg : Gl X "sorted") (hm : ("sorted" : Str) ∈ bl) (hN : X.N[i]? = some x) (hv : Vis X.env.scope x) (hd : (x == ("__debug__" : Str)) = false) (hcd : (x == ("__classdict__" : Str)) = false) (hw : G.own i = true) (hdt : G.dct i = true) :
    PE X (.Call (.Name "sorted" p) [.Name x px] [] pos) (tS G (dsrtE i)) := by
  refine pe_imp (pe_callB (cr_srtX C.calm) hg (C.blt _ hm) (by decide +kernel) (pa_cons (pe_dv (G := G) hN hv hd hcd) pa_nil rfl) (by decide +kernel) (by decide +kernel) rfl rfl) fun σ H Q kf w => ?_
  obtain ⟨O, ρ, R, q⟩ := w (C.kf kf)
  unfold dsrtE at q
  split at q
  · rename_i kvs e
    split at q
    · rename_i ps hb
      split at q
      · rename_i hz
        obtain ⟨a, es, e1, e2, e3, e4, e5⟩ := dct_slot R hw hdt e
        obtain ⟨b1, b2⟩ := prsO_eq hb
        refine ⟨a, e1, a, O, kvs, es, ps, rfl, ?_, C.K ▸ e3, b1, b2, hz, fun zs p' az hp k' => ?_⟩
        · rw [C.P, C.w]; exact e2
        · rw [C.K] at az
          exact q _ _ (same_upd hp) (C.kf k') (new_list R.trk hp az)
      · exact q.elim
    · exact q.elim
  · exact q.elim
end
end Den
namespace Den
open PySem PySem.Spec PyProof.Rows L2 SeqAt
section
variable {X : Cx} {pins : List (Addr × Obj)} {σ : L2.St} {H : Hp} {s : Shared}
theorem items_ints {A : Around} {us : List Value} {ns : List Int} (h : IntsAre us ns) (k : Int) (t : Tok) : ItemsEq A s us ns (.int k t) k := by
  refine ⟨h.length, fun j h1 h2 => ?_⟩
  have key : ∀ {us : List Value} {ns : List Int}, IntsAre us ns → ∀ j (h1 : j < us.length) (h2 : j < ns.length), ∃ t, us[j] = .int ns[j] t := by
    intro us ns h
    induction h with
    | nil => intro j h1; simp at h1
    | cons n t _ ih =>
      intro j h1 h2
      cases j with
      | zero => exact ⟨t, rfl⟩
      | succ j => exact ih j (by simpa using h1) (by simpa using h2)
  obtain ⟨t', e⟩ := key h j h1 h2
  rw [e]
  have := EqAt.int_int (A := A) (s := s) ns[j] t' k t
  have e2 : (ns[j] == k) = decide (ns[j] = k) := by
    by_cases z : ns[j] = k <;> simp [z]
  rw [e2] at this
  exact this
def rIdx (K : W.Frag) (b : Bool) : V → Hp → V → VK → Prop := fun x H y Q => ∃ (a : Addr) (ns : List Int) (k : Int), x = .ref a ∧ (if b = true then SqN K H a (ns.map V.int) else SqL K H a (ns.map V.int)) ∧ y = .int k ∧ k ∈ ns ∧ Q (.int (ns.idxOf k : Nat)) H
theorem pe_idx {o e : Expr} {to te : TE} {apos cpos : Pos} {b : Bool} (ho : PE X o to) (ha : PE X e te) (hbase : attributeBase o "index" X.env (eval o X.env) = eval o X.env)
    (hst : starEach (e :: []) X.env = (false, eval e X.env) :: starEach [] X.env) (hline : (apos.endLine == cpos.line) = true) :
    PE X (.Call (.Attribute o "index" apos) [e] [] cpos) (fun σ H Q => to σ H fun x H1 => (∃ a, ∃ vs : List V, x = V.ref a ∧ (if b = true then SqN X.K H1 a vs else SqL X.K H1 a vs)) ∧ te σ H1 fun y H2 => rIdx X.K b x H2 y Q) := by
  refine ⟨fun pins s σ H Q I h => ?_⟩
  refine wpAny_Call_method_late hbase (by rw [hst]; rfl) hline rfl (thn (ho.run pins s σ H _ I h) fun v s1 ⟨x, H1, I1, r1, ⟨a, vs, ex, sq⟩, q1⟩ => ?_)
  subst ex
  cases r1
  have fin : ∀ (us : List Value) (s2 : Shared), (∃ vs H2, L2.Inv X pins σ H2 s2 ∧ Vals vs us ∧ ∃ y, vs = [y] ∧ rIdx X.K b (.ref a) H2 y Q) →
      wpAny (model X.prog X.w) X.A (call (.builtin (if b = true then "tuple.index" else "list.index")) (Value.ref a :: us)) (EP X pins σ Q) X.xe s2 := by
    rintro us s2 ⟨vs', H2, I2, r2, y, rfl, a', ns, k, ea, sq2, rfl, hk, q⟩
    cases ea
    obtain ⟨u, rfl, t, rfl⟩ := vals1 r2
    cases b with
    | true =>
      obtain ⟨its, rv, ⟨o', e1, e2, n, e3⟩, hz⟩ := I2.tuple (SqN.q sq2)
      exact call_tuple_index (show s2.heap.IsTuple a its.toArray from ⟨o', e1, e2, n, e3⟩) (items_ints rv.ints k t) hk ⟨.int (ns.idxOf k : Nat), H2, I2.tok _, ⟨_, rfl⟩, q⟩
    | false =>
      obtain ⟨its, rv, pl, hz⟩ := I2.list sq2
      exact call_list_index pl.isList (items_ints rv.ints k t) (by rw [List.length_map] at hz; exact hz) hk ⟨.int (ns.idxOf k : Nat), H2, I2.tok _, ⟨_, rfl⟩, q⟩
  have hA := (pa_cons ha pa_nil hst).run cpos pins s1 σ H1 (fun vs H2 => ∃ y, vs = [y] ∧ rIdx X.K b (.ref a) H2 y Q) I1 (by
    show te σ H1 fun y H2 => ∃ z, [y] = [z] ∧ rIdx X.K b (.ref a) H2 z Q
    have e : (fun (y : V) (H2 : Hp) => ∃ z, [y] = [z] ∧ rIdx X.K b (.ref a) H2 z Q) = fun y H2 => rIdx X.K b (.ref a) H2 y Q := by
      funext y H2
      simp only [List.cons.injEq, and_true]
      exact propext ⟨fun ⟨z, e, h⟩ => e ▸ h, fun h => ⟨y, rfl, h⟩⟩
    rw [e]; exact q1)
  rw [hst] at hA ⊢
  cases b with
  | true =>
    obtain ⟨its, rv, ⟨o', e1, e2, n, e3⟩, hz⟩ := I1.tuple (SqN.q sq)
    refine ⟨"tuple", "tuple.index", PySem.F.plainAttrs_tuple, PySem.F.slot_tuple_index, PySem.F.type_tuple_index, ⟨o', e1, e2⟩, fun p e => ?_, ?_⟩
    · cases e
      rcases (SqN.n sq) with ⟨ob, u, eb, hd⟩ | ⟨ob, eb, hd⟩
      · obtain ⟨g, _⟩ := I1.hok a _ eb
        exact ⟨ob, g, hd⟩
      · exact ⟨ob, I1.kIn a ob eb, hd⟩
    · exact Calls.callWith_builtin rfl (Calls.evalArgs_plain (thn hA fun us s2 ⟨vs', H2, I2, r2, q2⟩ => fin us s2 ⟨vs', H2, I2, r2, q2⟩))
  | false =>
    obtain ⟨its, rv, pl, hz⟩ := I1.list sq
    refine ⟨"list", "list.index", PySem.F.plainAttrs_list, PySem.F.slot_list_index, PySem.F.type_list_index, pl.isList.typeIs, fun p e => ?_, ?_⟩
    · cases e
      obtain ⟨ob, n, e1, _, e2, _⟩ := pl
      exact ⟨ob, e1, e2⟩
    · exact Calls.callWith_builtin rfl (Calls.evalArgs_plain (thn hA fun us s2 ⟨vs', H2, I2, r2, q2⟩ => fin us s2 ⟨vs', H2, I2, r2, q2⟩))
end
def idxD (b : Bool) : D → D → Rs D
  | .list ds, .int k => if b = true then .stuck else (match intsO ds with | some ns => if k ∈ ns then .ok (.int (ns.idxOf k : Nat)) else .stuck | none => .stuck)
  | .tuple ds, .int k => if b = true then (match intsO ds with | some ns => if k ∈ ns then .ok (.int (ns.idxOf k : Nat)) else .stuck | none => .stuck) else .stuck
  | _, _ => .stuck
def idxE (b : Bool) (f g : DE) : DE := fun ρ => do
  let x ← f ρ
  match x with
  | .list ds => if b = true then .stuck else do let y ← g ρ; idxD b (.list ds) y
  | .tuple ds => if b = true then do let y ← g ρ; idxD b (.tuple ds) y else .stuck
  | _ => .stuck
section
variable {X : Cx} {G : Gc} {L : Nat} {bl : List Str} {a e : Expr} {f g : DE}
theorem d_idx (C : Ctx X G L bl) {b : Bool} {apos cpos : Pos} (ha : PE X a (tW G f)) (he : PE X e (tW G g)) (hbase : attributeBase a "index" X.env (eval a X.env) = eval a X.env)
    (hst : starEach (e :: []) X.env = (false, eval e X.env) :: starEach [] X.env) (hline : (apos.endLine == cpos.line) = true) : PE X (.Call (.Attribute a "index" apos) [e] [] cpos) (tS G (idxE b f g)) := by
  refine pe_imp (pe_idx (b := b) ha he hbase hst hline) fun σ H Q kf w => fun k0 => ?_
  obtain ⟨O, ρ, R, q⟩ := w k0
  refine ⟨O, ρ, R, q.bind.imp fun d _ q x H1 s1 k1 ax => ?_⟩
  rw [C.K]
  cases d with
  | list ds =>
    cases b with
    | true => exact q.elim
    | false =>
      obtain ⟨p, vs, rfl, h1, h2⟩ := ax
      have q1 : Post G H (g ρ >>= fun y => idxD false (.list ds) y) _ := q
      refine ⟨⟨p, vs, rfl, h1⟩, fun k1' => ⟨O, ρ, R.same s1, q1.bind.imp fun dy _ q y H2 s2 k2 ay => ?_⟩⟩
      cases dy with
      | int k =>
        cases ay
        have q2 : Post G H (match intsO ds with | some ns => if k ∈ ns then Rs.ok (PyData.int (ns.idxOf k : Nat)) else .stuck | none => .stuck) _ := q
        split at q2
        · rename_i ns hn
          split at q2
          · rename_i hk
            rw [ints_eq hn] at h2
            rw [atL_ints h2] at h1
            exact ⟨p, ns, k, rfl, s2.seq h1, rfl, hk, fun _ => q2 _ H2 (s1.trans s2) k2 rfl⟩
          · exact q2.elim
        · exact q2.elim
      | _ => exact q.elim
  | tuple ds =>
    cases b with
    | false => exact q.elim
    | true =>
      obtain ⟨p, vs, rfl, h1, n1, h2⟩ := ax
      have q1 : Post G H (g ρ >>= fun y => idxD true (.tuple ds) y) _ := q
      refine ⟨⟨p, vs, rfl, h1⟩, fun k1' => ⟨O, ρ, R.same s1, q1.bind.imp fun dy _ q y H2 s2 k2 ay => ?_⟩⟩
      cases dy with
      | int k =>
        cases ay
        have q2 : Post G H (match intsO ds with | some ns => if k ∈ ns then Rs.ok (PyData.int (ns.idxOf k : Nat)) else .stuck | none => .stuck) _ := q
        split at q2
        · rename_i ns hn
          split at q2
          · rename_i hk
            rw [ints_eq hn] at h2
            rw [atL_ints h2] at h1
            exact ⟨p, ns, k, rfl, sqN_kp (.of_same s2) n1 h1, rfl, hk, fun _ => q2 _ H2 (s1.trans s2) k2 rfl⟩
          · exact q2.elim
        · exact q2.elim
      | _ => exact q.elim
  | _ => exact q.elim
def ltD : D → D → Rs D
  | .int i, .int j => .ok (.bool (decide (i < j)))
  | .tuple a, .tuple b => (match intsO a, intsO b with | some ns, some ms => .ok (.bool (HT.lexLt ns ms)) | _, _ => .stuck)
  | _, _ => .stuck
def rLtD (K : W.Frag) : R2 := fun x y H Q => (rI0 fun i j => .bl (decide (i < j))) x y H Q ∨ rLtT K x y H Q
theorem op_ltD (hu : X.A.units < cLine) : OpR X (compareOp .Lt) (rLtD X.K) := op_lt.or (op_ltT hu)
theorem says_lt : Says G (rLtD G.K) ltD := by
  intro O H x y dx dy Q k t ax ay p
  unfold ltD at p
  split at p
  · cases ax; cases ay
    exact .inl ⟨_, _, rfl, rfl, post_sc k p rfl⟩
  · split at p
    · rename_i ns ms h1 h2
      obtain ⟨a, vs, rfl, q1, _, l1⟩ := ax
      obtain ⟨b, us, rfl, q2, _, l2⟩ := ay
      rw [ints_eq h1] at l1
      rw [ints_eq h2] at l2
      rw [atL_ints l1] at q1
      rw [atL_ints l2] at q2
      exact .inr ⟨a, b, ns, ms, rfl, rfl, q1.q, q2.q, post_sc k p rfl⟩
    · exact p.elim
  · exact p.elim
def shlD : D → D → Rs D
  | .int i, .int j => if 0 ≤ j ∧ j ≤ 64 ∧ i.natAbs < 2 ^ 64 then .ok (.int (i * 2 ^ j.toNat)) else .stuck
  | _, _ => .stuck
theorem says_shl : Says G (rI CPow fun i j => .int (i * 2 ^ j.toNat)) shlD := by
  intro O H x y dx dy Q k t ax ay p
  unfold shlD at p
  split at p
  · cases ax; cases ay
    split at p
    · rename_i hc
      exact ⟨_, _, rfl, rfl, ⟨hc.1, by omega, hc.2.2⟩, post_sc k p rfl⟩
    · exact p.elim
  · exact p.elim
end
end Den
namespace Den
open PySem PySem.Spec PyProof.Rows L2
theorem once_tuple (q : Addr) (xs : Array Value) (m : Nat) (od : Option Addr) (ss : Array (Option Value)) (u : Tok) (hx : xs.isEmpty = false) :
    Meets (Builtin.«tuple.__mul__» ⟨[.ref q, .int 1 u], []⟩) (fun _ R z => z.heap.get? q = some { cls := .type "tuple", dict := od, data := .seq xs m, slots := ss } ∧ R (.ok (.ret (Value.ref q))) z) :=
  .of_wp fun prog w A R z g => by
    obtain ⟨hp, gg, d, tk, os⟩ := z
    obtain ⟨hl, k⟩ := g
    have f1 := AutoSeq1.idx_int
    wp_walk using wpAny_loadPart' hl
    exact ⟨_, rfl, k⟩
def rRepF (K : W.Frag) : R2 := fun x y H Q => ∃ a j xs, x = .ref a ∧ y = .int j ∧ SqT K H a xs ∧ 0 < xs.length ∧ xs.length ≤ 1000 ∧ 1 ≤ j ∧ j ≤ 1000 ∧ (j = 1 → Q (.ref a) H) ∧ (2 ≤ j → NewT H (List.replicate j.toNat xs).flatten Q)
theorem rep_bound {xs : List V} {j : Int} (h1 : xs.length ≤ 1000) (h2 : j ≤ 1000) : ((List.replicate j.toNat xs).flatten).length ≤ 1000000 := by
  rw [lm_len_rep_flat]
  have := Nat.mul_le_mul (show j.toNat ≤ 1000 by omega) h1
  omega
theorem op_repF : OpR X (binaryOp .Mult) (rRepF X.K) := by
  intro pins s σ H x y v u Q I rx ry h
  obtain ⟨a, j, xs, rfl, rfl, sq, pos, most, j1, j2, q1, q2⟩ := h
  cases rx
  obtain ⟨tk, rfl⟩ := ry
  obtain ⟨us, r, ⟨⟨cls, od, dat, ss⟩, at_, ec, m, ed⟩, _⟩ := I.tuple sq
  dsimp only at ec ed
  subst ec ed
  have el : us.length = xs.length := r.length.symm
  have full : us.toArray.isEmpty = false := by
    cases us with
    | nil => rw [← el] at pos; exact absurd pos (Nat.lt_irrefl 0)
    | cons _ _ => rfl
  have out : ∀ {W : Value → Shared → Prop} {E : Value → Shared → Prop}, wpAny (model X.prog X.w) X.A (call (.builtin "tuple.__mul__") [.ref a, .int j tk]) W E s → wpAny (model X.prog X.w) X.A (binaryOp .Mult (.ref a) (.int j tk)) W E s := fun c =>
    wpAny_binaryOp_repeat_ref (T := "tuple") (U := "int") (by decide) ⟨_, at_, rfl⟩ (fun z => typeIs_int z j tk) noFill_tuple_mul F.fills_int_mul F.slot_int_rmul repeat_tuple F.slot_int_index.lookup
      (call_meets F.slot_int_rmul (typeIs_int s j tk) F.entry_int_rmul (F.args_int_rmul_2 _ _) (int_rmul_tuple j tk a us.toArray m od ss) ⟨at_, rfl, ⟨_, at_, rfl⟩, c⟩)
  by_cases one : j = 1
  · subst one
    exact out (call_meets F.slot_tuple_mul ⟨_, at_, rfl⟩ F.entry_tuple_mul (F.args_tuple_mul_2 _ _) (once_tuple a us.toArray m od ss tk full) ⟨at_, ⟨.ref a, H, I, rfl, q1 rfl⟩⟩)
  · have two : 2 ≤ j := by omega
    have big1 : ((us.toArray.size : Nat) : Int) * j ≤ 1000000 := by
      have e : us.toArray.size = xs.length := by rw [List.size_toArray, el]
      rw [e]
      have := Int.mul_le_mul_of_nonneg_right (show ((xs.length : Nat) : Int) ≤ 1000 by omega) (show 0 ≤ j by omega)
      omega
    have len2 : ((List.replicate j.toNat us).flatten).length ≤ 1000000 := by
      rw [lm_len_rep_flat, el]
      have := Nat.mul_le_mul (show j.toNat ≤ 1000 by omega) most
      omega
    have few : Builtin.Tuple.tupleTooMany (((us.toArray.size : Nat) : Int) * j) = false := by
      show decide _ = false
      rw [sizeLine_eq]
      exact decide_eq_false (by omega)
    refine out (call_meets F.slot_tuple_mul ⟨_, at_, rfl⟩ F.entry_tuple_mul (F.args_tuple_mul_2 _ _) (tuple_mulW a us.toArray m od ss j tk ?_ ?_ ?_ (by omega) few (by rw [size_rep, List.size_toArray, sizeLine_eq]; omega)) ⟨at_, ?_⟩)
    · rw [Bool.or_eq_false_iff]
      exact ⟨decide_eq_false (by omega), decide_eq_false (by omega)⟩
    · rw [full, Bool.false_or, beq_eq_false_iff_ne]
      exact one
    · rw [full, Bool.or_false]
      exact decide_eq_false (by omega)
    · rw [size_rep]
      exact ⟨.ref s.heap.objs.size, _, fz_laid I (by rw [sizeLine_eq]; exact Nat.le_trans (rep_bound most j2) (by omega)) (r.rep j.toNat), rfl, q2 two _ _ (I.hok.fresh (Nat.le_refl _)) rfl⟩
def mulA : D → D → Rs D
  | .int i, .int j => mulD (.int i) (.int j)
  | .tuple ds, .int j => if (0 < ds.length ∧ ds.length ≤ 1000) ∧ 1 ≤ j ∧ j ≤ 1000 then .ok (.tuple (List.replicate j.toNat ds).flatten) else .stuck
  | _, _ => .stuck
def rMulA (K : W.Frag) : R2 := fun x y H Q => (rI CMul fun i j => .int (i * j)) x y H Q ∨ rRepF K x y H Q
theorem op_mulA : OpR X (binaryOp .Mult) (rMulA X.K) := op_mul.or op_repF
theorem says_mulA : Says G (rMulA G.K) mulA := by
  intro O H x y dx dy Q k t ax ay p
  unfold mulA at p
  split at p
  · exact .inl (says_mul O H x y _ _ Q k t ax ay p)
  · obtain ⟨a, vs, rfl, h1, n1, h2⟩ := ax
    cases ay
    split at p
    · rename_i ds j hc
      have el := h2.length
      refine .inr ⟨a, j, vs, rfl, rfl, h1.q, by omega, by omega, hc.2.1, hc.2.2, fun e k' => ?_, fun _ q o hq hd k' => ?_⟩
      · subst e
        have e2 : (List.replicate (1 : Int).toNat ds).flatten = ds := by
          show (List.replicate 1 ds).flatten = ds
          simp
        rw [e2] at p
        exact p _ _ (Same.refl _) k' ⟨a, vs, rfl, h1, n1, h2⟩
      · exact p _ _ (same_upd hq) k' (new_tup t hq hd (atL_rep h2 _))
    · exact p.elim
  · exact p.elim
end Den
namespace Den
open PySem PySem.Spec PyProof.Rows L2
theorem back_span (m : Nat) : Builtin.Slice.slicePlaces ((m : Int) - 1) (-1) (-1) = m := by
  unfold Builtin.Slice.slicePlaces
  have z : ¬ ((-1 : Int) > 0) := by omega
  rw [if_neg z]
  by_cases g : (m : Int) - 1 > -1
  · rw [if_pos g]
    have e : ((m : Int) - 1 - -1 - 1) / (- -1) + 1 = (m : Int) := by
      rw [show (- -1 : Int) = 1 by decide, Int.ediv_one]
      omega
    rw [e]; omega
  · rw [if_neg g]; omega
theorem fm_congr {α β : Type} {f g : α → Option β} : ∀ {l : List α}, (∀ a ∈ l, f a = g a) → l.filterMap f = l.filterMap g
  | [], _ => rfl
  | a :: l, h => by
    rw [List.filterMap_cons, List.filterMap_cons, h a List.mem_cons_self, fm_congr fun b hb => h b (List.mem_cons_of_mem _ hb)]
theorem back_pick (xs : Array Value) : ((List.range xs.size).filterMap fun (k : Nat) => xs[(((xs.size : Nat) : Int) - 1 + (k : Int) * -1).toNat]?).toArray = xs.toList.reverse.toArray := by
  congr 1
  have e : (List.range xs.size).filterMap (fun (k : Nat) => xs[(((xs.size : Nat) : Int) - 1 + (k : Int) * -1).toNat]?) = ((List.range xs.size).map fun k => xs.size - 1 - k).filterMap (xs[·]?) := by
    rw [List.filterMap_map]
    refine fm_congr fun k hk => ?_
    have := List.mem_range.mp hk
    show _ = xs[xs.size - 1 - k]?
    congr 1
    omega
  rw [e, PySem.W.krv_range, List.filterMap_reverse, PySem.W.krv_all]
section
variable {prog : Program} {w : World} {A : Around} {E : Value → Shared → Prop} {s : Shared}
theorem back_fields {q : Addr} {a b c : Value} {m : Nat} {Q : Int × Int × Nat → Shared → Prop} (g : s.heap.IsSliceOf q a b c) (pa : IsPart a none) (pb : IsPart b none) (pc : IsPart c (some (-1)))
    (h : Q ((m : Int) - 1, -1, m) s) : wpAny (model prog w) A (Builtin.Slice.sliceApplied (.ref q) (pure (m : Int))) Q E s := by
  obtain ⟨ob, h1, h2, h3⟩ := id g
  unfold Builtin.Slice.sliceApplied Builtin.Slice.sliceFields
  refine wpAny_bind (wpAny_bind (wpAny_field h1 h3 (x := a) rfl (wpAny_bind (wpAny_field h1 h3 (x := b) rfl (wpAny_bind (wpAny_field h1 h3 (x := c) rfl (wpAny_pure ?_)))))))
  refine wpAny_bind (HT.slicePart_ pc ?_)
  show wpAny _ _ (if ((-1 : Int) == 0) = true then _ else _) _ _ s
  rw [if_neg (by decide)]
  refine wpAny_bind (HT.slicePart_ pa (wpAny_bind (HT.slicePart_ pb (wpAny_bind (wpAny_pure ?_)))))
  show wpAny _ _ (pure (((m : Int) - 1), (-1 : Int), Builtin.Slice.slicePlaces ((m : Int) - 1) (-1) (-1))) _ _ s
  rw [back_span]
  exact wpAny_pure h
theorem getItem_tuple_back {p q : Addr} {xs : Array Value} {a b c : Value} {Q : Value → Shared → Prop} (tu : IsTup s.heap p xs) (g : s.heap.IsSliceOf q a b c) (pa : IsPart a none) (pb : IsPart b none) (pc : IsPart c (some (-1)))
    (h : Q (.ref s.heap.objs.size) { s with heap := s.heap.push { cls := .type "tuple", data := .seq xs.toList.reverse.toArray } }) (few : xs.size ≤ sizeLine) : wpAny (model prog w) A (getItem (.ref p) (.ref q)) Q E s := by
  have fits : sizeOk (.seq xs.toList.reverse.toArray) := by
    show xs.toList.reverse.toArray.size ≤ sizeLine
    rw [List.size_toArray, List.length_reverse, Array.length_toList]
    exact few
  obtain ⟨ob, h1, h2, _⟩ := id g
  have isS : s.TypeIs (.ref q) "slice" := ⟨ob, h1, h2⟩
  unfold getItem
  try with_reducible refine wpAny_holding ?_
  first | refine wpAny_bind (wpAny_pure ?_) | skip
  refine wpAny_bind (wpAny_sequenceKey tu.typeIs (by decide) ?_)
  refine wpAny_bind (wpAny_callSpecial?_slot (name := Str.ofString "__getitem__") tu.typeIs PyProof.Rows.slot_tuple_getitem (wpAny_call_entry PyProof.Rows.slot_tuple_getitem tu.typeIs entry_tuple_getitem ?_ (args_tuple_getitem _ _)))
  show wpAny _ _ (Builtin.Tuple.tupleItemsOf (.ref p) >>= _) _ _ s
  refine wpAny_bind (tupleItemsOf_ tu ?_)
  refine wpAny_bind (wpAny_typeOf isS ?_)
  rw [if_pos (by decide)]
  refine wpAny_bind (back_fields g pa pb pc ?_)
  have no : ¬ ((((xs.size : Nat) : Int) - 1 == 0 && (-1 : Int) == 1 && xs.size == xs.size) = true) := by
    intro z
    rw [Bool.and_eq_true, Bool.and_eq_true] at z
    exact absurd z.1.2 (by decide)
  show wpAny _ _ (if (((xs.size : Nat) : Int) - 1 == 0 && (-1 : Int) == 1 && xs.size == xs.size) = true then _ else _) _ _ s
  rw [if_neg no, back_pick]
  first
    | exact wpAny_bind (m := Builtin.Tuple.tupleExact _) (wpAny_newObj_type (wpAny_pure ⟨_, rfl, wpAny_pure h⟩) fits)
    | exact wpAny_bind (m := Builtin.Tuple.tupleExact _) (wpAny_newObj_type (wpAny_bind (wpAny_pure (wpAny_pure ⟨_, rfl, wpAny_pure h⟩))) fits)
    | exact wpAny_bind (wpAny_bind (m := Builtin.Tuple.tupleExact _) (wpAny_newObj_type (wpAny_pure (wpAny_pure ⟨_, rfl, wpAny_pure h⟩)) fits))
    | exact wpAny_bind (wpAny_bind (m := Builtin.Tuple.tupleExact _) (wpAny_newObj_type (wpAny_pure ⟨_, rfl, wpAny_pure h⟩) fits))
end
section
variable {X : Cx}
def tRevT (K : W.Frag) (te : TE) : TE := fun σ H Q => te σ H fun x H1 => ∃ a xs, x = .ref a ∧ SqT K H1 a xs ∧ NewT H1 xs.reverse Q
theorem pe_revT {e : Expr} {te : TE} {k : Nat} {p1 p2 p3 pos : Pos} (he : PE X e te) : PE X (.Subscript e (.Slice none none (some (.UnaryOp .USub (.Constant (.int 1) k p1) p2)) p3) pos) (tRevT X.K te) := by
  refine ⟨fun pins s σ H Q I g => ?_⟩
  refine Subscript_ (thn (he.run pins s σ H _ I g) fun v s1 ⟨x, H1, I1, r1, a, xs, ex, sq, q⟩ => ?_)
  subst ex
  cases r1
  refine wpAny_Slice (thn (po_none.run pins s1 σ H1 (fun o H2 => o = none ∧ H2 = H1) I1 ⟨rfl, rfl⟩) fun u1 s2 ⟨l, H2, I2, pl, el, e2⟩ => ?_)
  subst el e2
  refine thn (po_none.run pins s2 σ H2 (fun o H3 => o = none ∧ H3 = H2) I2 ⟨rfl, rfl⟩) fun u2 s3 ⟨u, H3, I3, pu, eu, e3⟩ => ?_
  subst eu e3
  have minus : PO X (some (.UnaryOp .USub (.Constant (.int 1) k p1) p2)) (tPart (tUn (rU fun i => .int (-i)) (tC (.int 1)))) := po_some (pe_un un_neg pe_int)
  refine thn (minus.run pins s3 σ H3 (fun o H4 => o = some (-1) ∧ H4 = H3) I3 ⟨1, rfl, -1, rfl, rfl, rfl⟩) fun u3 s4 ⟨o, H4, I4, ps, eo, e4⟩ => ?_
  subst eo e4
  have I5 : Inv X pins σ H4 { s4 with heap := s4.heap.push { cls := .type "slice", data := .fields #[u1, u2, u3] } } := I4.kept (t' := s4.toks) fun b ob z => Heap.get?_push_of_some _ z
  obtain ⟨us, r, tu, few⟩ := I5.tuple sq
  show wpAny (model X.prog X.w) X.A (subscriptTail e (.Slice none none (some (.UnaryOp .USub (.Constant (.int 1) k p1) p2)) p3) (.ref a) (.ref s4.heap.objs.size)) (EP X pins σ Q) X.xe { s4 with heap := s4.heap.push { cls := .type "slice", data := .fields #[u1, u2, u3] } }
  refine tail_any (ops := [.ref a, .ref s4.heap.objs.size]) tu.typeIs (PyProof.Rows.slot_tuple_getitem.lookup) ?_ (by with_unfolding_all rfl)
  have el : us.length = xs.length := r.length.symm
  refine getItem_tuple_back tu (Heap.IsSliceOf.new _ u1 u2 u3) pl pu ps ?_ (by rw [List.size_toArray, el]; exact few)
  exact ⟨.ref _, _, fz_laid I5 (by rw [List.length_reverse]; exact few) r.reverse, rfl, q _ _ (I5.hok.fresh (Nat.le_refl _)) rfl⟩
end
def revD : D → Rs D
  | .tuple ds => .ok (.tuple ds.reverse)
  | _ => .stuck
theorem AtL.rev {K : W.Frag} {H : Hp} {O : Addr → Prop} : ∀ {ds : List D} {vs : List V}, AtL K H O ds vs → AtL K H O ds.reverse vs.reverse
  | [], _, h => by
    have : _ = [] := h
    subst this
    exact rfl
  | d :: ds, vs, h => by
    obtain ⟨v, r, rfl, h1, h2⟩ := h
    rw [List.reverse_cons, List.reverse_cons]
    exact (AtL.rev h2).append ⟨v, [], rfl, h1, rfl⟩
section
variable {X : Cx} {G : Gc} {L : Nat} {bl : List Str} {a : Expr} {f : DE}
theorem d_rev (C : Ctx X G L bl) {k : Nat} {p1 p2 p3 pos : Pos} (ha : PE X a (tW G f)) : PE X (.Subscript a (.Slice none none (some (.UnaryOp .USub (.Constant (.int 1) k p1) p2)) p3) pos) (tS G fun ρ => do let x ← f ρ; revD x) := by
  refine pe_imp (pe_revT ha) fun σ H Q kf w => fun k0 => ?_
  obtain ⟨O, ρ, R, q⟩ := w k0
  refine ⟨O, ρ, R, q.bind.imp fun d _ q x H1 s1 k1 ax => ?_⟩
  cases d with
  | tuple ds =>
    obtain ⟨b, vs, rfl, h1, n1, h2⟩ := ax
    rw [C.K]
    refine ⟨b, vs, rfl, h1.q, fun p o hp ho k' => ?_⟩
    exact q _ _ (s1.trans (same_upd hp)) k' (new_tup (R.same s1).trk hp ho h2.rev)
  | _ => exact q.elim
end
end Den
namespace Den
open PySem PySem.Spec PyProof.Rows L2
abbrev ZN (h : Heap) (z TI TO : Addr) (f : Value) (g : Bool) : Prop :=
  h.get? z = some { cls := .type "zip", dict := none, data := .fields #[f, .bool g, .bool false, .ref TI, .ref TO], slots := #[] }
def ZF (f : Value) : Prop := f = .none ∨ ∃ T : Addr, f = rawInt (T : Int)
section
variable {prog : Program} {w : World} {A : Around} {E : Value → Shared → Prop} {s : Shared} {z TI TO i1 i2 l1 l2 : Addr} {k1 k2 : Nat} {xs ys : Array Value} {x y a b f : Value} {g : Bool}
theorem alive_any {T : Addr} {Q : Option Obj → Shared → Prop} (h : Q (s.heap.get? T) s) : wpAny (model prog w) A (loadIfAlive T) Q E s := fun _ _ _ => h
theorem zn_free {Q : Bool → Shared → Prop} (hf : ZF f) (hz : ZN s.heap z TI TO f g) (hQ : Q true s) (hR : ∀ h', ZN h' z TI TO f true → Heap.SameBut z s.heap h' → Q false { s with heap := h' }) :
    wpAny (model prog w) A (Builtin.SmallTypes.ownedTupleIsFree (.ref z)) Q E s := by
  unfold Builtin.SmallTypes.ownedTupleIsFree
  rcases hf with rfl | ⟨T, rfl⟩
  · exact wpAny_bind (wpAny_field hz rfl (x := .none) rfl (wpAny_pure hQ))
  · refine wpAny_bind (wpAny_field hz rfl (x := rawInt (T : Int)) rfl ?_)
    show wpAny _ _ (loadIfAlive ((T : Int).toNat) >>= _) _ _ _
    rw [Int.toNat_natCast]
    refine wpAny_bind (alive_any ?_)
    cases hT : s.heap.get? T with
    | none =>
      simp only [Option.isNone_none, if_true]
      exact wpAny_pure hQ
    | some oT =>
      simp only [Option.isNone_some, Bool.false_eq_true, if_false]
      refine wpAny_bind (wpAny_field hz rfl (x := .bool g) rfl ?_)
      cases g with
      | true =>
        rw [if_neg (by decide)]
        exact wpAny_pure (hR s.heap hz (Heap.SameBut.refl _ _))
      | false =>
        rw [if_pos (by decide)]
        exact wpAny_bind (wpAny_setField_rec hz (by simp) fun h₁ a1 a2 => wpAny_pure (hR h₁ a1 a2))
theorem zn_item {Q : Value → Shared → Prop} (D : ZipApart z TI TO i1 i2 l1 l2) (hf : ZF f) (hz : ZN s.heap z TI TO f g) (hTI : IsPair s.heap TI (.ref i1) (.ref i2)) (hTO : IsPair s.heap TO a b)
    (h1 : s.heap.IsTupleIter i1 l1 k1) (h2 : s.heap.IsTupleIter i2 l2 k2) (hl1 : s.heap.IsTuple l1 xs) (hl2 : s.heap.IsTuple l2 ys) (hx : xs[k1]? = some x) (hy : ys[k2]? = some y)
    (hQ : ∀ h' f' g' a' b', ZF f' → ZN h' z TI TO f' g' → IsPair h' TO a' b' → h'.IsTupleIter i1 l1 (k1 + 1) → h'.IsTupleIter i2 l2 (k2 + 1) → IsPair h' s.heap.objs.size x y →
      (∀ c o, c ≠ z → c ≠ TO → c ≠ i1 → c ≠ i2 → s.heap.get? c = some o → h'.get? c = some o) → Q (.ref s.heap.objs.size) { s with heap := h' }) :
    wpAny (model prog w) A (Builtin.«zip.__next__» ⟨[.ref z], []⟩) (fun fin s' => ∃ v, fin = .done (.ret v) ∧ Q v s') E s := by
  show wpAny _ _ (field (.ref z) 2 >>= _) _ _ _
  refine wpAny_bind (wpAny_field hz rfl (x := .bool false) rfl ?_)
  show wpAny _ _ (field (.ref z) 3 >>= _) _ _ _
  refine wpAny_bind (wpAny_field hz rfl (x := .ref TI) rfl ?_)
  refine wpAny_bind (wpAny_seqItems hTI rfl ?_)
  show wpAny _ _ (Builtin.SmallTypes.ownedTupleIsFree (.ref z) >>= _) _ _ _
  refine wpAny_bind (zn_free hf hz ?_ fun g1 z1 u1 => ?_)
  ·
    simp only [if_true]
    refine wpAny_bind (wpAny_rule ?_)
    refine wpAny_bind (wpAny_field hz rfl (x := .ref TO) rfl ?_)
    refine wpAny_bind (wpAny_setField_rec hz (by simp) fun g1 z1 u1 => ?_)
    replace z1 : ZN g1 z TI TO .ellipsis g := z1
    refine wpAny_bind ?_
    simp only [List.zipIdx_cons, List.zipIdx_nil, List.forIn_cons, List.forIn_nil]
    refine wpAny_bind (wpAny_bind (wpAny_onRaise ?_))
    show wpAny _ _ (Builtin.SmallTypes.nextOf (.ref i1) >>= _) _ _ _
    refine wpAny_bind (RZ.nextOf_tuple_item (h1.extBut u1.extBut D.i1z) (hl1.extBut u1.extBut D.l1z) hx fun g2 n1 u2 => wpAny_pure ?_)
    have t2 : IsPair g2 TO a b := u2.extBut _ _ D.TOi1 (u1.extBut _ _ D.TOz hTO)
    refine wpAny_bind (wpAny_seqItems t2 rfl ?_)
    refine wpAny_bind (wpAny_updateSeq_pair t2 fun g3 t3 u3 => ?_)
    replace t3 : IsPair g3 TO x b := t3
    refine wpAny_bind (wpAny_letGo (wpAny_pure ?_))
    refine wpAny_bind (wpAny_bind (wpAny_onRaise ?_))
    show wpAny _ _ (Builtin.SmallTypes.nextOf (.ref i2) >>= _) _ _ _
    have v2 := ((h2.extBut u1.extBut D.i2z).extBut u2.extBut D.i12.symm).extBut u3.extBut D.TOi2.symm
    have w2 := ((hl2.extBut u1.extBut D.l2z).extBut u2.extBut D.l2i1).extBut u3.extBut D.l2TO
    refine wpAny_bind (RZ.nextOf_tuple_item v2 w2 hy fun g4 n2 u4 => wpAny_pure ?_)
    have t4 : IsPair g4 TO x b := u4.extBut _ _ D.TOi2 t3
    refine wpAny_bind (wpAny_seqItems t4 rfl ?_)
    refine wpAny_bind (wpAny_updateSeq_pair t4 fun g5 t5 u5 => ?_)
    replace t5 : IsPair g5 TO x y := t5
    refine wpAny_bind (wpAny_letGo (wpAny_pure (wpAny_pure ?_)))
    refine wpAny_bind (wpAny_seqItems t5 rfl ?_)
    refine wpAny_bind (wpAny_newTuple ?_)
    have sz5 : g5.objs.size = s.heap.objs.size := by rw [u5.1, u4.1, u3.1, u2.1, u1.1]
    have z5 : ZN g5 z TI TO .ellipsis g := u5.extBut _ _ D.TOz.symm (u4.extBut _ _ D.i2z.symm (u3.extBut _ _ D.TOz.symm (u2.extBut _ _ D.i1z.symm z1)))
    have up5 : ∀ c o, c ≠ z → c ≠ TO → c ≠ i1 → c ≠ i2 → s.heap.get? c = some o → g5.get? c = some o := fun c o c1 c2 c3 c4 e =>
      u5.extBut c o c2 (u4.extBut c o c4 (u3.extBut c o c2 (u2.extBut c o c3 (u1.extBut c o c1 e))))
    have m1 : g5.IsTupleIter i1 l1 (k1 + 1) := ((n1.extBut u3.extBut D.TOi1.symm).extBut u4.extBut D.i12).extBut u5.extBut D.TOi1.symm
    have m2 : g5.IsTupleIter i2 l2 (k2 + 1) := n2.extBut u5.extBut D.TOi2.symm
    have zlt : z < g5.objs.size := Heap.lt_size z5
    show wpAny _ _ (Builtin.SmallTypes.ownedTupleHandOut (.ref z) (.ref g5.objs.size) >>= _) _ _ _
    refine wpAny_bind ?_
    unfold Builtin.SmallTypes.ownedTupleHandOut
    have z6 : ZN (g5.push { cls := .type "tuple", data := .seq #[x, y] }) z TI TO .ellipsis g := Heap.get?_push_of_some _ z5
    refine wpAny_bind (wpAny_setField_rec z6 (by simp) fun g7 z7 u7 => ?_)
    replace z7 : ZN g7 z TI TO (rawInt g5.objs.size) g := z7
    refine wpAny_setField_rec z7 (by simp) fun g8 z8 u8 => ?_
    replace z8 : ZN g8 z TI TO (rawInt g5.objs.size) false := z8
    have up8 : ∀ c o, c ≠ z → g5.get? c = some o → g8.get? c = some o := fun c o c1 e => u8.extBut c o c1 (u7.extBut c o c1 (Heap.get?_push_of_some _ e))
    have p8 : IsPair g8 g5.objs.size x y := u8.extBut _ _ (Nat.ne_of_gt zlt) (u7.extBut _ _ (Nat.ne_of_gt zlt) (Heap.get?_push_size _ rfl))
    refine wpAny_pure ⟨_, rfl, ?_⟩
    show Q (.ref g5.objs.size) _
    rw [sz5] at z8 p8 ⊢
    exact hQ g8 _ _ x y (.inr ⟨_, rfl⟩) z8 (up8 _ _ D.TOz t5) (m1.at fun o e => up8 _ o D.i1z e) (m2.at fun o e => up8 _ o D.i2z e) p8 fun c o c1 c2 c3 c4 e => up8 c o c1 (up5 c o c1 c2 c3 c4 e)
  ·
    simp only [Bool.false_eq_true, if_false]
    refine wpAny_bind ?_
    rw [← Array.forIn_toList]
    simp only [List.forIn_cons, List.forIn_nil]
    refine wpAny_bind (wpAny_bind (wpAny_holding ?_))
    show wpAny _ _ (Builtin.SmallTypes.nextOf (.ref i1) >>= _) _ _ _
    refine wpAny_bind (RZ.nextOf_tuple_item (s := { s with heap := g1 }) (h1.extBut u1.extBut D.i1z) (hl1.extBut u1.extBut D.l1z) hx fun g2 n1 u2 => wpAny_pure ?_)
    refine wpAny_pure ?_
    refine wpAny_bind (wpAny_bind (wpAny_holding ?_))
    show wpAny _ _ (Builtin.SmallTypes.nextOf (.ref i2) >>= _) _ _ _
    have v2 := (h2.extBut u1.extBut D.i2z).extBut u2.extBut D.i12.symm
    have w2 := (hl2.extBut u1.extBut D.l2z).extBut u2.extBut D.l2i1
    refine wpAny_bind (RZ.nextOf_tuple_item (s := { s with heap := g2 }) v2 w2 hy fun g3 n2 u3 => wpAny_pure ?_)
    refine wpAny_pure (wpAny_pure ?_)
    show wpAny _ _ (newTuple [x, y] >>= _) _ _ _
    refine wpAny_bind (wpAny_newTuple ?_)
    have sz3 : g3.objs.size = s.heap.objs.size := by rw [u3.1, u2.1, u1.1]
    have z3 : ZN g3 z TI TO f true := u3.extBut _ _ D.i2z.symm (u2.extBut _ _ D.i1z.symm z1)
    have up3 : ∀ c o, c ≠ z → c ≠ i1 → c ≠ i2 → s.heap.get? c = some o → g3.get? c = some o := fun c o c1 c2 c3 e => u3.extBut c o c3 (u2.extBut c o c2 (u1.extBut c o c1 e))
    have m1 : g3.IsTupleIter i1 l1 (k1 + 1) := n1.extBut u3.extBut D.i12
    refine wpAny_pure ⟨_, rfl, ?_⟩
    show Q (.ref g3.objs.size) _
    have p4 : IsPair (g3.push { cls := .type "tuple", data := .seq #[x, y] }) g3.objs.size x y := Heap.get?_push_size _ rfl
    rw [sz3] at p4 ⊢
    exact hQ _ f true a b hf (Heap.get?_push_of_some _ z3) (Heap.get?_push_of_some _ (up3 _ _ D.TOz D.TOi1 D.TOi2 hTO)) (m1.at fun o e => Heap.get?_push_of_some _ e) (n2.at fun o e => Heap.get?_push_of_some _ e) p4 fun c o c1 c2 c3 c4 e => Heap.get?_push_of_some _ (up3 c o c1 c3 c4 e)
theorem zn_end {Q : Fin → Shared → Prop} (hh : A.handled = none) (D : ZipApart z TI TO i1 i2 l1 l2) (hf : ZF f) (hz : ZN s.heap z TI TO f g) (hTI : IsPair s.heap TI (.ref i1) (.ref i2)) (hTO : IsPair s.heap TO a b)
    (h1 : s.heap.IsTupleIter i1 l1 k1) (h2 : s.heap.IsTupleIter i2 l2 k2) (hl1 : s.heap.IsTuple l1 xs) (hl2 : s.heap.IsTuple l2 ys) (hend : xs[k1]? = none ∨ ys[k2]? = none)
    (hE : ∀ h' e, (∀ c o, c ≠ z → c ≠ TO → c ≠ i1 → c ≠ i2 → s.heap.get? c = some o → h'.get? c = some o) → (∃ o, h'.get? e = some o ∧ o.cls = .type "StopIteration") → E (.ref e) { s with heap := h' }) :
    wpAny (model prog w) A (Builtin.«zip.__next__» ⟨[.ref z], []⟩) Q E s := by
  show wpAny _ _ (field (.ref z) 2 >>= _) _ _ _
  refine wpAny_bind (wpAny_field hz rfl (x := .bool false) rfl ?_)
  show wpAny _ _ (field (.ref z) 3 >>= _) _ _ _
  refine wpAny_bind (wpAny_field hz rfl (x := .ref TI) rfl ?_)
  refine wpAny_bind (wpAny_seqItems hTI rfl ?_)
  show wpAny _ _ (Builtin.SmallTypes.ownedTupleIsFree (.ref z) >>= _) _ _ _
  refine wpAny_bind (zn_free hf hz ?_ fun g1 z1 u1 => ?_)
  · simp only [if_true]
    refine wpAny_bind (wpAny_rule ?_)
    refine wpAny_bind (wpAny_field hz rfl (x := .ref TO) rfl ?_)
    refine wpAny_bind (wpAny_setField_rec hz (by simp) fun g1 z1 u1 => ?_)
    replace z1 : ZN g1 z TI TO .ellipsis g := z1
    refine wpAny_bind ?_
    simp only [List.zipIdx_cons, List.zipIdx_nil, List.forIn_cons, List.forIn_nil]
    refine wpAny_bind (wpAny_bind (wpAny_onRaise ?_))
    show wpAny _ _ (Builtin.SmallTypes.nextOf (.ref i1) >>= _) _ _ _
    cases hx : xs[k1]? with
    | none =>
      refine wpAny_bind (RZ.nextOf_tuple_end hh (h1.extBut u1.extBut D.i1z) (hl1.extBut u1.extBut D.l1z) hx fun g2 e u2 he => ?_)
      obtain ⟨oe, hoe, hce⟩ := he
      have z2 : ZN g2 z TI TO .ellipsis g := u2 _ _ D.i1z.symm z1
      have ne : e ≠ z := fun q => by subst q; rw [z2] at hoe; cases hoe; simp at hce
      exact wpAny_setField_rec z2 (by simp) fun g3 _ u3 => hE g3 e (fun c o c1 c2 c3 c4 q => u3.extBut c o c1 (u2 c o c3 (u1.extBut c o c1 q))) ⟨oe, u3.extBut e oe ne hoe, hce⟩
    | some x =>
      have hy : ys[k2]? = none := hend.resolve_left (by rw [hx]; simp)
      refine wpAny_bind (RZ.nextOf_tuple_item (h1.extBut u1.extBut D.i1z) (hl1.extBut u1.extBut D.l1z) hx fun g2 n1 u2 => wpAny_pure ?_)
      have t2 : IsPair g2 TO a b := u2.extBut _ _ D.TOi1 (u1.extBut _ _ D.TOz hTO)
      refine wpAny_bind (wpAny_seqItems t2 rfl ?_)
      refine wpAny_bind (wpAny_updateSeq_pair t2 fun g3 t3 u3 => ?_)
      refine wpAny_bind (wpAny_letGo (wpAny_pure ?_))
      refine wpAny_bind (wpAny_bind (wpAny_onRaise ?_))
      show wpAny _ _ (Builtin.SmallTypes.nextOf (.ref i2) >>= _) _ _ _
      have v2 := ((h2.extBut u1.extBut D.i2z).extBut u2.extBut D.i12.symm).extBut u3.extBut D.TOi2.symm
      have w2 := ((hl2.extBut u1.extBut D.l2z).extBut u2.extBut D.l2i1).extBut u3.extBut D.l2TO
      refine wpAny_bind (RZ.nextOf_tuple_end hh v2 w2 hy fun g4 e u4 he => ?_)
      obtain ⟨oe, hoe, hce⟩ := he
      have z4 : ZN g4 z TI TO .ellipsis g := u4 _ _ D.i2z.symm (u3.extBut _ _ D.TOz.symm (u2.extBut _ _ D.i1z.symm z1))
      have ne : e ≠ z := fun q => by subst q; rw [z4] at hoe; cases hoe; simp at hce
      exact wpAny_setField_rec z4 (by simp) fun g5 _ u5 => hE g5 e (fun c o c1 c2 c3 c4 q => u5.extBut c o c1 (u4 c o c4 (u3.extBut c o c2 (u2.extBut c o c3 (u1.extBut c o c1 q))))) ⟨oe, u5.extBut e oe ne hoe, hce⟩
  · simp only [Bool.false_eq_true, if_false]
    refine wpAny_bind ?_
    rw [← Array.forIn_toList]
    simp only [List.forIn_cons, List.forIn_nil]
    refine wpAny_bind (wpAny_bind (wpAny_holding ?_))
    show wpAny _ _ (Builtin.SmallTypes.nextOf (.ref i1) >>= _) _ _ _
    cases hx : xs[k1]? with
    | none =>
      exact wpAny_bind (RZ.nextOf_tuple_end (s := { s with heap := g1 }) hh (h1.extBut u1.extBut D.i1z) (hl1.extBut u1.extBut D.l1z) hx fun g2 e u2 he =>
        hE g2 e (fun c o c1 c2 c3 c4 q => u2 c o c3 (u1.extBut c o c1 q)) he)
    | some x =>
      have hy : ys[k2]? = none := hend.resolve_left (by rw [hx]; simp)
      refine wpAny_bind (RZ.nextOf_tuple_item (s := { s with heap := g1 }) (h1.extBut u1.extBut D.i1z) (hl1.extBut u1.extBut D.l1z) hx fun g2 n1 u2 => wpAny_pure ?_)
      refine wpAny_pure ?_
      refine wpAny_bind (wpAny_bind (wpAny_holding ?_))
      show wpAny _ _ (Builtin.SmallTypes.nextOf (.ref i2) >>= _) _ _ _
      have v2 := (h2.extBut u1.extBut D.i2z).extBut u2.extBut D.i12.symm
      have w2 := (hl2.extBut u1.extBut D.l2z).extBut u2.extBut D.l2i1
      exact wpAny_bind (RZ.nextOf_tuple_end (s := { s with heap := g2 }) hh v2 w2 hy fun g3 e u3 he =>
        hE g3 e (fun c o c1 c2 c3 c4 q => u3 c o c4 (u2.extBut c o c3 (u1.extBut c o c1 q))) he)
theorem zn_pyitem {Q : Option Value → Shared → Prop} (D : ZipApart z TI TO i1 i2 l1 l2) (hf : ZF f) (hz : ZN s.heap z TI TO f g) (hTI : IsPair s.heap TI (.ref i1) (.ref i2)) (hTO : IsPair s.heap TO a b)
    (h1 : s.heap.IsTupleIter i1 l1 k1) (h2 : s.heap.IsTupleIter i2 l2 k2) (hl1 : s.heap.IsTuple l1 xs) (hl2 : s.heap.IsTuple l2 ys) (hx : xs[k1]? = some x) (hy : ys[k2]? = some y)
    (hQ : ∀ h' f' g' a' b', ZF f' → ZN h' z TI TO f' g' → IsPair h' TO a' b' → h'.IsTupleIter i1 l1 (k1 + 1) → h'.IsTupleIter i2 l2 (k2 + 1) → IsPair h' s.heap.objs.size x y →
      (∀ c o, c ≠ z → c ≠ TO → c ≠ i1 → c ≠ i2 → s.heap.get? c = some o → h'.get? c = some o) → Q (some (.ref s.heap.objs.size)) { s with heap := h' }) : wpAny (model prog w) A (pyNext (.ref z)) Q E s := by
  have ty : s.TypeIs (.ref z) "zip" := ⟨_, hz, rfl⟩
  unfold pyNext
  refine wpAny_bind (wpAny_attempt (wpAny_callSpecial?_slot (name := Str.ofString "__next__") ty F.slot_zip_next (wpAny_call_entry F.slot_zip_next ty F.entry_zip_next ?_ (F.args_zip_next_1 _))))
  exact zn_item D hf hz hTI hTO h1 h2 hl1 hl2 hx hy fun h' f' g' a' b' q1 q2 q3 q4 q5 q6 q7 => wpAny_pure (hQ h' f' g' a' b' q1 q2 q3 q4 q5 q6 q7)
theorem zn_pyend {Q : Option Value → Shared → Prop} (hh : A.handled = none) (D : ZipApart z TI TO i1 i2 l1 l2) (hf : ZF f) (hz : ZN s.heap z TI TO f g) (hTI : IsPair s.heap TI (.ref i1) (.ref i2)) (hTO : IsPair s.heap TO a b)
    (h1 : s.heap.IsTupleIter i1 l1 k1) (h2 : s.heap.IsTupleIter i2 l2 k2) (hl1 : s.heap.IsTuple l1 xs) (hl2 : s.heap.IsTuple l2 ys) (hend : xs[k1]? = none ∨ ys[k2]? = none)
    (hQ : ∀ h', (∀ c o, c ≠ z → c ≠ TO → c ≠ i1 → c ≠ i2 → s.heap.get? c = some o → h'.get? c = some o) → Q none { s with heap := h' }) : wpAny (model prog w) A (pyNext (.ref z)) Q E s := by
  have ty : s.TypeIs (.ref z) "zip" := ⟨_, hz, rfl⟩
  unfold pyNext
  refine wpAny_bind (wpAny_attempt (wpAny_callSpecial?_slot (name := Str.ofString "__next__") ty F.slot_zip_next (wpAny_call_entry F.slot_zip_next ty F.entry_zip_next ?_ (F.args_zip_next_1 _))))
  refine zn_end hh D hf hz hTI hTO h1 h2 hl1 hl2 hend fun h' e hk he => ?_
  obtain ⟨o, ho, hc⟩ := he
  exact wpAny_bind (wpAny_isInstance (T := "StopIteration") (b := true) ⟨o, ho, hc⟩ isSubtype_stop (wpAny_pure (hQ _ hk)))
theorem zn_iter {Q : Value → Shared → Prop} (hz : ZN s.heap z TI TO f g) (h : Q (.ref z) s) : wpAny (model prog w) A (pyIter (.ref z)) Q E s := by
  have ty : s.TypeIs (.ref z) "zip" := ⟨_, hz, rfl⟩
  exact wpAny_pyIter_slot ty F.slot_zip_iter (wpAny_call_entry F.slot_zip_iter ty F.entry_zip_iter (show wpAny _ _ (ret (.ref z)) _ _ s from wpAny_pure ⟨_, rfl, "zip", _, ty, F.slot_zip_next.lookup, h⟩) (F.args_zip_iter_1 _))
end
def ItzN (K : W.Frag) (a b : Addr) : It :=
  ⟨fun i H => ∃ (xs ys : List V) (x y : V), SqT K H a xs ∧ SqT K H b ys ∧ xs[i]? = some x ∧ ys[i]? = some y,
    fun i H v H' => ∃ T x y o, v = .ref T ∧ H T = none ∧ o.dict = none ∧ H' = upd H T (fz o [x, y]) ∧ (∀ xs, SqT K H a xs → xs[i]? = some x) ∧ ∀ ys, SqT K H b ys → ys[i]? = some y,
    fun i H => ∃ xs ys : List V, SqT K H a xs ∧ SqT K H b ys ∧ (xs.length ≤ i ∨ ys.length ≤ i)⟩
theorem turn_zipN {P : Program} {w : World} {K : W.Frag} {nm : Str} {npos : Pos} {a b z TI TO i1 i2 : Addr} (D : ZipApart z TI TO i1 i2 a b) :
    Turn P w K (.Name nm npos) (ItzN K a b) [z, TI, TO, i1, i2] z (fun i h => (∃ f g, ZF f ∧ ZN h z TI TO f g) ∧ IsPair h TI (.ref i1) (.ref i2) ∧ (∃ x y, IsPair h TO x y) ∧ h.IsTupleIter i1 a i ∧ h.IsTupleIter i2 b i) where
  mem := by simp
  obj := fun i h st c hc => by
    obtain ⟨⟨f, g, _, hz⟩, hTI, ⟨x, y, hTO⟩, ⟨o1, e1, _, d1⟩, ⟨o2, e2, _, d2⟩⟩ := st
    have e' : c = z ∨ c = TI ∨ c = TO ∨ c = i1 ∨ c = i2 := by simpa using hc
    rcases e' with rfl | rfl | rfl | rfl | rfl
    · exact ⟨_, hz, fun v q => nomatch q⟩
    · exact ⟨_, hTI, fun v q => nomatch q⟩
    · exact ⟨_, hTO, fun v q => nomatch q⟩
    · exact ⟨o1, e1, fun v q => by rw [d1] at q; cases q⟩
    · exact ⟨o2, e2, fun v q => by rw [d2] at q; cases q⟩
  keep := fun i h h' st k => by
    obtain ⟨⟨f, g, hf, hz⟩, hTI, ⟨x, y, hTO⟩, h1, h2⟩ := st
    exact ⟨⟨f, g, hf, k z (by simp) _ hz⟩, k TI (by simp) _ hTI, ⟨x, y, k TO (by simp) _ hTO⟩, h1.at fun o q => k i1 (by simp) o q, h2.at fun o q => k i2 (by simp) o q⟩
  item := by
    intro X hP hw hK hc i pins s σ H E I hf st hg
    subst hP hw hK
    obtain ⟨⟨f, g, hzf, hz⟩, hTI, ⟨x0, y0, hTO⟩, h1, h2⟩ := st
    obtain ⟨xs, ys, x, y, hqx, hqy, hx, hy⟩ := hg
    obtain ⟨its, rv, p, _⟩ := I.tuple hqx
    obtain ⟨its2, rv2, p2, _⟩ := I.tuple hqy
    obtain ⟨u, hu, ru⟩ := rv.get hx
    obtain ⟨u2, hu2, ru2⟩ := rv2.get hy
    refine zn_pyitem D hzf hz hTI hTO h1 h2 p p2 (x := u) (y := u2) (by simpa using hu) (by simpa using hu2) fun h' f' g' a' b' q1 q2 q3 q4 q5 q6 q7 => ?_
    refine ⟨_, rfl, ?_⟩
    show wpAny _ _ (pure ()) _ _ _
    refine wpAny_pure ?_
    have new : ObjOk X.prog X.w (upd H s.heap.objs.size (fz { cls := .type "tuple", data := .seq #[u, u2] } [x, y])) h' s.heap.objs.size (fz { cls := .type "tuple", data := .seq #[u, u2] } [x, y]) :=
      ⟨q6, by show 2 ≤ sizeLine; decide, [u, u2], .cons ru (.cons ru2 .nil), _, q6, rfl, _, rfl⟩
    have I1 : L2.Inv X pins σ (upd H s.heap.objs.size (fz { cls := .type "tuple", data := .seq #[u, u2] } [x, y])) { s with heap := h' } :=
      I.turnedNew (t' := s.toks) (ch := [z, TI, TO, i1, i2]) (fun c o hb q => q7 c o (fun e => hb (by simp [e])) (fun e => hb (by simp [e])) (fun e => hb (by simp [e])) (fun e => hb (by simp [e])) q) hf (Nat.le_refl _) new
    refine ⟨.ref s.heap.objs.size, _, I1, rfl, ⟨_, x, y, _, rfl, I.hok.fresh (Nat.le_refl _), rfl, rfl, fun l hl => by rw [I.tuple_inj hl hqx]; exact hx, fun l hl => by rw [I.tuple_inj hl hqy]; exact hy⟩, ⟨⟨f', g', q1, q2⟩, ?_, ⟨a', b', q3⟩, q4, q5⟩, fun c hcm => ?_⟩
    · exact q7 _ _ D.TIz D.TITO D.TIi1 D.TIi2 hTI
    · have hlt : c < s.heap.objs.size := by
        have e' : c = z ∨ c = TI ∨ c = TO ∨ c = i1 ∨ c = i2 := by simpa using hcm
        rcases e' with rfl | rfl | rfl | rfl | rfl
        · exact Heap.lt_size hz
        · exact Heap.lt_size hTI
        · exact Heap.lt_size hTO
        · obtain ⟨_, e1, _⟩ := h1; exact Heap.lt_size e1
        · obtain ⟨_, e2, _⟩ := h2; exact Heap.lt_size e2
      rw [upd_ne (Nat.ne_of_lt hlt)]
      exact (hf c hcm).1
  done := by
    intro X hP hw hK hc i pins s σ H E I hf st hg
    subst hP hw hK
    obtain ⟨⟨f, g, hzf, hz⟩, hTI, ⟨x0, y0, hTO⟩, h1, h2⟩ := st
    obtain ⟨xs, ys, hqx, hqy, hend⟩ := hg
    obtain ⟨its, rv, p, _⟩ := I.tuple hqx
    obtain ⟨its2, rv2, p2, _⟩ := I.tuple hqy
    have g1 := rv.length
    have g2 := rv2.length
    have he : its.toArray[i]? = none ∨ its2.toArray[i]? = none := by
      rcases hend with q | q
      · exact .inl (by simp; omega)
      · exact .inr (by simp; omega)
    exact zn_pyend (I.ok.hd hc) D hzf hz hTI hTO h1 h2 p p2 he fun h' hk => ⟨rfl, I.turnedL (t' := s.toks) (ch := [z, TI, TO, i1, i2]) (fun c o hb q =>
      hk c o (fun e => hb (by simp [e])) (fun e => hb (by simp [e])) (fun e => hb (by simp [e])) (fun e => hb (by simp [e])) q) hf⟩
  self := fun A i s Q E st h => let ⟨⟨_, _, _, hz⟩, _⟩ := st; zn_iter hz h
section
variable {X : Cx} {G : Gc} {L : Nat} {bl : List Str} {a b : Expr} {fs : Ro → Rs (List D)} {pos p npos : Pos} {nm : Str}
theorem pi_zipN {ta : TA} (hg : Gl X "zip") (hm : X.mg "zip" = none) (ha : PA X [a, b] ta) (hs : starEach [a, b] X.env = (false, eval a X.env) :: starEach [b] X.env) (hpl : (backTo pos (starEach [b] X.env)).any (·.1) = false) :
    PI X (.Name nm npos) (.Call (.Name "zip" p) [a, b] [] pos) (fun σ H R => ta σ H fun vs H1 => ∃ q r xs ys, vs = [.ref q, .ref r] ∧ SqT X.K H1 q xs ∧ SqT X.K H1 r ys ∧ R (ItzN X.K q r) H1) := by
  refine ⟨fun pins s σ H R I h => ?_⟩
  refine Call_ (ld_blt I hg hm PyProof.Rows.boot_zip (PyProof.Rows.callWith_type1 (thn (ha.run pos pins s σ H _ I h) fun us s1 ⟨vs, H1, I1, r1, q1⟩ => ?_) hs hpl))
  obtain ⟨q, r, xs, ys, rfl, hqx, hqy, q1⟩ := q1
  cases r1 with
  | cons r rr =>
    cases rr with
    | cons r' rr =>
      cases rr
      cases r
      cases r'
      have fr : ∀ c, c ∈ [s1.heap.objs.size + 4, s1.heap.objs.size + 2, s1.heap.objs.size + 3, s1.heap.objs.size, s1.heap.objs.size + 1] → FpOk X pins H1 c := fun c hcm => by
        have hle : s1.heap.objs.size ≤ c := by
          have e' : c = s1.heap.objs.size + 4 ∨ c = s1.heap.objs.size + 2 ∨ c = s1.heap.objs.size + 3 ∨ c = s1.heap.objs.size ∨ c = s1.heap.objs.size + 1 := by simpa using hcm
          omega
        exact I1.fpOk hle (I1.hok.fresh hle)
      obtain ⟨its, rv, p1, _⟩ := I1.tuple hqx
      obtain ⟨its2, rv2, p2, _⟩ := I1.tuple hqy
      obtain ⟨o1, ho1, _⟩ := id p1
      obtain ⟨o2, ho2, _⟩ := id p2
      refine RZ.call_zipT (show s1.heap.IsTuple q its.toArray from p1) (show s1.heap.IsTuple _ its2.toArray from p2) fun h' hz hTI hTO h1 h2 hsz hk => wpAny_pyIter_zip hz ?_
      have I2 : L2.Inv X pins σ H1 { s1 with heap := h' } := I1.kept (t' := s1.toks) hk
      exact ⟨s1.heap.objs.size + 4, _, _, _, H1, rfl, I2, turn_zipN (PySem.W.ktu_apart s1.heap.objs.size _ _ (Heap.lt_size ho1) (Heap.lt_size ho2)), ⟨⟨_, _, .inl rfl, hz⟩, hTI, ⟨_, _, hTO⟩, h1, h2⟩, fr, q1⟩
theorem walk_zipN {K : W.Frag} {M O : Addr → Prop} {H : Hp} {a b : Addr} {ds es : List D} {vs us : List V} (hm : ∀ a, M a → O a) (hz : vs.length ≤ sizeLine) (h1 : SqT K H a vs) (n1 : ¬ M a) (l1 : AtL K H O ds vs) (h2 : SqT K H b us) (n2 : ¬ M b) (l2 : AtL K H O es us) : Walk K true M O (ItzN K a b) H (zipL ds es) where
  len := by rw [zipL_length, ← l1.length]; omega
  go := fun i d H' e k => by
    obtain ⟨x, y, ex, ey, rfl⟩ := zipL_get _ _ _ _ e
    obtain ⟨v, e1, a1⟩ := l1.get ex
    obtain ⟨u, e2, a2⟩ := l2.get ey
    have q1 := sqT_kp k n1 h1
    have q2 := sqT_kp k n2 h2
    refine ⟨⟨vs, us, v, u, q1, q2, e1, e2⟩, fun z H'' yy => ?_⟩
    obtain ⟨T, x', y', o, rfl, nT, ho, rfl, z1, z2⟩ := yy
    have w1 := z1 vs q1
    have w2 := z2 us q2
    rw [e1] at w1; rw [e2] at w2
    cases w1; cases w2
    refine ⟨same_upd nT, fun O' g t => ?_⟩
    refine ⟨T, _, rfl, sqN_new ho, fun hT => ?_, ⟨_, _, rfl, (a1.move hm k g).same (same_upd nT), _, _, rfl, (a2.move hm k g).same (same_upd nT), rfl⟩⟩
    obtain ⟨o', e'⟩ := t T hT
    rw [nT] at e'; cases e'
  stop := fun H' k => ⟨vs, us, sqT_kp k n1 h1, sqT_kp k n2 h2, by rw [zipL_length, l1.length, l2.length]; omega⟩
def zipND : List D → Rs (List D)
  | [.tuple xs, .tuple ys] => if xs.length ≤ big then .ok (zipL xs ys) else .stuck
  | _ => .stuck
def zipNE (fs : Ro → Rs (List D)) : DI := fun ρ => do let ds ← fs ρ; zipND ds
theorem i_zipN (C : Ctx X G L bl) (hg : Gl X "zip") (hm : X.mg "zip" = none) (ha : PA X [a, b] (tArg G fs)) (hs : starEach [a, b] X.env = (false, eval a X.env) :: starEach [b] X.env) (hpl : (backTo pos (starEach [b] X.env)).any (·.1) = false) : PI X (.Name nm npos) (.Call (.Name "zip" p) [a, b] [] pos) (tIt G false true (zipNE fs)) := by
  refine pi_imp (pi_zipN hg hm ha hs hpl) fun σ H R kf w => fun k => ?_
  obtain ⟨O, ρ, R0, q⟩ := w k
  refine ⟨O, ρ, R0, q.bind.imp fun ds _ q vs H1 s1 k1 a1 => ?_⟩
  unfold zipND at q
  split at q
  · split at q
    · rename_i hz
      obtain ⟨v, r, rfl, ⟨a', us, rfl, h1, n1, l1⟩, v2, r2, rfl, ⟨b', us2, rfl, h2, n2, l2⟩, e⟩ := a1
      cases e
      refine ⟨a', b', us, us2, rfl, C.K ▸ h1.q, C.K ▸ h2.q, fun _ => ?_⟩
      rw [C.K]
      exact q _ _ s1 k1 (walk_zipN (mk_le (wk := false)) (by rw [l1.length]; exact big_line hz) h1.q n1 l1 h2.q n2 l2)
    · exact q.elim
  · exact q.elim
end
end Den
namespace Den
open PySem PySem.Spec PyProof.Rows L2 PySem.W
section
variable {prog : Program} {w : World} {A : Around} {E : Value → Shared → Prop} {s : Shared}
def bestI (ds : List PyData) : Nat := argBest (fun i j => dataLt (ds.getD i .none) (ds.getD j .none)) (ds.length - 1)
theorem min_list_at {l : Addr} {vs : Array Value} {ds : List PyData} {as : List Addr} {Q : Value → Shared → Prop} (hh : A.handled = none) (hl : s.heap.IsList l vs) (hr : ReadsAll s.heap vs.toList ds as) (ha : AlikeAll ds) (h0 : 0 < ds.length) (hu : A.units + 1 + PyData.depthAll ds < cLine)
    (h : ∀ v h' tk, vs[bestI ds]? = some v → (∀ b o, s.heap.get? b = some o → h'.get? b = some o) → Q v { s with heap := h', toks := tk }) : wpAny (model prog w) A (call (.builtin "min") [.ref l]) Q E s := by
  have hn : vs.size = ds.length := readsAll_len hr
  refine call_min_walkH (iter_listW (A := A.in1) hh hl fun s₂ e W st hfp hw hk => ?_)
  refine ⟨_, _, _, _, _, _, _, s.heap, _, rfl, W, st, hfp, by omega, hw, hk, cmpIn_lt (A := A.in1) hr ha (by show A.units + 1 + _ < _; exact hu), fun v s' hP m => ?_⟩
  obtain ⟨h', tk, rfl, hk'⟩ := moved_old e rfl m
  rw [hn] at hP
  exact h v h' tk hP hk'
end
def alkB (ds : List D) : Bool := ds.all fun x => (ds.all fun y => alike x y) && !(match x with | .none => true | _ => false)
theorem alkB_ok {ds : List D} (h : alkB ds = true) : AlikeAll ds := by
  unfold alkB at h
  rw [List.all_eq_true] at h
  refine ⟨fun x hx y hy => ?_, fun x hx => ?_⟩
  · have := h x hx
    rw [Bool.and_eq_true, List.all_eq_true] at this
    exact this.1 y hy
  · have := h x hx
    rw [Bool.and_eq_true] at this
    intro e
    subst e
    simp at this
def rMinL (K : W.Frag) : List V → Hp → VK → Prop := fun vs H Q => ∃ (a : Addr) (xs : List V) (ds : List D), vs = [.ref a] ∧ SqL K H a xs ∧ DpAll K H xs ds ∧ alkB ds = true ∧ 0 < ds.length ∧ PyData.depthAll ds ≤ 60 ∧ ∀ v, xs[bestI ds]? = some v → Q v H
theorem cr_minL {X : Cx} (hc : X.calm = true) (hu : X.A.units + 64 < cLine) : CallR X (.builtin "min") (rMinL X.K) := by
  intro pins s σ H xs us Q I r h
  obtain ⟨a, ys, ds, rfl, hq, dp, al, h0, hd, q⟩ := h
  rw [Vals.ref1 r]
  obtain ⟨ws, rv, pl, hz⟩ := I.list hq
  obtain ⟨as, rd⟩ := Dp.readsAll I ds ys ws dp rv
  refine min_list_at (I.ok.hd hc) pl.isList (by simpa using rd) (alkB_ok al) h0 (by omega) fun v h' tk hv hk => ?_
  have hv' : ws[bestI ds]? = some v := by simpa using hv
  obtain ⟨x, hx, rx⟩ : ∃ x, ys[bestI ds]? = some x ∧ RelV x v := by
    have hl := rv.length
    have h1 : bestI ds < ys.length := by rw [hl]; exact (List.getElem?_eq_some_iff.mp hv').1
    obtain ⟨u, hu2, ru⟩ := rv.get (List.getElem?_eq_getElem h1)
    rw [hv'] at hu2
    cases hu2
    exact ⟨_, List.getElem?_eq_getElem h1, ru⟩
  exact ⟨x, H, I.kept (t' := tk) hk, rx, q x hx⟩
def rMinT (K : W.Frag) : List V → Hp → VK → Prop := fun vs H Q => ∃ (a : Addr) (n : Int) (ns : List Int), vs = [.ref a] ∧ SqT K H a ((n :: ns).map V.int) ∧ Q (.int (ns.foldl min n)) H
def rMaxT (K : W.Frag) : List V → Hp → VK → Prop := fun vs H Q => ∃ (a : Addr) (n : Int) (ns : List Int), vs = [.ref a] ∧ SqT K H a ((n :: ns).map V.int) ∧ Q (.int (ns.foldl max n)) H
theorem dp_ints {K : W.Frag} {H : Hp} : ∀ ns : List Int, DpAll K H (ns.map V.int) (ns.map PyData.int)
  | [] => .nil
  | n :: ns => .cons (.int n) (dp_ints ns)
theorem alike_ints (ns : List Int) : AlikeAll (ns.map PyData.int) := by
  refine ⟨fun x hx y hy => ?_, fun x hx => ?_⟩
  · obtain ⟨a, _, rfl⟩ := List.mem_map.mp hx
    obtain ⟨b, _, rfl⟩ := List.mem_map.mp hy
    rfl
  · obtain ⟨a, _, rfl⟩ := List.mem_map.mp hx
    exact fun z => by cases z
theorem depth_ints : ∀ ns : List Int, PyData.depthAll (ns.map PyData.int) = 0
  | [] => rfl
  | n :: ns => by
    show max (PyData.int n).depth (PyData.depthAll (ns.map PyData.int)) = 0
    rw [depth_ints ns]; rfl
theorem cr_minT {X : Cx} (hc : X.calm = true) (hu : X.A.units + 64 < cLine) : CallR X (.builtin "min") (rMinT X.K) := by
  intro pins s σ H xs us Q I r h
  obtain ⟨a, n, ns, rfl, hq, q⟩ := h
  rw [Vals.ref1 r]
  obtain ⟨ws, rv, pl, hz⟩ := I.tuple hq
  obtain ⟨as, rd⟩ := Dp.readsAll I _ _ ws (dp_ints (n :: ns)) rv
  refine min_tuple_data (x := .int n) (xs := ns.map PyData.int) (I.ok.hd hc) (show s.heap.IsTuple a ws.toArray from pl) (by simpa using rd) (alike_ints (n :: ns)) (by
    have := depth_ints (n :: ns)
    rw [List.map_cons] at this
    rw [this]; omega) fun i v h' tk bs hv hr hk => ?_
  rw [minD_ints] at hr
  cases hr
  exact ⟨.int (ns.foldl min n), H, I.kept (t' := tk) hk, ⟨_, rfl⟩, q⟩
theorem cr_maxT {X : Cx} (hc : X.calm = true) (hu : X.A.units + 64 < cLine) : CallR X (.builtin "max") (rMaxT X.K) := by
  intro pins s σ H xs us Q I r h
  obtain ⟨a, n, ns, rfl, hq, q⟩ := h
  rw [Vals.ref1 r]
  obtain ⟨ws, rv, pl, hz⟩ := I.tuple hq
  obtain ⟨as, rd⟩ := Dp.readsAll I _ _ ws (dp_ints (n :: ns)) rv
  refine max_tuple_data (x := .int n) (xs := ns.map PyData.int) (I.ok.hd hc) (show s.heap.IsTuple a ws.toArray from pl) (by simpa using rd) (alike_ints (n :: ns)) (by
    have := depth_ints (n :: ns)
    rw [List.map_cons] at this
    rw [this]; omega) fun i v h' tk bs hv hr hk => ?_
  rw [maxD_ints] at hr
  cases hr
  exact ⟨.int (ns.foldl max n), H, I.kept (t' := tk) hk, ⟨_, rfl⟩, q⟩
def minA : List D → Rs D
  | [.list ds] => match intsO ds with
    | some _ => Den.minD [.list ds]
    | none => if alkB ds = true ∧ 0 < ds.length ∧ PyData.depthAll ds ≤ 60 then (match ds[bestI ds]? with | some d => .ok d | none => .stuck) else .stuck
  | [.tuple ds] => match intsO ds with
    | some (n :: ns) => .ok (.int (ns.foldl min n))
    | _ => .stuck
  | l => Den.minD l
def maxA : List D → Rs D
  | [.tuple ds] => match intsO ds with
    | some (n :: ns) => .ok (.int (ns.foldl max n))
    | _ => .stuck
  | l => Den.maxD l
def rMinB (K : W.Frag) : List V → Hp → VK → Prop := fun vs H Q => (rMinA K vs H Q ∨ rMinL K vs H Q) ∨ rMinT K vs H Q
def rMaxB (K : W.Frag) : List V → Hp → VK → Prop := fun vs H Q => rMaxA K vs H Q ∨ rMaxT K vs H Q
theorem cr_minB {X : Cx} (hc : X.calm = true) (hu : X.A.units + 64 < cLine) : CallR X (.builtin "min") (rMinB X.K) := ((cr_minA hc).or (cr_minL hc hu)).or (cr_minT hc hu)
theorem cr_maxB {X : Cx} (hc : X.calm = true) (hu : X.A.units + 64 < cLine) : CallR X (.builtin "max") (rMaxB X.K) := (cr_maxA hc).or (cr_maxT hc hu)
section
variable {G : Gc}
theorem says_minA : SaysL G (rMinB G.K) minA := by
  intro O H vs ds Q k t a p
  unfold minA at p
  split at p
  · split at p
    · exact .inl (.inl (says_min O H vs _ Q k t a p))
    · split at p
      · rename_i es o hn hc
        obtain ⟨v, r, rfl, a1, a2⟩ := a
        cases a2
        obtain ⟨b, us, rfl, h1, h2⟩ := a1
        refine .inl (.inr ⟨b, us, es, rfl, h1, AtL.dp h2, hc.1, hc.2.1, hc.2.2, fun v hv => ?_⟩)
        obtain ⟨d, hd, ad⟩ := h2.get' hv
        rw [hd] at p
        exact fun _ => p v H (Same.refl _) k ad
      · exact p.elim
  · split at p
    · rename_i es n ns hn
      obtain ⟨v, r, rfl, a1, a2⟩ := a
      cases a2
      obtain ⟨b, us, rfl, h1, _, h2⟩ := a1
      rw [ints_eq hn] at h2
      rw [atL_ints h2] at h1
      exact .inr ⟨b, n, ns, rfl, h1.q, post_sc k p rfl⟩
    · exact p.elim
  · exact .inl (.inl (says_min O H vs _ Q k t a p))
theorem says_maxA : SaysL G (rMaxB G.K) maxA := by
  intro O H vs ds Q k t a p
  unfold maxA at p
  split at p
  · split at p
    · rename_i es n ns hn
      obtain ⟨v, r, rfl, a1, a2⟩ := a
      cases a2
      obtain ⟨b, us, rfl, h1, _, h2⟩ := a1
      rw [ints_eq hn] at h2
      rw [atL_ints h2] at h1
      exact .inr ⟨b, n, ns, rfl, h1.q, post_sc k p rfl⟩
    · exact p.elim
  · exact .inl (says_max O H vs _ Q k t a p)
end
end Den
namespace Den
open PySem PySem.Spec PyProof.Rows L2
def scaB : D → Bool
  | .none => true
  | .bool _ => true
  | .int _ => true
  | .str _ => true
  | _ => false
theorem At.sca {K : W.Frag} {H : Hp} {O O' : Addr → Prop} : ∀ {d : D} {v : V}, scaB d = true → At K H O d v → At K H O' d v
  | .none, _, _, h => h
  | .bool _, _, _, h => h
  | .int _, _, _, h => h
  | .str _, _, _, h => h
  | .list _, _, z, _ => by cases z
  | .tuple _, _, z, _ => by cases z
  | .dict _, _, z, _ => by cases z
theorem AtC.no {K : W.Frag} {H : Hp} {O : Addr → Prop} : ∀ {d : D} {v : V}, AtC K H O d v → At K H (fun _ => False) d v
  | .none, _, h => h
  | .bool _, _, h => h
  | .int _, _, h => h
  | .str _, _, h => h
  | .list _, _, h => by
    obtain ⟨a, vs, e, h1, h3⟩ := h
    exact ⟨a, vs, e, h1, fun z => z, h3.less fun _ z => z.elim⟩
  | .tuple _, _, h => At.less (fun _ z => z.elim) (show At _ _ _ (.tuple _) _ from h)
  | .dict _, _, h => h.elim
theorem atCL_no {K : W.Frag} {H : Hp} {O : Addr → Prop} : ∀ {ds : List D} {vs : List V}, AtCL K H O ds vs → AtL K H (fun _ => False) ds vs
  | [], _, h => h
  | _ :: _, _, h => by
    obtain ⟨v, r, e, h1, h2⟩ := h
    exact ⟨v, r, e, h1.no, atCL_no h2⟩
def scE (F : List D → Rs D) (fs : Ro → Rs (List D)) : DE := fun ρ => do let ds ← fs ρ; let d ← F ds; if scaB d = true then .ok d else .stuck
section
variable {X : Cx} {G : Gc} {L : Nat} {bl : List Str} {e : Expr} {es : List Expr} {fs : Ro → Rs (List D)} {F : List D → Rs D} {pos p : Pos} {x : Str}
theorem d_callw (C : Ctx X G L bl) {n : Nat} (hF : FnD X G.cl L x n F) (hg : Gl X x) (hdb : (x == ("__debug__" : Str)) = false) (ha : PA X (e :: es) (tArgW G fs)) (hl : ∀ ρ ds, fs ρ = .ok ds → ds.length = n)
    (he : starEach (e :: es) X.env = (false, eval e X.env) :: starEach es X.env) (hpl : (backTo pos (starEach es X.env)).any (·.1) = false) : PE X (.Call (.Name x p) (e :: es) [] pos) (tS G (scE F fs)) := by
  obtain ⟨f, fd, ps, hf, hps, hm, hk, hb⟩ := hF.ex
  refine pe_imp (pe_call hf C.room hg hm hk hb .nil C.pass ha hdb he hpl) fun σ H Q kf w => fun k => ?_
  obtain ⟨O, ρ, R, q⟩ := w k
  refine ⟨O, ρ, R, q.bind.imp fun ds e q vs H1 s1 k1 a1 => ?_⟩
  have a2 := atCL_no a1
  show spD X.K G.cl n F (vs ++ []) H1 _ G.E
  rw [List.append_nil]
  refine ⟨by rw [a2.length]; exact hl ρ ds e, ds, fun _ => False, fun a h => h.elim, C.K ▸ a2, ?_⟩
  cases hF : F ds with
  | ok d =>
    have q2 : Post G H (F ds >>= fun d => if scaB d = true then .ok d else .stuck) _ := q
    rw [hF] at q2
    have q3 : Post G H (if scaB d = true then .ok d else .stuck) _ := q2
    split at q3
    · rename_i hs
      exact fun v H' s2 k2 a3 => fun _ => q3 v H' (s1.trans s2) (C.K ▸ k2) (C.K ▸ a3.sca hs)
    · exact q3.elim
  | exc c =>
    have q2 : Post G H (F ds >>= fun d => if scaB d = true then .ok d else .stuck) _ := q
    rw [hF] at q2
    exact fun H' s2 => q2 H' ((R.base.trans s1).trans s2)
  | stuck =>
    have q2 : Post G H (F ds >>= fun d => if scaB d = true then .ok d else .stuck) _ := q
    rw [hF] at q2
    exact q2.elim
end
end Den
namespace Den
open PySem PySem.Spec PyProof.Rows L2
section
variable {X : Cx} {G : Gc} {L : Nat} {bl : List Str} {e : Expr} {es : List Expr} {fs : Ro → Rs (List D)} {F : List D → Rs D} {pos p : Pos} {x : Str}
def Gc.wF (G : Gc) (i : Nat) (a : Addr) : Gc := { G with fv := some (i, a) }
theorem pe_callv {CX : CXT} {k : Nat} {a : Addr} {fd : FuncData} {ps : List Str} {sp : Sp} {E : XK} {t : TA} {i : Nat} (F : FnOk X.prog X.w X.K X.mg X.base CX k a fd ps sp) (hr : Room k X.A) (hN : X.N[i]? = some x) (hv : Vis X.env.scope x) (hk : W.keepIn X.K (.ref a) = true) (hb : Binds X.K fd ps []) (hx : Passes CX X E)
    (ha : PA X (e :: es) t) (hdb : (x == ("__debug__" : Str)) = false) (hcd : (x == ("__classdict__" : Str)) = false) (he : starEach (e :: es) X.env = (false, eval e X.env) :: starEach es X.env) (hpl : (backTo pos (starEach es X.env)).any (·.1) = false) :
    PE X (.Call (.Name x p) (e :: es) [] pos) (fun σ H Q => σ[i]? = some (some (.ref a)) ∧ tCall sp [] E t σ H Q) := by
  refine ⟨fun pins s σ H Q I h => ?_⟩
  refine wpAny_Call_Name_kw (thn ((pe_var (pos := p) hN hv hdb hcd).run pins s σ H (fun v H1 => v = .ref a ∧ H1 = H) I ⟨.ref a, h.1, rfl, rfl⟩) fun u s1 hu => ?_)
  obtain ⟨v, H1, I1, r, ev, eh⟩ := hu
  subst ev; subst eh
  cases r
  refine PySem.W.callWith_K (h₀ := X.base) I1.ok.mod.kin hk (thn (ha.run pos pins s1 σ H1 _ I1 h.2) fun us s2 ⟨vs, H2, I2, r, q⟩ => ⟨I2.kIn, ?_⟩) he hpl
  exact run_fn F hr hb .nil hx I2 r q
theorem d_callv (C : Ctx X G L bl) {n i : Nat} {a : Addr} (hF : FnA X G.cl L a n F) (hfv : G.fv = some (i, a)) (hN : X.N[i]? = some x) (hv : Vis X.env.scope x) (hdb : (x == ("__debug__" : Str)) = false) (hcd : (x == ("__classdict__" : Str)) = false) (ha : PA X (e :: es) (tArg G fs)) (hl : ∀ ρ ds, fs ρ = .ok ds → ds.length = n)
    (he : starEach (e :: es) X.env = (false, eval e X.env) :: starEach es X.env) (hpl : (backTo pos (starEach es X.env)).any (·.1) = false) : PE X (.Call (.Name x p) (e :: es) [] pos) (tS G (appE F fs)) := by
  obtain ⟨fd, ps, hf, hps, hk, hb⟩ := hF.ex
  refine pe_imp (pe_callv (i := i) hf C.room hN hv hk hb C.pass ha hdb hcd he hpl) fun σ H Q kf w => ?_
  have k0 := C.kf kf
  obtain ⟨O, ρ, R, q⟩ := w k0
  refine ⟨(R.dpa.2 i a hfv).2, fun k => ?_⟩
  refine ⟨O, ρ, R, q.bind.imp fun ds e q vs H1 s1 k1 a1 => ?_⟩
  show spD X.K G.cl n F (vs ++ []) H1 _ G.E
  rw [List.append_nil]
  refine ⟨by rw [a1.length]; exact hl ρ ds e, ds, O, fun a h => (R.same s1).trk a h, C.K ▸ a1, ?_⟩
  cases hF : F ds with
  | ok d => rw [hF] at q; exact fun v H' s2 k2 a2 => fun _ => q v H' (s1.trans s2) (C.K ▸ k2) (C.K ▸ a2)
  | exc c => rw [hF] at q; exact fun H' s2 => q H' ((R.base.trans s1).trans s2)
  | stuck => rw [hF] at q; exact q.elim
theorem pa_fns : ∀ (l : List (Str × Pos × Addr)), (∀ q ∈ l, Gl X q.1 ∧ X.mg q.1 = some (.ref q.2.2) ∧ (q.1 == ("__debug__" : Str)) = false) → PA X (l.map fun q => .Name q.1 q.2.1) (fun σ H Q => Q (l.map fun q => V.ref q.2.2) H)
  | [], _ => pa_imp pa_nil fun σ H Q _ h => fun _ => h
  | q :: l, hq => by
    obtain ⟨h1, h2, h3⟩ := hq q List.mem_cons_self
    exact pa_imp (pa_cons (pe_glob h1 h2 (v := .ref q.2.2) rfl h3) (pa_fns l fun r hr => hq r (List.mem_cons_of_mem _ hr)) rfl) fun σ H Q _ h => fun _ => h
def forFL (i : Nat) : List DS → DS
  | [], ρ => .ok (.nx, ρ)
  | b :: bs, ρ => if i < ρ.length then (do
    let r ← b (ρ.set i none)
    match r with
    | (.nx, ρ2) => forFL i bs ρ2
    | (.ct, ρ2) => forFL i bs ρ2
    | (.bk, ρ2) => .ok (.nx, ρ2)
    | (.rt d, ρ2) => .ok (.rt d, ρ2)) else .stuck
theorem Rep.wF {O : Addr → Prop} {σ : L2.St} {H : Hp} {ρ : Ro} {i : Nat} {a : Addr} (R : Rep G O σ H ρ) (hw : G.own i = true) (hd : G.dct i = true) (hi : i < σ.length) (h0 : G.fv = none) : Rep (G.wF i a) O (σ.set i (some (.ref a))) H (ρ.set i none) := by
  refine ⟨R.base, R.sub, R.trk, R.fre, by rw [List.length_set, List.length_set]; exact R.len, fun j e hj nj => ?_, fun j e hj nj => ?_, fun j k e e' b hjk nj nk hj hk h1 h2 => ?_, ⟨fun j b e => ?_, fun j b e => ?_⟩⟩
  · rcases set_at hj with ⟨rfl, e1, hl⟩ | ⟨ne, hj'⟩
    · cases e1
    · obtain ⟨u, e1, h1⟩ := R.slot j e hj' nj
      exact ⟨u, by rw [List.getElem?_set_ne ne]; exact e1, h1⟩
  · rcases set_at hj with ⟨rfl, e1, hl⟩ | ⟨ne, hj'⟩
    · cases e1
    · obtain ⟨b, e1, r⟩ := R.owns j e hj' nj
      exact ⟨b, by rw [List.getElem?_set_ne ne]; exact e1, r⟩
  · rcases set_at hj with ⟨_, e1, _⟩ | ⟨n1, hj'⟩
    · cases e1
    rcases set_at hk with ⟨_, e1, _⟩ | ⟨n2, hk'⟩
    · cases e1
    rw [List.getElem?_set_ne n1] at h1
    rw [List.getElem?_set_ne n2] at h2
    exact R.dist j k e e' b hjk nj nk hj' hk' h1 h2
  · obtain ⟨q1, q2, q3⟩ := R.dpa.1 j b e
    refine ⟨q1, q2, fun d hd => ?_⟩
    rcases set_at hd with ⟨_, e1, _⟩ | ⟨n1, hd'⟩
    · cases e1
    rw [List.getElem?_set_ne n1]
    exact q3 d hd'
  · have e' : some (i, a) = some (j, b) := e
    cases e'
    refine ⟨by show (G.own i && G.dct i) = true; rw [hw, hd]; rfl, List.getElem?_set_self hi⟩
theorem Rep.unF {O : Addr → Prop} {σ : L2.St} {H : Hp} {ρ : Ro} {i : Nat} {a : Addr} (R : Rep (G.wF i a) O σ H ρ) (h0 : G.fv = none) : Rep G O σ H ρ :=
  ⟨R.base, R.sub, R.trk, R.fre, R.len, R.slot, R.owns, R.dist, ⟨R.dpa.1, fun j b e => by rw [h0] at e; cases e⟩⟩
theorem s_forF (C : SCtx X G L bl) {A : List Stmt} {i k : Nat} {px p2 : Pos} {l : List (Str × Pos × Addr × DS)} (hi : X.N[i]? = some x) (hx : Loc X.env.scope x) (hw : G.own i = true) (hd : G.dct i = true) (h0 : G.fv = none) (hz : l.length ≤ 100)
    (hq : ∀ q ∈ l, Gl X q.1 ∧ X.mg q.1 = some (.ref q.2.2.1) ∧ (q.1 == ("__debug__" : Str)) = false) (hb : ∀ q ∈ l, PSs X A (tSS (G.wF i q.2.2.1) q.2.2.2)) :
    PS X (.For (.Name x px) (.Tuple (l.map fun q => .Name q.1 q.2.1) k p2) A [] pos) (tSS G (forFL i (l.map fun q => q.2.2.2))) := by
  have ha : PA X (l.map fun q => .Name q.1 q.2.1) (fun σ H Q => Q (l.map fun q => V.ref q.2.2.1) H) := by
    have := pa_fns (X := X) (l.map fun q => (q.1, q.2.1, q.2.2.1)) fun q hq' => by
      obtain ⟨r, hr, rfl⟩ := List.mem_map.mp hq'
      exact hq r hr
    rw [List.map_map, List.map_map] at this
    exact this
  have hbA : PSs X A (fun Dn σ H => ∃ q ∈ l, tSS (G.wF i q.2.2.1) q.2.2.2 Dn σ H) := ⟨fun pins s σ H Dn I ⟨q, hm, h⟩ => (hb q hm).run pins s σ H Dn I h⟩
  refine ps_imp (ps_for C.po C.calm (pi_tupB (pe_tupF ha)) (pg_name C.nd hi hx (.inl (C.fn x))) hbA (fun _ => rfl)) fun Dn σ H kf w => ?_
  have k0 := C.kf kf
  obtain ⟨O, ρ, R, q⟩ := w k0
  refine ⟨by rw [List.length_map, sizeLine_eq]; omega, fun n o hn hdn => ⟨n, _, rfl, .inl (.inr ⟨o, upd_same⟩), fun _ => ?_⟩⟩
  generalize hH1 : upd H n (fz o (l.map fun q => V.ref q.2.2.1)) = H1 at *
  have s1 : Same H H1 := by rw [← hH1]; exact same_upd hn
  have hT : SqT X.K H1 n (l.map fun q => V.ref q.2.2.1) := by rw [← hH1]; exact .inl (.inr ⟨o, upd_same⟩)
  have hnO : ¬ O n := fun z => by obtain ⟨o', e⟩ := R.trk n z; rw [hn] at e; cases e
  have R1 := R.same s1
  have q1 : PostS G O H1 (forFL i (l.map fun q => q.2.2.2) ρ) Dn := PostS.step q (.same s1)
  generalize hr : forFL i (l.map fun q => q.2.2.2) ρ = r at q1
  refine ⟨fun j m σ' H' => m = l.length - j ∧ j ≤ l.length ∧ ∃ O' ρ', Stp G.K O H1 O' H' ∧ Rep G O' σ' H' ρ' ∧ forFL i ((l.map fun q => q.2.2.2).drop j) ρ' = r, ⟨l.length, by simp, Nat.zero_le _, O, ρ, .same (Same.refl _), R1, by simpa using hr⟩, ?_⟩
  rintro j m σ' H' ⟨rfl, hjl, O', ρ', s', R', e'⟩
  have hT' : SqT X.K H' n (l.map fun q => V.ref q.2.2.1) := sqT_kp s'.1 hnO hT
  by_cases hlt : j < l.length
  · refine .inr ⟨⟨_, .ref l[j].2.2.1, hT', by rw [List.getElem?_map, List.getElem?_eq_getElem hlt]; rfl⟩, fun σ3 H3 => ∃ O3 ρ3, Stp G.K O H1 O3 H3 ∧ Rep G O3 σ3 H3 ρ3 ∧ forFL i ((l.map fun q => q.2.2.2).drop (j + 1)) ρ3 = r, fun σ3 H3 ⟨O3, ρ3, a1, a2, a3⟩ => ⟨l.length - (j + 1), by omega, rfl, hlt, O3, ρ3, a1, a2, a3⟩, fun x H2 hy => ?_⟩
    obtain ⟨rfl, hy2⟩ := hy
    have ex := hy2 _ hT'
    rw [List.getElem?_map, List.getElem?_eq_getElem hlt] at ex
    have ex : some (V.ref l[j].2.2.1) = some x := ex
    cases ex
    rw [List.drop_eq_getElem_cons (by rw [List.length_map]; exact hlt), List.getElem_map] at e'
    have e2 : (if i < ρ'.length then (l[j].2.2.2 (ρ'.set i none) >>= fun r => match r with
      | (.nx, ρ2) => forFL i ((l.map fun q => q.2.2.2).drop (j + 1)) ρ2
      | (.ct, ρ2) => forFL i ((l.map fun q => q.2.2.2).drop (j + 1)) ρ2
      | (.bk, ρ2) => .ok (.nx, ρ2)
      | (.rt d, ρ2) => .ok (.rt d, ρ2)) else .stuck) = r := e'
    by_cases hil0 : i < ρ'.length
    case neg => rw [if_neg hil0] at e2; rw [← e2] at q1; exact q1.elim
    rw [if_pos hil0] at e2
    have hil : i < σ'.length := by rw [← R'.len]; exact hil0
    refine ⟨l[j], List.getElem_mem hlt, fun k4 => ⟨O', ρ'.set i none, R'.wF hw hd hil h0, ?_⟩⟩
    have e3 : (l[j].2.2.2 (ρ'.set i none) >>= fun r => match r with
      | (.nx, ρ2) => forFL i ((l.map fun q => q.2.2.2).drop (j + 1)) ρ2
      | (.ct, ρ2) => forFL i ((l.map fun q => q.2.2.2).drop (j + 1)) ρ2
      | (.bk, ρ2) => .ok (.nx, ρ2)
      | (.rt d, ρ2) => .ok (.rt d, ρ2)) = r := e2
    cases hF : l[j].2.2.2 (ρ'.set i none) with
    | exc c => rw [hF] at e3; rw [← e3] at q1; exact q1
    | stuck => rw [hF] at e3; rw [← e3] at q1; exact q1.elim
    | ok rr =>
      rw [hF] at e3
      obtain ⟨fl, ρ2⟩ := rr
      cases fl with
      | nx => exact fun O5 σ5 H5 s5 R5 => ⟨O5, ρ2, s'.trans s5, R5.unF h0, e3⟩
      | ct => exact fun O5 σ5 H5 s5 R5 => ⟨O5, ρ2, s'.trans s5, R5.unF h0, e3⟩
      | bk => rw [← e3] at q1; exact fun O5 σ5 H5 s5 R5 => q1 O5 σ5 H5 (s'.trans s5) (R5.unF h0)
      | rt d => rw [← e3] at q1; exact q1
  · have e : j = l.length := by omega
    subst e
    refine .inl ⟨⟨_, hT', by simp⟩, ?_⟩
    rw [List.drop_eq_nil_of_le (by simp)] at e'
    rw [← e'] at q1
    exact q1 O' σ' H' s' R'
end
end Den
namespace Den
open PySem PySem.Spec PyProof.Rows L2
section
variable {X : Cx} {G : Gc} {L : Nat} {bl : List Str} {a b c e tg iter : Expr} {f g h : DE} {pos p p2 : Pos}
def slL (lo hi : Option Int) : D → Rs D
  | .list ds => .ok (.list (cutD ds lo hi))
  | _ => .stuck
theorem f_sl_core {O : Addr → Prop} {H : Hp} {x : V} {dx : D} {lo hi : Option Int} {Q : VK} {H0 : Hp} (C : Ctx X G L bl) (s : Same H0 H) (ax : AtC G.K H O dx x)
    (p : Post G H0 (slL lo hi dx) fun d => ∀ p ds vs H', d = .list ds → Same H0 H' → KF G.K H' → H0 p = none → H' p = some (.lst vs) → AtL G.K H' (fun a => O a ∨ a = p) ds vs → Q (.ref p) H') : rSlL X.K x lo hi H fun v H' => KF X.K H' → Q v H' := by
  unfold slL at p
  split at p
  · obtain ⟨a, vs, rfl, h1, h2⟩ := ax
    rw [C.K]
    refine ⟨a, vs, rfl, h1, fun q hq k' => ?_⟩
    exact p q _ _ _ rfl (s.trans (same_upd hq)) k' (s.free hq) upd_same (((atL_cut h2 lo hi).grow hq (kf_no k' upd_same)).same (same_upd hq))
  · exact p.elim
theorem f_slHi (C : Ctx X G L bl) (ha : PE X a (tW G f)) (hl : PE X b (tW G g)) : PE X (.Subscript a (.Slice none (some b) none p2) pos) (tF G fun ρ => do let x ← f ρ; let l ← g ρ; let i ← intD l; slL none (some i) x) := by
  refine pe_imp (pe_slice sl_list ha po_none (po_some hl)) fun σ H Q kf w => fun k0 => ?_
  obtain ⟨O, ρ, R, p⟩ := w k0
  refine ⟨O, ρ, R, p.bind.imp fun dx _ q x H1 s1 k1 ax => fun k1' => ?_⟩
  refine ⟨O, ρ, R.same s1, q.bind.imp fun dl _ q2 l H2 s2 k2 al => ?_⟩
  cases dl with
  | int i =>
    cases al
    exact ⟨i, rfl, f_sl_core C (s1.trans s2) (ax.same s2) q2⟩
  | _ => exact q2.elim
theorem f_slLo (C : Ctx X G L bl) (ha : PE X a (tW G f)) (hl : PE X b (tW G g)) : PE X (.Subscript a (.Slice (some b) none none p2) pos) (tF G fun ρ => do let x ← f ρ; let l ← g ρ; let i ← intD l; slL (some i) none x) := by
  refine pe_imp (pe_slice sl_list ha (po_some hl) po_none) fun σ H Q kf w => fun k0 => ?_
  obtain ⟨O, ρ, R, p⟩ := w k0
  refine ⟨O, ρ, R, p.bind.imp fun dx _ q x H1 s1 k1 ax => fun k1' => ?_⟩
  refine ⟨O, ρ, R.same s1, q.bind.imp fun dl _ q2 l H2 s2 k2 al => ?_⟩
  cases dl with
  | int i =>
    cases al
    exact ⟨i, rfl, f_sl_core C (s1.trans s2) (ax.same s2) q2⟩
  | _ => exact q2.elim
end
inductive Cst | non | bl (b : Bool) | int (i : Int) | str (x : Str)
deriving DecidableEq
def Cst.c : Cst → Const | .non => .none | .bl b => .bool b | .int i => .int i | .str x => .str x
def Cst.d : Cst → D | .non => .none | .bl b => .bool b | .int i => .int i | .str x => .str x
def Cst.v : Cst → V | .non => .non | .bl b => .bl b | .int i => .int i | .str x => .str x
inductive Bo | add | sub | mul | div | mod | pow | shl
def Bo.op : Bo → Operator | .add => .Add | .sub => .Sub | .mul => .Mult | .div => .FloorDiv | .mod => .Mod | .pow => .Pow | .shl => .LShift
def Bo.F : Bo → D → D → Rs D | .add => addD | .sub => subD | .mul => mulA | .div => divD | .mod => modD | .pow => powD | .shl => shlD
inductive Co | lt | le | gt | ge | eq | ne | isin | notin | is | isnot
def Co.op : Co → CmpOp | .lt => .Lt | .le => .LtE | .gt => .Gt | .ge => .GtE | .eq => .Eq | .ne => .NotEq | .isin => .In | .notin => .NotIn | .is => .Is | .isnot => .IsNot
def Co.F : Co → D → D → Rs D
  | .lt => ltD | .le => ordD fun i j => decide (i ≤ j) | .gt => ordD fun i j => decide (j < i) | .ge => ordD fun i j => decide (j ≤ i)
  | .eq => eqD | .ne => neD | .isin => inD false | .notin => inD true | .is => isD false | .isnot => isD true
inductive Pr | len | all | any | max | min | tuple | list | sorted
def Pr.nm : Pr → Str | .len => "len" | .all => "all" | .any => "any" | .max => "max" | .min => "min" | .tuple => "tuple" | .list => "list" | .sorted => "sorted"
def Pr.F : Pr → List D → Rs D | .len => lenD | .all => allD | .any => anyD | .max => maxA | .min => minA | .tuple => tupleD | .list => listD | .sorted => sortedA
inductive Tg
  | nm (i : Nat) (x : Str) (pos : Pos)
  | tp (items : List (Nat × Str × Pos)) (k : Nat) (pos : Pos)
def tgNames : List (Nat × Str × Pos) → List Expr
  | [] => []
  | (_, x, p) :: r => .Name x p :: tgNames r
def Tg.py : Tg → Expr
  | .nm _ x pos => .Name x pos
  | .tp items k pos => .Tuple (tgNames items) k pos
def Tg.st : Tg → STg
  | .nm i _ _ => setN i
  | .tp items _ _ => setT (items.map (·.1))
def Tg.is : Tg → List Nat
  | .nm i _ _ => [i]
  | .tp items _ _ => items.map (·.1)
mutual
inductive E where
  | cst (c : Cst) (k : Nat) (pos : Pos)
  | var (i : Nat) (x : Str) (pos : Pos)
  | glo (x : Str) (c : Cst) (pos : Pos)
  | bin (op : Bo) (a b : E) (pos : Pos)
  | lad (a b : E) (pos : Pos)
  | neg (a : E) (pos : Pos)
  | not (a : E) (pos : Pos)
  | cmp (op : Co) (a b : E) (pos : Pos)
  | chn (op op' : Co) (a b c : E) (pos : Pos)
  | and (a : E) (es : Es) (pos : Pos)
  | or (a : E) (es : Es) (pos : Pos)
  | ite (c a b : E) (pos : Pos)
  | ix (a i : E) (pos : Pos)
  | slo (a l : E) (p2 pos : Pos)
  | shi (a l : E) (p2 pos : Pos)
  | slh (a l h : E) (p2 pos : Pos)
  | lslo (a l : E) (p2 pos : Pos)
  | lshi (a l : E) (p2 pos : Pos)
  | tup (es : Es) (k : Nat) (pos : Pos)
  | lst (es : Es) (pos : Pos)
  | dct (pos : Pos)
  | rev (a : E) (k : Nat) (p1 p2 p3 pos : Pos)
  | idx (b : Bool) (a e : E) (apos cpos : Pos)
  | din (neg : Bool) (e : E) (i : Nat) (x : Str) (px pos : Pos)
  | dget (i : Nat) (x : Str) (px : Pos) (e : E) (pos : Pos)
  | dsrt (i : Nat) (x : Str) (px p pos : Pos)
  | mn (f : Nat) (x : Str) (p : Pos) (e : E) (es : Es) (pd pos : Pos)
  | call (f : Nat) (x : Str) (p : Pos) (e : E) (es : Es) (pos : Pos)
  | callw (f : Nat) (x : Str) (p : Pos) (e : E) (es : Es) (pos : Pos)
  | callv (f i : Nat) (x : Str) (p : Pos) (e : E) (es : Es) (pos : Pos)
  | srts (a : E) (p p2 q pos : Pos)
  | rep (es : Es) (p1 : Pos) (b : E) (pos : Pos)
  | ccall (js : List (Nat × Str × Pos)) (p1 : Pos) (b : E) (p2 : Pos) (e : E) (es : Es) (pos : Pos)
  | prim (q : Pr) (p : Pos) (e : E) (es : Es) (pos : Pos)
  | isi (T : Ty) (a : E) (p1 p2 pos : Pos)
  | lrng1 (a : E) (p p1 p2 pos : Pos)
  | trng1 (a : E) (p p1 p2 pos : Pos)
  | lrng2 (a b : E) (p p1 p2 pos : Pos)
  | comp (elt : E) (tg : Tg) (it : I) (ifs : Es) (scope : Scope) (own : List (Str × Nat)) (pos : Pos)
  | comp2 (elt : E) (tg : Tg) (it : I) (tg1 : Tg) (it1 : I) (ifs : Es) (scope : Scope) (own : List (Str × Nat)) (pos : Pos)
inductive Es where
  | nil
  | cons (e : E) (es : Es)
inductive I where
  | seq (e : E)
  | rng1 (a : E) (p pos : Pos)
  | rng2 (a b : E) (p pos : Pos)
  | enu (a : E) (p pos : Pos)
  | zip (a b : E) (p pos : Pos)
  | zipn (a b : E) (p pos : Pos)
end
mutual
def E.py : E → Expr
  | .cst c k pos => .Constant c.c k pos
  | .var _ x pos => .Name x pos
  | .glo x _ pos => .Name x pos
  | .bin op a b pos => .BinOp a.py op.op b.py pos
  | .lad a b pos => .BinOp a.py .Add b.py pos
  | .neg a pos => .UnaryOp .USub a.py pos
  | .not a pos => .UnaryOp .Not a.py pos
  | .cmp op a b pos => .Compare a.py [op.op] [b.py] pos
  | .chn op op' a b c pos => .Compare a.py [op.op, op'.op] [b.py, c.py] pos
  | .and a es pos => .BoolOp .And (a.py :: es.py) pos
  | .or a es pos => .BoolOp .Or (a.py :: es.py) pos
  | .ite c a b pos => .IfExp c.py a.py b.py pos
  | .ix a i pos => .Subscript a.py i.py pos
  | .slo a l p2 pos => .Subscript a.py (.Slice (some l.py) none none p2) pos
  | .shi a l p2 pos => .Subscript a.py (.Slice none (some l.py) none p2) pos
  | .slh a l h p2 pos => .Subscript a.py (.Slice (some l.py) (some h.py) none p2) pos
  | .lslo a l p2 pos => .Subscript a.py (.Slice (some l.py) none none p2) pos
  | .lshi a l p2 pos => .Subscript a.py (.Slice none (some l.py) none p2) pos
  | .tup es k pos => .Tuple es.py k pos
  | .lst es pos => .List es.py pos
  | .dct pos => .Dict [] [] pos
  | .rev a k p1 p2 p3 pos => .Subscript a.py (.Slice none none (some (.UnaryOp .USub (.Constant (.int 1) k p1) p2)) p3) pos
  | .idx _ a e apos cpos => .Call (.Attribute a.py "index" apos) [e.py] [] cpos
  | .din neg e _ x px pos => .Compare e.py [if neg then .NotIn else .In] [.Name x px] pos
  | .dget _ x px e pos => .Subscript (.Name x px) e.py pos
  | .dsrt _ x px p pos => .Call (.Name "sorted" p) [.Name x px] [] pos
  | .mn _ x p e es pd pos => .Call (.Name x p) (e.py :: es.pyL (.Dict [] [] pd)) [] pos
  | .call _ x p e es pos => .Call (.Name x p) (e.py :: es.py) [] pos
  | .callw _ x p e es pos => .Call (.Name x p) (e.py :: es.py) [] pos
  | .callv _ _ x p e es pos => .Call (.Name x p) (e.py :: es.py) [] pos
  | .srts a p p2 q pos => .Call (.Name "sorted" p) [.Call (.Name "set" p2) [a.py] [] q] [] pos
  | .rep es p1 b pos => .BinOp (.List es.py p1) .Mult b.py pos
  | .ccall js p1 b p2 e es pos => .Call (.Subscript (.List (namesE js) p1) b.py p2) (e.py :: es.py) [] pos
  | .prim q p e es pos => .Call (.Name q.nm p) (e.py :: es.py) [] pos
  | .isi T a p1 p2 pos => .Call (.Name "isinstance" p1) [a.py, .Name (Str.ofString T.nm) p2] [] pos
  | .lrng1 a p p1 p2 pos => .Call (.Name "list" p) [.Call (.Name "range" p1) [a.py] [] p2] [] pos
  | .trng1 a p p1 p2 pos => .Call (.Name "tuple" p) [.Call (.Name "range" p1) [a.py] [] p2] [] pos
  | .lrng2 a b p p1 p2 pos => .Call (.Name "list" p) [.Call (.Name "range" p1) [a.py, b.py] [] p2] [] pos
  | .comp elt tg it ifs scope _ pos => .ListComp elt.py [⟨tg.py, it.py, ifs.py, 0⟩] scope pos
  | .comp2 elt tg it tg1 it1 ifs scope _ pos => .ListComp elt.py [⟨tg.py, it.py, [], 0⟩, ⟨tg1.py, it1.py, ifs.py, 0⟩] scope pos
def Es.py : Es → List Expr
  | .nil => []
  | .cons e es => e.py :: es.py
def Es.pyL : Es → Expr → List Expr
  | .nil, l => [l]
  | .cons e es, l => e.py :: es.pyL l
def I.py : I → Expr
  | .seq e => e.py
  | .rng1 a p pos => .Call (.Name "range" p) [a.py] [] pos
  | .rng2 a b p pos => .Call (.Name "range" p) [a.py, b.py] [] pos
  | .enu a p pos => .Call (.Name "enumerate" p) [a.py] [] pos
  | .zip a b p pos => .Call (.Name "zip" p) [a.py, b.py] [] pos
  | .zipn a b p pos => .Call (.Name "zip" p) [a.py, b.py] [] pos
end
def Es.len : Es → Nat
  | .nil => 0
  | .cons _ es => es.len + 1
abbrev Tb := Nat → List D → Rs D
def bi (F : D → D → Rs D) (f g : DE) : DE := fun ρ => do let x ← f ρ; let y ← g ρ; F x y
mutual
def E.den (ft : Tb) : E → DE
  | .cst c _ _ => fun _ => .ok c.d
  | .var i _ _ => vaR i
  | .glo _ c _ => fun _ => .ok c.d
  | .bin op a b _ => bi op.F (a.den ft) (b.den ft)
  | .lad a b _ => bi addL (a.den ft) (b.den ft)
  | .neg a _ => fun ρ => do let x ← a.den ft ρ; negD x
  | .not a _ => notE (a.den ft)
  | .cmp op a b _ => bi op.F (a.den ft) (b.den ft)
  | .chn op op' a b c _ => chnE op.F op'.F (a.den ft) (b.den ft) (c.den ft)
  | .and a es _ => es.andD ft (a.den ft)
  | .or a es _ => es.orD ft (a.den ft)
  | .ite c a b _ => iteE (c.den ft) (a.den ft) (b.den ft)
  | .ix a i _ => bi ixD (a.den ft) (i.den ft)
  | .slo a l _ _ => fun ρ => do let x ← a.den ft ρ; let l ← l.den ft ρ; let i ← intD l; slD (some i) none x
  | .shi a l _ _ => fun ρ => do let x ← a.den ft ρ; let l ← l.den ft ρ; let i ← intD l; slD none (some i) x
  | .slh a l h _ _ => fun ρ => do let x ← a.den ft ρ; let l ← l.den ft ρ; let i ← intD l; let u ← h.den ft ρ; let j ← intD u; slD (some i) (some j) x
  | .lslo a l _ _ => fun ρ => do let x ← a.den ft ρ; let l ← l.den ft ρ; let i ← intD l; slL (some i) none x
  | .lshi a l _ _ => fun ρ => do let x ← a.den ft ρ; let l ← l.den ft ρ; let i ← intD l; slL none (some i) x
  | .tup es _ _ => tupA (es.den ft)
  | .lst es _ => lstA (es.den ft)
  | .dct _ => fun _ => .ok (.dict [])
  | .rev a _ _ _ _ _ => fun ρ => do let x ← a.den ft ρ; revD x
  | .idx b a e _ _ => idxE b (a.den ft) (e.den ft)
  | .din neg e i _ _ _ => dinE neg (e.den ft) i
  | .dget i _ _ e _ => dgetE (e.den ft) i
  | .dsrt i _ _ _ _ => dsrtE i
  | .mn f _ _ e es _ _ => mnE (ft f) (consArg (e.den ft) (es.den ft))
  | .call f _ _ e es _ => appE (ft f) (consArg (e.den ft) (es.den ft))
  | .callw f _ _ e es _ => scE (ft f) (consArg (e.den ft) (es.den ft))
  | .callv f _ _ _ e es _ => appE (ft f) (consArg (e.den ft) (es.den ft))
  | .srts a _ _ _ _ => fun ρ => do let x ← a.den ft ρ; srtD x
  | .rep es _ b _ => fun ρ => do let ds ← es.den ft ρ; let d ← b.den ft ρ; let k ← intD d; repL ds k
  | .ccall js _ b _ e es _ => ccD (es.len + 1) ft (js.map (·.1)) (b.den ft) (consArg (e.den ft) (es.den ft))
  | .prim q _ e es _ => appE q.F (consArg (e.den ft) (es.den ft))
  | .isi T a _ _ _ => isiE T (a.den ft)
  | .lrng1 a _ _ _ _ => lstI (rng1 (a.den ft))
  | .trng1 a _ _ _ _ => tupI (rng1 (a.den ft))
  | .lrng2 a b _ _ _ _ => lstI (rng2 (a.den ft) (b.den ft))
  | .comp elt tg it ifs _ own _ => compE (own.map (·.2)) (it.den ft) tg.st (ifs.tst ft) (elt.den ft)
  | .comp2 elt tg it tg1 it1 ifs _ own _ => compE2 (own.map (·.2)) (it.den ft) tg.st (it1.den ft) tg1.st (ifs.tst ft) (elt.den ft) tg1.is
def Es.den (ft : Tb) : Es → Ro → Rs (List D)
  | .nil => noArg
  | .cons e es => consArg (e.den ft) (es.den ft)
def Es.andD (ft : Tb) : Es → DE → DE
  | .nil, f => f
  | .cons e es, f => andE f (es.andD ft (e.den ft))
def Es.orD (ft : Tb) : Es → DE → DE
  | .nil, f => f
  | .cons e es, f => orE f (es.orD ft (e.den ft))
def Es.tst (ft : Tb) : Es → Ro → Rs Bool
  | .nil => fun _ => .ok true
  | .cons e _ => tstE (e.den ft)
def I.den (ft : Tb) : I → DI
  | .seq e => seqE (e.den ft)
  | .rng1 a _ _ => Den.rng1 (a.den ft)
  | .rng2 a b _ _ => Den.rng2 (a.den ft) (b.den ft)
  | .enu a _ _ => enuE (a.den ft)
  | .zip a b _ _ => zipE (consArg (a.den ft) (consArg (b.den ft) noArg))
  | .zipn a b _ _ => zipNE (consArg (a.den ft) (consArg (b.den ft) noArg))
end
structure Sg where
  N : List Str
  own : Nat → Bool
  gl : List (Str × Cst)
  fn : List (Str × Nat)
  bl : List Str
  dct : Nat → Bool
  dp : Option Nat
def Sg.isF (S : Sg) (x : Str) : Bool := S.fn.any fun p => p.1 == x && decide (3000 ≤ p.2)
def visB (sc : Scope) (x : Str) : Bool := match sc.names.lookup x with
  | some .local => true
  | some .cell => true
  | some .free => true
  | _ => false
def glB (sc : Scope) (x : Str) : Bool := decide (sc.names.lookup x = some .globalImplicit)
def dbB (x : Str) : Bool := (!(x == ("__debug__" : Str))) && !(x == ("__classdict__" : Str))
def varB (S : Sg) (sc : Scope) (i : Nat) (x : Str) : Bool := decide (S.N[i]? = some x) && visB sc x && dbB x && !S.dct i
def dvB (S : Sg) (sc : Scope) (i : Nat) (x : Str) : Bool := decide (S.N[i]? = some x) && visB sc x && dbB x && S.own i && S.dct i
def blB (S : Sg) (sc : Scope) (x : Str) : Bool := glB sc x && decide (x ∈ S.bl)
def locB (S : Sg) (sc : Scope) (bs : Option Scope) (i : Nat) (x : Str) : Bool := decide (S.N[i]? = some x) && !S.own i && (match sc.names.lookup x with
  | some .local => true
  | some .cell => match bs with
    | some b => decide (b.names.lookup x = some .cell)
    | none => true
  | _ => false)
def blkD (S : Sg) (sc scope : Scope) (own : List (Str × Nat)) : Bool := blkC S.N sc scope own && own.all fun p => !(S.own p.2 && S.dct p.2)
def tgB (S : Sg) (sc : Scope) (bs : Option Scope) : Tg → Bool
  | .nm i x _ => locB S sc bs i x
  | .tp items _ _ => items.all fun p => locB S sc bs p.1 p.2.1
def E.str (S : Sg) : E → Bool
  | .var i _ _ => !S.own i
  | _ => true
def E.fr : E → Bool
  | .rep .. | .lad .. | .lslo .. | .lshi .. | .lst .. | .lrng1 .. | .lrng2 .. | .comp .. | .comp2 .. => true
  | _ => false
def E.dnew : E → Bool
  | .dct _ => true
  | _ => false
def E.tstB : E → Bool
  | .ite .. => false
  | _ => true
def Es.tsts : Es → Bool
  | .nil => true
  | .cons e es => e.tstB && es.tsts
def Es.strs (S : Sg) : Es → Bool
  | .nil => true
  | .cons e es => e.str S && es.strs S
def I.strI (S : Sg) : I → Bool
  | .seq e => e.str S
  | _ => true
def Es.one : Es → Bool
  | .nil => true
  | .cons e .nil => e.tstB
  | _ => false
def I.full : I → Bool
  | .enu .. => false
  | .zip .. => false
  | _ => true
def I.tgB : I → Tg → Bool
  | .enu .., .nm .. => false
  | .zip .., .nm .. => false
  | .zipn .., .tp .. => false
  | _, _ => true
mutual
def E.ok (S : Sg) (sc : Scope) : E → Bool
  | .cst .. => true
  | .var i x _ => varB S sc i x
  | .glo x c _ => glB sc x && decide ((x, c) ∈ S.gl) && dbB x
  | .bin _ a b _ => a.ok S sc && b.ok S sc
  | .lad a b _ => a.ok S sc && b.ok S sc
  | .neg a _ => a.ok S sc
  | .not a _ => a.ok S sc && a.tstB
  | .cmp _ a b _ => a.ok S sc && b.ok S sc
  | .chn _ _ a b c _ => a.ok S sc && b.ok S sc && c.ok S sc
  | .and a es _ => a.ok S sc && es.ok S sc && a.str S && a.tstB && es.strs S && es.tsts
  | .or a es _ => a.ok S sc && es.ok S sc && a.str S && a.tstB && es.strs S && es.tsts
  | .ite c a b _ => c.ok S sc && a.ok S sc && b.ok S sc && c.tstB && a.str S && b.str S
  | .ix a i _ => a.ok S sc && i.ok S sc
  | .slo a l _ _ => a.ok S sc && l.ok S sc
  | .shi a l _ _ => a.ok S sc && l.ok S sc
  | .slh a l h _ _ => a.ok S sc && l.ok S sc && h.ok S sc
  | .lslo a l _ _ => a.ok S sc && l.ok S sc
  | .lshi a l _ _ => a.ok S sc && l.ok S sc
  | .tup es _ _ => es.ok S sc && es.strs S && decide (es.len ≤ 1000)
  | .lst es _ => es.ok S sc && es.strs S && decide (es.len ≤ 1000)
  | .dct _ => false
  | .rev a _ _ _ _ _ => a.ok S sc
  | .idx _ a e apos cpos => a.ok S sc && e.ok S sc && (apos.endLine == cpos.line)
  | .din _ e i x _ _ => e.ok S sc && e.str S && dvB S sc i x
  | .dget i x _ e _ => e.ok S sc && e.str S && dvB S sc i x
  | .dsrt i x _ _ _ => dvB S sc i x && blB S sc "sorted"
  | .mn f x _ e es _ _ => e.ok S sc && es.ok S sc && e.str S && es.strs S && glB sc x && dbB x && decide (S.fn[f]? = some (x, 1000 + (es.len + 1))) && decide (es.len + 1 < 1000)
  | .call f x _ e es _ => e.ok S sc && es.ok S sc && e.str S && es.strs S && glB sc x && dbB x && decide (es.len < 900) && decide (S.fn[f]? = some (x, es.len + 1))
  | .callv f i x _ e es _ => e.ok S sc && es.ok S sc && e.str S && es.strs S && decide (S.N[i]? = some x) && visB sc x && dbB x && decide (S.fn[f]? = some (x, 3000 + (es.len + 1))) && decide (S.N.Nodup)
  | .callw f x _ e es _ => e.ok S sc && es.ok S sc && glB sc x && dbB x && decide (es.len < 900) && decide (S.fn[f]? = some (x, es.len + 1))
  | .srts a _ _ _ _ => a.ok S sc && blB S sc "sorted" && blB S sc "set"
  | .rep es _ b _ => es.ok S sc && es.strs S && decide (es.len ≤ 1000) && b.ok S sc
  | .ccall js _ b _ e es _ => b.ok S sc && e.ok S sc && es.ok S sc && e.str S && es.strs S && decide (js.length ≤ 100) && decide (es.len < 900) && js.all fun p => decide (S.fn[p.1]? = some (p.2.1, es.len + 1)) && glB sc p.2.1 && dbB p.2.1
  | .prim q _ e es _ => e.ok S sc && es.ok S sc && blB S sc q.nm
  | .isi T a _ _ _ => a.ok S sc && blB S sc "isinstance" && blB S sc (Str.ofString T.nm)
  | .lrng1 a _ _ _ _ => a.ok S sc && blB S sc "list" && blB S sc "range"
  | .trng1 a _ _ _ _ => a.ok S sc && blB S sc "tuple" && blB S sc "range"
  | .lrng2 a b _ _ _ _ => a.ok S sc && b.ok S sc && blB S sc "list" && blB S sc "range"
  | .comp elt tg it ifs scope own _ => it.tgB tg && it.ok S sc && blkD S sc scope own && tgB S (relS scope sc) (some scope) tg && decide (∀ i ∈ tg.is, i ∈ own.map (·.2)) && ifs.ok S (relS scope sc) && ifs.one && elt.ok S (relS scope sc) && elt.str S
  | .comp2 elt tg it tg1 it1 ifs scope own _ => it.tgB tg && it1.tgB tg1 && it.ok S sc && blkD S sc scope own && tgB S (relS scope sc) (some scope) tg && decide (∀ i ∈ tg.is, i ∈ own.map (·.2)) && it1.ok S (relS scope sc) && it1.strI S && tgB S (relS scope sc) (some scope) tg1 && decide (∀ i ∈ tg1.is, i ∈ own.map (·.2)) && ifs.ok S (relS scope sc) && ifs.one && elt.ok S (relS scope sc) && elt.str S
def Es.ok (S : Sg) (sc : Scope) : Es → Bool
  | .nil => true
  | .cons e es => e.ok S sc && es.ok S sc
def I.ok (S : Sg) (sc : Scope) : I → Bool
  | .seq e => e.ok S sc
  | .rng1 a _ _ => a.ok S sc && blB S sc "range"
  | .rng2 a b _ _ => a.ok S sc && b.ok S sc && blB S sc "range"
  | .enu a _ _ => a.ok S sc && blB S sc "enumerate" && a.str S
  | .zip a b _ _ => a.ok S sc && b.ok S sc && a.str S && b.str S && blB S sc "zip"
  | .zipn a b _ _ => a.ok S sc && b.ok S sc && a.str S && b.str S && blB S sc "zip"
end
inductive EX where
  | mc (f : Nat) (x : Str) (p : Pos) (e : E) (es : Es) (i : Nat) (y : Str) (py pos : Pos)
  | binR (op : Bo) (a : E) (b : EX) (pos : Pos)
  | binL (op : Bo) (a : EX) (b : E) (pos : Pos)
  | call (f : Nat) (x : Str) (p : Pos) (e : E) (es : Es) (l : EX) (pos : Pos)
def EX.py : EX → Expr
  | .mc _ x p e es _ y py pos => .Call (.Name x p) (e.py :: es.pyL (.Name y py)) [] pos
  | .binR op a b pos => .BinOp a.py op.op b.py pos
  | .binL op a b pos => .BinOp a.py op.op b.py pos
  | .call _ x p e es l pos => .Call (.Name x p) (e.py :: es.pyL l.py) [] pos
def axD (ft : Tb) (l : DX) : Es → Ro → Rs (List D × Ro)
  | .nil => lastAX l
  | .cons e es => consAX (e.den ft) (axD ft l es)
def EX.den (ft : Tb) : EX → DX
  | .mc f _ _ e es i _ _ _ => mcX (ft f) (consArg (e.den ft) (es.den ft)) i
  | .binR op a b _ => binRX op.F (a.den ft) (b.den ft)
  | .binL op a b _ => binLX op.F (a.den ft) (b.den ft)
  | .call f _ _ e es l _ => appX (ft f) (axD ft (l.den ft) (.cons e es))
def EX.ok (S : Sg) (sc : Scope) : EX → Bool
  | .mc f x _ e es i y _ _ => e.ok S sc && es.ok S sc && e.str S && es.strs S && glB sc x && dbB x && dvB S sc i y && decide (S.fn[f]? = some (x, 1000 + (es.len + 1))) && decide (es.len + 1 < 1000)
  | .binR _ a b _ => a.ok S sc && a.str S && b.ok S sc
  | .binL _ a b _ => a.ok S sc && b.ok S sc && b.str S
  | .call f x _ e es l _ => e.ok S sc && es.ok S sc && e.str S && es.strs S && glB sc x && dbB x && decide (es.len < 900) && l.ok S sc && decide (S.fn[f]? = some (x, es.len + 2))
end Den
namespace Den
open PySem PySem.Spec PyProof.Rows L2
theorem star1 (e : E) (es : List Expr) (env : Env) : starEach (e.py :: es) env = (false, eval e.py env) :: starEach es env := by cases e <;> rfl
theorem star_no (pos : Pos) (env : Env) : ∀ es : Es, (backTo pos (starEach es.py env)).any (·.1) = false
  | .nil => rfl
  | .cons e es => by
    show (backTo pos (starEach (e.py :: es.py) env)).any _ = false
    rw [star1]
    exact star_no pos env es
theorem starL {l : Expr} {env : Env} (hl : starEach [l] env = (false, eval l env) :: starEach [] env) (pos : Pos) : ∀ es : Es, (backTo pos (starEach (es.pyL l) env)).any (·.1) = false
  | .nil => by
    show (backTo pos (starEach [l] env)).any _ = false
    rw [hl]; rfl
  | .cons e es => by
    show (backTo pos (starEach (e.py :: es.pyL l) env)).any _ = false
    rw [star1]
    exact starL hl pos es
theorem base1 (e : E) (a : Str) (env : Env) : attributeBase e.py a env (eval e.py env) = eval e.py env := by cases e <;> rfl
theorem nosl1 (e : E) : NoSl e.py := by
  cases e <;> first | exact fun _ _ => rfl | skip
  all_goals (rename_i c k pos; cases c <;> exact fun _ _ => rfl)
theorem plain1 (e : E) : PlainIx e.py := by
  cases e <;> first | exact fun _ _ => rfl | skip
  all_goals (rename_i c k pos; cases c <;> exact fun _ _ => rfl)
theorem marks1 (op : CmpOp) (e : E) : behindInMarks op e.py = false := by cases e <;> rfl
theorem lastm2 (op op' : CmpOp) (b c : E) : lastMarks [op, op'] [b.py, c.py] = false := by
  show behindInMarks op' c.py = false
  exact marks1 _ _
theorem fold1 (it : I) (env : Env) (x : Value) : foldedSetIterable it.py env x = pure x := by
  cases it with
  | seq e => cases e <;> rfl
  | _ => rfl
structure Env1 (X : Cx) (G : Gc) (L : Nat) (S : Sg) (ft : Tb) (sc : Scope) : Prop where
  C : Ctx X G L S.bl
  N : X.N = S.N
  sc : X.env.scope = sc
  own : G.own = S.own
  dct : G.dct = S.dct
  dp : S.dp = G.dp.map (·.1)
  gl : ∀ p ∈ S.gl, ∃ u, X.mg p.1 = some u ∧ RelV p.2.v u
  fn : ∀ f x n, S.fn[f]? = some (x, n) → n < 1000 → FnD X G.cl L x n (ft f)
  fm : ∀ f x n, S.fn[f]? = some (x, 1000 + n) → n < 1000 → FnM X G.cl L x n (ft f)
  fv : ∀ i a, G.fv = some (i, a) → ∃ x, X.N[i]? = some x ∧ S.isF x = true
  fa : ∀ f x n, S.fn[f]? = some (x, 3000 + n) → ∃ i a, X.N[i]? = some x ∧ G.fv = some (i, a) ∧ FnA X G.cl L a n (ft f)
section
variable {X : Cx} {G : Gc} {L : Nat} {S : Sg} {ft : Tb} {sc : Scope}
theorem Env1.vis (V : Env1 X G L S ft sc) {i : Nat} {x : Str} (h : varB S sc i x = true) : X.N[i]? = some x ∧ Vis X.env.scope x ∧ (x == ("__debug__" : Str)) = false ∧ (x == ("__classdict__" : Str)) = false ∧ G.dct i = false := by
  unfold varB dbB at h
  simp only [Bool.and_eq_true, decide_eq_true_eq, Bool.not_eq_true'] at h
  obtain ⟨⟨⟨h1, h2⟩, h3, h4⟩, h5⟩ := h
  refine ⟨by rw [V.N]; exact h1, ?_, h3, h4, by rw [V.dct]; exact h5⟩
  rw [V.sc]
  unfold visB at h2
  split at h2 <;> first | exact .inl (by assumption) | exact .inr (.inl (by assumption)) | exact .inr (.inr (by assumption)) | cases h2
theorem Env1.vis_of (V : Env1 X G L S ft sc) {x : Str} (h2 : visB sc x = true) : Vis X.env.scope x := by
  rw [V.sc]
  unfold visB at h2
  split at h2 <;> first | exact .inl (by assumption) | exact .inr (.inl (by assumption)) | exact .inr (.inr (by assumption)) | cases h2
theorem nodup_ix {α : Type} {l : List α} (nd : l.Nodup) {i j : Nat} {x : α} (h1 : l[i]? = some x) (h2 : l[j]? = some x) : i = j := by
  obtain ⟨a1, b1⟩ := List.getElem?_eq_some_iff.mp h1
  obtain ⟨a2, b2⟩ := List.getElem?_eq_some_iff.mp h2
  exact (List.getElem_inj nd).mp (b1.trans b2.symm)
theorem Env1.ndp (V : Env1 X G L S ft sc) {i : Nat} (h : S.dp ≠ some i ∧ ∀ x, S.N[i]? = some x → S.isF x = false) : ∀ a, G.dp ≠ some (i, a) ∧ G.fv ≠ some (i, a) := fun a => ⟨fun e => by
  have h := h.1
  rw [V.dp, e] at h
  exact h rfl, fun e => by
  obtain ⟨x, e1, e2⟩ := V.fv i a e
  rw [V.N] at e1
  rw [h.2 x e1] at e2
  cases e2⟩
theorem Env1.ndv (V : Env1 X G L S ft sc) {scope : Scope} {own : List (Str × Nat)} (h : blkD S sc scope own = true) : blkC S.N sc scope own = true ∧ G.ndv (own.map (·.2)) := by
  unfold blkD at h
  rw [Bool.and_eq_true, List.all_eq_true] at h
  refine ⟨h.1, fun i hi => ?_⟩
  obtain ⟨p, hp, rfl⟩ := List.mem_map.mp hi
  have := h.2 p hp
  rw [V.own, V.dct]
  cases h1 : S.own p.2 <;> cases h2 : S.dct p.2 <;> simp_all
theorem Env1.dv (V : Env1 X G L S ft sc) {i : Nat} {x : Str} (h : dvB S sc i x = true) : X.N[i]? = some x ∧ Vis X.env.scope x ∧ (x == ("__debug__" : Str)) = false ∧ (x == ("__classdict__" : Str)) = false ∧ G.own i = true ∧ G.dct i = true := by
  unfold dvB dbB at h
  simp only [Bool.and_eq_true, decide_eq_true_eq, Bool.not_eq_true'] at h
  obtain ⟨⟨⟨⟨h1, h2⟩, h3, h4⟩, h5⟩, h6⟩ := h
  refine ⟨by rw [V.N]; exact h1, ?_, h3, h4, by rw [V.own]; exact h5, by rw [V.dct]; exact h6⟩
  rw [V.sc]
  unfold visB at h2
  split at h2 <;> first | exact .inl (by assumption) | exact .inr (.inl (by assumption)) | exact .inr (.inr (by assumption)) | cases h2
theorem Env1.glob (V : Env1 X G L S ft sc) {x : Str} (h : glB sc x = true) : Gl X x := by
  unfold glB at h
  rw [decide_eq_true_eq] at h
  show X.env.scope.names.lookup x = _
  rw [V.sc]; exact h
theorem Env1.blt (V : Env1 X G L S ft sc) {x : Str} (h : blB S sc x = true) : Gl X x ∧ x ∈ S.bl := by
  unfold blB at h
  rw [Bool.and_eq_true, decide_eq_true_eq] at h
  exact ⟨V.glob h.1, h.2⟩
theorem dbB_iff {x : Str} (h : dbB x = true) : (x == ("__debug__" : Str)) = false := by
  unfold dbB at h
  simp only [Bool.and_eq_true, Bool.not_eq_true'] at h
  exact h.1
theorem bo_ok (C : Ctx X G L bl) (op : Bo) : ∃ r, OpR X (binaryOp op.op) r ∧ Says G r op.F := by
  cases op
  · exact ⟨_, C.K ▸ op_addD, says_add⟩
  · exact ⟨_, op_sub, says_sub⟩
  · exact ⟨_, C.K ▸ op_mulA, says_mulA⟩
  · exact ⟨_, op_fdivW, says_div⟩
  · exact ⟨_, op_mod, says_mod⟩
  · exact ⟨_, op_pow, says_pow⟩
  · exact ⟨_, op_shl, says_shl⟩
theorem co_ok (C : Ctx X G L bl) (op : Co) : ∃ r, OpR X (compareOp op.op) r ∧ Says G r op.F := by
  cases op
  · exact ⟨_, C.K ▸ op_ltD (by have := C.hu0; omega), says_lt⟩
  · exact ⟨_, op_le, says_ord _⟩
  · exact ⟨_, op_gt, says_ord _⟩
  · exact ⟨_, op_ge, says_ord _⟩
  · exact ⟨_, C.K ▸ op_eqD C.hu0, says_eq⟩
  · exact ⟨_, C.K ▸ op_neD C.hu0, says_ne⟩
  · exact ⟨_, C.K ▸ op_inA C.hu, says_in⟩
  · exact ⟨_, C.K ▸ op_notInA C.hu, says_notIn⟩
  · exact ⟨_, op_isA, says_is⟩
  · exact ⟨_, op_notA, says_notIs⟩
structure SndE (X : Cx) (G : Gc) (S : Sg) (ft : Tb) (e : E) : Prop where
  w : PE X e.py (tW G (e.den ft))
  s : e.str S = true → PE X e.py (tS G (e.den ft))
  f : e.fr = true → PE X e.py (tF G (e.den ft)) ∧ ∀ ρ d, e.den ft ρ = .ok d → ∃ ds, d = .list ds
  t : e.tstB = true → PT X e.py (tTst G (tstE (e.den ft)))
structure SndEs (X : Cx) (G : Gc) (S : Sg) (ft : Tb) (es : Es) : Prop where
  w : PA X es.py (tArgW G (es.den ft))
  s : es.strs S = true → PA X es.py (tArg G (es.den ft))
structure SndI (X : Cx) (G : Gc) (S : Sg) (ft : Tb) (it : I) : Prop where
  w : ∀ tg : Tg, it.tgB tg = true → PI X tg.py it.py (tIt G true it.full (it.den ft))
  s : it.strI S = true → ∀ tg : Tg, it.tgB tg = true → PI X tg.py it.py (tIt G false it.full (it.den ft))
theorem es_len : ∀ (es : Es) (ρ : Ro) (ds : List D), es.den ft ρ = .ok ds → ds.length = es.len
  | .nil, ρ, ds, h => by cases h; rfl
  | .cons e es, ρ, ds, h => by
    change (e.den ft ρ >>= fun d => es.den ft ρ >>= fun ds => .ok (d :: ds)) = _ at h
    cases h1 : e.den ft ρ with
    | ok d =>
      rw [h1] at h
      cases h2 : es.den ft ρ with
      | ok r =>
        rw [Rs.ok_bind, h2] at h
        cases h
        simp [Es.len, es_len es ρ r h2]
      | exc c => rw [Rs.ok_bind, h2] at h; cases h
      | stuck => rw [Rs.ok_bind, h2] at h; cases h
    | exc c => rw [h1] at h; cases h
    | stuck => rw [h1] at h; cases h
theorem bind_ok {α β : Type} {r : Rs α} {f : α → Rs β} {b : β} (h : (r >>= f) = .ok b) : ∃ a, r = .ok a ∧ f a = .ok b := by
  cases r with
  | ok a => exact ⟨a, rfl, h⟩
  | exc c => cases h
  | stuck => cases h
theorem Walk.less {K : W.Frag} {b : Bool} {M M' O : Addr → Prop} {J : It} {H0 : Hp} {ds : List D} (w : Walk K b M O J H0 ds) (h : ∀ a, M' a → M a) : Walk K b M' O J H0 ds :=
  ⟨w.len, fun i d H e k => w.go i d H e fun b o e n => k b o e fun z => n (h b z), fun H k => w.stop H fun b o e n => k b o e fun z => n (h b z)⟩
theorem i_less {tg iter : Expr} {b : Bool} {fi : DI} (h : PI X tg iter (tIt G false b fi)) : PI X tg iter (tIt G true b fi) := pi_imp h fun σ H R _ w k => by
  obtain ⟨O, ρ, R0, p⟩ := w k
  exact ⟨O, ρ, R0, p.imp fun ds _ q J H' s k' wk => fun _ => q J H' s k' (wk.less fun _ z => z.elim)⟩
theorem snd_s {e : E} (hs : PE X e.py (tS G (e.den ft))) (hf : e.fr = false) (ht : PE X e.py (tW G (e.den ft)) → e.tstB = true → PT X e.py (tTst G (tstE (e.den ft)))) : SndE X G S ft e :=
  ⟨strong_weak hs, fun _ => hs, fun h => (by rw [hf] at h; cases h), ht (strong_weak hs)⟩
theorem snd_f {e : E} (C : Ctx X G L bl) (hf : PE X e.py (tF G (e.den ft))) (hl : ∀ ρ d, e.den ft ρ = .ok d → ∃ ds, d = .list ds) (ht : PE X e.py (tW G (e.den ft)) → e.tstB = true → PT X e.py (tTst G (tstE (e.den ft)))) : SndE X G S ft e :=
  have hs := fresh_strong C.K hf hl
  ⟨strong_weak hs, fun _ => hs, fun _ => ⟨hf, hl⟩, ht (strong_weak hs)⟩
end
end Den
namespace Den
open PySem PySem.Spec PyProof.Rows L2
section
variable {X : Cx} {G : Gc} {L : Nat} {S : Sg} {ft : Tb} {sc : Scope}
def Sto (X : Cx) (bs : Option Scope) : Prop := match bs with
  | some b => ∀ x, b.names.lookup x = some .cell → X.fn x = true
  | none => ∀ x, X.fn x = true
theorem loc_ok {bs : Option Scope} (hsc : X.env.scope = sc) (hf : Sto X bs) {i : Nat} {x : Str} (h : locB S sc bs i x = true) : S.N[i]? = some x ∧ S.own i = false ∧ Loc X.env.scope x ∧ (X.fn x = true ∨ X.env.scope.names.lookup x = some .local) := by
  unfold locB at h
  simp only [Bool.and_eq_true, decide_eq_true_eq, Bool.not_eq_true'] at h
  obtain ⟨⟨h1, h2⟩, h3⟩ := h
  refine ⟨h1, h2, ?_⟩
  rw [hsc]
  split at h3
  · rename_i e
    exact ⟨.inl e, .inr e⟩
  · rename_i e
    refine ⟨.inr e, .inl ?_⟩
    cases bs with
    | none => exact hf x
    | some b => exact hf x (by simpa using h3)
  · cases h3
theorem names_len (env : Env) : ∀ items : List (Nat × Str × Pos), (assignEach (tgNames items) env).length = items.length
  | [] => rfl
  | (i, x, p) :: r => by
    show (_ :: assignEach (tgNames r) env).length = _
    simp [names_len env r]
theorem names_star (env : Env) : ∀ items : List (Nat × Str × Pos), (assignEach (tgNames items) env).findIdx? (·.1) = none
  | [] => rfl
  | (i, x, p) :: r => by
    show ((false, _) :: assignEach (tgNames r) env).findIdx? _ = _
    rw [List.findIdx?_cons]
    simp [names_star env r]
theorem tgs_ok {vs : List Nat} {bs : Option Scope} (hK : X.K = G.K) (hN : X.N = S.N) (nd : X.N.Nodup) (hsc : X.env.scope = sc) (hw : G.own = S.own) (hf : Sto X bs) : ∀ items : List (Nat × Str × Pos), (items.all fun p => locB S sc bs p.1 p.2.1) = true → (∀ i ∈ items.map (·.1), i ∈ vs) → PGs X (tgNames items) (tTgs G vs (items.map (·.1)))
  | [], _, _ => gs_nil hK
  | (i, x, p) :: r, h, hv => by
    rw [List.all_cons, Bool.and_eq_true] at h
    obtain ⟨h1, h2, h3, h4⟩ := loc_ok hsc hf h.1
    exact gs_cons hK nd (hN ▸ h1) h3 h4 (by rw [hw]; exact h2) (hv i (by simp)) (tgs_ok hK hN nd hsc hw hf r h.2 fun j hj => hv j (by simp at hj ⊢; exact .inr hj))
theorem tg_ok {b : Bool} {vs : List Nat} {bs : Option Scope} (hK : X.K = G.K) (hN : X.N = S.N) (nd : X.N.Nodup) (hc : X.calm = true) (hsc : X.env.scope = sc) (hw : G.own = S.own) (hf : Sto X bs) : ∀ tg : Tg, (b = true ∨ ∃ l k p, tg = .tp l k p) → tgB S sc bs tg = true → (∀ i ∈ tg.is, i ∈ vs) → PG X tg.py (tTg G b vs tg.st)
  | .nm i x p, hb, h, hv => by
    obtain ⟨h1, h2, h3, h4⟩ := loc_ok hsc hf h
    have e : b = true := hb.elim id fun ⟨_, _, _, z⟩ => by cases z
    subst e
    exact g_name hK nd (hN ▸ h1) h3 h4 (by rw [hw]; exact h2) (hv i (by simp [Tg.is]))
  | .tp items k p, _, h, hv =>
    g_tup hK hc (tgs_ok hK hN nd hsc hw hf items h hv) (by rw [names_len]; simp) (names_star _ _)
theorem full_tg {it : I} {tg : Tg} (h : it.tgB tg = true) : it.full = true ∨ ∃ l k p, tg = .tp l k p := by
  cases it <;> cases tg <;> first | exact .inl rfl | exact .inr ⟨_, _, _, rfl⟩ | cases h
theorem Env1.noE (V : Env1 X G L S ft sc) {scope : Scope} {s : Shared} {H : Hp} {Cc : Addr} {cl : List (Str × Addr)} {fp : List Addr} : Env1 (X.blk s H scope (compEnvC scope cl Cc X.env) fp) G.noE L S ft (relS scope sc) where
  C := ⟨V.C.K, V.C.P, V.C.w, passL, V.C.room, V.C.calm, V.C.nd, V.C.blt⟩
  N := V.N
  sc := by rw [← V.sc]; rfl
  own := V.own
  dct := V.dct
  dp := V.dp
  gl := V.gl
  fn := fun f x n e h => ⟨(V.fn f x n e h).ex⟩
  fm := fun f x n e h => ⟨(V.fm f x n e h).ex⟩
  fv := V.fv
  fa := fun f x n e => let ⟨i, a, h1, h2, h3⟩ := V.fa f x n e; ⟨i, a, h1, h2, ⟨h3.ex⟩⟩
theorem Env1.wO (V : Env1 X G L S ft sc) {scope : Scope} {s : Shared} {H : Hp} {Cc : Addr} {cl : List (Str × Addr)} {fp : List Addr} (O0 : Addr → Prop) : Env1 (X.blk s H scope (compEnvC scope cl Cc X.env) fp) (G.wO O0) L S ft (relS scope sc) where
  C := ⟨V.C.K, V.C.P, V.C.w, passL, V.C.room, V.C.calm, V.C.nd, V.C.blt⟩
  N := V.N
  sc := by rw [← V.sc]; rfl
  own := V.own
  dct := V.dct
  dp := V.dp
  gl := V.gl
  fn := fun f x n e h => ⟨(V.fn f x n e h).ex⟩
  fm := fun f x n e h => ⟨(V.fm f x n e h).ex⟩
  fv := V.fv
  fa := fun f x n e => let ⟨i, a, h1, h2, h3⟩ := V.fa f x n e; ⟨i, a, h1, h2, ⟨h3.ex⟩⟩
theorem sto_blk {scope : Scope} {s : Shared} {H : Hp} {env : Env} {fp : List Addr} : Sto (X.blk s H scope env fp) (some scope) := fun x h => by
  show (scope.names.lookup x == some .cell) = true
  rw [h]; rfl
end
theorem t_or1 {X : Cx} {G : Gc} {a : Expr} {f : DE} {pos : Pos} (ha : PT X a (tTst G (tstE f))) : PW X (.BoolOp .Or [a] pos) (tTst G (tstE f)) := pw_or1 ha
theorem addL_list {x y d : D} (h : addL x y = .ok d) : ∃ ds, d = .list ds := by
  unfold addL at h
  split at h
  · simp only [addD] at h
    split at h
    · cases h
      exact ⟨_, rfl⟩
    · cases h
  · cases h
theorem slL_list {lo hi : Option Int} {x d : D} (h : slL lo hi x = .ok d) : ∃ ds, d = .list ds := by
  unfold slL at h
  split at h
  · first | (cases h; exact ⟨_, rfl⟩) | (split at h <;> first | (cases h; exact ⟨_, rfl⟩) | cases h)
  · cases h
theorem py_len : ∀ es : Es, es.py.length = es.len
  | .nil => rfl
  | .cons e es => by
    show (e.py :: es.py).length = _
    simp [Es.len, py_len es]
mutual
theorem e_ok : ∀ (e : E) {X : Cx} {G : Gc} {L : Nat} {S : Sg} {ft : Tb} {sc : Scope}, Env1 X G L S ft sc → e.ok S sc = true → SndE X G S ft e
  | .cst c k pos, X, G, L, S, ft, sc, V, h => snd_s (by
      cases c <;> exact d_cst V.C (by first | exact pe_int | exact pe_bl | exact pe_non | exact pe_str) fun _ _ _ => rfl) rfl fun w _ => t_val w fun _ => rfl
  | .var i x pos, X, G, L, S, ft, sc, V, h => by
      obtain ⟨h1, h2, h3, h4, h5⟩ := V.vis h
      have w : PE X (.Name x pos) (tW G (vaR i)) := d_varW V.C h1 h2 h5 h3 h4
      exact ⟨w, fun hs => d_var V.C h1 h2 (by rw [V.own]; simpa [E.str] using hs) h3 h4, fun z => (by cases z), fun _ => t_val w fun _ => rfl⟩
  | .glo x c pos, X, G, L, S, ft, sc, V, h => by
      simp only [E.ok, Bool.and_eq_true, decide_eq_true_eq] at h
      obtain ⟨⟨h1, h2⟩, h3⟩ := h
      obtain ⟨u, e1, e2⟩ := V.gl _ h2
      refine snd_s (d_cst V.C (pe_glob (V.glob h1) e1 e2 (dbB_iff h3)) fun _ _ _ => ?_) rfl fun w _ => t_val w fun _ => rfl
      cases c <;> rfl
  | .bin op a b pos, X, G, L, S, ft, sc, V, h => by
      simp only [E.ok, Bool.and_eq_true] at h
      obtain ⟨r, h1, h2⟩ := bo_ok V.C op
      exact snd_s (d_bin V.C.K h1 h2 (e_ok a V h.1).w (e_ok b V h.2).w) rfl fun w _ => t_val w fun _ => rfl
  | .lad a b pos, X, G, L, S, ft, sc, V, h => by
      simp only [E.ok, Bool.and_eq_true] at h
      refine snd_f V.C (f_add V.C (e_ok a V h.1).w (e_ok b V h.2).w) (fun ρ d e => ?_) fun w _ => t_val w fun _ => rfl
      obtain ⟨x, _, e⟩ := bind_ok e
      obtain ⟨y, _, e⟩ := bind_ok e
      exact addL_list e
  | .neg a pos, X, G, L, S, ft, sc, V, h => by
      exact snd_s (d_neg V.C (e_ok a V h).w) rfl fun w _ => t_val w fun _ => rfl
  | .not a pos, X, G, L, S, ft, sc, V, h => by
      simp only [E.ok, Bool.and_eq_true] at h
      have ha := e_ok a V h.1
      exact snd_s (d_not V.C ha.w) rfl fun w ht => t_not V.C (ha.t h.2)
  | .cmp op a b pos, X, G, L, S, ft, sc, V, h => by
      simp only [E.ok, Bool.and_eq_true] at h
      obtain ⟨r, h1, h2⟩ := co_ok V.C op
      have ha := (e_ok a V h.1).w
      have hb := (e_ok b V h.2).w
      exact snd_s (d_cmp V.C.K h1 h2 (marks1 _ _) ha hb) rfl fun w _ => t_cmp V.C h1 h2 (marks1 _ _) ha hb
  | .chn op op' a b c pos, X, G, L, S, ft, sc, V, h => by
      simp only [E.ok, Bool.and_eq_true] at h
      obtain ⟨r, h1, h2⟩ := co_ok V.C op
      obtain ⟨r', h1', h2'⟩ := co_ok V.C op'
      have ha := (e_ok a V h.1.1).w
      have hb := (e_ok b V h.1.2).w
      have hc := (e_ok c V h.2).w
      exact snd_s (d_chain V.C h1 h1' h2 h2' (lastm2 _ _ _ _) ha hb hc) rfl fun w _ => t_chain V.C h1 h1' h2 h2' (lastm2 _ _ _ _) ha hb hc
  | .and a es pos, X, G, L, S, ft, sc, V, h => by
      simp only [E.ok, Bool.and_eq_true] at h
      obtain ⟨⟨⟨⟨⟨h1, h2⟩, h3⟩, h4⟩, h5⟩, h6⟩ := h
      have ha := e_ok a V h1
      have key := ands_ok es V h2 h5 h6 pos a ha.w (ha.s h3) (ha.t h4)
      exact snd_s key.1 rfl fun _ _ => key.2.pt
  | .or a es pos, X, G, L, S, ft, sc, V, h => by
      simp only [E.ok, Bool.and_eq_true] at h
      obtain ⟨⟨⟨⟨⟨h1, h2⟩, h3⟩, h4⟩, h5⟩, h6⟩ := h
      have ha := e_ok a V h1
      have key := ors_ok es V h2 h5 h6 pos a ha.w (ha.s h3) (ha.t h4)
      exact snd_s key.1 rfl fun _ _ => key.2.pt
  | .ite c a b pos, X, G, L, S, ft, sc, V, h => by
      simp only [E.ok, Bool.and_eq_true] at h
      obtain ⟨⟨⟨⟨⟨h1, h2⟩, h3⟩, h4⟩, h5⟩, h6⟩ := h
      exact snd_s (d_ite V.C ((e_ok c V h1).t h4) ((e_ok a V h2).s h5) ((e_ok b V h3).s h6)) rfl fun _ z => by cases z
  | .ix a i pos, X, G, L, S, ft, sc, V, h => by
      simp only [E.ok, Bool.and_eq_true] at h
      exact snd_s (d_ix V.C.K (V.C.K ▸ ix_LT) says_ix (plain1 i) (e_ok a V h.1).w (e_ok i V h.2).w) rfl fun w _ => t_val w fun _ => rfl
  | .slo a l p2 pos, X, G, L, S, ft, sc, V, h => by
      simp only [E.ok, Bool.and_eq_true] at h
      exact snd_s (d_slLo V.C.K (e_ok a V h.1).w (e_ok l V h.2).w) rfl fun w _ => t_val w fun _ => rfl
  | .shi a l p2 pos, X, G, L, S, ft, sc, V, h => by
      simp only [E.ok, Bool.and_eq_true] at h
      exact snd_s (d_slHi V.C.K (e_ok a V h.1).w (e_ok l V h.2).w) rfl fun w _ => t_val w fun _ => rfl
  | .slh a l u p2 pos, X, G, L, S, ft, sc, V, h => by
      simp only [E.ok, Bool.and_eq_true] at h
      exact snd_s (d_slLH V.C.K (e_ok a V h.1.1).w (e_ok l V h.1.2).w (e_ok u V h.2).w) rfl fun w _ => t_val w fun _ => rfl
  | .lslo a l p2 pos, X, G, L, S, ft, sc, V, h => by
      simp only [E.ok, Bool.and_eq_true] at h
      refine snd_f V.C (f_slLo V.C (e_ok a V h.1).w (e_ok l V h.2).w) (fun ρ d e => ?_) fun w _ => t_val w fun _ => rfl
      obtain ⟨x, _, e⟩ := bind_ok e
      obtain ⟨y, _, e⟩ := bind_ok e
      obtain ⟨i, _, e⟩ := bind_ok e
      exact slL_list e
  | .lshi a l p2 pos, X, G, L, S, ft, sc, V, h => by
      simp only [E.ok, Bool.and_eq_true] at h
      refine snd_f V.C (f_slHi V.C (e_ok a V h.1).w (e_ok l V h.2).w) (fun ρ d e => ?_) fun w _ => t_val w fun _ => rfl
      obtain ⟨x, _, e⟩ := bind_ok e
      obtain ⟨y, _, e⟩ := bind_ok e
      obtain ⟨i, _, e⟩ := bind_ok e
      exact slL_list e
  | .tup es k pos, X, G, L, S, ft, sc, V, h => by
      simp only [E.ok, Bool.and_eq_true, decide_eq_true_eq] at h
      exact snd_s (d_tup V.C (fun ρ ds e => by rw [es_len es ρ ds e]; unfold big; omega) ((es_ok es V h.1.1).s h.1.2)) rfl fun w _ => t_val w fun _ => rfl
  | .lst es pos, X, G, L, S, ft, sc, V, h => by
      simp only [E.ok, Bool.and_eq_true, decide_eq_true_eq] at h
      refine snd_f V.C (d_lst V.C (fun ρ ds e => by rw [es_len es ρ ds e]; unfold big; omega) ((es_ok es V h.1.1).s h.1.2)) (fun ρ d e => ?_) fun w _ => t_val w fun _ => rfl
      obtain ⟨x, _, e⟩ := bind_ok e
      cases e
      exact ⟨_, rfl⟩
  | .dct pos, X, G, L, S, ft, sc, V, h => by cases h
  | .rev a k p1 p2 p3 pos, X, G, L, S, ft, sc, V, h =>
      snd_s (d_rev V.C (e_ok a V h).w) rfl fun w _ => t_val w fun _ => rfl
  | .idx b a e apos cpos, X, G, L, S, ft, sc, V, h => by
      simp only [E.ok, Bool.and_eq_true] at h
      exact snd_s (d_idx V.C (e_ok a V h.1.1).w (e_ok e V h.1.2).w (base1 a _ _) (star1 e [] _) h.2) rfl fun w _ => t_val w fun _ => rfl
  | .din neg e i x px pos, X, G, L, S, ft, sc, V, h => by
      simp only [E.ok, Bool.and_eq_true] at h
      obtain ⟨h1, h2, h3, h4, h5, h6⟩ := V.dv h.2
      have he := (e_ok e V h.1.1).s h.1.2
      exact snd_s (d_din V.C h1 h2 h3 h4 h5 h6 he) rfl fun w _ => t_din V.C h1 h2 h3 h4 h5 h6 he
  | .dget i x px e pos, X, G, L, S, ft, sc, V, h => by
      simp only [E.ok, Bool.and_eq_true] at h
      obtain ⟨h1, h2, h3, h4, h5, h6⟩ := V.dv h.2
      exact snd_s (d_dget V.C h1 h2 h3 h4 h5 h6 ((e_ok e V h.1.1).s h.1.2) (nosl1 e)) rfl fun w _ => t_val w fun _ => rfl
  | .dsrt i x px p pos, X, G, L, S, ft, sc, V, h => by
      simp only [E.ok, Bool.and_eq_true] at h
      obtain ⟨h1, h2, h3, h4, h5, h6⟩ := V.dv h.1
      obtain ⟨g1, g2⟩ := V.blt h.2
      exact snd_s (d_dsrt V.C g1 g2 h1 h2 h3 h4 h5 h6) rfl fun w _ => t_val w fun _ => rfl
  | .mn f x p e es pd pos, X, G, L, S, ft, sc, V, h => by
      simp only [E.ok, Bool.and_eq_true, decide_eq_true_eq] at h
      obtain ⟨⟨⟨⟨⟨⟨⟨h1, h2⟩, h3⟩, h4⟩, h5⟩, h6⟩, h7⟩, h8⟩ := h
      have hs : starEach [Expr.Dict [] [] pd] X.env = (false, eval (.Dict [] [] pd) X.env) :: starEach [] X.env := rfl
      exact snd_s (d_mn V.C (V.fm f x _ h7 h8) (V.glob h5) (dbB_iff h6) (an_cons V.C ((e_ok e V h1).s h3) (an_ok es V h2 h4) (star1 _ _ _)) (fun ρ ds e' => es_len (.cons e es) ρ ds e') (star1 _ _ _) (starL hs pos es)) rfl fun w _ => t_val w fun _ => rfl
  | .call f x p e es pos, X, G, L, S, ft, sc, V, h => by
      simp only [E.ok, Bool.and_eq_true, decide_eq_true_eq] at h
      obtain ⟨⟨⟨⟨⟨⟨⟨h1, h2⟩, h3⟩, h4⟩, h5⟩, h6⟩, h8⟩, h7⟩ := h
      exact snd_s (d_call V.C (V.fn f x _ h7 (by omega)) (V.glob h5) (by rw [List.length_cons, py_len]) (dbB_iff h6) (a_cons V.C ((e_ok e V h1).s h3) ((es_ok es V h2).s h4) (star1 _ _ _)) (fun ρ ds e' => es_len (.cons e es) ρ ds e') (star1 _ _ _) (star_no _ _ _)) rfl fun w _ => t_val w fun _ => rfl
  | .callw f x p e es pos, X, G, L, S, ft, sc, V, h => by
      simp only [E.ok, Bool.and_eq_true, decide_eq_true_eq] at h
      obtain ⟨⟨⟨⟨⟨h1, h2⟩, h5⟩, h6⟩, h8⟩, h7⟩ := h
      exact snd_s (d_callw V.C (V.fn f x _ h7 (by omega)) (V.glob h5) (dbB_iff h6) (a_consW V.C (e_ok e V h1).w (es_ok es V h2).w (star1 _ _ _)) (fun ρ ds e' => es_len (.cons e es) ρ ds e') (star1 _ _ _) (star_no _ _ _)) rfl fun w _ => t_val w fun _ => rfl
  | .callv f i x p e es pos, X, G, L, S, ft, sc, V, h => by
      simp only [E.ok, Bool.and_eq_true, decide_eq_true_eq] at h
      obtain ⟨⟨⟨⟨⟨⟨⟨⟨h1, h2⟩, h3⟩, h4⟩, h5⟩, h6⟩, h7⟩, h8⟩, h9⟩ := h
      obtain ⟨j, a, e1, e2, hF⟩ := V.fa f x _ h8
      have ij : j = i := by
        rw [V.N] at e1
        exact nodup_ix h9 e1 h5
      subst ij
      have hv := V.vis_of h6
      unfold dbB at h7
      simp only [Bool.and_eq_true, Bool.not_eq_true'] at h7
      exact snd_s (d_callv V.C hF e2 e1 hv h7.1 h7.2 (a_cons V.C ((e_ok e V h1).s h3) ((es_ok es V h2).s h4) (star1 _ _ _)) (fun ρ ds e' => es_len (.cons e es) ρ ds e') (star1 _ _ _) (star_no _ _ _)) rfl fun w _ => t_val w fun _ => rfl
  | .srts a p p2 q pos, X, G, L, S, ft, sc, V, h => by
      simp only [E.ok, Bool.and_eq_true] at h
      obtain ⟨⟨h1, h2⟩, h3⟩ := h
      obtain ⟨g1, g2⟩ := V.blt h2
      obtain ⟨g3, g4⟩ := V.blt h3
      exact snd_s (d_srtset V.C g1 (V.C.blt _ g2) g3 (V.C.blt _ g4) (e_ok a V h1).w (star1 a [] _)) rfl fun w _ => t_val w fun _ => rfl
  | .rep es p1 b pos, X, G, L, S, ft, sc, V, h => by
      simp only [E.ok, Bool.and_eq_true, decide_eq_true_eq] at h
      refine snd_f V.C (f_rep V.C ((es_ok es V h.1.1.1).s h.1.1.2) (fun ρ ds e => by rw [es_len es ρ ds e]; exact h.1.2) (e_ok b V h.2).w) (fun ρ d e => ?_) fun w _ => t_val w fun _ => rfl
      obtain ⟨x, _, e⟩ := bind_ok e
      obtain ⟨y, _, e⟩ := bind_ok e
      obtain ⟨i, _, e⟩ := bind_ok e
      exact repL_list e
  | .ccall js p1 b p2 e es pos, X, G, L, S, ft, sc, V, h => by
      simp only [E.ok, Bool.and_eq_true, decide_eq_true_eq, List.all_eq_true] at h
      obtain ⟨⟨⟨⟨⟨⟨⟨h1, h2⟩, h3⟩, h4⟩, h5⟩, h6⟩, h8⟩, h7⟩ := h
      exact snd_s (d_ccall V.C (fun p hp => ⟨V.fn p.1 p.2.1 _ (h7 p hp).1.1 (by omega), V.glob (h7 p hp).1.2, dbB_iff (h7 p hp).2⟩) h6 (e_ok b V h1).w (plain1 b) (by rw [List.length_cons, py_len]) (a_cons V.C ((e_ok e V h2).s h4) ((es_ok es V h3).s h5) (star1 _ _ _)) (fun ρ ds e' => es_len (.cons e es) ρ ds e') (star1 _ _ _) (star_no _ _ _)) rfl fun w _ => t_val w fun _ => rfl
  | .prim q p e es pos, X, G, L, S, ft, sc, V, h => by
      simp only [E.ok, Bool.and_eq_true] at h
      obtain ⟨⟨h1, h2⟩, h3⟩ := h
      obtain ⟨g1, g2⟩ := V.blt h3
      have ha := a_consW V.C (e_ok e V h1).w (es_ok es V h2).w (star1 _ _ _)
      have hq : PE X (.Call (.Name q.nm p) (e.py :: es.py) [] pos) (tS G (appE q.F (consArg (e.den ft) (es.den ft)))) := by
        cases q
        · exact d_blt V.C (V.C.K ▸ call_len) says_len g1 g2 (by decide +kernel) (by decide +kernel) (by decide +kernel) ha (star1 _ _ _) (star_no _ _ es)
        · exact d_blt V.C (V.C.K ▸ cr_all V.C.calm) says_all g1 g2 (by decide +kernel) (by decide +kernel) (by decide +kernel) ha (star1 _ _ _) (star_no _ _ es)
        · exact d_blt V.C (V.C.K ▸ cr_any V.C.calm) says_any g1 g2 (by decide +kernel) (by decide +kernel) (by decide +kernel) ha (star1 _ _ _) (star_no _ _ es)
        · exact d_blt V.C (V.C.K ▸ cr_maxB V.C.calm V.C.hu0) says_maxA g1 g2 (by decide +kernel) (by decide +kernel) (by decide +kernel) ha (star1 _ _ _) (star_no _ _ es)
        · exact d_blt V.C (V.C.K ▸ cr_minB V.C.calm V.C.hu0) says_minA g1 g2 (by decide +kernel) (by decide +kernel) (by decide +kernel) ha (star1 _ _ _) (star_no _ _ es)
        · exact d_bty V.C (V.C.K ▸ call_tuple_ofF) says_tuple g1 g2 (by decide +kernel) (by decide +kernel) (by decide +kernel) ha (star1 _ _ _) (star_no _ _ es)
        · exact d_bty V.C (V.C.K ▸ call_list_of) says_list g1 g2 (by decide +kernel) (by decide +kernel) (by decide +kernel) ha (star1 _ _ _) (star_no _ _ es)
        · exact d_blt V.C (V.C.K ▸ cr_srtA) says_sortedA g1 g2 (by decide +kernel) (by decide +kernel) (by decide +kernel) ha (star1 _ _ _) (star_no _ _ es)
      exact snd_s hq rfl fun w _ => t_val w fun _ => rfl
  | .isi T a p1 p2 pos, X, G, L, S, ft, sc, V, h => by
      simp only [E.ok, Bool.and_eq_true] at h
      obtain ⟨⟨h1, h2⟩, h3⟩ := h
      obtain ⟨g1, g2⟩ := V.blt h2
      obtain ⟨g3, g4⟩ := V.blt h3
      have hq : PE X (.Call (.Name "isinstance" p1) [a.py, .Name (Str.ofString T.nm) p2] [] pos) (tS G (isiE T (a.den ft))) :=
        d_isi V.C (e_ok a V h1).w g1 g2 g3 g4 (by cases T <;> decide +kernel) (by cases T <;> decide +kernel) (by cases T <;> decide +kernel) (star1 a _ _)
      exact snd_s hq rfl fun w _ => t_val w fun _ => rfl
  | .lrng1 a p p1 p2 pos, X, G, L, S, ft, sc, V, h => by
      simp only [E.ok, Bool.and_eq_true] at h
      obtain ⟨⟨h1, h2⟩, h3⟩ := h
      obtain ⟨g1, g2⟩ := V.blt h2
      obtain ⟨g3, g4⟩ := V.blt h3
      refine snd_f V.C (d_lrng1 V.C V.C.calm g1 g2 g3 g4 (e_ok a V h1).w (star1 a _ _) rfl) (fun ρ d e => ?_) fun w _ => t_val w fun _ => rfl
      obtain ⟨x, _, e⟩ := bind_ok e
      cases e
      exact ⟨_, rfl⟩
  | .trng1 a p p1 p2 pos, X, G, L, S, ft, sc, V, h => by
      simp only [E.ok, Bool.and_eq_true] at h
      obtain ⟨⟨h1, h2⟩, h3⟩ := h
      obtain ⟨g1, g2⟩ := V.blt h2
      obtain ⟨g3, g4⟩ := V.blt h3
      exact snd_s (d_trng1 V.C V.C.calm g1 g2 g3 g4 (e_ok a V h1).w (star1 a _ _) rfl) rfl fun w _ => t_val w fun _ => rfl
  | .lrng2 a b p p1 p2 pos, X, G, L, S, ft, sc, V, h => by
      simp only [E.ok, Bool.and_eq_true] at h
      obtain ⟨⟨⟨h1, h1'⟩, h2⟩, h3⟩ := h
      obtain ⟨g1, g2⟩ := V.blt h2
      obtain ⟨g3, g4⟩ := V.blt h3
      refine snd_f V.C (d_lrng2 V.C V.C.calm g1 g2 g3 g4 (e_ok a V h1).w (e_ok b V h1').w (star1 a _ _) (star1 b _ _) rfl) (fun ρ d e => ?_) fun w _ => t_val w fun _ => rfl
      obtain ⟨x, _, e⟩ := bind_ok e
      cases e
      exact ⟨_, rfl⟩
  | .comp elt tg it ifs scope own pos, X, G, L, S, ft, sc, V, h => by
      simp only [E.ok, Bool.and_eq_true, decide_eq_true_eq] at h
      obtain ⟨⟨⟨⟨⟨⟨⟨⟨h0, h1⟩, h2⟩, h3⟩, h4⟩, h5⟩, h6⟩, h7⟩, h8⟩ := h
      refine snd_f V.C (d_comp V.C ((i_ok it V h1).w _ h0) (by rw [V.N, V.sc]; exact blkOk_by (V.ndv h2).1) (V.ndv h2).2 (fun s H Cc cl fp => let V' := V.noE (scope := scope) (s := s) (H := H) (Cc := Cc) (cl := cl) (fp := fp); tg_ok V'.C.K V'.N V'.C.nd V'.C.calm V'.sc V'.own sto_blk tg (full_tg h0) h3 h4) (fun s H Cc cl fp => ?_) (fun s H Cc cl fp => (e_ok elt V.noE h7).s h8) (fold1 it _)) (fun ρ d e => compE_list ρ d e) fun w _ => t_val w fun _ => rfl
      cases ifs with
      | nil => exact p_nil V.C.K
      | cons e1 r =>
        cases r with
        | nil =>
          simp only [Es.ok, Bool.and_true] at h5
          exact p_one ((e_ok e1 V.noE h5).t h6)
        | cons e2 r => cases h6
  | .comp2 elt tg it tg1 it1 ifs scope own pos, X, G, L, S, ft, sc, V, h => by
      simp only [E.ok, Bool.and_eq_true, decide_eq_true_eq] at h
      obtain ⟨⟨⟨⟨⟨⟨⟨⟨⟨⟨⟨⟨⟨h0, h01⟩, h1⟩, h2⟩, h3⟩, h4⟩, g1⟩, g2⟩, g3⟩, g4⟩, h5⟩, h6⟩, h7⟩, h8⟩ := h
      refine snd_f V.C (d_comp2 V.C ((i_ok it V h1).w _ h0) (by rw [V.N, V.sc]; exact blkOk_by (V.ndv h2).1) (V.ndv h2).2 g4
        (fun O0 s H Cc cl fp => let V' := V.wO O0 (scope := scope) (s := s) (H := H) (Cc := Cc) (cl := cl) (fp := fp); tg_ok V'.C.K V'.N V'.C.nd V'.C.calm V'.sc V'.own sto_blk tg (full_tg h0) h3 h4)
        (fun O0 s H Cc cl fp => (i_ok it1 (V.wO O0) g1).s g2 _ h01)
        (fun O0 s H Cc cl fp => let V' := V.wO O0 (scope := scope) (s := s) (H := H) (Cc := Cc) (cl := cl) (fp := fp); tg_ok V'.C.K V'.N V'.C.nd V'.C.calm V'.sc V'.own sto_blk tg1 (full_tg h01) g3 fun i hi => hi)
        (fun O0 s H Cc cl fp => ?_) (fun O0 s H Cc cl fp => (e_ok elt (V.wO O0) h7).s h8) (fold1 it _) (fun env => fold1 it1 env)) (fun ρ d e => compE2_list ρ d e) fun w _ => t_val w fun _ => rfl
      cases ifs with
      | nil => exact p_nil V.C.K
      | cons e1 r =>
        cases r with
        | nil =>
          simp only [Es.ok, Bool.and_true] at h5
          exact p_one ((e_ok e1 (V.wO O0) h5).t h6)
        | cons e2 r => cases h6
theorem ands_ok : ∀ (es : Es) {X : Cx} {G : Gc} {L : Nat} {S : Sg} {ft : Tb} {sc : Scope}, Env1 X G L S ft sc → es.ok S sc = true → es.strs S = true → es.tsts = true → ∀ (pos : Pos) (a : E), PE X a.py (tW G (a.den ft)) → PE X a.py (tS G (a.den ft)) → PT X a.py (tTst G (tstE (a.den ft))) →
    PE X (.BoolOp .And (a.py :: es.py) pos) (tS G (es.andD ft (a.den ft))) ∧ PW X (.BoolOp .And (a.py :: es.py) pos) (tTst G (tstE (es.andD ft (a.den ft))))
  | .nil, X, G, L, S, ft, sc, V, _, _, _, pos, a, hw, hs, ht => ⟨d_one hs, t_and1 ht⟩
  | .cons e es, X, G, L, S, ft, sc, V, h, h2, h3, pos, a, hw, hs, ht => by
      simp only [Es.ok, Es.strs, Es.tsts, Bool.and_eq_true] at h h2 h3
      have he := e_ok e V h.1
      have key := ands_ok es V h.2 h2.2 h3.2 pos e he.w (he.s h2.1) (he.t h3.1)
      exact ⟨d_and V.C hw key.1, t_and V.C ht key.2⟩
theorem ors_ok : ∀ (es : Es) {X : Cx} {G : Gc} {L : Nat} {S : Sg} {ft : Tb} {sc : Scope}, Env1 X G L S ft sc → es.ok S sc = true → es.strs S = true → es.tsts = true → ∀ (pos : Pos) (a : E), PE X a.py (tW G (a.den ft)) → PE X a.py (tS G (a.den ft)) → PT X a.py (tTst G (tstE (a.den ft))) →
    PE X (.BoolOp .Or (a.py :: es.py) pos) (tS G (es.orD ft (a.den ft))) ∧ PW X (.BoolOp .Or (a.py :: es.py) pos) (tTst G (tstE (es.orD ft (a.den ft))))
  | .nil, X, G, L, S, ft, sc, V, _, _, _, pos, a, hw, hs, ht => ⟨d_one hs, t_or1 ht⟩
  | .cons e es, X, G, L, S, ft, sc, V, h, h2, h3, pos, a, hw, hs, ht => by
      simp only [Es.ok, Es.strs, Es.tsts, Bool.and_eq_true] at h h2 h3
      have he := e_ok e V h.1
      have key := ors_ok es V h.2 h2.2 h3.2 pos e he.w (he.s h2.1) (he.t h3.1)
      exact ⟨d_or V.C hw key.1, t_or V.C ht key.2⟩
theorem an_ok : ∀ (es : Es) {X : Cx} {G : Gc} {L : Nat} {S : Sg} {ft : Tb} {sc : Scope} {pd : Pos}, Env1 X G L S ft sc → es.ok S sc = true → es.strs S = true → PA X (es.pyL (.Dict [] [] pd)) (tArgN X.prog X.w G (es.den ft))
  | .nil, X, G, L, S, ft, sc, pd, V, _, _ => an_nil V.C
  | .cons e es, X, G, L, S, ft, sc, pd, V, h, hs => by
      simp only [Es.ok, Bool.and_eq_true] at h
      simp only [Es.strs, Bool.and_eq_true] at hs
      exact an_cons V.C ((e_ok e V h.1).s hs.1) (an_ok es V h.2 hs.2) (star1 _ _ _)
theorem es_ok : ∀ (es : Es) {X : Cx} {G : Gc} {L : Nat} {S : Sg} {ft : Tb} {sc : Scope}, Env1 X G L S ft sc → es.ok S sc = true → SndEs X G S ft es
  | .nil, X, G, L, S, ft, sc, V, h => ⟨a_nilW V.C, fun _ => a_nil V.C⟩
  | .cons e es, X, G, L, S, ft, sc, V, h => by
      simp only [Es.ok, Bool.and_eq_true] at h
      refine ⟨a_consW V.C (e_ok e V h.1).w (es_ok es V h.2).w (star1 _ _ _), fun hs => ?_⟩
      simp only [Es.strs, Bool.and_eq_true] at hs
      exact a_cons V.C ((e_ok e V h.1).s hs.1) ((es_ok es V h.2).s hs.2) (star1 _ _ _)
theorem i_ok : ∀ (it : I) {X : Cx} {G : Gc} {L : Nat} {S : Sg} {ft : Tb} {sc : Scope}, Env1 X G L S ft sc → it.ok S sc = true → SndI X G S ft it
  | .seq e, X, G, L, S, ft, sc, V, h => ⟨fun tg _ => i_seqW V.C (e_ok e V h).w, fun hs tg _ => i_seqS V.C ((e_ok e V h).s hs)⟩
  | .rng1 a p pos, X, G, L, S, ft, sc, V, h => by
      simp only [I.ok, Bool.and_eq_true] at h
      obtain ⟨h1, h2⟩ := V.blt h.2
      have key : ∀ wk (tg : Tg), PI X tg.py (I.rng1 a p pos).py (tIt G wk true ((I.rng1 a p pos).den ft)) := fun wk tg => i_rng1 V.C h1 (V.C.blt _ h2) (a_consW V.C (e_ok a V h.1).w (a_nilW V.C) (star1 a Es.nil.py _)) (star1 a Es.nil.py _)
      exact ⟨fun tg _ => key _ tg, fun _ tg _ => key _ tg⟩
  | .rng2 a b p pos, X, G, L, S, ft, sc, V, h => by
      simp only [I.ok, Bool.and_eq_true] at h
      obtain ⟨h1, h2⟩ := V.blt h.2
      have sb := star1 b Es.nil.py X.env
      have sa : starEach [a.py, b.py] X.env = [(false, eval a.py X.env), (false, eval b.py X.env)] := (star1 a (Es.cons b .nil).py _).trans (by exact congrArg (_ :: ·) sb)
      have key : ∀ wk (tg : Tg), PI X tg.py (I.rng2 a b p pos).py (tIt G wk true ((I.rng2 a b p pos).den ft)) := fun wk tg => i_rng2 V.C h1 (V.C.blt _ h2) (a_consW V.C (e_ok a V h.1.1).w (a_consW V.C (e_ok b V h.1.2).w (a_nilW V.C) sb) (star1 a (Es.cons b .nil).py _)) sa sb
      exact ⟨fun tg _ => key _ tg, fun _ tg _ => key _ tg⟩
  | .enu a p pos, X, G, L, S, ft, sc, V, h => by
      simp only [I.ok, Bool.and_eq_true] at h
      obtain ⟨h1, h2⟩ := V.blt h.1.2
      have key : ∀ (tg : Tg), (I.enu a p pos).tgB tg = true → PI X tg.py (I.enu a p pos).py (tIt G false false ((I.enu a p pos).den ft)) := fun tg ht => by
        cases tg with
        | nm => cases ht
        | tp items k pos => exact i_enumS V.C h1 h2 ((e_ok a V h.1.1).s h.2) (star1 a Es.nil.py _)
      exact ⟨fun tg ht => i_less (key tg ht), fun _ tg ht => key tg ht⟩
  | .zip a b p pos, X, G, L, S, ft, sc, V, h => by
      simp only [I.ok, Bool.and_eq_true] at h
      obtain ⟨⟨⟨⟨h1, h2⟩, h3⟩, h4⟩, h5⟩ := h
      obtain ⟨g1, g2⟩ := V.blt h5
      have key : ∀ (tg : Tg), (I.zip a b p pos).tgB tg = true → PI X tg.py (I.zip a b p pos).py (tIt G false false ((I.zip a b p pos).den ft)) := fun tg ht => by
        cases tg with
        | nm => cases ht
        | tp items k pos => exact i_zipS V.C g1 (V.C.blt _ g2) (a_cons V.C ((e_ok a V h1).s h3) (a_cons V.C ((e_ok b V h2).s h4) (a_nil V.C) (star1 b [] _)) (star1 a [b.py] _)) (star1 a [b.py] _) (star_no _ _ (.cons b .nil))
      exact ⟨fun tg ht => i_less (key tg ht), fun _ tg ht => key tg ht⟩
  | .zipn a b p pos, X, G, L, S, ft, sc, V, h => by
      simp only [I.ok, Bool.and_eq_true] at h
      obtain ⟨⟨⟨⟨h1, h2⟩, h3⟩, h4⟩, h5⟩ := h
      obtain ⟨g1, g2⟩ := V.blt h5
      have key : ∀ (tg : Tg), (I.zipn a b p pos).tgB tg = true → PI X tg.py (I.zipn a b p pos).py (tIt G false true ((I.zipn a b p pos).den ft)) := fun tg ht => by
        cases tg with
        | nm i x np => exact i_zipN V.C g1 (V.C.blt _ g2) (a_cons V.C ((e_ok a V h1).s h3) (a_cons V.C ((e_ok b V h2).s h4) (a_nil V.C) (star1 b [] _)) (star1 a [b.py] _)) (star1 a [b.py] _) (star_no _ _ (.cons b .nil))
        | tp items k pos => cases ht
      exact ⟨fun tg ht => i_less (key tg ht), fun _ tg ht => key tg ht⟩
end
end Den
namespace Den
open PySem PySem.Spec PyProof.Rows L2
theorem exStar (e : EX) (env : Env) : starEach [e.py] env = (false, eval e.py env) :: starEach [] env := by cases e <;> rfl
theorem ax_len {ft : Tb} {l : DX} : ∀ (es : Es) (ρ : Ro) (r : List D × Ro), axD ft l es ρ = .ok r → r.1.length = es.len + 1
  | .nil, ρ, r, h => by
    obtain ⟨a, h1, h2⟩ := bind_ok (r := l ρ) h
    cases h2; rfl
  | .cons e es, ρ, r, h => by
    obtain ⟨d, h1, h2⟩ := bind_ok (r := e.den ft ρ) h
    obtain ⟨q, h3, h4⟩ := bind_ok (r := axD ft l es ρ) h2
    cases h4
    simp [Es.len, ax_len es ρ q h3]
section
variable {X : Cx} {G : Gc} {L : Nat} {S : Sg} {ft : Tb} {sc : Scope}
theorem ad_ok (V : Env1 X G L S ft sc) {i : Nat} {y : Str} {py : Pos} (hi : dvB S sc i y = true) : ∀ (es : Es), es.ok S sc = true → es.strs S = true → PA X (es.pyL (.Name y py)) (tArgD G (es.den ft) i)
  | .nil, _, _ => by
    obtain ⟨h1, h2, h3, h4, h5, h6⟩ := V.dv hi
    exact ad_nil V.C h1 h2 h3 h4
  | .cons e es, h, hs => by
    simp only [Es.ok, Bool.and_eq_true] at h
    simp only [Es.strs, Bool.and_eq_true] at hs
    exact ad_cons V.C ((e_ok e V h.1).s hs.1) (ad_ok V hi es h.2 hs.2) (star1 e _ _)
theorem ax_ok (V : Env1 X G L S ft sc) {l : EX} (hl : PE X l.py (tX G (l.den ft))) : ∀ (es : Es), es.ok S sc = true → es.strs S = true → PA X (es.pyL l.py) (tArgX G (axD ft (l.den ft) es))
  | .nil, _, _ => ax_last V.C hl (exStar l _)
  | .cons e es, h, hs => by
    simp only [Es.ok, Bool.and_eq_true] at h
    simp only [Es.strs, Bool.and_eq_true] at hs
    exact ax_cons V.C ((e_ok e V h.1).s hs.1) (ax_ok V hl es h.2 hs.2) (star1 e _ _)
theorem ex_ok : ∀ (e : EX), Env1 X G L S ft sc → e.ok S sc = true → PE X e.py (tX G (e.den ft))
  | .mc f x p e es i y py pos, V, h => by
    simp only [EX.ok, Bool.and_eq_true, decide_eq_true_eq] at h
    obtain ⟨⟨⟨⟨⟨⟨⟨⟨h1, h2⟩, h3⟩, h4⟩, h5⟩, h6⟩, h7⟩, h8⟩, h9⟩ := h
    obtain ⟨g1, g2, g3, g4, g5, g6⟩ := V.dv h7
    exact d_mc V.C (V.fm f x _ h8 h9) (V.glob h5) (dbB_iff h6) g5 g6 (ad_cons V.C ((e_ok e V h1).s h3) (ad_ok V h7 es h2 h4) (star1 e _ _)) (fun ρ ds e' => es_len (.cons e es) ρ ds e') (star1 e _ _) (starL rfl _ es)
  | .binR op a b pos, V, h => by
    simp only [EX.ok, Bool.and_eq_true] at h
    obtain ⟨r, h1, h2⟩ := bo_ok V.C op
    exact x_binR V.C h1 h2 ((e_ok a V h.1.1).s h.1.2) (ex_ok b V h.2)
  | .binL op a b pos, V, h => by
    simp only [EX.ok, Bool.and_eq_true] at h
    obtain ⟨r, h1, h2⟩ := bo_ok V.C op
    exact x_binL V.C h1 h2 (ex_ok a V h.1.1) ((e_ok b V h.1.2).s h.2)
  | .call f x p e es l pos, V, h => by
    simp only [EX.ok, Bool.and_eq_true, decide_eq_true_eq] at h
    obtain ⟨⟨⟨⟨⟨⟨⟨⟨h1, h2⟩, h3⟩, h4⟩, h5⟩, h6⟩, h7⟩, h8⟩, h9⟩ := h
    exact x_call V.C (V.fn f x _ h9 (by omega)) (V.glob h5) (dbB_iff h6) (ax_ok V (ex_ok l V h8) (.cons e es) (by simp only [Es.ok, Bool.and_eq_true]; exact ⟨h1, h2⟩) (by simp only [Es.strs, Bool.and_eq_true]; exact ⟨h3, h4⟩)) (fun ρ r e' => ax_len (.cons e es) ρ r e') (star1 e _ _) (starL (exStar l _) _ es)
end
end Den
namespace Den
open PySem PySem.Spec PyProof.Rows L2
def bkd (sc : Scope) : ScopeKind := if sc.kind.isAnnotationScope then .function else sc.kind
def swP (sc : Scope) (ts vs : List Expr) : Option (Option (List Str)) :=
  if (!(ts.length == 2 || ts.length == 3) || vs.length != ts.length || bkd sc != .function) = true then some none
  else if (vs.any fun | .Starred .. => true | _ => false) = true then some none
  else
  let line := (ts.head?.map (·.pos.line)).getD 0
  let names := ts.filterMap fun
    | .Name id pos => if sc.names.lookup id == some .local && pos.line == line then some id else none
    | _ => none
  if (names.length != ts.length || names.eraseDups.length != names.length) = true then some none
  else if vs.all (foldedForSure 8) = true then some none
  else if vs.all (constantsAlone 8) = true then none
  else some (some names)
theorem swP_ok {env : Env} {ts vs : List Expr} {k k2 : Nat} {p p2 : Pos} {r : Option (List Str)} (h : swP env.scope ts vs = some r) : swappedStores [.Tuple ts k p] (.Tuple vs k2 p2) env = pure r := by
  unfold swP at h
  unfold swappedStores
  dsimp only
  have e1 : env.blockKind = bkd env.scope := rfl
  have e2 : ∀ x, env.kindOf x = env.scope.names.lookup x := fun _ => rfl
  simp only [e1, e2]
  split at h
  · rename_i h1; refine Eq.trans (if_pos h1) ?_; cases h; rfl
  · rename_i h1; refine Eq.trans (if_neg h1) ?_
    split at h
    · rename_i h2; refine Eq.trans (if_pos h2) ?_; cases h; rfl
    · rename_i h2; refine Eq.trans (if_neg h2) ?_
      dsimp only at h
      split at h
      · rename_i h3; refine Eq.trans (if_pos h3) ?_; cases h; rfl
      · rename_i h3; refine Eq.trans (if_neg h3) ?_
        split at h
        · rename_i h4; refine Eq.trans (if_pos h4) ?_; cases h; rfl
        · rename_i h4; refine Eq.trans (if_neg h4) ?_
          split at h
          · cases h
          · rename_i h5; refine Eq.trans (if_neg h5) ?_; cases h; rfl
def scpE : E → Option Scope
  | .comp _ _ _ _ s _ _ => some s
  | .comp2 _ _ _ _ _ _ s _ _ => some s
  | _ => none
def swW (sc : Scope) (t : Str) (pos : Pos) (e : E) : Bool := match scpE e with
  | none => false
  | some s => bkd sc == .function && sc.names.lookup t == some .local && pos.line == e.py.pos.line && !(s.names.any fun (n, k) => n == t && (k == .local || k == .cell))
theorem swW_ok {env : Env} {t : Str} {pos : Pos} {line : Nat} : ∀ e : E, swapsWith e.py (some (.Name t pos)) line env = pure (swW env.scope t pos e) := fun e => by
  cases e <;> rfl
theorem swT_ok {env : Env} {ts : List Expr} {k : Nat} {p : Pos} {line : Nat} (e : E) : swapsWithSole [.Tuple ts k p] e.py line env = pure false := by
  cases e <;> rfl
theorem swN_ok {env : Env} {line : Nat} (e : E) (h : scpE e = none) : swapsWith e.py none line env = pure false := by
  cases e <;> first | rfl | cases h
theorem swX_ok {env : Env} {t : Option Expr} {line : Nat} (e : EX) : swapsWith e.py t line env = pure false := by
  cases e <;> (cases t <;> rfl)
theorem swXT_ok {env : Env} {ts : List Expr} {k : Nat} {p : Pos} {line : Nat} (e : EX) : swapsWithSole [.Tuple ts k p] e.py line env = pure false := by
  cases e <;> rfl
theorem swXS_ok {env : Env} {ts : List Expr} {k : Nat} {p : Pos} (e : EX) : swappedStores [.Tuple ts k p] e.py env = pure none := by
  cases e <;> rfl
theorem swU_ok {env : Env} {o j : Expr} {p : Pos} {line : Nat} (e : E) (h : scpE e = none) : swapsWith e.py (some (.Subscript o j p)) line env = pure false := by
  cases e <;> first | rfl | cases h
def swD (sc s : Scope) (t : Str) (pos cpos : Pos) : Bool := bkd sc == .function && sc.names.lookup t == some .local && pos.line == cpos.line && !(s.names.any fun (n, k) => n == t && (k == .local || k == .cell))
theorem swD_ok {env : Env} {t : Str} {pos cpos : Pos} {line : Nat} {s : Scope} {kx vx : Expr} {gs : List Comprehension} : swapsWith (.DictComp kx vx gs s cpos) (some (.Name t pos)) line env = pure (swD env.scope s t pos cpos) := rfl
def tupB : E → Bool | .tup .. => true | _ => false
theorem swS_ok {env : Env} {ts : List Expr} {k : Nat} {p : Pos} (e : E) (h : tupB e = false) : swappedStores [.Tuple ts k p] e.py env = pure none := by
  cases e <;> first | rfl | cases h
def tbX (ft : Tb) (m f : Nat) : Tb := fun k => if k = m then ft f else ft k
def Sg.wF (S : Sg) (x : Str) (n : Nat) : Sg := { S with fn := S.fn ++ [(x, 3000 + n)] }
mutual
inductive S where
  | ret (e : E) (pos : Pos)
  | retO (i : Nat) (x : Str) (p pos : Pos)
  | retN (pos : Pos)
  | iff (c : E) (A B : Ss) (pos : Pos)
  | expr (e : E) (pos : Pos)
  | set (i : Nat) (x : Str) (px : Pos) (e : E) (pos : Pos)
  | mov (i : Nat) (x : Str) (px : Pos) (j : Nat) (y : Str) (py pos : Pos)
  | asg (items : List (Nat × Str × Pos)) (k : Nat) (pt : Pos) (e : E) (pos : Pos)
  | par (items : List (Nat × Str × Pos)) (k : Nat) (pt : Pos) (es : Es) (k2 : Nat) (pt2 pos : Pos)
  | app (i : Nat) (x : Str) (px apos cpos : Pos) (e : E) (pos : Pos)
  | ext (i : Nat) (x : Str) (px apos cpos : Pos) (e : E) (pos : Pos)
  | setX (i : Nat) (x : Str) (px : Pos) (e : EX) (pos : Pos)
  | retX (e : EX) (pos : Pos)
  | expX (e : EX) (pos : Pos)
  | asgX (items : List (Nat × Str × Pos)) (k : Nat) (pt : Pos) (e : EX) (pos : Pos)
  | dset (i : Nat) (x : Str) (px : Pos) (ky : E) (p2 : Pos) (e : E) (pos : Pos)
  | dcp (i : Nat) (x : Str) (px : Pos) (ky vl : E) (tg : Tg) (it : I) (scope : Scope) (own : List (Str × Nat)) (cpos pos : Pos)
  | brk (pos : Pos)
  | cnt (pos : Pos)
  | pas (pos : Pos)
  | for (tg : Tg) (it : I) (A : Ss) (pos : Pos)
  | whl (n : Nat) (c : E) (A : Ss) (pos : Pos)
  | forF (i : Nat) (x : Str) (px : Pos) (m n : Nat) (js : List (Nat × Str × Pos)) (k : Nat) (p2 : Pos) (A : Ss) (pos : Pos)
  | tryI (A : Ss) (i : Nat) (n : Str) (xs : List (Str × Isp)) (np lp ap : Pos) (jk : Nat) (cp2 cp rp hpos pos : Pos)
  | rse (c : Nat) (x : Str) (p : Pos) (m : Str) (k : Nat) (p2 pos pos' : Pos)
inductive Ss where
  | nil
  | cons (s : S) (ss : Ss)
end
mutual
def S.py : S → Stmt
  | .ret e pos => .Return (some e.py) pos
  | .retO _ x p pos => .Return (some (.Name x p)) pos
  | .retN pos => .Return none pos
  | .iff c A B pos => .If c.py A.py B.py pos
  | .expr e pos => .Expr e.py pos
  | .set _ x px e pos => .Assign [.Name x px] e.py pos
  | .mov _ x px _ y py pos => .Assign [.Name x px] (.Name y py) pos
  | .asg items k pt e pos => .Assign [.Tuple (tgNames items) k pt] e.py pos
  | .par items k pt es k2 pt2 pos => .Assign [.Tuple (tgNames items) k pt] (.Tuple es.py k2 pt2) pos
  | .app _ x px apos cpos e pos => .Expr (.Call (.Attribute (.Name x px) "append" apos) [e.py] [] cpos) pos
  | .ext _ x px apos cpos e pos => .Expr (.Call (.Attribute (.Name x px) "extend" apos) [e.py] [] cpos) pos
  | .setX _ x px e pos => .Assign [.Name x px] e.py pos
  | .retX e pos => .Return (some e.py) pos
  | .expX e pos => .Expr e.py pos
  | .asgX items k pt e pos => .Assign [.Tuple (tgNames items) k pt] e.py pos
  | .dset _ x px ky p2 e pos => .Assign [.Subscript (.Name x px) ky.py p2] e.py pos
  | .dcp _ x px ky vl tg it scope _ cpos pos => .Assign [.Name x px] (.DictComp ky.py vl.py [⟨tg.py, it.py, [], 0⟩] scope cpos) pos
  | .brk pos => .Break pos
  | .cnt pos => .Continue pos
  | .pas pos => .Pass pos
  | .for tg it A pos => .For tg.py it.py A.py [] pos
  | .whl _ c A pos => .While c.py A.py [] pos
  | .forF _ x px _ _ js k p2 A pos => .For (.Name x px) (.Tuple (js.map fun j => .Name j.2.1 j.2.2) k p2) A.py [] pos
  | .tryI A _ n xs np lp ap jk cp2 cp rp hpos pos => .Try A.py [.ExceptHandler (some (.Name "PanelError" np)) (some n) [.Return (some (.Call (.Attribute (.List (issE n xs) lp) "index" ap) [.Constant (.bool true) jk cp2] [] cp)) rp] hpos] [] [] pos
  | .rse _ x p m k p2 pos pos' => .Raise (some (.Call (.Name x p) [.Constant (.str m) k p2] [] pos)) none pos'
def Ss.py : Ss → List Stmt
  | .nil => []
  | .cons s ss => s.py :: ss.py
end
mutual
def S.den (ft : Tb) : S → DS
  | .ret e _ => retS (e.den ft)
  | .retO i _ _ _ => retS (vaR i)
  | .retN _ => retN
  | .iff c A B _ => iteS (c.den ft) (A.den ft) (B.den ft)
  | .expr e _ => exprS (e.den ft)
  | .set i _ _ e _ => asgS [i] (consArg (e.den ft) noArg)
  | .mov i _ _ j _ _ _ => movS i j
  | .asg items _ _ e _ => asgT (setT (items.map (·.1))) (e.den ft)
  | .par items _ _ es _ _ _ => asgS (items.map (·.1)) (es.den ft)
  | .app i _ _ _ _ e _ => appS i (e.den ft)
  | .ext i _ _ _ _ e _ => extS i (e.den ft)
  | .setX i _ _ e _ => setXS i (e.den ft)
  | .retX e _ => retXS (e.den ft)
  | .expX e _ => expXS (e.den ft)
  | .asgX items _ _ e _ => asgXS (setT (items.map (·.1))) (e.den ft)
  | .dset i _ _ ky _ e _ => dsetS (ky.den ft) (e.den ft) i
  | .dcp i _ _ ky vl tg it _ own _ _ => dcpS i (own.map (·.2)) (it.den ft) tg.st (ky.den ft) (vl.den ft)
  | .brk _ => bkS
  | .cnt _ => ctS
  | .pas _ => nxS
  | .for tg it A _ => forS (it.den ft) tg.st (A.den ft)
  | .whl n c A _ => whlL (c.den ft) (A.den ft) n
  | .forF i _ _ m _ js _ _ A _ => forFL i (js.map fun j => A.den (tbX ft m j.1))
  | .tryI A _ _ xs _ _ _ _ _ _ _ _ _ => tryD xs.length (A.den ft)
  | .rse c _ _ _ _ _ _ _ => rsS c
def Ss.den (ft : Tb) : Ss → DS
  | .nil => nxS
  | .cons s ss => seqS (s.den ft) (ss.den ft)
end
def nodB (S : Sg) (i : Nat) (x : Str) : Bool := decide (S.dp ≠ some i) && !S.isF x
def stoB (S : Sg) (sc : Scope) (i : Nat) (x : Str) : Bool := decide (S.N[i]? = some x) && nodB S i x && (match sc.names.lookup x with
  | some .local => true
  | some .cell => true
  | _ => false)
def Sg.kd (S : Sg) (i : Nat) : Kd := if S.own i = true then (if S.dct i = true then .d else .l) else .v
def mixB (S : Sg) (sc : Scope) : List Kd → Es → Bool
  | [], .nil => true
  | b :: fl, .cons e es => (match b with
    | .v => e.ok S sc && e.str S
    | .l => e.ok S sc && e.fr
    | .d => e.dnew) && mixB S sc fl es
  | _, _ => false
def parB (S : Sg) (sc : Scope) (items : List (Nat × Str × Pos)) (es : Es) : Bool :=
  match items with
  | [a, b] => (match es with
    | .cons _ (.cons _ .nil) => decide (a.1 ≠ b.1) && decide (sc.names.lookup a.2.1 = some .local) && decide (sc.names.lookup b.2.1 = some .local) && decide (swP sc (tgNames items) es.py = some (some [a.2.1, b.2.1]))
    | _ => false)
  | [a, b, c] => (match es with
    | .cons _ (.cons _ (.cons _ .nil)) => decide (a.1 ≠ b.1) && decide (a.1 ≠ c.1) && decide (b.1 ≠ c.1) && decide (sc.names.lookup a.2.1 = some .local) && decide (sc.names.lookup b.2.1 = some .local) && decide (sc.names.lookup c.2.1 = some .local) && decide (swP sc (tgNames items) es.py = some (some [a.2.1, b.2.1, c.2.1]))
    | _ => false)
  | _ => false
mutual
def S.ok (S : Sg) (ex : List Str) (sc : Scope) : Den.S → Bool
  | .ret e _ => e.ok S sc && e.str S
  | .retO i x _ _ => varB S sc i x
  | .retN _ => true
  | .iff c A B _ => c.ok S sc && c.tstB && A.ok S ex sc && B.ok S ex sc
  | .expr e _ => e.ok S sc && e.str S && (scpE e).isNone
  | .set i x px e _ => stoB S sc i x && !S.dct i && e.ok S sc && (if S.own i then e.fr else e.str S)
  | .mov i x _ j y _ _ => locB S sc none i x && varB S sc j y && S.own j
  | .asg items _ _ e _ => e.ok S sc && e.str S && !tupB e && tgB S sc none (.tp items 0 default)
  | .par items _ _ es _ _ _ => mixB S sc (items.map fun p => S.kd p.1) es && (items.all fun p => stoB S sc p.1 p.2.1) && decide (items.length ≤ 100) && (parB S sc items es || decide (swP sc (tgNames items) es.py = some none))
  | .app i x _ apos cpos e _ => varB S sc i x && S.own i && e.ok S sc && e.str S && (apos.endLine == cpos.line)
  | .ext i x _ apos cpos e _ => varB S sc i x && S.own i && e.ok S sc && e.fr && (apos.endLine == cpos.line)
  | .setX i x px e _ => locB S sc none i x && e.ok S sc
  | .retX e _ => e.ok S sc
  | .expX e _ => e.ok S sc
  | .asgX items _ _ e _ => e.ok S sc && tgB S sc none (.tp items 0 default)
  | .dset i x _ ky _ e _ => dvB S sc i x && ky.ok S sc && ky.str S && e.ok S sc && e.str S && (scpE e).isNone
  | .dcp i x px ky vl tg it scope own cpos _ => it.tgB tg && it.ok S sc && blkD S sc scope own && tgB S (relS scope sc) (some scope) tg && decide (∀ i ∈ tg.is, i ∈ own.map (·.2)) && ky.ok S (relS scope sc) && ky.str S && vl.ok S (relS scope sc) && vl.str S && S.own i && S.dct i && stoB S sc i x && decide (sc.names.lookup x = some .local) && swD sc scope x px cpos
  | .brk _ => true
  | .cnt _ => true
  | .pas _ => true
  | .for tg it A _ => it.tgB tg && it.ok S sc && it.strI S && tgB S sc none tg && A.ok S ex sc
  | .whl _ c A _ => c.ok S sc && c.tstB && A.ok S ex sc
  | .forF i x _ m n js _ _ A _ => decide (S.N[i]? = some x) && decide (sc.names.lookup x = some .local) && S.own i && S.dct i && (S.fn.all fun p => decide (p.2 < 3000)) && decide (m = S.fn.length) && decide (n < 1000) && decide (js.length ≤ 100) && (js.all fun j => glB sc j.2.1 && dbB j.2.1 && decide (S.fn[j.1]? = some (j.2.1, n))) && A.ok (S.wF x n) ex sc
  | .tryI A i n xs _ _ ap _ _ cp _ _ _ => decide (S.dp = none) && A.ok S ex sc && decide (S.N[i]? = some n) && decide (sc.names.lookup n = some .local) && dbB n && blB S sc "isinstance" && glB sc "PanelError" && decide (xs.map (·.1) = ex) && (ex.all fun x => glB sc x && dbB x) && decide (xs.length ≤ 100) && (ap.endLine == cp.line)
  | .rse c x _ _ _ _ _ _ => glB sc x && dbB x && decide (ex[c]? = some x)
def Ss.ok (S : Sg) (ex : List Str) (sc : Scope) : Ss → Bool
  | .nil => true
  | .cons s ss => s.ok S ex sc && ss.ok S ex sc
end
end Den
namespace Den
open PySem PySem.Spec PyProof.Rows L2
structure Env2 (X : Cx) (G : Gc) (L : Nat) (S : Sg) (ex : List Str) (ft : Tb) (sc : Scope) : Prop extends Env1 X G L S ft sc where
  SC : SCtx X G L S.bl
  tk : Takes X (fun cls d _ H => G.E cls d H)
  tm : TryM X.K X.mg G.cl ex
  ex : ∀ c x, ex[c]? = some x → ExC X G.cl c x
  st : X.stack = X.env :: X.outer
  fr : X.env.frame = some X.env.locals
section
variable {X : Cx} {G : Gc} {L : Nat} {S : Sg} {ex : List Str} {ft : Tb} {sc : Scope}
theorem sto_ok (V : Env1 X G L S ft sc) {i : Nat} {x : Str} (h : stoB S sc i x = true) : X.N[i]? = some x ∧ Loc X.env.scope x ∧ (S.dp ≠ some i ∧ ∀ x, S.N[i]? = some x → S.isF x = false) := by
  unfold stoB nodB at h
  simp only [Bool.and_eq_true, decide_eq_true_eq, Bool.not_eq_true'] at h
  refine ⟨by rw [V.N]; exact h.1.1, ?_, h.1.2.1, fun y hy => by rw [h.1.1] at hy; cases hy; exact h.1.2.2⟩
  rw [V.sc]
  have h2 := h.2
  split at h2 <;> first | exact .inl (by assumption) | exact .inr (by assumption) | cases h2
theorem mix_ok (V : Env1 X G L S ft sc) : ∀ (fl : List Kd) (es : Es), mixB S sc fl es = true → PA X es.py (tMix G fl (es.den ft))
  | [], .nil, _ => m_nil V.C
  | k :: fl, .cons e es, h2 => by
    unfold mixB at h2
    rw [Bool.and_eq_true] at h2
    have hr := mix_ok V fl es h2.2
    cases k with
    | v =>
      have h3 := h2.1
      simp only [Bool.and_eq_true] at h3
      exact m_consS V.C ((e_ok e V h3.1).s h3.2) hr (star1 _ _ _)
    | l =>
      have h3 := h2.1
      simp only [Bool.and_eq_true] at h3
      have he := e_ok e V h3.1
      exact m_consF V.C (he.f h3.2).1 (he.f h3.2).2 hr (star1 _ _ _)
    | d =>
      cases e with
      | dct pos => exact m_consD V.C hr (star1 (.dct pos) _ _)
      | _ => exact absurd h2.1 (by simp [E.dnew])
  | [], .cons _ _, h2 => by cases h2
  | _ :: _, .nil, h2 => by cases h2
theorem gnames_ok (V : Env2 X G L S ex ft sc) : ∀ items : List (Nat × Str × Pos), (items.all fun p => stoB S sc p.1 p.2.1) = true → PGs X (tgNames items) (gNames (items.map (·.1)))
  | [], _ => gn_nil
  | (i, x, p) :: r, h => by
    rw [List.all_cons, Bool.and_eq_true] at h
    obtain ⟨h1, h2, _⟩ := sto_ok V.toEnv1 h.1
    exact gn_cons V.SC h1 h2 (gnames_ok V r h.2)
theorem par_ok (V : Env2 X G L S ex ft sc) {items : List (Nat × Str × Pos)} {es : Es} {k k2 : Nat} {pt pt2 pos : Pos} (h2 : mixB S sc (items.map fun p => S.kd p.1) es = true) (h3 : (items.all fun p => stoB S sc p.1 p.2.1) = true) (h4 : items.length ≤ 100)
    (h5 : parB S sc items es = true ∨ swP sc (tgNames items) es.py = some none) : PS X (.Assign [.Tuple (tgNames items) k pt] (.Tuple es.py k2 pt2) pos) (tSS G (asgS (items.map (·.1)) (es.den ft))) := by
  have ha := mix_ok V.toEnv1 _ es h2
  have hdp : ∀ k ∈ items.map (·.1), ∀ a, G.dp ≠ some (k, a) ∧ G.fv ≠ some (k, a) := fun k hk => by
    obtain ⟨p, hp, rfl⟩ := List.mem_map.mp hk
    exact V.toEnv1.ndp (sto_ok V.toEnv1 (List.all_eq_true.mp h3 p hp)).2.2
  have hkd : ∀ i, S.kd i = G.kd i := fun i => by unfold Sg.kd Gc.kd; rw [V.own, V.dct]
  have hsole : swapsWithSole [.Tuple (tgNames items) k pt] (.Tuple es.py k2 pt2) pos.line X.env = pure false := swT_ok (.tup es k2 pt2)
  rcases h5 with h5 | h5
  · unfold parB at h5
    split at h5
    · rename_i a b
      split at h5
      · rename_i e1 e2
        simp only [Bool.and_eq_true, decide_eq_true_eq] at h5
        obtain ⟨⟨⟨g1, g2⟩, g3⟩, g4⟩ := h5
        simp only [List.all_cons, Bool.and_eq_true] at h3
        have hl : ∀ ρ ds, (Es.cons e1 (.cons e2 .nil)).den ft ρ = .ok ds → ds.length = 2 := fun ρ ds e => es_len _ ρ ds e
        have hw : swappedStores [.Tuple (tgNames [a, b]) k pt] (.Tuple (Es.cons e1 (.cons e2 .nil)).py k2 pt2) X.env = pure (some [a.2.1, b.2.1]) := swP_ok (by rw [V.sc]; exact g4)
        have hm : [a, b].map (fun p => S.kd p.1) = [a.1, b.1].map G.kd := by simp [hkd]
        rw [hm] at ha
        exact s_par2 V.SC (sto_ok V.toEnv1 h3.1).1 (sto_ok V.toEnv1 h3.2.1).1 g1 (by rw [V.sc]; exact g2) (by rw [V.sc]; exact g3) ha hdp hl hw hsole
      · cases h5
    · rename_i a b c
      split at h5
      · rename_i e1 e2 e3
        simp only [Bool.and_eq_true, decide_eq_true_eq, Bool.not_eq_true'] at h5
        obtain ⟨⟨⟨⟨⟨⟨g1, g2⟩, g3⟩, g4⟩, g5⟩, g6⟩, g10⟩ := h5
        simp only [List.all_cons, Bool.and_eq_true] at h3
        have hl : ∀ ρ ds, (Es.cons e1 (.cons e2 (.cons e3 .nil))).den ft ρ = .ok ds → ds.length = 3 := fun ρ ds e => es_len _ ρ ds e
        have hw : swappedStores [.Tuple (tgNames [a, b, c]) k pt] (.Tuple (Es.cons e1 (.cons e2 (.cons e3 .nil))).py k2 pt2) X.env = pure (some [a.2.1, b.2.1, c.2.1]) := swP_ok (by rw [V.sc]; exact g10)
        have hm : [a, b, c].map (fun p => S.kd p.1) = [a.1, b.1, c.1].map G.kd := by simp [hkd]
        rw [hm] at ha
        exact s_par3 V.SC (sto_ok V.toEnv1 h3.1).1 (sto_ok V.toEnv1 h3.2.1).1 (sto_ok V.toEnv1 h3.2.2.1).1 g1 g2 g3 (by rw [V.sc]; exact g4) (by rw [V.sc]; exact g5) (by rw [V.sc]; exact g6) ha hdp hl hw hsole
      · cases h5
    · cases h5
  · have hm : items.map (fun p => S.kd p.1) = (items.map (·.1)).map G.kd := by rw [List.map_map]; exact List.map_congr_left fun p _ => hkd p.1
    rw [hm] at ha
    exact s_tup V.SC (gnames_ok V items h3) ha hdp (by rw [List.length_map]; unfold big; omega) (by rw [names_len]; simp) (names_star _ _) hsole (swP_ok (by rw [V.sc]; exact h5)) rfl
theorem set_ok (V : Env2 X G L S ex ft sc) {i : Nat} {x : Str} {px pos : Pos} {e : E} (h1 : stoB S sc i x = true) (hdt' : S.dct i = false) (h2 : e.ok S sc = true) (h3 : (if S.own i = true then e.fr else e.str S) = true) : PS X (.Assign [.Name x px] e.py pos) (tSS G (asgS [i] (consArg (e.den ft) noArg))) := by
  obtain ⟨g1, g2, g0⟩ := sto_ok V.toEnv1 h1
  have hdt : G.dct i = false := by rw [V.dct]; exact hdt'
  have hdp := V.toEnv1.ndp g0
  have he := e_ok e V.toEnv1 h2
  have hsw := swW_ok (env := X.env) (t := x) (pos := px) (line := pos.line) e
  cases hb : swW X.env.scope x px e with
  | false =>
    rw [hb] at hsw
    cases hw : S.own i with
    | false =>
      rw [if_neg (by rw [hw]; decide)] at h3
      exact s_set V.SC g1 g2 (he.s h3) (by rw [V.own]; exact hw) hsw
    | true =>
      rw [if_pos hw] at h3
      exact s_setO V.SC g1 g2 (he.f h3).1 (by rw [V.own]; exact hw) hdt hdp hsw
  | true =>
    rw [hb] at hsw
    unfold swW at hb
    split at hb
    · cases hb
    · rename_i s hs
      simp only [Bool.and_eq_true] at hb
      have hloc : X.env.scope.names.lookup x = some .local := by simpa using hb.1.1.2
      cases e with
      | comp elt tg it ifs scope own pos' =>
        simp only [E.ok, Bool.and_eq_true, decide_eq_true_eq] at h2
        obtain ⟨⟨⟨⟨⟨⟨⟨⟨h0, h1⟩, h2⟩, h3⟩, h4⟩, h5⟩, h6⟩, h7⟩, h8⟩ := h2
        refine s_setLc V.SC hdt hdp g1 hloc hsw ((i_ok it V.toEnv1 h1).w _ h0) (by rw [V.N, V.sc]; exact blkOk_by (V.toEnv1.ndv h2).1) (V.toEnv1.ndv h2).2 (fun s H Cc cl fp => let V' := V.toEnv1.noE (scope := scope) (s := s) (H := H) (Cc := Cc) (cl := cl) (fp := fp); tg_ok V'.C.K V'.N V'.C.nd V'.C.calm V'.sc V'.own sto_blk tg (full_tg h0) h3 h4) (fun s H Cc cl fp => ?_) (fun s H Cc cl fp => (e_ok elt V.toEnv1.noE h7).s h8) (fold1 it _) (fun ρ d e => compE_list ρ d e)
        cases ifs with
        | nil => exact p_nil V.C.K
        | cons e1 r =>
          cases r with
          | nil =>
            simp only [Es.ok, Bool.and_true] at h5
            exact p_one ((e_ok e1 V.toEnv1.noE h5).t h6)
          | cons e2 r => cases h6
      | comp2 elt tg it tg1 it1 ifs scope own pos' =>
        simp only [E.ok, Bool.and_eq_true, decide_eq_true_eq] at h2
        obtain ⟨⟨⟨⟨⟨⟨⟨⟨⟨⟨⟨⟨⟨h0, h01⟩, h1⟩, h2⟩, h3⟩, h4⟩, g1'⟩, g2'⟩, g3⟩, g4⟩, h5⟩, h6⟩, h7⟩, h8⟩ := h2
        refine s_setLc2 V.SC hdt hdp g1 hloc hsw ((i_ok it V.toEnv1 h1).w _ h0) (by rw [V.N, V.sc]; exact blkOk_by (V.toEnv1.ndv h2).1) (V.toEnv1.ndv h2).2 g4
          (fun O0 s H Cc cl fp => let V' := V.toEnv1.wO O0 (scope := scope) (s := s) (H := H) (Cc := Cc) (cl := cl) (fp := fp); tg_ok V'.C.K V'.N V'.C.nd V'.C.calm V'.sc V'.own sto_blk tg (full_tg h0) h3 h4)
          (fun O0 s H Cc cl fp => (i_ok it1 (V.toEnv1.wO O0) g1').s g2' _ h01)
          (fun O0 s H Cc cl fp => let V' := V.toEnv1.wO O0 (scope := scope) (s := s) (H := H) (Cc := Cc) (cl := cl) (fp := fp); tg_ok V'.C.K V'.N V'.C.nd V'.C.calm V'.sc V'.own sto_blk tg1 (full_tg h01) g3 fun i hi => hi)
          (fun O0 s H Cc cl fp => ?_) (fun O0 s H Cc cl fp => (e_ok elt (V.toEnv1.wO O0) h7).s h8) (fold1 it _) (fun env => fold1 it1 env) (fun ρ d e => compE2_list ρ d e)
        cases ifs with
        | nil => exact p_nil V.C.K
        | cons e1 r =>
          cases r with
          | nil =>
            simp only [Es.ok, Bool.and_true] at h5
            exact p_one ((e_ok e1 (V.toEnv1.wO O0) h5).t h6)
          | cons e2 r => cases h6
      | _ => cases hs
end
mutual
theorem s_ok : ∀ (st : S) {X : Cx} {G : Gc} {L : Nat} {S : Sg} {ex : List Str} {ft : Tb} {sc : Scope}, Env2 X G L S ex ft sc → st.ok S ex sc = true → PS X st.py (tSS G (st.den ft))
  | .ret e pos, X, G, L, S, ex, ft, sc, V, h => by
      simp only [Den.S.ok, Bool.and_eq_true] at h
      exact s_ret ((e_ok e V.toEnv1 h.1).s h.2)
  | .retO i x p pos, X, G, L, S, ex, ft, sc, V, h => by
      obtain ⟨h1, h2, h3, h4, h5⟩ := V.vis h
      exact s_retO V.C h5 h1 h2 h3 h4
  | .retN pos, X, G, L, S, ex, ft, sc, V, h => s_retN V.C
  | .iff c A B pos, X, G, L, S, ex, ft, sc, V, h => by
      simp only [Den.S.ok, Bool.and_eq_true] at h
      exact s_if ((e_ok c V.toEnv1 h.1.1.1).t h.1.1.2) (ss_ok A V h.1.2) (ss_ok B V h.2)
  | .expr e pos, X, G, L, S, ex, ft, sc, V, h => by
      simp only [Den.S.ok, Bool.and_eq_true] at h
      exact s_expr ((e_ok e V.toEnv1 h.1.1).s h.1.2) (swN_ok e (by simpa using h.2))
  | .set i x px e pos, X, G, L, S, ex, ft, sc, V, h => by
      simp only [Den.S.ok, Bool.and_eq_true, Bool.not_eq_true'] at h
      exact set_ok V h.1.1.1 h.1.1.2 h.1.2 h.2
  | .mov i x px j y py pos, X, G, L, S, ex, ft, sc, V, h => by
      simp only [Den.S.ok, Bool.and_eq_true] at h
      obtain ⟨h1, h2, h3, h4, h5⟩ := V.vis h.1.2
      obtain ⟨g1, g2, g3, g4⟩ := loc_ok (bs := none) V.sc V.SC.fn h.1.1
      exact s_mov V.SC (by rw [V.N]; exact g1) g3 h1 h2 h3 h4 (by rw [V.own]; exact g2) (by rw [V.own]; exact h.2) h5
  | .asg items k pt e pos, X, G, L, S, ex, ft, sc, V, h => by
      simp only [Den.S.ok, Bool.and_eq_true, Bool.not_eq_true'] at h
      have hg := tg_ok (b := true) (vs := (Tg.tp items k pt).is) V.C.K V.N V.C.nd V.C.calm V.sc V.own (bs := none) V.SC.fn (.tp items k pt) (.inl rfl) h.2 fun i hi => hi
      exact s_asg V.SC ((e_ok e V.toEnv1 h.1.1.1).s h.1.1.2) hg (swT_ok e) (swS_ok e h.1.2) rfl
  | .par items k pt es k2 pt2 pos, X, G, L, S, ex, ft, sc, V, h => by
      simp only [Den.S.ok, Bool.and_eq_true, Bool.or_eq_true, decide_eq_true_eq] at h
      exact par_ok V h.1.1.1 h.1.1.2 h.1.2 h.2
  | .app i x px apos cpos e pos, X, G, L, S, ex, ft, sc, V, h => by
      simp only [Den.S.ok, Bool.and_eq_true] at h
      obtain ⟨h1, h2, h3, h4, h5⟩ := V.vis h.1.1.1.1
      exact s_app V.SC h1 h2 h3 h4 (by rw [V.own]; exact h.1.1.1.2) h5 ((e_ok e V.toEnv1 h.1.1.2).s h.1.2) (star1 e [] _) h.2
  | .ext i x px apos cpos e pos, X, G, L, S, ex, ft, sc, V, h => by
      simp only [Den.S.ok, Bool.and_eq_true] at h
      obtain ⟨h1, h2, h3, h4, h5⟩ := V.vis h.1.1.1.1
      exact s_ext V.SC h1 h2 h3 h4 (by rw [V.own]; exact h.1.1.1.2) h5 ((e_ok e V.toEnv1 h.1.1.2).f h.1.2).1 (star1 e [] _) h.2
  | .setX i x px e pos, X, G, L, S, ex, ft, sc, V, h => by
      simp only [Den.S.ok, Bool.and_eq_true] at h
      obtain ⟨g1, g2, g3, g4⟩ := loc_ok (bs := none) V.sc V.SC.fn h.1
      exact s_setX V.SC (by rw [V.N]; exact g1) g3 (ex_ok e V.toEnv1 h.2) (by rw [V.own]; exact g2) (swX_ok e)
  | .retX e pos, X, G, L, S, ex, ft, sc, V, h => s_retX V.SC (ex_ok e V.toEnv1 h)
  | .expX e pos, X, G, L, S, ex, ft, sc, V, h => s_expX V.SC (ex_ok e V.toEnv1 h) (swX_ok e)
  | .asgX items k pt e pos, X, G, L, S, ex, ft, sc, V, h => by
      simp only [Den.S.ok, Bool.and_eq_true] at h
      have hg := tg_ok (b := true) (vs := (Tg.tp items k pt).is) V.C.K V.N V.C.nd V.C.calm V.sc V.own (bs := none) V.SC.fn (.tp items k pt) (.inl rfl) h.2 fun i hi => hi
      exact s_asgX V.SC (ex_ok e V.toEnv1 h.1) hg (swXT_ok e) (swXS_ok e) rfl
  | .dset i x px ky p2 e pos, X, G, L, S, ex, ft, sc, V, h => by
      simp only [Den.S.ok, Bool.and_eq_true] at h
      obtain ⟨⟨⟨⟨⟨h1, h2⟩, h3⟩, h4⟩, h5⟩, h6⟩ := h
      obtain ⟨g1, g2, g3, g4, g5, g6⟩ := V.dv h1
      exact s_dset V.SC g1 g2 g3 g4 g5 g6 ((e_ok ky V.toEnv1 h2).s h3) ((e_ok e V.toEnv1 h4).s h5) (swU_ok e (by simpa using h6))
  | .dcp i x px ky vl tg it scope own cpos pos, X, G, L, S, ex, ft, sc, V, h => by
      simp only [Den.S.ok, Bool.and_eq_true, decide_eq_true_eq] at h
      obtain ⟨⟨⟨⟨⟨⟨⟨⟨⟨⟨⟨⟨⟨h0, h1⟩, h2⟩, h3⟩, h4⟩, h5⟩, h6⟩, h7⟩, h8⟩, h9⟩, h10⟩, h11⟩, h12⟩, h13⟩ := h
      obtain ⟨g1, g2, g3⟩ := sto_ok V.toEnv1 h11
      exact s_dcp V.SC (by rw [V.own]; exact h9) (by rw [V.dct]; exact h10) (V.toEnv1.ndp g3) g1 (by rw [V.sc]; exact h12) (by rw [swD_ok, V.sc, h13]) ((i_ok it V.toEnv1 h1).w _ h0) (by rw [V.N, V.sc]; exact blkOk_by (V.toEnv1.ndv h2).1) (V.toEnv1.ndv h2).2
        (fun s H Cc cl fp => let V' := V.toEnv1.noE (scope := scope) (s := s) (H := H) (Cc := Cc) (cl := cl) (fp := fp); tg_ok V'.C.K V'.N V'.C.nd V'.C.calm V'.sc V'.own sto_blk tg (full_tg h0) h3 h4)
        (fun s H Cc cl fp => (e_ok ky V.toEnv1.noE h5).s h6) (fun s H Cc cl fp => (e_ok vl V.toEnv1.noE h7).s h8) (fold1 it _)
  | .brk pos, X, G, L, S, ex, ft, sc, V, h => s_break V.C
  | .cnt pos, X, G, L, S, ex, ft, sc, V, h => s_cont V.C
  | .pas pos, X, G, L, S, ex, ft, sc, V, h => s_pass V.C
  | .for tg it A pos, X, G, L, S, ex, ft, sc, V, h => by
      simp only [Den.S.ok, Bool.and_eq_true] at h
      have hg := tg_ok (vs := tg.is) V.C.K V.N V.C.nd V.C.calm V.sc V.own (bs := none) V.SC.fn tg (full_tg h.1.1.1.1) h.1.2 fun i hi => hi
      exact s_for V.SC ((i_ok it V.toEnv1 h.1.1.1.2).s h.1.1.2 tg h.1.1.1.1) hg (ss_ok A V h.2) (fold1 it _)
  | .whl n c A pos, X, G, L, S, ex, ft, sc, V, h => by
      simp only [Den.S.ok, Bool.and_eq_true] at h
      exact s_while V.SC n ((e_ok c V.toEnv1 h.1.1).t h.1.2) (ss_ok A V h.2)
  | .forF i x px m n js k p2 A pos, X, G, L, S, ex, ft, sc, V, h => by
      simp only [Den.S.ok, Bool.and_eq_true, decide_eq_true_eq, List.all_eq_true] at h
      obtain ⟨⟨⟨⟨⟨⟨⟨⟨⟨h1, h2⟩, h3⟩, h4⟩, h5⟩, h6⟩, h7⟩, h8⟩, h9⟩, h10⟩ := h
      subst h6
      have h0 : G.fv = none := by
        cases hf : G.fv with
        | none => rfl
        | some p =>
          obtain ⟨y, _, e2⟩ := V.fv p.1 p.2 hf
          unfold Sg.isF at e2
          obtain ⟨q, hq, e3⟩ := List.any_eq_true.mp e2
          have := h5 q hq
          simp only [Bool.and_eq_true, decide_eq_true_eq] at e3
          omega
      have hx : Loc X.env.scope x := by rw [V.sc]; exact .inl h2
      have hN : X.N[i]? = some x := by rw [V.N]; exact h1
      let ad : Str → Addr := fun y => match X.mg y with
        | some (.ref a) => a
        | _ => 0
      have hF : ∀ j ∈ js, X.mg j.2.1 = some (.ref (ad j.2.1)) ∧ FnA X G.cl L (ad j.2.1) n (ft j.1) := fun j hj => by
        obtain ⟨f, fd, ps, g1, g2, g3, g4, g5⟩ := (V.fn j.1 j.2.1 n (h9 j hj).2 h7).ex
        have e : ad j.2.1 = f := by
          show (match X.mg j.2.1 with | some (.ref a) => a | _ => 0) = f
          rw [g3]
        rw [e]
        exact ⟨g3, fd, ps, g1, g2, g4, g5⟩
      have key := s_forF (A := A.py) (i := i) (k := k) (px := px) (p2 := p2) (pos := pos) V.SC (l := js.map fun j => (j.2.1, j.2.2, ad j.2.1, A.den (tbX ft S.fn.length j.1))) hN hx (by rw [V.own]; exact h3) (by rw [V.dct]; exact h4) h0 (by rw [List.length_map]; exact h8) (fun q hq => by
        obtain ⟨j, hj, rfl⟩ := List.mem_map.mp hq
        exact ⟨V.glob (h9 j hj).1.1, (hF j hj).1, dbB_iff (h9 j hj).1.2⟩) (fun q hq => by
        obtain ⟨j, hj, rfl⟩ := List.mem_map.mp hq
        have lt : ∀ {f : Nat} {y : Str} {a : Nat}, (S.wF x n).fn[f]? = some (y, a) → (f < S.fn.length ∧ S.fn[f]? = some (y, a) ∧ a < 3000) ∨ (f = S.fn.length ∧ y = x ∧ a = 3000 + n) := fun {f y a} e => by
          have e : (S.fn ++ [(x, 3000 + n)])[f]? = some (y, a) := e
          by_cases hf : f < S.fn.length
          · rw [List.getElem?_append_left hf] at e
            exact .inl ⟨hf, e, h5 _ (List.mem_of_getElem? e)⟩
          · rw [List.getElem?_append_right (by omega)] at e
            have e0 : f - S.fn.length = 0 := by
              by_cases z : f - S.fn.length = 0
              · exact z
              · rw [List.getElem?_eq_none (by simp; omega)] at e; cases e
            rw [e0] at e
            simp at e
            exact .inr ⟨by omega, e.1.symm, e.2.symm⟩
        have tb : ∀ {f : Nat}, f < S.fn.length → tbX ft S.fn.length j.1 f = ft f := fun {f} hf => by unfold tbX; rw [if_neg (by omega)]
        have tb2 : tbX ft S.fn.length j.1 S.fn.length = ft j.1 := by unfold tbX; rw [if_pos rfl]
        have C : Ctx X (G.wF i (ad j.2.1)) L S.bl := ⟨V.C.K, V.C.P, V.C.w, V.C.pass, V.C.room, V.C.calm, V.C.nd, V.C.blt⟩
        exact ss_ok A (X := X) (G := G.wF i (ad j.2.1)) (L := L) (S := S.wF x n) (ex := ex) (ft := tbX ft S.fn.length j.1) (sc := sc)
          { C := C, N := V.N, sc := V.sc, own := V.own, dct := V.dct, dp := V.dp, gl := V.gl,
            fn := fun f y a e ha => by
              rcases lt e with ⟨z1, z2, _⟩ | ⟨_, _, z3⟩
              · rw [tb z1]; exact V.fn f y a z2 ha
              · omega,
            fm := fun f y a e ha => by
              rcases lt e with ⟨z1, z2, _⟩ | ⟨_, _, z3⟩
              · rw [tb z1]; exact V.fm f y a z2 ha
              · omega,
            fv := fun i' a e => by
              have e' : some (i, ad j.2.1) = some (i', a) := e
              cases e'
              refine ⟨x, hN, ?_⟩
              unfold Sg.isF
              refine List.any_eq_true.mpr ⟨(x, 3000 + n), List.mem_append_right _ (List.mem_singleton.mpr rfl), ?_⟩
              simp,
            fa := fun f y a e => by
              rcases lt e with ⟨_, _, z3⟩ | ⟨z1, z2, z3⟩
              · omega
              · have : a = n := by omega
                subst this; subst z2; subst z1
                rw [tb2]
                exact ⟨i, ad j.2.1, hN, rfl, (hF j hj).2⟩,
            SC := { toCtx := C, po := V.SC.po, fn := V.SC.fn }, tk := V.tk, ex := V.ex, st := V.st, fr := V.fr, tm := V.tm } h10)
      rw [List.map_map, List.map_map] at key
      exact key
  | .tryI A i n xs np lp ap jk cp2 cp rp hpos pos, X, G, L, S, ex, ft, sc, V, h => by
      simp only [Den.S.ok, Bool.and_eq_true, decide_eq_true_eq, List.all_eq_true] at h
      obtain ⟨⟨⟨⟨⟨⟨⟨⟨⟨⟨h0, h1⟩, h2⟩, h3⟩, h4⟩, h5⟩, h6⟩, h7⟩, h8⟩, h9⟩, h10⟩ := h
      have hdp : G.dp = none := by have e := V.dp; rw [h0] at e; exact Option.map_eq_none_iff.mp e.symm
      obtain ⟨g1, g2⟩ := V.blt h5
      have h4' := h4
      unfold dbB at h4'
      simp only [Bool.and_eq_true, Bool.not_eq_true'] at h4'
      have hl : xs.length = ex.length := by rw [← h7, List.length_map]
      show PS X _ (tSS G (tryD xs.length (A.den ft)))
      rw [hl]
      refine s_tryI V.SC hdp V.st V.fr (by rw [V.N]; exact h2) (by rw [V.sc]; exact h3) h4'.1 h4'.2 g1 g2 (V.glob h6) V.tm h7 (fun x hx => ⟨V.glob (h8 x hx).1, dbB_iff (h8 x hx).2⟩) h9 h10 V.tk fun E pn xe tk po => ?_
      have C : Ctx (X.tr pn xe) { G with E := E } L S.bl := ⟨V.C.K, V.C.P, V.C.w, passes_call tk (fun _ _ _ _ h => h), V.C.room, V.C.calm, V.C.nd, V.C.blt⟩
      exact ss_ok A (X := X.tr pn xe) (G := { G with E := E }) (L := L) (S := S) (ex := ex) (ft := ft) (sc := sc)
        { C := C, N := V.N, sc := V.sc, own := V.own, dct := V.dct, dp := V.dp, gl := V.gl, fn := fun f x n e hn => ⟨(V.fn f x n e hn).ex⟩, fm := fun f x n e h => ⟨(V.fm f x n e h).ex⟩, fv := V.fv, fa := fun f x n e => let ⟨i, a, h1, h2, h3⟩ := V.fa f x n e; ⟨i, a, h1, h2, ⟨h3.ex⟩⟩, SC := { toCtx := C, po := po, fn := V.SC.fn }, tk := tk,
          ex := fun c x e => by
            obtain ⟨Cc, e1, e2, e3, e4, e5⟩ := (V.ex c x e).ex
            exact ⟨Cc, e1, e2, e3, e4, e5⟩
          st := V.st, fr := V.fr, tm := V.tm } h1
  | .rse c x p m k p2 pos pos', X, G, L, S, ex, ft, sc, V, h => by
      simp only [Den.S.ok, Bool.and_eq_true, decide_eq_true_eq] at h
      exact s_raise V.SC V.tk (V.ex c x h.2) (V.glob h.1.1) (dbB_iff h.1.2)
theorem ss_ok : ∀ (ss : Ss) {X : Cx} {G : Gc} {L : Nat} {S : Sg} {ex : List Str} {ft : Tb} {sc : Scope}, Env2 X G L S ex ft sc → ss.ok S ex sc = true → PSs X ss.py (tSS G (ss.den ft))
  | .nil, X, G, L, S, ex, ft, sc, V, h => ss_nil V.C
  | .cons s ss, X, G, L, S, ex, ft, sc, V, h => by
      simp only [Ss.ok, Bool.and_eq_true] at h
      exact ss_cons V.C (s_ok s V h.1) (ss_ok ss V h.2)
end
end Den
namespace Den
open PySem PySem.Spec PyProof.Rows L2
def startD (k : Nat) (ds : List D) : Ro := ds.map some ++ List.replicate (k - ds.length) none
def endD (r : Rs (Fl × Ro)) : Rs D := match r with
  | .ok (.rt d, _) => .ok d
  | .ok (.nx, _) => .ok .none
  | .exc c => .exc c
  | _ => .stuck
def defD (ft : Tb) (n k : Nat) (ss : Ss) : List D → Rs D := fun ds => if ds.length = n then endD (ss.den ft (startD k ds)) else .stuck
def tbl (l : List (List D → Rs D)) : Tb := fun f ds => match l[f]? with
  | some g => g ds
  | none => .stuck
structure Mods (K : W.Frag) (mg : Str → Option Value) (cl : Nat → Value) (bl : List Str) (gl : List (Str × Cst)) (ex : List Str) : Prop where
  bl : ∀ x ∈ bl, mg x = none
  gl : ∀ p ∈ gl, ∃ u, mg p.1 = some u ∧ RelV p.2.v u
  tm : TryM K mg cl ex
  ex : ∀ c x, ex[c]? = some x → ∃ C, cl c = .ref C ∧ W.excIn K C [.type "ValueError", .type "Exception", .type "BaseException", .type "object"] "ValueError.__new__" = true ∧ mg x = some (.ref C) ∧ W.keepIn K (.ref C) = true ∧ W.subIn K (.ref C) (.type "BaseException") = some true ∧ W.typeIn K (.ref C) = some (.type "type")
def scB (N P : List Str) (sc : Scope) : Bool := decide (sc.kind = .function) && !sc.isCoroutine && !sc.isGenerator && decide N.Nodup && decide (N.take P.length = P) && (P.all fun x => decide (sc.names.lookup x = some .local) || decide (sc.names.lookup x = some .cell)) && (sc.names.all fun y => decide (y.2 ≠ .free))
theorem scB_ok {N P : List Str} {sc : Scope} (h : scB N P sc = true) : FnScope N P sc := by
  unfold scB at h
  simp only [Bool.and_eq_true, decide_eq_true_eq, Bool.not_eq_true', List.all_eq_true, Bool.or_eq_true] at h
  obtain ⟨⟨⟨⟨⟨⟨h1, h2⟩, h3⟩, h4⟩, h5⟩, h6⟩, h7⟩ := h
  exact ⟨h1, h2, h3, h4, h5, h6, h7⟩
def FnP (P : Program) (w : World) (K : W.Frag) (mg : Str → Option Value) (base : Heap) (cl : Nat → Value) (L : Nat) (x : Str) (n : Nat) (g : List D → Rs D) : Prop :=
  ∃ f fd ps, FnOk P w K mg base (L2.CX P w) L f fd ps (spD K cl n g) ∧ ps.length = n ∧ mg x = some (.ref f) ∧ W.keepIn K (.ref f) = true ∧ Binds K fd ps []
def FnPM (P : Program) (w : World) (K : W.Frag) (mg : Str → Option Value) (base : Heap) (cl : Nat → Value) (L : Nat) (x : Str) (n : Nat) (g : List D → Rs D) : Prop :=
  ∃ f fd ps, FnOk P w K mg base (L2.CX P w) L f fd ps (spM P w K cl n g) ∧ ps.length = n + 1 ∧ mg x = some (.ref f) ∧ W.keepIn K (.ref f) = true ∧ Binds K fd ps []
def FnQ (P : Program) (w : World) (K : W.Frag) (mg : Str → Option Value) (base : Heap) (cl : Nat → Value) (L : Nat) (x : Str) (n : Nat) (g : List D → Rs D) : Prop :=
  (n < 1000 → FnP P w K mg base cl L x n g) ∧ (∀ m, n = 1000 + m → FnPM P w K mg base cl L x m g) ∧ n < 3000
def endM (i : Nat) (r : Rs (Fl × Ro)) : Rs D := match r with
  | .ok (.rt d, ρ') => match ρ'[i]? with
    | some (some (.dict kvs)) => .ok (.tuple [d, .dict kvs])
    | _ => .stuck
  | .exc c => .exc c
  | _ => .stuck
def defM (ft : Tb) (n k : Nat) (ss : Ss) : List D → Rs D := fun ds => if ds.length = n + 1 then endM n (ss.den ft (startD k ds)) else .stuck
theorem FnP.mono {P : Program} {w : World} {K : W.Frag} {mg : Str → Option Value} {base : Heap} {cl : Nat → Value} {L L' : Nat} {x : Str} {n : Nat} {g : List D → Rs D} (h : FnP P w K mg base cl L x n g) (hl : L ≤ L') : FnP P w K mg base cl L' x n g := by
  obtain ⟨f, fd, ps, h1, h2⟩ := h
  exact ⟨f, fd, ps, h1.mono hl, h2⟩
theorem FnPM.mono {P : Program} {w : World} {K : W.Frag} {mg : Str → Option Value} {base : Heap} {cl : Nat → Value} {L L' : Nat} {x : Str} {n : Nat} {g : List D → Rs D} (h : FnPM P w K mg base cl L x n g) (hl : L ≤ L') : FnPM P w K mg base cl L' x n g := by
  obtain ⟨f, fd, ps, h1, h2⟩ := h
  exact ⟨f, fd, ps, h1.mono hl, h2⟩
theorem FnQ.mono {P : Program} {w : World} {K : W.Frag} {mg : Str → Option Value} {base : Heap} {cl : Nat → Value} {L L' : Nat} {x : Str} {n : Nat} {g : List D → Rs D} (h : FnQ P w K mg base cl L x n g) (hl : L ≤ L') : FnQ P w K mg base cl L' x n g :=
  ⟨fun z => (h.1 z).mono hl, fun m e => (h.2.1 m e).mono hl, h.2.2⟩
section
variable {P : Program} {w : World} {K : W.Frag} {mg : Str → Option Value} {base : Heap} {cl : Nat → Value}
theorem start_repM {O0 : Addr → Prop} {H : Hp} {own dct : Nat → Bool} {E : XK} {n k : Nat} {N : List Str} {ds : List D} {vs : List V} {a : Addr} {kvs : List (D × D)} {es : List (NestedKey × Addr × V)} (ht : ∀ a, O0 a → ∃ o, H a = some o) (av : AtL K H O0 ds vs) (hn : ds.length = n) (hk : N.length = k) (hw : ∀ i, i < n → own i = false)
    (ho : own n = true) (hd : dct n = true) (na : ¬ O0 a) (nk : K.lookup a = none) (ea : H a = some (dctO P w a es)) (de : DEs K H O0 kvs es) :
    Rep ⟨K, O0, H, own, E, cl, P, w, dct, some (n, a), none⟩ (fun b => O0 b ∨ b = a) (L2.start N (vs ++ [.ref a])) H (startD k (ds ++ [.dict kvs])) := by
  have hl := av.length
  have key : ∀ i d, (startD k (ds ++ [.dict kvs]))[i]? = some (some d) → (i < n ∧ ds[i]? = some d) ∨ (i = n ∧ d = .dict kvs) := fun i d e => by
    unfold startD at e
    by_cases hi : i < n + 1
    · rw [List.getElem?_append_left (by simp; omega), List.getElem?_map] at e
      by_cases h2 : i < n
      · rw [List.getElem?_append_left (by omega)] at e
        cases hd : ds[i]? with
        | none => rw [hd] at e; cases e
        | some d' => rw [hd] at e; cases e; exact .inl ⟨h2, rfl⟩
      · have h3 : i = n := by omega
        subst h3
        rw [List.getElem?_append_right (by omega), hn] at e
        simp at e
        exact .inr ⟨rfl, e.symm⟩
    · rw [List.getElem?_append_right (by simp; omega), List.getElem?_replicate] at e
      split at e <;> cases e
  have sn : (L2.start N (vs ++ [.ref a]))[n]? = some (some (V.ref a)) := by
    unfold L2.start
    rw [List.getElem?_append_left (by simp; omega), List.getElem?_map, List.getElem?_append_right (by omega), hl, hn]
    simp
  refine ⟨fun _ _ e _ => e, fun _ h => .inl h, fun b h => h.elim (ht b) fun z => ⟨_, z ▸ ea⟩, fun b h1 h2 => ?_, ?_, fun i d e hw' => ?_, fun i d e hw' => ?_, fun i j d e b hij h1 h2 e1 e2 _ _ => ?_, ⟨fun i b e => ?_, fun i b e => nomatch e⟩⟩
  · rcases h1 with h1 | h1
    · exact absurd h1 h2
    · exact .inr ⟨n, by rw [h1]⟩
  · unfold L2.start startD
    simp [hl, hk]
  · rcases key i d e with ⟨h1, h2⟩ | ⟨rfl, rfl⟩
    · obtain ⟨v, e3, e4⟩ := av.get h2
      refine ⟨v, ?_, At.more nk ea (fun b z => z) e4⟩
      unfold L2.start
      rw [List.getElem?_append_left (by simp; omega), List.getElem?_map, List.getElem?_append_left (by omega), e3]
      rfl
    · exact absurd (show own i = false from hw') (by rw [ho]; decide)
  · have z : own i = true := hw'
    rcases key i d e with ⟨h1, h2⟩ | ⟨rfl, rfl⟩
    · rw [hw i h1] at z; cases z
    · refine ⟨a, sn, ?_, .inr rfl, na⟩
      show OwnAt P w K H _ a (dct i) _
      rw [hd]
      exact ⟨es, ea, de.more nk ea fun b z => z⟩
  · have z1 : own i = true := h1
    have z2 : own j = true := h2
    rcases key i d e1 with ⟨h3, _⟩ | ⟨h3, _⟩
    · rw [hw i h3] at z1; cases z1
    · rcases key j e e2 with ⟨h4, _⟩ | ⟨h4, _⟩
      · rw [hw j h4] at z2; cases z2
      · exact hij (h3.trans h4.symm)
  · have e' : some (n, a) = some (i, b) := e
    cases e'
    exact ⟨ho, hd, fun _ _ => sn⟩
theorem start_rep {O0 : Addr → Prop} {H : Hp} {own dct : Nat → Bool} {E : XK} {k : Nat} {N : List Str} {ds : List D} {vs : List V} (ht : ∀ a, O0 a → ∃ o, H a = some o) (a : AtL K H O0 ds vs) (hk : N.length = k) (hw : ∀ i, i < ds.length → own i = false) :
    Rep ⟨K, O0, H, own, E, cl, P, w, dct, none, none⟩ O0 (L2.start N vs) H (startD k ds) := by
  have hl := a.length
  have key : ∀ i d, (startD k ds)[i]? = some (some d) → ds[i]? = some d ∧ i < ds.length := fun i d e => by
    unfold startD at e
    by_cases hi : i < ds.length
    · rw [List.getElem?_append_left (by simpa using hi), List.getElem?_map] at e
      cases hd : ds[i]? with
      | none => rw [hd] at e; cases e
      | some d' => rw [hd] at e; cases e; exact ⟨rfl, hi⟩
    · rw [List.getElem?_append_right (by simpa using hi), List.getElem?_replicate] at e
      split at e <;> cases e
  refine ⟨fun _ _ e _ => e, fun _ h => h, ht, fun a h1 h2 => absurd h1 h2, ?_, fun i d e _ => ?_, fun i d e h => ?_, fun i j d e b hij h1 h2 => ?_, ⟨(fun i a e => by cases e), (fun i a e => by cases e)⟩⟩
  · unfold L2.start startD
    simp [hl, hk]
  · obtain ⟨e1, e2⟩ := key i d e
    obtain ⟨v, e3, e4⟩ := a.get e1
    refine ⟨v, ?_, e4⟩
    unfold L2.start
    rw [List.getElem?_append_left (by simp; omega), List.getElem?_map, e3]
    rfl
  · have z : own i = true := h
    rw [hw i (key i d e).2] at z; cases z
  · intro e1 _ _ _
    have z : own i = true := h1
    rw [hw i (key i d e1).2] at z; cases z
theorem SameX.same {G : Gc} {H : Hp} (x : SameX G H) (h : G.dp = none) : Same G.H0 H := fun b o e => x b o e fun ⟨i, z⟩ => by rw [h] at z; cases z
theorem def_ok {x qual : Str} {params : Arguments} {body : List Stmt} {scope : Scope} {f : Addr} {fd : FuncData} {ps N : List Str} {L n k : Nat} {S : Sg} {ex : List Str} {ft : Tb} {ss : Ss}
    (F : FunD K x qual params body scope [] [] f fd) (sc : FnScope N ps scope) (hb : ss.py = body) (hok : ss.ok S ex scope = true) (hS : S.dp = none) (hN : S.N = N) (hn : ps.length = n) (hk : N.length = k) (hw : ((List.range n).all fun i => !S.own i) = true)
    (M : Mods K mg cl S.bl S.gl ex) (hf : ∀ f x n, S.fn[f]? = some (x, n) → FnQ P w K mg base cl L x n (ft f)) : FnOk P w K mg base (L2.CX P w) (L + 1) f fd ps (spD K cl n (defD ft n k ss)) := by
  refine F.ok sc (fun vs H Q E h => h.1.trans hn.symm) fun cdv A outer s H vs Q E hr h => ?_
  obtain ⟨hl, ds, O0, ht, a, p⟩ := h
  have hds : ds.length = n := by rw [← a.length]; exact hl
  have own0 : ∀ i, i < ds.length → S.own i = false := fun i hi => by
    have := List.all_eq_true.mp hw i (List.mem_range.mpr (by omega))
    simpa using this
  let G : Gc := ⟨K, O0, H, S.own, E, cl, P, w, S.dct, none, none⟩
  refine ⟨fun Dn σ H => tSS G (ss.den ft) (endK K Dn) σ H, ?_, fun _ => ⟨O0, startD k ds, start_rep ht a hk own0, ?_⟩⟩
  · have tk : Takes (cxOf (L2.CX P w) P w K mg base N qual scope f cdv A outer s H E) (fun cls d _ H => G.E cls d H) := takes_of rfl rfl rfl rfl
    have C : Ctx (cxOf (L2.CX P w) P w K mg base N qual scope f cdv A outer s H E) G L S.bl := ⟨rfl, rfl, rfl, passes_call tk (fun _ _ _ _ h => h), hr, rfl, sc.nd, M.bl⟩
    have V : Env2 (cxOf (L2.CX P w) P w K mg base N qual scope f cdv A outer s H E) G L S ex ft scope :=
      { C := C, N := hN.symm, sc := rfl, own := rfl, dct := rfl, dp := hS, gl := M.gl, fn := fun f x n e h => ⟨(hf f x n e).1 h⟩, fm := fun f x n e _ => ⟨(hf f x _ e).2.1 n rfl⟩, fv := (fun _ _ z => by cases z), fa := fun f x n e => by have := (hf f x _ e).2.2; omega, SC := { toCtx := C, po := passes_of rfl, fn := fun _ => rfl }, tk := tk,
        ex := fun c x e => by
          obtain ⟨Cc, e1, e2, e3, e4, e5, e6⟩ := M.ex c x e
          exact ⟨Cc, e1, e2, e3, e4, raises_own e5 e6⟩
        st := rfl, fr := rfl, tm := M.tm }
    exact pss_impK (X := cxOf (L2.CX P w) P w K mg base N qual scope f cdv A outer s H E) (hb ▸ ss_ok ss V hok) fun Dn σ H _ h => h
  · unfold defD at p
    rw [if_pos hds] at p
    cases hr : ss.den ft (startD k ds) with
    | ok r =>
      obtain ⟨fl, ρ'⟩ := r
      rw [hr] at p
      cases fl with
      | nx => exact fun O' σ' H' s R k => p .non H' (R.base.same rfl) k rfl
      | rt d => exact fun v H' s k a _ _ => p v H' (SameX.same s rfl) k a
      | bk => exact p.elim
      | ct => exact p.elim
    | exc c => rw [hr] at p; exact fun H' s => p H' (SameX.same s rfl)
    | stuck => rw [hr] at p; exact p.elim
theorem def_okM {x qual : Str} {params : Arguments} {body : List Stmt} {scope : Scope} {f : Addr} {fd : FuncData} {ps N : List Str} {L n k : Nat} {S : Sg} {ex : List Str} {ft : Tb} {ss : Ss}
    (F : FunD K x qual params body scope [] [] f fd) (sc : FnScope N ps scope) (hb : ss.py = body) (hok : ss.ok S ex scope = true) (hS : S.dp = some n) (hN : S.N = N) (hn : ps.length = n + 1) (hk : N.length = k) (hw : ((List.range n).all fun i => !S.own i) = true)
    (ho : S.own n = true) (hd : S.dct n = true) (M : Mods K mg cl S.bl S.gl ex) (hf : ∀ f x n, S.fn[f]? = some (x, n) → FnQ P w K mg base cl L x n (ft f)) : FnOk P w K mg base (L2.CX P w) (L + 1) f fd ps (spM P w K cl n (defM ft n k ss)) := by
  refine F.ok sc (fun vs H Q E h => by
    obtain ⟨vs0, _, _, _, _, _, rfl, h, _⟩ := h
    rw [List.length_append, h, hn]; rfl) fun cdv A outer s H vs Q E hr h => ?_
  obtain ⟨vs0, ds, O0, a, kvs, es, rfl, hl, ht, na, av, ea, de, p⟩ := h
  have hds : ds.length = n := by rw [← av.length]; exact hl
  have own0 : ∀ i, i < n → S.own i = false := fun i hi => by
    have := List.all_eq_true.mp hw i (List.mem_range.mpr hi)
    simpa using this
  let G : Gc := ⟨K, O0, H, S.own, E, cl, P, w, S.dct, some (n, a), none⟩
  refine ⟨fun Dn σ H => tSS G (ss.den ft) (endK K Dn) σ H, ?_, fun kf => ⟨fun b => O0 b ∨ b = a, startD k (ds ++ [.dict kvs]), start_repM ht av hds hk own0 ho hd na (kf_no kf ea) ea de, ?_⟩⟩
  · have tk : Takes (cxOf (L2.CX P w) P w K mg base N qual scope f cdv A outer s H E) (fun cls d _ H => G.E cls d H) := takes_of rfl rfl rfl rfl
    have C : Ctx (cxOf (L2.CX P w) P w K mg base N qual scope f cdv A outer s H E) G L S.bl := ⟨rfl, rfl, rfl, passes_call tk (fun _ _ _ _ h => h), hr, rfl, sc.nd, M.bl⟩
    have V : Env2 (cxOf (L2.CX P w) P w K mg base N qual scope f cdv A outer s H E) G L S ex ft scope :=
      { C := C, N := hN.symm, sc := rfl, own := rfl, dct := rfl, dp := hS, gl := M.gl, fn := fun f x n e h => ⟨(hf f x n e).1 h⟩, fm := fun f x n e _ => ⟨(hf f x _ e).2.1 n rfl⟩, fv := (fun _ _ z => by cases z), fa := fun f x n e => by have := (hf f x _ e).2.2; omega, SC := { toCtx := C, po := passes_of rfl, fn := fun _ => rfl }, tk := tk,
        ex := fun c x e => by
          obtain ⟨Cc, e1, e2, e3, e4, e5, e6⟩ := M.ex c x e
          exact ⟨Cc, e1, e2, e3, e4, raises_own e5 e6⟩
        st := rfl, fr := rfl, tm := M.tm }
    exact pss_impK (X := cxOf (L2.CX P w) P w K mg base N qual scope f cdv A outer s H E) (hb ▸ ss_ok ss V hok) fun Dn σ H _ h => h
  · unfold defM at p
    rw [if_pos (by simp [hds])] at p
    have sx : ∀ H', SameX G H' → ∀ b o, H b = some o → b ≠ a → H' b = some o := fun H' s b o e nb => s b o e fun ⟨i, z⟩ => by
      have z' : some (n, a) = some (i, b) := z
      cases z'; exact nb rfl
    cases hr : ss.den ft (startD k (ds ++ [.dict kvs])) with
    | ok r =>
      obtain ⟨fl, ρ'⟩ := r
      rw [hr] at p
      cases fl with
      | nx => exact p.elim
      | rt d =>
        intro v H' s k a' dp _
        unfold endM at p
        cases hρ : ρ'[n]? with
        | none => simp only [hρ] at p
        | some u =>
          cases u with
          | none => simp only [hρ] at p
          | some d' =>
            cases d' with
            | dict kvs' =>
              simp only [hρ] at p
              obtain ⟨es', e1, e2⟩ := dp n a rfl (.dict kvs') hρ
              exact p v H' es' (sx H' s) k a' e1 e2
            | _ => simp only [hρ] at p
      | bk => exact p.elim
      | ct => exact p.elim
    | exc c => rw [hr] at p; exact fun H' s => p H' (sx H' s)
    | stuck => rw [hr] at p; exact p.elim
end
end Den
namespace Den
open PySem PySem.Spec PyProof.Rows L2 He
abbrev AlE : Type := AlD × Bool
def obsQ (n : Nat) (fa : List Fa) (fn : List DefD) (ex : W.Frag → Bool) (g : Addr → Option Obj) : AlE := (obsD fa fn (frG g (asD g n)), ex (frG g (asD g n)))
def hookQ (n : Nat) (fa : List Fa) (fn : List DefD) (ex : W.Frag → Bool) : W.Hook where
  α := AlE
  obs := fun s => obsQ n fa fn ex s.heap.get?
  val := fun _ => (valD fn, true)
  says := fun _ h => ∃ K : W.Frag, K.In h ∧ SaysD fa fn K ∧ ex K = true
  of := fun _ _ e => ⟨_, frG_in, congrArg (fun z : AlE => z.1) e, congrArg (fun z : AlE => z.2) e⟩
  keeps := fun _ _ _ ⟨K, hK, c⟩ k => ⟨K, W.Frag.In.keeps hK k, c⟩
theorem obsQ_eq {n : Nat} {fa : List Fa} {fn : List DefD} {ex : W.Frag → Bool} {g : Addr → Option Obj} {s : Shared} (h : ∀ a, g a = s.heap.get? a) : obsQ n fa fn ex g = (hookQ n fa fn ex).obs s := by
  have e : g = s.heap.get? := funext h
  rw [e] <;> rfl
def faG : Str × Cst → Fa
  | (x, .int i) => .int x i
  | (x, .str z) => .str x z
  | (x, _) => .glo x
def faOf (names bls : List Str) (gls : List (Str × Cst)) (exs : List Str) : List Fa := names.map .glo ++ bls.map .free ++ gls.map faG ++ exs.map .exc ++ exs.map .glo ++ [.glo "PanelError"]
def glsB (gls : List (Str × Cst)) : Bool := gls.all fun p => match p.2 with | .int _ => true | .str _ => true | _ => false
def excB (K : W.Frag) (D : Addr) : Bool :=
  decide (W.findIn K (.ref D) "__getattribute__" = some (some (.builtin "BaseException.__getattribute__"))) && decide (W.findIn K (.ref D) "__getattr__" = some none) && decide (W.subIn K (.ref D) (.type "BaseException") = some true) && W.hasDictIn K D
  && decide (W.findIn K (.ref D) "__class__" = some (some (.builtin "object.__class__"))) && decide (W.specialIn K (.builtin "object.__class__") "__get__" = some (some (.builtin "getset_descriptor.__get__"))) && decide (W.takesIn K (.builtin "object.__class__") = some true) && decide (W.mroIn K D (.type "object") = some true)
theorem excB_ok {K : W.Frag} {D : Addr} (h : excB K D = true) : ExcC K D := by
  unfold excB at h
  simp only [Bool.and_eq_true, decide_eq_true_eq] at h
  obtain ⟨⟨⟨⟨⟨⟨⟨h1, h2⟩, h3⟩, h4⟩, h5⟩, h6⟩, h7⟩, h8⟩ := h
  exact ⟨h1, h2, h3, h4, h5, h6, h7, h8⟩
def exsB (exs : List Str) (K : W.Frag) : Bool := (List.range exs.length).all fun c => match exs[c]? with
  | none => true
  | some x => decide (W.exmOne K (.ref (ga K x)) (.ref (ga K "PanelError")) = some true) && excB K (ga K x) && (List.range exs.length).all fun j => match exs[j]? with
    | none => true
    | some y => decide (W.kitOne K (.ref (ga K x)) (.ref (ga K y)) = some (c == j))
def clE (K : W.Frag) (exs : List Str) (c : Nat) : Value := .ref (ga K (exs.getD c "PanelError"))
section
variable {K : W.Frag} {h : Heap} {mg : Str → Option Value} {fn : List DefD} {names bls exs : List Str} {gls : List (Str × Cst)}
theorem mods_of (X : K.In h) (G : h.Ns mainGlobals mg) (c : SaysD (faOf names bls gls exs) fn K) (hx : exsB exs K = true) (hg : glsB gls = true) : Mods K mg (clE K exs) bls gls exs := by
  have fact : ∀ f ∈ faOf names bls gls exs, f.ok K = true := fun f hf => by
    obtain ⟨i, hi, e⟩ := List.mem_iff_getElem.mp hf
    exact c.fact i (f := f) (by rw [List.getElem?_eq_getElem hi, e])
  have mm : ∀ f, (f ∈ names.map Fa.glo ∨ f ∈ bls.map Fa.free ∨ f ∈ gls.map faG ∨ f ∈ exs.map Fa.exc ∨ f ∈ exs.map Fa.glo ∨ f = .glo "PanelError") → f.ok K = true := fun f hf => fact f (by
    unfold faOf
    simp only [List.mem_append, List.mem_singleton]
    simpa only [or_assoc] using hf)
  have key : ∀ c x, exs[c]? = some x → clE K exs c = .ref (ga K x) := fun c x e => by
    unfold clE
    rw [List.getD_eq_getElem?_getD, e]; rfl
  refine { bl := fun x hxm => free_ok X G (mm _ (.inr (.inl (List.mem_map_of_mem hxm)))), gl := fun p hp => ?_, tm := ⟨ga K "PanelError", glo_ok X G (mm _ (.inr (.inr (.inr (.inr (.inr rfl)))))), fun c x e => ?_⟩, ex := fun c x e => ?_ }
  · have z := mm _ (.inr (.inr (.inl (List.mem_map_of_mem hp))))
    have hg' := List.all_eq_true.mp hg p hp
    obtain ⟨x, v⟩ := p
    cases v with
    | int i =>
      obtain ⟨t, e⟩ := int_ok X G (x := x) (i := i) z
      exact ⟨_, e, t, rfl⟩
    | str s =>
      obtain ⟨t, e⟩ := str_ok X G (x := x) (z := s) z
      exact ⟨_, e, t, rfl⟩
    | non => cases hg'
    | bl b => cases hg'
  · have hc : c < exs.length := by rw [List.getElem?_eq_some_iff] at e; exact e.1
    have z := List.all_eq_true.mp hx c (List.mem_range.mpr hc)
    rw [e] at z
    simp only [Bool.and_eq_true, decide_eq_true_eq] at z
    obtain ⟨⟨z1, z2⟩, z3⟩ := z
    refine ⟨ga K x, key c x e, z1, excB_ok z2, fun j y ej => ⟨ga K y, key j y ej, glo_ok X G (mm _ (.inr (.inr (.inr (.inr (.inl (List.mem_map_of_mem (List.mem_of_getElem? ej)))))))), ?_⟩⟩
    have hj : j < exs.length := by rw [List.getElem?_eq_some_iff] at ej; exact ej.1
    have z := List.all_eq_true.mp z3 j (List.mem_range.mpr hj)
    rw [ej] at z
    simpa using z
  · obtain ⟨h1, h2, h3, h4⟩ := exc_ok (mm _ (.inr (.inr (.inr (.inl (List.mem_map_of_mem (List.mem_of_getElem? e)))))))
    exact ⟨ga K x, key c x e, h1, glo_ok X G (mm _ (.inr (.inr (.inr (.inr (.inl (List.mem_map_of_mem (List.mem_of_getElem? e)))))))), h2, h3, h4⟩
end
structure AllP (P : Program) (w : World) (K : W.Frag) (mg : Str → Option Value) (base : Heap) (cl : Nat → Value) (L : Nat) (l : List (Str × Nat)) (ds : List (List D → Rs D)) : Prop where
  len : l.length = ds.length
  at_ : ∀ (f : Nat) (x : Str) (n : Nat), l[f]? = some (x, n) → FnQ P w K mg base cl L x n (tbl ds f)
section
variable {P : Program} {w : World} {K : W.Frag} {mg : Str → Option Value} {base : Heap} {cl : Nat → Value} {L : Nat} {l : List (Str × Nat)} {ds : List (List D → Rs D)}
theorem allP_nil : AllP P w K mg base cl L [] [] := ⟨rfl, fun f x n e => by simp at e⟩
theorem fnQ_p {x : Str} {n : Nat} {g : List D → Rs D} (hn : n < 1000) (h : FnP P w K mg base cl L x n g) : FnQ P w K mg base cl L x n g := ⟨fun _ => h, fun m e => by omega, by omega⟩
theorem fnQ_m {x : Str} {n : Nat} {g : List D → Rs D} (hn : n < 1000) (h : FnPM P w K mg base cl L x n g) : FnQ P w K mg base cl L x (1000 + n) g := ⟨fun z => by omega, ⟨fun m e => by
  have : m = n := by omega
  subst this; exact h, by omega⟩⟩
theorem AllP.snoc {x : Str} {n : Nat} {d : List D → Rs D} (A : AllP P w K mg base cl L l ds) (h : FnQ P w K mg base cl (L + 1) x n d) : AllP P w K mg base cl (L + 1) (l ++ [(x, n)]) (ds ++ [d]) := by
  refine ⟨by simp [A.len], fun f y m e => ?_⟩
  by_cases hf : f < l.length
  · rw [List.getElem?_append_left hf] at e
    have z := (A.at_ f y m e).mono (Nat.le_succ L)
    have e2 : tbl (ds ++ [d]) f = tbl ds f := by
      funext as
      unfold tbl
      rw [List.getElem?_append_left (by rw [← A.len]; exact hf)]
    rw [e2]; exact z
  · rw [List.getElem?_append_right (by omega)] at e
    have e0 : f - l.length = 0 := by
      by_cases z : f - l.length = 0
      · exact z
      · rw [List.getElem?_eq_none (by simp; omega)] at e; cases e
    rw [e0] at e
    simp at e
    obtain ⟨rfl, rfl⟩ := e
    have e2 : tbl (ds ++ [d]) f = d := by
      funext as
      unfold tbl
      rw [List.getElem?_append_right (by rw [← A.len]; omega), ← A.len, e0]
      rfl
    rw [e2]; exact h
theorem AllP.step {x qual : Str} {params : Arguments} {body : List Stmt} {scope : Scope} {f : Addr} {fd : FuncData} {ps N bls exs : List Str} {gls : List (Str × Cst)} {n k : Nat} {own dct : Nat → Bool} {ss : Ss}
    (A : AllP P w K mg base cl L l ds) (M : Mods K mg cl bls gls exs) (F : FunD K x qual params body scope [] [] f fd) (sc : FnScope N ps scope) (hb : ss.py = body) (hok : ss.ok ⟨N, own, gls, l, bls, dct, none⟩ exs scope = true) (hn : ps.length = n) (hk : N.length = k)
    (hw : ((List.range n).all fun i => !own i) = true) (g : mg x = some (.ref f)) (b : Binds K fd ps []) (hn2 : n < 1000 := by decide) : AllP P w K mg base cl (L + 1) (l ++ [(x, n)]) (ds ++ [defD (tbl ds) n k ss]) :=
  A.snoc (fnQ_p hn2 ⟨f, fd, ps, def_ok (S := ⟨N, own, gls, l, bls, dct, none⟩) F sc hb hok rfl rfl hn hk hw M A.at_, hn, g, F.kp, b⟩)
def recD (ds : List (List D → Rs D)) (n k : Nat) (ss : Ss) : Nat → List D → Rs D
  | 0 => fun _ => .stuck
  | m + 1 => defD (tbl (ds ++ [recD ds n k ss m])) n k ss
theorem AllP.mono (A : AllP P w K mg base cl L l ds) {L' : Nat} (h : L ≤ L') : AllP P w K mg base cl L' l ds := ⟨A.len, fun f x n e => (A.at_ f x n e).mono h⟩
theorem AllP.snoc0 {x : Str} {n : Nat} {d : List D → Rs D} (A : AllP P w K mg base cl L l ds) (h : FnQ P w K mg base cl L x n d) : AllP P w K mg base cl L (l ++ [(x, n)]) (ds ++ [d]) := by
  refine ⟨by simp [A.len], fun f y m e => ?_⟩
  by_cases hf : f < l.length
  · rw [List.getElem?_append_left hf] at e
    have e2 : tbl (ds ++ [d]) f = tbl ds f := by
      funext as
      unfold tbl
      rw [List.getElem?_append_left (by rw [← A.len]; exact hf)]
    rw [e2]; exact A.at_ f y m e
  · rw [List.getElem?_append_right (by omega)] at e
    have e0 : f - l.length = 0 := by
      by_cases z : f - l.length = 0
      · exact z
      · rw [List.getElem?_eq_none (by simp; omega)] at e; cases e
    rw [e0] at e
    simp at e
    obtain ⟨rfl, rfl⟩ := e
    have e2 : tbl (ds ++ [d]) f = d := by
      funext as
      unfold tbl
      rw [List.getElem?_append_right (by rw [← A.len]; omega), ← A.len, e0]
      rfl
    rw [e2]; exact h
theorem AllP.stepRec {x qual : Str} {params : Arguments} {body : List Stmt} {scope : Scope} {f : Addr} {fd : FuncData} {ps N bls exs : List Str} {gls : List (Str × Cst)} {n k : Nat} {own dct : Nat → Bool} {ss : Ss}
    (A : AllP P w K mg base cl L l ds) (M : Mods K mg cl bls gls exs) (F : FunD K x qual params body scope [] [] f fd) (sc : FnScope N ps scope) (hb : ss.py = body) (hok : ss.ok ⟨N, own, gls, l ++ [(x, n)], bls, dct, none⟩ exs scope = true) (hn : ps.length = n) (hk : N.length = k)
    (hw : ((List.range n).all fun i => !own i) = true) (g : mg x = some (.ref f)) (b : Binds K fd ps []) (hn2 : n < 1000) : ∀ m : Nat, AllP P w K mg base cl (L + 1 + m) (l ++ [(x, n)]) (ds ++ [recD ds n k ss m])
  | 0 => (A.mono (Nat.le_succ L)).snoc0 (fnQ_p hn2 ⟨f, fd, ps, F.ok sc (fun vs H Q E h => by
      obtain ⟨_, _, _, _, _, z⟩ := h
      exact z.elim) fun cdv A outer s H vs Q E hr h => by
      obtain ⟨_, _, _, _, _, z⟩ := h
      exact z.elim, hn, g, F.kp, b⟩)
  | m + 1 => (A.mono (by omega)).snoc0 (fnQ_p hn2 ⟨f, fd, ps, def_ok (S := ⟨N, own, gls, l ++ [(x, n)], bls, dct, none⟩) F sc hb hok rfl rfl hn hk hw M (AllP.stepRec A M F sc hb hok hn hk hw g b hn2 m).at_, hn, g, F.kp, b⟩)
def recM (ds : List (List D → Rs D)) (n k : Nat) (ss : Ss) : Nat → List D → Rs D
  | 0 => fun _ => .stuck
  | m + 1 => defM (tbl (ds ++ [recM ds n k ss m])) n k ss
theorem AllP.stepMRec {x qual : Str} {params : Arguments} {body : List Stmt} {scope : Scope} {f : Addr} {fd : FuncData} {ps N bls exs : List Str} {gls : List (Str × Cst)} {n k : Nat} {own dct : Nat → Bool} {ss : Ss}
    (A : AllP P w K mg base cl L l ds) (M : Mods K mg cl bls gls exs) (F : FunD K x qual params body scope [] [] f fd) (sc : FnScope N ps scope) (hb : ss.py = body) (hok : ss.ok ⟨N, own, gls, l ++ [(x, 1000 + n)], bls, dct, some n⟩ exs scope = true) (hn : ps.length = n + 1) (hk : N.length = k)
    (hw : ((List.range n).all fun i => !own i) = true) (g : mg x = some (.ref f)) (b : Binds K fd ps []) (ho : own n = true) (hd : dct n = true) : ∀ (m : Nat) (_ : n < 1000 := by decide), AllP P w K mg base cl (L + 1 + m) (l ++ [(x, 1000 + n)]) (ds ++ [recM ds n k ss m])
  | 0, hn2 => (A.mono (Nat.le_succ L)).snoc0 (fnQ_m hn2 ⟨f, fd, ps, F.ok sc (fun vs H Q E h => by
      obtain ⟨_, _, _, _, _, _, _, _, _, _, _, _, _, z⟩ := h
      exact z.elim) fun cdv A outer s H vs Q E hr h => by
      obtain ⟨_, _, _, _, _, _, _, _, _, _, _, _, _, z⟩ := h
      exact z.elim, hn, g, F.kp, b⟩)
  | m + 1, hn2 => (A.mono (by omega)).snoc0 (fnQ_m hn2 ⟨f, fd, ps, def_okM (S := ⟨N, own, gls, l ++ [(x, 1000 + n)], bls, dct, some n⟩) F sc hb hok rfl rfl hn hk hw ho hd M (AllP.stepMRec A M F sc hb hok hn hk hw g b ho hd m hn2).at_, hn, g, F.kp, b⟩)
theorem AllP.law {x : Str} {ps : List Str} {j : Nat} {f : Addr} (A : AllP P w K mg base cl L l ds) (e : l[j]? = some (x, 1)) (hf : mg x = some (.ref f)) : ∃ fd ps, FnOk P w K mg base (L2.CX P w) L f fd ps (spD K cl 1 (tbl ds j)) ∧ ps.length = 1 ∧ Binds K fd ps [] := by
  obtain ⟨f', fd, ps, h1, h2, h3, h4, h5⟩ := (A.at_ j x 1 e).1 (by decide)
  rw [hf] at h3
  cases h3
  exact ⟨fd, ps, h1, h2, h5⟩
end
theorem walk_ofQ {l : W.OpenLaw} {n k : Nat} {q : Program} {loose : List Str} {XP : (Str → Option Value) → Heap → Prop} {YP : World → Heap → Prop} {d : DefRec} {CX : World → CXT} {x : Str}
    (hn : l.most = some n) (hn2 : n ≤ sizeLine) (hdf : d.params.defaults = []) (hr : Room k callerA)
    (F : ∀ (w : World) (mg : Str → Option Value) (fa : Addr) (h : Heap), YP w h → h.Ns mainGlobals mg → mg d.name = some (.ref fa) →
      ∃ (K : W.Frag) (fd : FuncData) (sp : Sp), K.In h ∧ (∀ (s : Shared) (u : Value), BindsTo s fd ⟨[u], []⟩ [(x, u)]) ∧
        (∀ (H : Hp) (a : Addr) (ns : List Int), ns.length ≤ n → (∀ z ∈ ns, Builtin.Int.intBits z ≤ 1048576) → SqL K H a (ns.map V.int) → sp [.ref a] H (fun v _ => v = .bl true) fun _ _ _ => False) ∧
        ∀ base : Heap, K.In base → base.Ns mainGlobals mg → FnOk l.prog w K mg base (CX w) k fa fd [x] sp)
    (hCX : ∀ (w : World) (H : Hp) (s : Shared) (e : Value) (s' : Shared), CX w [] H s (fun _ _ _ => False) e s' → False) :
    W.WalkO q loose XP YP l.row.toRowW d [] (fun f vs => PySem.call f vs) := by
  refine Att.attach_callB hn hdf fun w s₀ s₁ mg mb fa o pm cd doc a vs ns G Y ho hd hcd hmg hobj hints hlen hbits hg => ?_
  obtain ⟨K, fd, sp, KX, hb, hsp, hF⟩ := F w mg fa _ Y G.T.g hmg
  exact law_call KX G.T.g G.T.b G.T.builtins G.T.nolimit hg hobj hints (Nat.le_trans hlen hn2) hr hF hb (fun H hO hS => hsp H a ns hlen hbits hS) fun H e s' => hCX w H s₁ e s'
theorem cx_no {P : Program} {w : World} (H : Hp) (s : Shared) (e : Value) (s' : Shared) (h : L2.CX P w [] H s (fun _ _ _ => False) e s') : False := by
  obtain ⟨_, _, _, _, _, _, _, _, _, _, _, _, z⟩ := h
  exact z.elim
theorem law_pre {K : W.Frag} {cl : Nat → Value} {g : List D → Rs D} {H : Hp} {a : Addr} {ns : List Int} (h : g [.list (ns.map PyData.int)] = .ok (.bool true)) (hS : SqL K H a (ns.map V.int)) : spD K cl 1 g [.ref a] H (fun v _ => v = .bl true) fun _ _ _ => False := by
  refine ⟨rfl, [.list (ns.map PyData.int)], fun _ => False, fun _ z => z.elim, ⟨.ref a, [], rfl, ⟨a, _, rfl, hS, fun z => z, atL_of_ints ns⟩, rfl⟩, ?_⟩
  rw [h]
  exact fun v H' _ _ a => a
end Den
namespace Den
open PySem PySem.Spec
section
variable {ft : Tb}
@[simp] theorem x_E_den_cst : E.den ft (.cst c z1 z2) = (fun _ => .ok c.d) := rfl
@[simp] theorem x_E_den_var : E.den ft (.var i z1 z2) = (vaR i) := rfl
@[simp] theorem x_E_den_glo : E.den ft (.glo z1 c z2) = (fun _ => .ok c.d) := rfl
@[simp] theorem x_E_den_bin : E.den ft (.bin op a b z1) = (bi op.F (a.den ft) (b.den ft)) := rfl
@[simp] theorem x_E_den_lad : E.den ft (.lad a b z1) = (bi addL (a.den ft) (b.den ft)) := rfl
@[simp] theorem x_E_den_neg : E.den ft (.neg a z1) = (fun ρ => do let x ← a.den ft ρ; negD x) := rfl
@[simp] theorem x_E_den_not : E.den ft (.not a z1) = (notE (a.den ft)) := rfl
@[simp] theorem x_E_den_cmp : E.den ft (.cmp op a b z1) = (bi op.F (a.den ft) (b.den ft)) := rfl
@[simp] theorem x_E_den_chn : E.den ft (.chn op op' a b c z1) = (chnE op.F op'.F (a.den ft) (b.den ft) (c.den ft)) := rfl
@[simp] theorem x_E_den_and : E.den ft (.and a es z1) = (es.andD ft (a.den ft)) := rfl
@[simp] theorem x_E_den_or : E.den ft (.or a es z1) = (es.orD ft (a.den ft)) := rfl
@[simp] theorem x_E_den_ite : E.den ft (.ite c a b z1) = (iteE (c.den ft) (a.den ft) (b.den ft)) := rfl
@[simp] theorem x_E_den_ix : E.den ft (.ix a i z1) = (bi ixD (a.den ft) (i.den ft)) := rfl
@[simp] theorem x_E_den_slo : E.den ft (.slo a l z1 z2) = (fun ρ => do let x ← a.den ft ρ; let l ← l.den ft ρ; let i ← intD l; slD (some i) none x) := rfl
@[simp] theorem x_E_den_shi : E.den ft (.shi a l z1 z2) = (fun ρ => do let x ← a.den ft ρ; let l ← l.den ft ρ; let i ← intD l; slD none (some i) x) := rfl
@[simp] theorem x_E_den_slh : E.den ft (.slh a l h z1 z2) = (fun ρ => do let x ← a.den ft ρ; let l ← l.den ft ρ; let i ← intD l; let u ← h.den ft ρ; let j ← intD u; slD (some i) (some j) x) := rfl
@[simp] theorem x_E_den_lslo : E.den ft (.lslo a l z1 z2) = (fun ρ => do let x ← a.den ft ρ; let l ← l.den ft ρ; let i ← intD l; slL (some i) none x) := rfl
@[simp] theorem x_E_den_lshi : E.den ft (.lshi a l z1 z2) = (fun ρ => do let x ← a.den ft ρ; let l ← l.den ft ρ; let i ← intD l; slL none (some i) x) := rfl
@[simp] theorem x_E_den_tup : E.den ft (.tup es z1 z2) = (tupA (es.den ft)) := rfl
@[simp] theorem x_E_den_lst : E.den ft (.lst es z1) = (lstA (es.den ft)) := rfl
@[simp] theorem x_E_den_dct : E.den ft (.dct z1) = (fun _ => .ok (.dict [])) := rfl
@[simp] theorem x_E_den_rev : E.den ft (.rev a z1 z2 z3 z4 z5) = (fun ρ => do let x ← a.den ft ρ; revD x) := rfl
@[simp] theorem revD_t {ds : List D} : revD (.tuple ds) = .ok (.tuple ds.reverse) := rfl
@[simp] theorem x_E_den_idx : E.den ft (.idx b a e z1 z2) = (idxE b (a.den ft) (e.den ft)) := rfl
@[simp] theorem x_E_den_din : E.den ft (.din neg e i z1 z2 z3) = (dinE neg (e.den ft) i) := rfl
@[simp] theorem x_E_den_dget : E.den ft (.dget i z1 z2 e z3) = (dgetE (e.den ft) i) := rfl
@[simp] theorem x_E_den_dsrt : E.den ft (.dsrt i z1 z2 z3 z4) = (dsrtE i) := rfl
@[simp] theorem x_E_den_mn : E.den ft (.mn f z1 z2 e es z3 z4) = (mnE (ft f) (consArg (e.den ft) (es.den ft))) := rfl
@[simp] theorem x_E_den_call : E.den ft (.call f z1 z2 e es z3) = (appE (ft f) (consArg (e.den ft) (es.den ft))) := rfl
@[simp] theorem x_E_den_callv : E.den ft (.callv f z4 z1 z2 e es z3) = (appE (ft f) (consArg (e.den ft) (es.den ft))) := rfl
@[simp] theorem x_E_den_callw : E.den ft (.callw f z1 z2 e es z3) = (scE (ft f) (consArg (e.den ft) (es.den ft))) := rfl
@[simp] theorem x_E_den_srts : E.den ft (.srts a z1 z2 z3 z4) = (fun ρ => do let x ← a.den ft ρ; srtD x) := rfl
@[simp] theorem x_E_den_rep : E.den ft (.rep es z1 b z2) = (fun ρ => do let ds ← es.den ft ρ; let d ← b.den ft ρ; let k ← intD d; repL ds k) := rfl
@[simp] theorem x_E_den_ccall : E.den ft (.ccall js z1 b z2 e es z3) = (ccD (es.len + 1) ft (js.map (·.1)) (b.den ft) (consArg (e.den ft) (es.den ft))) := rfl
@[simp] theorem x_E_den_prim : E.den ft (.prim q z1 e es z2) = (appE q.F (consArg (e.den ft) (es.den ft))) := rfl
@[simp] theorem x_E_den_isi : E.den ft (.isi T a z1 z2 z3) = (isiE T (a.den ft)) := rfl
@[simp] theorem x_E_den_lrng1 : E.den ft (.lrng1 a z1 z2 z3 z4) = (lstI (rng1 (a.den ft))) := rfl
@[simp] theorem x_E_den_trng1 : E.den ft (.trng1 a z1 z2 z3 z4) = (tupI (rng1 (a.den ft))) := rfl
@[simp] theorem x_E_den_lrng2 : E.den ft (.lrng2 a b z1 z2 z3 z4) = (lstI (rng2 (a.den ft) (b.den ft))) := rfl
@[simp] theorem x_E_den_comp : E.den ft (.comp elt tg it ifs z1 own z2) = (compE (own.map (·.2)) (it.den ft) tg.st (ifs.tst ft) (elt.den ft)) := rfl
@[simp] theorem x_E_den_comp2 : E.den ft (.comp2 elt tg it tg1 it1 ifs z1 own z2) = (compE2 (own.map (·.2)) (it.den ft) tg.st (it1.den ft) tg1.st (ifs.tst ft) (elt.den ft) tg1.is) := rfl
@[simp] theorem x_Es_den_nil : Es.den ft (.nil) = (noArg) := rfl
@[simp] theorem x_Es_den_cons : Es.den ft (.cons e es) = (consArg (e.den ft) (es.den ft)) := rfl
@[simp] theorem x_Es_andD_nil : Es.andD ft (.nil) f = (f) := rfl
@[simp] theorem x_Es_andD_cons : Es.andD ft (.cons e es) f = (andE f (es.andD ft (e.den ft))) := rfl
@[simp] theorem x_Es_orD_nil : Es.orD ft (.nil) f = (f) := rfl
@[simp] theorem x_Es_orD_cons : Es.orD ft (.cons e es) f = (orE f (es.orD ft (e.den ft))) := rfl
@[simp] theorem x_Es_tst_nil : Es.tst ft (.nil) = (fun _ => .ok true) := rfl
@[simp] theorem x_Es_tst_cons : Es.tst ft (.cons e z1) = (tstE (e.den ft)) := rfl
@[simp] theorem x_I_den_seq : I.den ft (.seq e) = (seqE (e.den ft)) := rfl
@[simp] theorem x_I_den_rng1 : I.den ft (.rng1 a z1 z2) = (Den.rng1 (a.den ft)) := rfl
@[simp] theorem x_I_den_rng2 : I.den ft (.rng2 a b z1 z2) = (Den.rng2 (a.den ft) (b.den ft)) := rfl
@[simp] theorem x_I_den_enu : I.den ft (.enu a z1 z2) = (enuE (a.den ft)) := rfl
@[simp] theorem x_I_den_zip : I.den ft (.zip a b z1 z2) = (zipE (consArg (a.den ft) (consArg (b.den ft) noArg))) := rfl
@[simp] theorem x_I_den_zipn : I.den ft (.zipn a b z1 z2) = (zipNE (consArg (a.den ft) (consArg (b.den ft) noArg))) := rfl
@[simp] theorem x_EX_den_mc : EX.den ft (.mc f z1 z2 e es i z3 z4 z5) = (mcX (ft f) (consArg (e.den ft) (es.den ft)) i) := rfl
@[simp] theorem x_EX_den_binR : EX.den ft (.binR op a b z1) = (binRX op.F (a.den ft) (b.den ft)) := rfl
@[simp] theorem x_EX_den_binL : EX.den ft (.binL op a b z1) = (binLX op.F (a.den ft) (b.den ft)) := rfl
@[simp] theorem x_EX_den_call : EX.den ft (.call f z1 z2 e es l z3) = (appX (ft f) (axD ft (l.den ft) (.cons e es))) := rfl
@[simp] theorem x_S_den_ret : S.den ft (.ret e z1) = (retS (e.den ft)) := rfl
@[simp] theorem x_S_den_retO : S.den ft (.retO i z1 z2 z3) = (retS (vaR i)) := rfl
@[simp] theorem x_S_den_retN : S.den ft (.retN z1) = (retN) := rfl
@[simp] theorem x_S_den_iff : S.den ft (.iff c A B z1) = (iteS (c.den ft) (A.den ft) (B.den ft)) := rfl
@[simp] theorem x_S_den_expr : S.den ft (.expr e z1) = (exprS (e.den ft)) := rfl
@[simp] theorem x_S_den_set : S.den ft (.set i z1 z2 e z3) = (asgS [i] (consArg (e.den ft) noArg)) := rfl
@[simp] theorem x_S_den_mov : S.den ft (.mov i z1 z2 j z3 z4 z5) = (movS i j) := rfl
@[simp] theorem x_S_den_asg : S.den ft (.asg items z1 z2 e z3) = (asgT (setT (items.map (·.1))) (e.den ft)) := rfl
@[simp] theorem x_S_den_par : S.den ft (.par items z1 z2 es z3 z4 z5) = (asgS (items.map (·.1)) (es.den ft)) := rfl
@[simp] theorem x_S_den_app : S.den ft (.app i z1 z2 z3 z4 e z5) = (appS i (e.den ft)) := rfl
@[simp] theorem x_S_den_ext : S.den ft (.ext i z1 z2 z3 z4 e z5) = (extS i (e.den ft)) := rfl
@[simp] theorem x_S_den_setX : S.den ft (.setX i z1 z2 e z3) = (setXS i (e.den ft)) := rfl
@[simp] theorem x_S_den_retX : S.den ft (.retX e z1) = (retXS (e.den ft)) := rfl
@[simp] theorem x_S_den_expX : S.den ft (.expX e z1) = (expXS (e.den ft)) := rfl
@[simp] theorem x_S_den_asgX : S.den ft (.asgX items z1 z2 e z3) = (asgXS (setT (items.map (·.1))) (e.den ft)) := rfl
@[simp] theorem x_S_den_dset : S.den ft (.dset i z1 z2 ky z3 e z4) = (dsetS (ky.den ft) (e.den ft) i) := rfl
@[simp] theorem x_S_den_dcp : S.den ft (.dcp i z1 z2 ky vl tg it z3 own z4 z5) = (dcpS i (own.map (·.2)) (it.den ft) tg.st (ky.den ft) (vl.den ft)) := rfl
@[simp] theorem x_S_den_brk : S.den ft (.brk z1) = (bkS) := rfl
@[simp] theorem x_S_den_cnt : S.den ft (.cnt z1) = (ctS) := rfl
@[simp] theorem x_S_den_pas : S.den ft (.pas z1) = (nxS) := rfl
@[simp] theorem x_S_den_forF {js : List (Nat × Str × Pos)} {m n k : Nat} {x : Str} {px p2 pos : Pos} : S.den ft (.forF i x px m n js k p2 A pos) = forFL i (js.map fun j => A.den (tbX ft m j.1)) := rfl
@[simp] theorem x_S_den_for : S.den ft (.for tg it A z1) = (forS (it.den ft) tg.st (A.den ft)) := rfl
@[simp] theorem x_S_den_whl : S.den ft (.whl n c A z1) = (whlL (c.den ft) (A.den ft) n) := rfl
@[simp] theorem x_S_den_tryI : S.den ft (.tryI A z1 z2 xs z3 z4 z5 z6 z7 z8 z9 z10 z11) = (tryD xs.length (A.den ft)) := rfl
@[simp] theorem x_S_den_rse : S.den ft (.rse c z1 z2 z3 z4 z5 z6 z7) = (rsS c) := rfl
@[simp] theorem x_Ss_den_nil : Ss.den ft (.nil) = (nxS) := rfl
@[simp] theorem x_Ss_den_cons : Ss.den ft (.cons s ss) = (seqS (s.den ft) (ss.den ft)) := rfl
@[simp] theorem x_axD_nil {l : DX} : axD ft l .nil = lastAX l := rfl
@[simp] theorem x_axD_cons {l : DX} {e : E} {es : Es} : axD ft l (.cons e es) = consAX (e.den ft) (axD ft l es) := rfl
end
def Wp {α : Type} (r : Rs α) (Q : α → Prop) : Prop := match r with
  | .ok a => Q a
  | _ => False
section
variable {α β : Type} {Q Q' : α → Prop} {R : β → Prop} {r : Rs α} {f : α → Rs β}
theorem wp_iff : Wp r Q ↔ ∃ a, r = .ok a ∧ Q a := by
  cases r with
  | ok a => exact ⟨fun h => ⟨a, rfl, h⟩, fun ⟨_, e, h⟩ => by cases e; exact h⟩
  | exc c => exact ⟨fun h => h.elim, fun ⟨_, e, _⟩ => by cases e⟩
  | stuck => exact ⟨fun h => h.elim, fun ⟨_, e, _⟩ => by cases e⟩
@[simp] theorem wp_ok {a : α} : Wp (.ok a) Q ↔ Q a := .rfl
@[simp] theorem wp_exc {c : Nat} : Wp (.exc c) Q ↔ False := .rfl
@[simp] theorem wp_stuck : Wp .stuck Q ↔ False := .rfl
@[simp] theorem wp_bind : Wp (r >>= f) R ↔ Wp r fun a => Wp (f a) R := by cases r <;> exact .rfl
theorem wp_noexc : Wp r.noexc Q ↔ Wp r Q := by cases r <;> exact .rfl
@[simp] theorem wp_ite {c : Prop} [Decidable c] {a b : Rs α} : Wp (if c then a else b) Q ↔ if c then Wp a Q else Wp b Q := by split <;> exact .rfl
theorem Wp.imp (h : Wp r Q) (k : ∀ a, Q a → Q' a) : Wp r Q' := by
  cases r with
  | ok a => exact k a h
  | exc c => exact h
  | stuck => exact h
theorem Wp.eq {a : α} (h : Wp r (· = a)) : r = .ok a := by
  cases r with
  | ok b => exact congrArg _ h
  | exc c => exact h.elim
  | stuck => exact h.elim
theorem Wp.of {a : α} (h : r = .ok a) (k : Q a) : Wp r Q := by rw [h]; exact k
end
section
variable {ρ : Ro} {f g h : DE} {F U : DS} {i : Nat} {Q : Fl × Ro → Prop} {q : D → Prop} {fs : Ro → Rs (List D)}
@[simp] theorem vaR_eq : vaR i ρ = match ρ[i]? with | some (some d) => .ok d | _ => .stuck := rfl
@[simp] theorem wp_seq : Wp (seqS F U ρ) Q ↔ Wp (F ρ) fun p => match p with | (.nx, ρ1) => Wp (U ρ1) Q | p => Q p := by
  unfold seqS
  rw [wp_bind]
  cases F ρ with
  | ok p =>
    obtain ⟨fl, ρ1⟩ := p
    cases fl <;> exact .rfl
  | exc c => exact .rfl
  | stuck => exact .rfl
theorem wp_cut0 {R : Ro → Prop} (h : Wp (F ρ) fun p => match p with | (.nx, ρ1) => R ρ1 | p => Q p) (k : ∀ ρ1, R ρ1 → Wp (U ρ1) Q) : Wp (seqS F U ρ) Q := by
  rw [wp_seq]
  refine h.imp fun p hp => ?_
  obtain ⟨fl, ρ1⟩ := p
  cases fl with
  | nx => exact k ρ1 hp
  | rt d => exact hp
  | bk => exact hp
  | ct => exact hp
theorem wp_if {ft : Tb} {c : E} {A B : Ss} {pos : Pos} (b : Bool) (hc : tstE (c.den ft) ρ = .ok b) (h : if b = true then Wp (A.den ft ρ) Q else Wp (B.den ft ρ) Q) : Wp (S.den ft (.iff c A B pos) ρ) Q := by
  show Wp (tstE (c.den ft) ρ >>= fun b => if b then A.den ft ρ else B.den ft ρ) Q
  rw [hc, Rs.ok_bind, wp_ite]
  exact h
theorem wp_nil {ft : Tb} (h : Q (.nx, ρ)) : Wp (Ss.den ft .nil ρ) Q := h
theorem wp_cons {ft : Tb} {s : S} {ss : Ss} {R : Ro → Prop} (h : Wp (s.den ft ρ) fun p => match p with | (.nx, ρ1) => R ρ1 | p => Q p) (k : ∀ ρ1, R ρ1 → Wp (ss.den ft ρ1) Q) : Wp (Ss.den ft (.cons s ss) ρ) Q := wp_cut0 h k
theorem wp_cut {R : Ro → Prop} (h : Wp (F ρ) fun p => match p with | (.nx, ρ1) => R ρ1 | p => Q p) (k : ∀ ρ1, R ρ1 → Wp (U ρ1) Q) : Wp (seqS F U ρ) Q := by
  rw [wp_seq]
  refine h.imp fun p hp => ?_
  obtain ⟨fl, ρ1⟩ := p
  cases fl with
  | nx => exact k ρ1 hp
  | rt d => exact hp
  | bk => exact hp
  | ct => exact hp
theorem seq_nx {ρ1 : Ro} (h : F ρ = .ok (.nx, ρ1)) : seqS F U ρ = U ρ1 := by unfold seqS; rw [h]; rfl
theorem seq_rt {ρ1 : Ro} {d : D} (h : F ρ = .ok (.rt d, ρ1)) : seqS F U ρ = .ok (.rt d, ρ1) := by unfold seqS; rw [h]; rfl
theorem seq_exc {c : Nat} (h : F ρ = .exc c) : seqS F U ρ = .exc c := by unfold seqS; rw [h]; rfl
@[simp] theorem nxS_eq : nxS ρ = .ok (.nx, ρ) := rfl
@[simp] theorem bkS_eq : bkS ρ = .ok (.bk, ρ) := rfl
@[simp] theorem ctS_eq : ctS ρ = .ok (.ct, ρ) := rfl
@[simp] theorem retS_eq : retS f ρ = f ρ >>= fun d => .ok (.rt d, ρ) := rfl
@[simp] theorem retN_eq : retN ρ = .ok (.rt .none, ρ) := rfl
@[simp] theorem rsS_eq {c : Nat} : rsS c ρ = .exc c := rfl
@[simp] theorem iteS_eq : iteS f F U ρ = tstE f ρ >>= fun b => if b then F ρ else U ρ := rfl
@[simp] theorem exprS_eq : exprS f ρ = f ρ >>= fun _ => .ok (.nx, ρ) := rfl
@[simp] theorem asgS_eq {is : List Nat} : asgS is fs ρ = fs ρ >>= fun ds => .ok (.nx, setD ρ is ds) := rfl
@[simp] theorem setD_nil : setD ρ [] [] = ρ := rfl
@[simp] theorem setD_cons {is : List Nat} {d : D} {ds : List D} : setD ρ (i :: is) (d :: ds) = setD (ρ.set i (some d)) is ds := rfl
@[simp] theorem bi_eq {F : D → D → Rs D} : bi F f g ρ = f ρ >>= fun x => g ρ >>= fun y => F x y := rfl
@[simp] theorem tstE_eq : tstE f ρ = f ρ >>= blD := rfl
@[simp] theorem notE_eq : notE f ρ = f ρ >>= fun x => blD x >>= fun b => .ok (.bool !b) := rfl
@[simp] theorem andE_eq : andE f g ρ = f ρ >>= fun x => blD x >>= fun b => if b then g ρ else .ok (.bool false) := rfl
@[simp] theorem orE_eq : orE f g ρ = f ρ >>= fun x => blD x >>= fun b => if b then .ok (.bool true) else g ρ := rfl
@[simp] theorem iteE_eq : iteE h f g ρ = h ρ >>= fun x => blD x >>= fun b => if b then f ρ else g ρ := rfl
@[simp] theorem isiE_eq {T : Ty} : isiE T f ρ = f ρ >>= fun d => .ok (.bool (isiD T d)) := rfl
@[simp] theorem noArg_eq : noArg ρ = .ok [] := rfl
@[simp] theorem consArg_eq : consArg f fs ρ = f ρ >>= fun d => fs ρ >>= fun ds => .ok (d :: ds) := rfl
@[simp] theorem tupA_eq : tupA fs ρ = fs ρ >>= fun ds => .ok (.tuple ds) := rfl
@[simp] theorem lstA_eq : lstA fs ρ = fs ρ >>= fun ds => .ok (.list ds) := rfl
@[simp] theorem scE_eq {F : List D → Rs D} : scE F fs ρ = fs ρ >>= fun ds => F ds >>= fun d => if scaB d = true then .ok d else .stuck := rfl
@[simp] theorem zipNE_eq : zipNE fs ρ = fs ρ >>= fun ds => zipND ds := rfl
@[simp] theorem appE_eq {F : List D → Rs D} : appE F fs ρ = fs ρ >>= F := rfl
@[simp] theorem chnE_eq {F F' : D → D → Rs D} : chnE F F' f g h ρ = f ρ >>= fun x => g ρ >>= fun y => F x y >>= fun r => blD r >>= fun b => if b then h ρ >>= fun z => F' y z else .ok (.bool false) := rfl
@[simp] theorem seqE_eq : seqE f ρ = f ρ >>= seqD := rfl
@[simp] theorem seqD_l {ds : List D} : seqD (.list ds) = .ok ds := rfl
@[simp] theorem seqD_t {ds : List D} : seqD (.tuple ds) = .ok ds := rfl
@[simp] theorem rng1_eq : Den.rng1 f ρ = f ρ >>= fun d => intD d >>= fun j => if -(big : Int) ≤ j ∧ j ≤ big then .ok (rngD 0 j.toNat) else .stuck := rfl
@[simp] theorem rng2_eq : Den.rng2 f g ρ = f ρ >>= fun d => g ρ >>= fun d' => intD d >>= fun i => intD d' >>= fun j => if (-(big : Int) ≤ i ∧ i ≤ big) ∧ (-(big : Int) ≤ j ∧ j ≤ big) then .ok (rngD i (j - i).toNat) else .stuck := rfl
@[simp] theorem lstI_eq {fi : DI} : lstI fi ρ = fi ρ >>= fun ds => .ok (.list ds) := rfl
@[simp] theorem tupI_eq {fi : DI} : tupI fi ρ = fi ρ >>= fun ds => .ok (.tuple ds) := rfl
@[simp] theorem enuE_eq : enuE f ρ = f ρ >>= seqD >>= fun ds => .ok (enuL 0 ds) := rfl
@[simp] theorem forS_eq {fi : DI} {st : STg} : forS fi st F ρ = fi ρ >>= fun ds => forL st F ds ρ := rfl
@[simp] theorem asgT_eq {st : STg} : asgT st f ρ = f ρ >>= fun d => (st d ρ).noexc >>= fun ρ' => .ok (.nx, ρ') := rfl
@[simp] theorem setN_eq {d : D} : setN i d ρ = .ok (ρ.set i (some d)) := rfl
@[simp] theorem setT_eq {is : List Nat} {ds : List D} : setT is (.tuple ds) ρ = setAll is ds ρ := rfl
@[simp] theorem setAll_nil : setAll [] [] ρ = .ok ρ := rfl
@[simp] theorem setAll_cons {is : List Nat} {d : D} {ds : List D} : setAll (i :: is) (d :: ds) ρ = setAll is ds (ρ.set i (some d)) := rfl
@[simp] theorem compE_eq {vs : List Nat} {fi : DI} {st : STg} {t : Ro → Rs Bool} : compE vs fi st t f ρ = fi ρ >>= fun ds => (compL st t f (wipeR ρ vs) ds).noexc >>= fun r => .ok (.list r) := rfl
@[simp] theorem compE2_eq {vs vs1 : List Nat} {fi fi1 : DI} {st st1 : STg} {t : Ro → Rs Bool} : compE2 vs fi st fi1 st1 t f vs1 ρ = fi ρ >>= fun ds => (compL2 st fi1 st1 t f vs1 (wipeR ρ vs) ds).noexc >>= fun r => if r.length ≤ big then .ok (.list r) else .stuck := rfl
@[simp] theorem wipeR_nil : wipeR ρ [] = ρ := rfl
@[simp] theorem wipeR_cons {vs : List Nat} : wipeR ρ (i :: vs) = (wipeR ρ vs).set i none := rfl
end
@[simp] theorem tg1 {i : Nat} {x : Str} {p : Pos} : Tg.st (.nm i x p) = setN i := rfl
@[simp] theorem tg2 {l : List (Nat × Str × Pos)} {k : Nat} {p : Pos} : Tg.st (.tp l k p) = setT (l.map (·.1)) := rfl
@[simp] theorem tg3 {i : Nat} {x : Str} {p : Pos} : Tg.is (.nm i x p) = [i] := rfl
@[simp] theorem tg4 {l : List (Nat × Str × Pos)} {k : Nat} {p : Pos} : Tg.is (.tp l k p) = l.map (·.1) := rfl
@[simp] theorem co1 : Co.F .lt = ltD := rfl
@[simp] theorem ltD_int {i j : Int} : ltD (.int i) (.int j) = .ok (.bool (decide (i < j))) := rfl
@[simp] theorem co2 : Co.F .le = ordD fun i j => decide (i ≤ j) := rfl
@[simp] theorem co3 : Co.F .gt = ordD fun i j => decide (j < i) := rfl
@[simp] theorem co4 : Co.F .ge = ordD fun i j => decide (j ≤ i) := rfl
@[simp] theorem co5 : Co.F .eq = eqD := rfl
@[simp] theorem co6 : Co.F .ne = neD := rfl
@[simp] theorem co7 : Co.F .isin = inD false := rfl
@[simp] theorem co8 : Co.F .notin = inD true := rfl
@[simp] theorem co9 : Co.F .is = isD false := rfl
@[simp] theorem co10 : Co.F .isnot = isD true := rfl
@[simp] theorem ordD_int {q : Int → Int → Bool} {i j : Int} : ordD q (.int i) (.int j) = .ok (.bool (q i j)) := rfl
@[simp] theorem bo1 : Bo.F .add = addD := rfl
@[simp] theorem bo2 : Bo.F .sub = subD := rfl
@[simp] theorem bo3 : Bo.F .mul = mulA := rfl
@[simp] theorem mulA_int {i j : Int} : mulA (.int i) (.int j) = if (-(2 ^ 64) < i ∧ i < 2 ^ 64) ∨ (-(2 ^ 64) < j ∧ j < 2 ^ 64) then .ok (.int (i * j)) else .stuck := rfl
@[simp] theorem mulA_t {ds : List D} {j : Int} : mulA (.tuple ds) (.int j) = if (0 < ds.length ∧ ds.length ≤ 1000) ∧ 1 ≤ j ∧ j ≤ 1000 then .ok (.tuple (List.replicate j.toNat ds).flatten) else .stuck := rfl
@[simp] theorem bo4 : Bo.F .div = divD := rfl
@[simp] theorem bo5 : Bo.F .mod = modD := rfl
@[simp] theorem bo6 : Bo.F .pow = powD := rfl
@[simp] theorem bo7 : Bo.F .shl = shlD := rfl
@[simp] theorem shlD_int {i j : Int} : shlD (.int i) (.int j) = if 0 ≤ j ∧ j ≤ 64 ∧ i.natAbs < 2 ^ 64 then .ok (.int (i * 2 ^ j.toNat)) else .stuck := rfl
@[simp] theorem addD_int {i j : Int} : addD (.int i) (.int j) = .ok (.int (i + j)) := rfl
@[simp] theorem addD_l {a b : List D} : addD (.list a) (.list b) = if a.length + b.length ≤ big then .ok (.list (a ++ b)) else .stuck := rfl
@[simp] theorem addD_t {a b : List D} : addD (.tuple a) (.tuple b) = if a.length + b.length ≤ big then .ok (.tuple (a ++ b)) else .stuck := rfl
@[simp] theorem addL_l {a b : List D} : addL (.list a) (.list b) = if a.length + b.length ≤ big then .ok (.list (a ++ b)) else .stuck := rfl
@[simp] theorem subD_int {i j : Int} : subD (.int i) (.int j) = .ok (.int (i - j)) := rfl
@[simp] theorem mulD_int {i j : Int} : mulD (.int i) (.int j) = if (-(2 ^ 64) < i ∧ i < 2 ^ 64) ∨ (-(2 ^ 64) < j ∧ j < 2 ^ 64) then .ok (.int (i * j)) else .stuck := rfl
@[simp] theorem divD_int {i j : Int} : divD (.int i) (.int j) = if 0 < j ∧ j < 2 ^ 64 then .ok (.int (i / j)) else .stuck := rfl
@[simp] theorem modD_int {i j : Int} : modD (.int i) (.int j) = if 0 < j then .ok (.int (i % j)) else .stuck := rfl
@[simp] theorem powD_int {i j : Int} : powD (.int i) (.int j) = if 0 ≤ j ∧ j ≤ 64 ∧ i.natAbs < 2 ^ 64 then .ok (.int (i ^ j.toNat)) else .stuck := rfl
@[simp] theorem negD_int {i : Int} : negD (.int i) = .ok (.int (-i)) := rfl
@[simp] theorem lenD_l {ds : List D} : lenD [.list ds] = .ok (.int ds.length) := rfl
@[simp] theorem lenD_t {ds : List D} : lenD [.tuple ds] = .ok (.int ds.length) := rfl
@[simp] theorem pr1 : Pr.F .len = lenD := rfl
@[simp] theorem pr2 : Pr.F .all = allD := rfl
@[simp] theorem pr3 : Pr.F .any = anyD := rfl
@[simp] theorem pr4 : Pr.F .max = maxA := rfl
@[simp] theorem pr5 : Pr.F .min = minA := rfl
@[simp] theorem maxA_l {ds : List D} : maxA [.list ds] = maxD [.list ds] := rfl
@[simp] theorem maxA_ii {a b : Int} : maxA [.int a, .int b] = maxD [.int a, .int b] := rfl
@[simp] theorem minA_ii {a b : Int} : minA [.int a, .int b] = minD [.int a, .int b] := rfl
theorem minA_ints {ds : List D} {ns : List Int} (h : intsO ds = some ns) : minA [.list ds] = minD [.list ds] := by
  show (match intsO ds with | some _ => _ | none => _) = _
  rw [h]
@[simp] theorem pr6 : Pr.F .tuple = tupleD := rfl
@[simp] theorem pr7 : Pr.F .list = listD := rfl
@[simp] theorem pr8 : Pr.F .sorted = sortedA := rfl
@[simp] theorem tupleD_l {ds : List D} : tupleD [.list ds] = .ok (.tuple ds) := rfl
@[simp] theorem listD_l {ds : List D} : listD [.list ds] = .ok (.list ds) := rfl
@[simp] theorem listD_t {ds : List D} : listD [.tuple ds] = .ok (.list ds) := rfl
@[simp] theorem allD_bs {bs : List Bool} : allD [.list (bs.map PyData.bool)] = .ok (.bool (bs.all id)) := by simp [allD]
@[simp] theorem anyD_bs {bs : List Bool} : anyD [.list (bs.map PyData.bool)] = .ok (.bool (bs.any id)) := by simp [anyD]
@[simp] theorem allD_map {α : Type} (f : α → Bool) (l : List α) : allD [.list (l.map fun a => PyData.bool (f a))] = .ok (.bool (l.all f)) := by
  have := allD_bs (bs := l.map f)
  rw [List.map_map] at this
  rw [show (fun a => PyData.bool (f a)) = PyData.bool ∘ f from rfl, this]
  simp
@[simp] theorem anyD_map {α : Type} (f : α → Bool) (l : List α) : anyD [.list (l.map fun a => PyData.bool (f a))] = .ok (.bool (l.any f)) := by
  have := anyD_bs (bs := l.map f)
  rw [List.map_map] at this
  rw [show (fun a => PyData.bool (f a)) = PyData.bool ∘ f from rfl, this]
  simp
@[simp] theorem cd1 : Cst.d .non = .none := rfl
@[simp] theorem cd2 {b : Bool} : Cst.d (.bl b) = .bool b := rfl
@[simp] theorem cd3 {i : Int} : Cst.d (.int i) = .int i := rfl
@[simp] theorem cd4 {x : Str} : Cst.d (.str x) = .str x := rfl
@[simp] theorem repL_eq {ds : List D} {k : Int} : repL ds k = if 0 ≤ k ∧ k ≤ 1000 then .ok (.list (List.replicate k.toNat ds).flatten) else .stuck := rfl
@[simp] theorem ixD_l {ds : List D} {i : Int} : ixD (.list ds) (.int i) = match L2.atI ds i with | some d => .ok d | none => .stuck := rfl
@[simp] theorem ixD_t {ds : List D} {i : Int} : ixD (.tuple ds) (.int i) = match L2.atI ds i with | some d => .ok d | none => .stuck := rfl
@[simp] theorem slD_l {ds : List D} {a b : Option Int} : slD a b (.list ds) = .ok (.list (cutD ds a b)) := rfl
@[simp] theorem slD_t {ds : List D} {a b : Option Int} : slD a b (.tuple ds) = .ok (.tuple (cutD ds a b)) := rfl
@[simp] theorem slL_l {ds : List D} {a b : Option Int} : slL a b (.list ds) = .ok (.list (cutD ds a b)) := rfl
theorem atI_nn {α : Type} {ds : List α} {k : Nat} (h : k < ds.length) : L2.atI ds (k : Int) = some ds[k] := by
  unfold L2.atI L2.ixN
  rw [if_pos (by omega)]
  simp [h]
@[simp] theorem atI_0 {α : Type} {a : α} {r : List α} : L2.atI (a :: r) 0 = some a := by
  have := atI_nn (ds := a :: r) (k := 0) (by simp)
  simpa using this
@[simp] theorem atI_1 {α : Type} {a b : α} {r : List α} : L2.atI (a :: b :: r) 1 = some b := by
  have := atI_nn (ds := a :: b :: r) (k := 1) (by simp)
  simpa using this
@[simp] theorem atI_2 {α : Type} {a b c : α} {r : List α} : L2.atI (a :: b :: c :: r) 2 = some c := by
  have := atI_nn (ds := a :: b :: c :: r) (k := 2) (by simp)
  simpa using this
@[simp] theorem atI_3 {α : Type} {a b c d : α} {r : List α} : L2.atI (a :: b :: c :: d :: r) 3 = some d := by
  have := atI_nn (ds := a :: b :: c :: d :: r) (k := 3) (by simp)
  simpa using this
@[simp] theorem endD_rt {d : D} {ρ : Ro} : endD (.ok (.rt d, ρ)) = .ok d := rfl
@[simp] theorem endD_nx {ρ : Ro} : endD (.ok (.nx, ρ)) = .ok .none := rfl
@[simp] theorem endD_exc {c : Nat} : endD (.exc c) = .exc c := rfl
theorem wp_end {r : Rs (Fl × Ro)} {Q : D → Prop} : Wp (endD r) Q ↔ Wp r fun p => match p with | (.rt d, _) => Q d | (.nx, _) => Q .none | _ => False := by
  cases r with
  | ok p =>
    obtain ⟨fl, ρ⟩ := p
    cases fl <;> exact .rfl
  | exc c => exact .rfl
  | stuck => exact .rfl
theorem wp_def {ft : Tb} {n k : Nat} {ss : Ss} {ds : List D} {Q : D → Prop} (hl : ds.length = n) (h : Wp (ss.den ft (startD k ds)) fun p => match p with | (.rt d, _) => Q d | (.nx, _) => Q .none | _ => False) : Wp (defD ft n k ss ds) Q := by
  unfold defD
  rw [if_pos hl]
  exact wp_end.mpr h
section
variable {ρ : Ro} {f g h : DE} {i : Nat} {fs : Ro → Rs (List D)}
@[simp] theorem setXS_eq {fx : DX} : setXS i fx ρ = fx ρ >>= fun r => .ok (.nx, r.2.set i (some r.1)) := rfl
@[simp] theorem retXS_eq {fx : DX} : retXS fx ρ = fx ρ >>= fun r => .ok (.rt r.1, r.2) := rfl
@[simp] theorem expXS_eq {fx : DX} : expXS fx ρ = fx ρ >>= fun r => .ok (.nx, r.2) := rfl
@[simp] theorem asgXS_eq {st : STg} {fx : DX} : asgXS st fx ρ = fx ρ >>= fun r => (st r.1 r.2).noexc >>= fun ρ2 => .ok (.nx, ρ2) := rfl
@[simp] theorem binRX_eq {F2 : D → D → Rs D} {fx : DX} : binRX F2 f fx ρ = f ρ >>= fun u => fx ρ >>= fun r => F2 u r.1 >>= fun d => .ok (d, r.2) := rfl
@[simp] theorem binLX_eq {F2 : D → D → Rs D} {fx : DX} : binLX F2 fx f ρ = fx ρ >>= fun r => f r.2 >>= fun v => F2 r.1 v >>= fun d => .ok (d, r.2) := rfl
@[simp] theorem appX_eq {F : List D → Rs D} {fa : Ro → Rs (List D × Ro)} : appX F fa ρ = fa ρ >>= fun r => F r.1 >>= fun d => .ok (d, r.2) := rfl
@[simp] theorem lastAX_eq {fx : DX} : lastAX fx ρ = fx ρ >>= fun r => .ok ([r.1], r.2) := rfl
@[simp] theorem consAX_eq {fa : Ro → Rs (List D × Ro)} : consAX f fa ρ = f ρ >>= fun d => fa ρ >>= fun r => .ok (d :: r.1, r.2) := rfl
theorem mcX_eq {F : List D → Rs D} {kvs : List (D × D)} (h : ρ[i]? = some (some (.dict kvs))) : mcX F fs i ρ = fs ρ >>= fun ds => F (ds ++ [.dict kvs]) >>= fun r => match r with
    | .tuple [d, .dict kvs'] => .ok (d, ρ.set i (some (.dict kvs')))
    | _ => .stuck := by unfold mcX; rw [h] <;> rfl
@[simp] theorem mnE_eq {F : List D → Rs D} : mnE F fs ρ = fs ρ >>= fun ds => F (ds ++ [.dict []]) >>= fun r => match r with
    | .tuple [d, .dict _] => .ok d
    | _ => .stuck := rfl
end
theorem wp_defM {ft : Tb} {n k : Nat} {ss : Ss} {ds : List D} {Q : D → Prop} (hl : ds.length = n + 1) (h : Wp (ss.den ft (startD k ds)) fun p => match p with | (.rt d, ρ) => ∃ kvs, ρ[n]? = some (some (.dict kvs)) ∧ Q (.tuple [d, .dict kvs]) | _ => False) : Wp (defM ft n k ss ds) Q := by
  unfold defM
  rw [if_pos hl]
  obtain ⟨p, e, h⟩ := wp_iff.mp h
  obtain ⟨fl, ρ⟩ := p
  cases fl with
  | rt d =>
    obtain ⟨kvs, e2, q⟩ := h
    rw [e]
    unfold endM
    simp only [e2]
    exact q
  | nx => exact h.elim
  | bk => exact h.elim
  | ct => exact h.elim
theorem cut_from (ds : List D) (k : Nat) : cutD ds (some (k : Int)) none = ds.drop k := by
  unfold cutD
  rw [HT.sIx_nat, HT.sIx_none]
  by_cases h : k ≤ ds.length
  · rw [Nat.min_eq_left h, List.take_of_length_le (by simp)]
  · rw [List.drop_eq_nil_of_le (by omega), List.drop_eq_nil_of_le (by omega), List.take_nil]
theorem cut_to (ds : List D) (k : Nat) : cutD ds none (some (k : Int)) = ds.take k := by
  unfold cutD
  rw [HT.sIx_nat, HT.sIx_none, List.drop_zero, Nat.sub_zero]
  by_cases h : k ≤ ds.length
  · rw [Nat.min_eq_left h]
  · rw [Nat.min_eq_right (by omega), List.take_of_length_le (by omega), List.take_of_length_le (by omega)]
theorem wp_for {α : Type} {st : STg} {F : DS} {g : α → D} (I : Nat → Ro → Prop) {Q : Fl × Ro → Prop} : ∀ (l : List α) (ρ : Ro) (k : Nat), I k ρ →
    (∀ i a ρ, l[i]? = some a → I (k + i) ρ → Wp (st (g a) ρ) fun ρ1 => Wp (F ρ1) fun p => match p with
      | (.nx, ρ2) => I (k + i + 1) ρ2
      | (.ct, ρ2) => I (k + i + 1) ρ2
      | (.bk, ρ2) => Q (.nx, ρ2)
      | (.rt d, ρ2) => Q (.rt d, ρ2)) → (∀ ρ, I (k + l.length) ρ → Q (.nx, ρ)) → Wp (forL st F (l.map g) ρ) Q
  | [], ρ, k, h0, _, hq => hq ρ h0
  | a :: l, ρ, k, h0, hs, hq => by
    show Wp (forL st F (g a :: l.map g) ρ) Q
    unfold forL
    rw [wp_bind, wp_noexc]
    have h1 := hs 0 a ρ rfl h0
    refine h1.imp fun ρ1 h2 => ?_
    rw [wp_bind]
    refine h2.imp fun p h3 => ?_
    obtain ⟨fl, ρ2⟩ := p
    have next : I (k + 0 + 1) ρ2 → Wp (forL st F (l.map g) ρ2) Q := fun h4 => wp_for I l ρ2 (k + 1) h4 (fun i b ρ3 e hi => by
      have := hs (i + 1) b ρ3 (by simpa using e) (by rw [show k + (i + 1) = k + 1 + i by omega]; exact hi)
      rw [show k + (i + 1) + 1 = k + 1 + i + 1 by omega] at this
      exact this) fun ρ3 h => hq ρ3 (by rw [List.length_cons, show k + (l.length + 1) = k + 1 + l.length by omega]; exact h)
    cases fl with
    | nx => exact next h3
    | ct => exact next h3
    | bk => exact h3
    | rt d => exact h3
theorem wp_while {c : DE} {F : DS} (I : Nat → Ro → Prop) {Q : Fl × Ro → Prop} : ∀ (m : Nat) (ρ : Ro) (n : Nat), m < n → I m ρ →
    (∀ m ρ, I m ρ → Wp (tstE c ρ) fun b => if b then Wp (F ρ) fun p => match p with
      | (.nx, ρ2) => ∃ m', m' < m ∧ I m' ρ2
      | (.ct, ρ2) => ∃ m', m' < m ∧ I m' ρ2
      | (.bk, ρ2) => Q (.nx, ρ2)
      | (.rt d, ρ2) => Q (.rt d, ρ2) else Q (.nx, ρ)) → Wp (whlL c F n ρ) Q := fun m => by
  induction m using Nat.strongRecOn with
  | _ m ih =>
    intro ρ n hm h0 hs
    cases n with
    | zero => omega
    | succ n =>
      unfold whlL
      rw [wp_bind]
      refine (hs m ρ h0).imp fun b hb => ?_
      cases b with
      | false => exact hb
      | true =>
        have hb' : Wp (F ρ) _ := hb
        rw [if_pos rfl, wp_bind]
        refine hb'.imp fun p h3 => ?_
        obtain ⟨fl, ρ2⟩ := p
        cases fl with
        | nx => obtain ⟨m', h4, h5⟩ := h3; exact ih m' h4 ρ2 n (by omega) h5 hs
        | ct => obtain ⟨m', h4, h5⟩ := h3; exact ih m' h4 ρ2 n (by omega) h5 hs
        | bk => exact h3
        | rt d => exact h3
theorem compL_map {α : Type} {st : STg} {t : Ro → Rs Bool} {f : DE} {g : α → D} {p : α → Bool} {h : α → D} {ρ : Ro} : ∀ l : List α, (∀ a ∈ l, Wp (st (g a) ρ) fun ρ1 => t ρ1 = .ok (p a) ∧ (p a = true → f ρ1 = .ok (h a))) → compL st t f ρ (l.map g) = .ok ((l.filter p).map h)
  | [], _ => rfl
  | a :: l, H => by
    have ih := compL_map l fun b hb => H b (List.mem_cons_of_mem _ hb)
    obtain ⟨ρ1, e1, e2, e3⟩ := wp_iff.mp (H a List.mem_cons_self)
    show compL st t f ρ (g a :: l.map g) = _
    unfold compL
    rw [e1, Rs.ok_bind, e2, Rs.ok_bind]
    cases hp : p a with
    | true => rw [if_pos rfl, e3 hp, Rs.ok_bind, ih, List.filter_cons_of_pos hp]; rfl
    | false => rw [if_neg (by decide), ih, List.filter_cons_of_neg (by rw [hp]; decide)]
theorem compL_all {α : Type} {st : STg} {f : DE} {g : α → D} {h : α → D} {ρ : Ro} (l : List α) (H : ∀ a ∈ l, Wp (st (g a) ρ) fun ρ1 => f ρ1 = .ok (h a)) : compL st (fun _ => .ok true) f ρ (l.map g) = .ok (l.map h) := by
  have := compL_map (p := fun _ => true) (t := fun _ => .ok true) l fun a ha => (H a ha).imp fun ρ1 e => ⟨rfl, fun _ => e⟩
  rw [this, List.filter_eq_self.mpr fun _ _ => rfl]
theorem compL2_map {α β : Type} {st st1 : STg} {fi1 : DI} {t : Ro → Rs Bool} {f : DE} {vs1 : List Nat} {g : α → D} {g1 : β → D} {l1 : α → List β} {p : α → β → Bool} {h : α → β → D} {ρ : Ro} : ∀ l : List α,
    (∀ a ∈ l, Wp (st (g a) ρ) fun ρ1 => fi1 ρ1 = .ok ((l1 a).map g1) ∧ ∀ b ∈ l1 a, Wp (st1 (g1 b) (wipeR ρ1 vs1)) fun ρ2 => t ρ2 = .ok (p a b) ∧ (p a b = true → f ρ2 = .ok (h a b))) → compL2 st fi1 st1 t f vs1 ρ (l.map g) = .ok (l.flatMap fun a => ((l1 a).filter (p a)).map (h a))
  | [], _ => rfl
  | a :: l, H => by
    have ih := compL2_map l fun b hb => H b (List.mem_cons_of_mem _ hb)
    obtain ⟨ρ1, e1, e2, e3⟩ := wp_iff.mp (H a List.mem_cons_self)
    show compL2 st fi1 st1 t f vs1 ρ (g a :: l.map g) = _
    unfold compL2
    rw [e1, Rs.ok_bind, e2, Rs.ok_bind, compL_map (l1 a) e3, Rs.ok_bind, ih]
    rfl
@[simp] theorem noexc_ok' {α : Type} (a : α) : (Rs.ok a).noexc = .ok a := rfl
theorem rng_map (lo : Int) (n : Nat) : rngD lo n = (List.range n).map fun i : Nat => PyData.int (lo + (i : Int)) := rfl
theorem rng0_map (n : Nat) : rngD 0 n = (List.range n).map fun i : Nat => PyData.int (i : Int) := by
  rw [rng_map]
  simp
def Sh (n : Nat) (d : D) : Prop := d.canLay0 = true ∧ d.depth ≤ n
theorem shaped_of {n : Nat} {d : D} (h : Sh n d) (hn : n ≤ 64) : SeqAt.shaped d = true := by
  unfold SeqAt.shaped
  rw [h.1, Bool.true_and]
  exact decide_eq_true (Nat.le_trans h.2 hn)
theorem sh_all {n : Nat} : ∀ {ds : List D}, (∀ d ∈ ds, Sh n d) → PyData.canLayAll0 ds = true ∧ PyData.depthAll ds ≤ n
  | [], _ => ⟨rfl, Nat.zero_le _⟩
  | d :: ds, h => by
    obtain ⟨h1, h2⟩ := h d List.mem_cons_self
    obtain ⟨h3, h4⟩ := sh_all fun x hx => h x (List.mem_cons_of_mem _ hx)
    refine ⟨?_, ?_⟩
    · show (d.canLay0 && PyData.canLayAll0 ds) = true
      rw [h1, h3]; rfl
    · show max d.depth (PyData.depthAll ds) ≤ n
      omega
theorem sh_list {n : Nat} {ds : List D} (h : ∀ d ∈ ds, Sh n d) : Sh (n + 1) (.list ds) := ⟨(sh_all h).1, Nat.succ_le_succ (sh_all h).2⟩
theorem sh_tuple {n : Nat} {ds : List D} (h : ∀ d ∈ ds, Sh n d) : Sh (n + 1) (.tuple ds) := ⟨(sh_all h).1, Nat.succ_le_succ (sh_all h).2⟩
theorem sh_int {n : Nat} (i : Int) : Sh n (.int i) := ⟨rfl, Nat.zero_le _⟩
theorem sh_bool {n : Nat} (i : Bool) : Sh n (.bool i) := ⟨rfl, Nat.zero_le _⟩
theorem sh_none {n : Nat} : Sh n .none := ⟨rfl, Nat.zero_le _⟩
theorem Sh.up {n m : Nat} {d : D} (h : Sh n d) (k : n ≤ m) : Sh m d := ⟨h.1, Nat.le_trans h.2 k⟩
class Enc (α : Type) [DecidableEq α] where
  e : α → D
  n : Nat
  sh : ∀ a, Sh n (e a)
  eq : ∀ a b, PyData.eqv (e a) (e b) = decide (a = b)
instance encInt : Enc Int := ⟨.int, 0, sh_int, fun a b => by
  show (a == b) = _
  by_cases h : a = b <;> simp [h]⟩
instance encNat : Enc Nat := ⟨fun k => .int (k : Int), 0, fun k => sh_int _, fun a b => by
  show ((a : Int) == (b : Int)) = _
  by_cases h : a = b
  · simp [h]
  · have : ¬ (a : Int) = (b : Int) := by omega
    simp [h, this]⟩
theorem eqvAll_map {α : Type} [DecidableEq α] {e : α → D} (h : ∀ a b, PyData.eqv (e a) (e b) = decide (a = b)) : ∀ l m : List α, PyData.eqvAll (l.map e) (m.map e) = decide (l = m)
  | [], [] => rfl
  | [], _ :: _ => rfl
  | _ :: _, [] => rfl
  | a :: l, b :: m => by
    show (PyData.eqv (e a) (e b) && PyData.eqvAll (l.map e) (m.map e)) = _
    rw [h, eqvAll_map h l m]
    by_cases h1 : a = b <;> by_cases h2 : l = m <;> simp [h1, h2]
instance encPair {α β : Type} [DecidableEq α] [DecidableEq β] [Enc α] [Enc β] : Enc (α × β) := ⟨fun p => .tuple [Enc.e p.1, Enc.e p.2], max (Enc.n α) (Enc.n β) + 1, fun p => sh_tuple fun d hd => by
  rcases List.mem_cons.mp hd with rfl | hd
  · exact (Enc.sh p.1).up (Nat.le_max_left _ _)
  · rw [List.mem_singleton.mp hd]
    exact (Enc.sh p.2).up (Nat.le_max_right _ _), fun p q => by
  show (PyData.eqv (Enc.e p.1) (Enc.e q.1) && (PyData.eqv (Enc.e p.2) (Enc.e q.2) && true)) = _
  rw [Enc.eq, Enc.eq]
  by_cases h1 : p.1 = q.1 <;> by_cases h2 : p.2 = q.2 <;> simp [h1, h2, Prod.ext_iff]⟩
instance encList {α : Type} [DecidableEq α] [Enc α] : Enc (List α) := ⟨fun l => .list (l.map Enc.e), Enc.n α + 1, fun l => sh_list fun d hd => by
  obtain ⟨a, _, rfl⟩ := List.mem_map.mp hd
  exact Enc.sh a, fun l m => eqvAll_map Enc.eq l m⟩
structure Tu (α : Type) where
  l : List α
deriving DecidableEq
instance encTu {α : Type} [DecidableEq α] [Enc α] : Enc (Tu α) := ⟨fun l => .tuple (l.l.map Enc.e), Enc.n α + 1, fun l => sh_tuple fun d hd => by
  obtain ⟨a, _, rfl⟩ := List.mem_map.mp hd
  exact Enc.sh a, fun l m => (eqvAll_map Enc.eq l.l m.l).trans (by
    cases l; cases m
    simp)⟩
structure Pan where
  a : Int
  b : Int
  c : Int
  d : Int
deriving DecidableEq
def pD (p : Pan) : D := .tuple [.int p.a, .int p.b, .int p.c, .int p.d]
instance encPan : Enc Pan := ⟨pD, 1, fun p => sh_tuple fun d hd => by
  simp only [List.mem_cons, List.not_mem_nil, or_false] at hd
  rcases hd with rfl | rfl | rfl | rfl <;> exact sh_int _, fun p q => by
  show ((p.a == q.a) && ((p.b == q.b) && ((p.c == q.c) && ((p.d == q.d) && true)))) = _
  cases p; cases q
  simp only [Pan.mk.injEq, Bool.and_true]
  rename_i a b c d a' b' c' d'
  by_cases h1 : a = a' <;> by_cases h2 : b = b' <;> by_cases h3 : c = c' <;> by_cases h4 : d = d' <;> simp [h1, h2, h3, h4]⟩
section
variable {α : Type} [DecidableEq α] [Enc α]
theorem eqD_e (hn : Enc.n α ≤ 64) (a b : α) : eqD (Enc.e a) (Enc.e b) = .ok (.bool (decide (a = b))) := by
  unfold eqD
  rw [if_pos ⟨shaped_of (Enc.sh a) hn, shaped_of (Enc.sh b) hn⟩, Enc.eq]
theorem neD_e (hn : Enc.n α ≤ 64) (a b : α) : neD (Enc.e a) (Enc.e b) = .ok (.bool (!decide (a = b))) := by
  unfold neD
  rw [if_pos ⟨shaped_of (Enc.sh a) hn, shaped_of (Enc.sh b) hn⟩, Enc.eq]
theorem inL_e (a : α) (l : List α) : inL (Enc.e a) (l.map Enc.e) = decide (a ∈ l) := by
  unfold inL
  induction l with
  | nil => rfl
  | cons b l ih =>
    rw [List.map_cons, List.any_cons, ih, Enc.eq]
    by_cases h1 : b = a
    · simp [h1]
    · have : ¬ a = b := fun e => h1 e.symm
      simp [h1, this]
theorem inD_l (hn : Enc.n α + 1 ≤ 64) (a : α) (l : List α) : inD false (Enc.e a) (.list (l.map Enc.e)) = .ok (.bool (decide (a ∈ l))) := by
  show (if _ then _ else _) = _
  rw [if_pos ⟨shaped_of (Enc.sh a) (by omega), shaped_of (Enc.sh l) hn⟩, inL_e]; rfl
theorem notinD_l (hn : Enc.n α + 1 ≤ 64) (a : α) (l : List α) : inD true (Enc.e a) (.list (l.map Enc.e)) = .ok (.bool (!decide (a ∈ l))) := by
  show (if _ then _ else _) = _
  rw [if_pos ⟨shaped_of (Enc.sh a) (by omega), shaped_of (Enc.sh l) hn⟩, inL_e]; rfl
theorem inD_b (hn : Enc.n α + 1 ≤ 64) (a : α) (l : List α) (b : Bool) (h : a ∈ l ↔ b = true) : inD false (Enc.e a) (.list (l.map Enc.e)) = .ok (.bool b) := by
  rw [inD_l hn]
  congr 2
  rw [Bool.eq_iff_iff, decide_eq_true_iff]
  exact h
theorem notinD_b (hn : Enc.n α + 1 ≤ 64) (a : α) (l : List α) (b : Bool) (h : a ∈ l ↔ b = true) : inD true (Enc.e a) (.list (l.map Enc.e)) = .ok (.bool (!b)) := by
  rw [notinD_l hn]
  congr 3
  rw [Bool.eq_iff_iff, decide_eq_true_iff]
  exact h
end
end Den
namespace Od
def okN (R : Nat → Nat → Bool) (n : Nat) (s : List Nat) (x : Nat) : Bool := decide (x ∉ s) && (List.range n).all fun p => !R p x || decide (p ∈ s)
theorem okN_iff {R : Nat → Nat → Bool} {n : Nat} {s : List Nat} {x : Nat} : okN R n s x = true ↔ x ∉ s ∧ ∀ p, p < n → R p x = true → p ∈ s := by
  unfold okN
  simp only [Bool.and_eq_true, decide_eq_true_eq, List.all_eq_true, List.mem_range, Bool.or_eq_true, Bool.not_eq_true']
  refine and_congr .rfl ⟨fun h p hp hr => (h p hp).elim (fun z => by rw [hr] at z; cases z) id, fun h p hp => ?_⟩
  cases hr : R p x with
  | false => exact .inl rfl
  | true => exact .inr (h p hp hr)
def step (R : Nat → Nat → Bool) (n : Nat) (L : List (List Nat)) : List (List Nat) := L.flatMap fun s => ((List.range n).filter (okN R n s)).map fun x => s ++ [x]
def rowsK (R : Nat → Nat → Bool) (n : Nat) : Nat → List (List Nat)
  | 0 => [[]]
  | k + 1 => step R n (rowsK R n k)
def rows (R : Nat → Nat → Bool) (n : Nat) : List (List Nat) := rowsK R n n
inductive Gd (R : Nat → Nat → Bool) (n : Nat) : List Nat → Prop
  | nil : Gd R n []
  | snoc {s : List Nat} {x : Nat} : Gd R n s → x < n → x ∉ s → (∀ p, p < n → R p x = true → p ∈ s) → Gd R n (s ++ [x])
section
variable {R : Nat → Nat → Bool} {n : Nat}
theorem mem_rowsK {k : Nat} {s : List Nat} : s ∈ rowsK R n k ↔ Gd R n s ∧ s.length = k := by
  induction k generalizing s with
  | zero =>
    simp only [rowsK, List.mem_singleton]
    constructor
    · rintro rfl; exact ⟨.nil, rfl⟩
    · rintro ⟨_, h⟩; exact List.length_eq_zero_iff.mp h
  | succ k ih =>
    simp only [rowsK, step, List.mem_flatMap, List.mem_map, List.mem_filter, List.mem_range, okN_iff]
    constructor
    · rintro ⟨t, ht, x, ⟨hx, h1, h2⟩, rfl⟩
      obtain ⟨g, l⟩ := ih.mp ht
      exact ⟨.snoc g hx h1 h2, by simp [l]⟩
    · rintro ⟨g, l⟩
      cases g with
      | nil => cases l
      | snoc g hx h1 h2 => exact ⟨_, ih.mpr ⟨g, by simpa using l⟩, _, ⟨hx, h1, h2⟩, rfl⟩
theorem mem_rows {s : List Nat} : s ∈ rows R n ↔ Gd R n s ∧ s.length = n := mem_rowsK
theorem Gd.nodup {s : List Nat} (h : Gd R n s) : s.Nodup := by
  induction h with
  | nil => exact List.nodup_nil
  | snoc g hx h1 h2 ih =>
    refine List.nodup_append.mpr ⟨ih, by simp, fun a ha b hb => ?_⟩
    rw [List.mem_singleton] at hb
    subst hb
    rintro rfl; exact h1 ha
theorem Gd.lt {s : List Nat} (h : Gd R n s) : ∀ x ∈ s, x < n := by
  induction h with
  | nil => exact fun x h => by cases h
  | snoc g hx h1 h2 ih =>
    intro x h
    rcases List.mem_append.mp h with h | h
    · exact ih x h
    · rw [List.mem_singleton.mp h]; exact hx
theorem Gd.len {s : List Nat} (h : Gd R n s) : s.length ≤ n := by
  have := List.Nodup.length_le_of_subset (l₂ := List.range n) h.nodup fun x hx => List.mem_range.mpr (h.lt x hx)
  simpa using this
theorem Gd.pre1 {s : List Nat} {x : Nat} (h : Gd R n (s ++ [x])) : Gd R n s := by
  generalize e : s ++ [x] = u at h
  cases h with
  | nil => simp at e
  | snoc g hx h1 h2 =>
    have e' := List.append_inj' e rfl
    rw [← e'.1] at g
    exact g
theorem Gd.pre : ∀ {t s : List Nat}, Gd R n (s ++ t) → Gd R n s
  | [], s, h => by simpa using h
  | x :: t, s, h => (Gd.pre (t := t) (s := s ++ [x]) (by simpa using h)).pre1
theorem Gd.take {s : List Nat} (h : Gd R n s) (k : Nat) : Gd R n (s.take k) := by
  rw [← List.take_append_drop k s] at h
  exact h.pre
theorem Gd.preds {s : List Nat} (h : Gd R n s) {p x : Nat} (hx : x ∈ s) (hp : p < n) (r : R p x = true) : p ∈ s := by
  induction h with
  | nil => cases hx
  | snoc g hy h1 h2 ih =>
    rcases List.mem_append.mp hx with h | h
    · exact List.mem_append_left _ (ih h)
    · rw [List.mem_singleton.mp h] at r
      exact List.mem_append_left _ (h2 p hp r)
theorem Gd.all {s : List Nat} (h : Gd R n s) (l : s.length = n) {x : Nat} (hx : x < n) : x ∈ s := by
  by_cases hm : x ∈ s
  · exact hm
  · exfalso
    have := List.Nodup.length_le_of_subset (l₁ := x :: s) (l₂ := List.range n) (List.nodup_cons.mpr ⟨hm, h.nodup⟩) fun y hy => by
      rcases List.mem_cons.mp hy with rfl | hy
      · exact List.mem_range.mpr hx
      · exact List.mem_range.mpr (h.lt y hy)
    simp at this
    omega
def St (R : Nat → Nat → Bool) (n : Nat) : Prop := ∀ S : Nat → Prop, (∃ x, x < n ∧ S x) → ∃ x, x < n ∧ S x ∧ ∀ p, p < n → S p → R p x = true → False
theorem grow (st : St R n) {C : Nat → Prop} : ∀ (m : Nat) {s : List Nat}, n - s.length ≤ m → Gd R n s → (∀ x, x < n → C x → x ∉ s → ∀ p, p < n → R p x = true → C p ∨ p ∈ s) →
    ∃ t, Gd R n (s ++ t) ∧ (∀ x ∈ t, C x) ∧ ∀ x, x < n → C x → x ∈ s ++ t := by
  intro m
  induction m with
  | zero =>
    intro s hm g _
    have := g.len
    exact ⟨[], by simpa using g, fun x h => (by cases h), fun x hx _ => by
      rw [List.append_nil]
      exact g.all (by omega) hx⟩
  | succ m ih =>
    intro s hm g hc
    by_cases h : ∃ x, x < n ∧ C x ∧ x ∉ s
    · obtain ⟨x, hx, ⟨cx, nx⟩, hp⟩ := st (fun x => C x ∧ x ∉ s) h
      have g2 : Gd R n (s ++ [x]) := .snoc g hx nx fun p hpn hr => by
        by_cases hps : p ∈ s
        · exact hps
        · exact (hp p hpn ⟨(hc x hx cx nx p hpn hr).resolve_right hps, hps⟩ hr).elim
      obtain ⟨t, h1, h2, h3⟩ := ih (s := s ++ [x]) (by have := g2.len; simp at this ⊢; omega) g2 fun y hy cy ny p hpn hr => by
        rcases hc y hy cy (fun z => ny (List.mem_append_left _ z)) p hpn hr with z | z
        · exact .inl z
        · exact .inr (List.mem_append_left _ z)
      refine ⟨x :: t, by simpa using h1, fun y hy => ?_, fun y hy cy => by simpa using h3 y hy cy⟩
      rcases List.mem_cons.mp hy with rfl | hy
      · exact cx
      · exact h2 y hy
    · refine ⟨[], by simpa using g, fun x h => (by cases h), fun x hx cx => ?_⟩
      rw [List.append_nil]
      by_cases z : x ∈ s
      · exact z
      · exact (h ⟨x, hx, cx, z⟩).elim
theorem full (st : St R n) {s : List Nat} (g : Gd R n s) : ∃ t, Gd R n (s ++ t) ∧ (s ++ t).length = n := by
  obtain ⟨t, h1, _, h3⟩ := grow st (C := fun _ => True) _ (Nat.le_refl _) g fun _ _ _ _ _ _ _ => .inl True.intro
  refine ⟨t, h1, ?_⟩
  have a := h1.len
  have b := List.Nodup.length_le_of_subset (l₁ := List.range n) (l₂ := s ++ t) List.nodup_range fun x hx => h3 x (List.mem_range.mp hx) True.intro
  simp at a b ⊢
  omega
def Sure (R : Nat → Nat → Bool) (n a b : Nat) : Prop := a ≠ b ∧ ∀ s, Gd R n s → b ∈ s → a ∈ s
theorem idx_take {s : List Nat} {a : Nat} {k : Nat} (h : a ∈ s.take k) : s.idxOf a < k := by
  have e : s = s.take k ++ s.drop k := (List.take_append_drop k s).symm
  have : s.idxOf a = (s.take k).idxOf a := by
    conv => lhs; rw [e]
    rw [List.idxOf_append, if_pos h]
  rw [this]
  have := List.idxOf_lt_length_iff.mpr h
  rw [List.length_take] at this
  omega
theorem take_idx {s : List Nat} {a : Nat} {k : Nat} (h : s.idxOf a < k) (hs : a ∈ s) : a ∈ s.take k := by
  have hl := List.idxOf_lt_length_iff.mpr hs
  refine List.mem_take_iff_getElem.mpr ⟨s.idxOf a, by omega, ?_⟩
  exact List.getElem_idxOf hl
theorem idx_inj {s : List Nat} {a b : Nat} (ha : a ∈ s) (hb : b ∈ s) (e : s.idxOf a = s.idxOf b) : a = b := by
  have h1 := List.getElem_idxOf (List.idxOf_lt_length_iff.mpr ha)
  have h2 := List.getElem_idxOf (List.idxOf_lt_length_iff.mpr hb)
  rw [← h1, ← h2]
  congr 1
theorem Sure.idx {a b : Nat} (h : Sure R n a b) {s : List Nat} (g : Gd R n s) (hb : b ∈ s) : s.idxOf a < s.idxOf b := by
  have h1 := h.2 _ (g.take (s.idxOf b + 1)) (take_idx (by omega) hb)
  have h2 := idx_take h1
  have ha : a ∈ s := List.mem_of_mem_take h1
  have : s.idxOf a ≠ s.idxOf b := fun e => h.1 (idx_inj ha hb e)
  omega
theorem sure_iff (st : St R n) {a b : Nat} (ha : a < n) (hb : b < n) : Sure R n a b ↔ a ≠ b ∧ ∀ r ∈ rows R n, r.idxOf a < r.idxOf b := by
  refine ⟨fun h => ⟨h.1, fun r hr => ?_⟩, fun h => ⟨h.1, fun s g hs => ?_⟩⟩
  · obtain ⟨g, l⟩ := mem_rows.mp hr
    exact h.idx g (g.all l hb)
  · obtain ⟨t, g2, l⟩ := full st g
    have := h.2 _ (mem_rows.mpr ⟨g2, l⟩)
    have e : (s ++ t).idxOf b = s.idxOf b := by rw [List.idxOf_append, if_pos hs]
    rw [e] at this
    have hl := List.idxOf_lt_length_iff.mpr hs
    have h4 : a ∈ (s ++ t).take s.length := take_idx (by omega) (g2.all l ha)
    rw [List.take_append_of_le_length (Nat.le_refl _), List.take_length] at h4
    exact h4
theorem St.irr (st : St R n) {a : Nat} (ha : a < n) : R a a = false := by
  cases h : R a a with
  | false => rfl
  | true =>
    obtain ⟨x, _, rfl, hp⟩ := st (· = a) ⟨a, ha, rfl⟩
    exact (hp x ha rfl h).elim
theorem Sure.of (st : St R n) {a b : Nat} (ha : a < n) (r : R a b = true) : Sure R n a b := by
  refine ⟨?_, fun s g hs => g.preds hs ha r⟩
  rintro rfl
  rw [st.irr ha] at r; cases r
theorem Sure.trans (st : St R n) {a b c : Nat} (hc : c < n) (h : Sure R n a b) (k : Sure R n b c) : Sure R n a c := by
  refine ⟨?_, fun s g hs => h.2 s g (k.2 s g hs)⟩
  rintro rfl
  obtain ⟨t, g, l⟩ := full st (s := []) .nil
  have hm := g.all l hc
  have h1 := k.idx g hm
  have h2 := h.idx g (k.2 _ g hm)
  omega
theorem sure_closed (st : St R n) {F : Nat → Nat → Prop} (h1 : ∀ a b, a < n → b < n → R a b = true → F a b) (h2 : ∀ a b c, a < n → b < n → c < n → F a b → F b c → F a c) (h3 : ∀ a b, F a b → Sure R n a b) {a b : Nat} (ha : a < n) (hb : b < n) : F a b ↔ Sure R n a b := by
  refine ⟨h3 a b, fun h => ?_⟩
  obtain ⟨t, g, t1, t2⟩ := grow st (s := []) (C := fun x => x < n ∧ (F x b ∨ x = b)) _ (Nat.le_refl _) .nil fun x hx cx _ p hp hr => by
    refine .inl ⟨hp, .inl ?_⟩
    rcases cx.2 with z | rfl
    · exact h2 p x b hp hx hb (h1 p x hp hx hr) z
    · exact h1 p x hp hx hr
  have hm := h.2 _ g (t2 b hb ⟨hb, .inr rfl⟩)
  rcases (t1 a (by simpa using hm)).2 with z | z
  · exact z
  · exact (h.1 z).elim
end
open Classical in
theorem places {R : Nat → Nat → Bool} {n : Nat} (st : St R n) {T : Nat → Nat → Bool} (hT : ∀ a b, a < n → b < n → (T a b = true ↔ Sure R n a b)) {x : Nat} (hx : x < n) (k : Nat) :
    (∃ r ∈ rows R n, r.idxOf x = k) ↔ ((List.range n).filter fun p => T p x).length ≤ k ∧ k + ((List.range n).filter fun p => T x p).length < n := by
  have nf : ∀ q : Nat → Bool, ((List.range n).filter q).Nodup := fun q => List.Pairwise.filter _ List.nodup_range
  constructor
  · rintro ⟨r, hr, rfl⟩
    obtain ⟨g, l⟩ := mem_rows.mp hr
    have hm := g.all l hx
    have hl := List.idxOf_lt_length_iff.mpr hm
    constructor
    · have := List.Nodup.length_le_of_subset (l₂ := r.take (r.idxOf x)) (nf fun p => T p x) fun p hp => by
        obtain ⟨h1, h2⟩ := List.mem_filter.mp hp
        have h1 := List.mem_range.mp h1
        have s := (hT p x h1 hx).mp h2
        exact take_idx (s.idx g hm) (s.2 _ g hm)
      rw [List.length_take] at this
      omega
    · have := List.Nodup.length_le_of_subset (l₂ := r.drop (r.idxOf x + 1)) (nf fun p => T x p) fun p hp => by
        obtain ⟨h1, h2⟩ := List.mem_filter.mp hp
        have h1 := List.mem_range.mp h1
        have s := (hT x p hx h1).mp h2
        have hp := g.all l h1
        have := s.idx g hp
        have e : r = r.take (r.idxOf x + 1) ++ r.drop (r.idxOf x + 1) := (List.take_append_drop _ r).symm
        have h5 : p ∉ r.take (r.idxOf x + 1) := fun z => by have := idx_take z; omega
        rw [e] at hp
        exact (List.mem_append.mp hp).resolve_left h5
      rw [List.length_drop] at this
      omega
  · rintro ⟨hk1, hk2⟩
    obtain ⟨t, g, t1, t2⟩ := grow st (s := []) (C := fun p => p < n ∧ Sure R n p x) _ (Nat.le_refl _) .nil fun y hy cy _ p hp hr => .inl ⟨hp, (Sure.of st hp hr).trans st hx cy.2⟩
    rw [List.nil_append] at g t2
    have lt : t.length ≤ ((List.range n).filter fun p => T p x).length := List.Nodup.length_le_of_subset g.nodup fun p hp => List.mem_filter.mpr ⟨List.mem_range.mpr (t1 p hp).1, (hT p x (t1 p hp).1 hx).mpr (t1 p hp).2⟩
    obtain ⟨u, g2, u1, u2⟩ := grow st (C := fun y => y < n ∧ y ≠ x ∧ ¬ Sure R n x y) _ (Nat.le_refl _) g fun y hy cy _ p hp hr => .inl ⟨hp, fun e => by
      subst e; exact cy.2.2 (Sure.of st hp hr), fun s => cy.2.2 (s.trans st hy (Sure.of st hp hr))⟩
    have lu : n ≤ (t ++ u).length + 1 + ((List.range n).filter fun p => T x p).length := by
      have := List.Nodup.length_le_of_subset (l₁ := List.range n) (l₂ := (t ++ u) ++ [x] ++ (List.range n).filter fun p => T x p) List.nodup_range fun p hp => by
        have hp := List.mem_range.mp hp
        by_cases h1 : p = x
        · simp [h1]
        · by_cases h2 : Sure R n x p
          · refine List.mem_append_right _ (List.mem_filter.mpr ⟨List.mem_range.mpr hp, (hT x p hx hp).mpr h2⟩)
          · exact List.mem_append_left _ (List.mem_append_left _ (u2 p hp ⟨hp, h1, h2⟩))
      simp at this ⊢
      omega
    have gk : Gd R n (t ++ u.take (k - t.length)) := by
      have : t ++ u = (t ++ u.take (k - t.length)) ++ u.drop (k - t.length) := by rw [List.append_assoc, List.take_append_drop]
      rw [this] at g2
      exact g2.pre
    have nx : x ∉ t ++ u.take (k - t.length) := fun h => by
      rcases List.mem_append.mp h with h | h
      · exact (t1 x h).2.1 rfl
      · exact (u1 x (List.mem_of_mem_take h)).2.1 rfl
    have gx : Gd R n ((t ++ u.take (k - t.length)) ++ [x]) := .snoc gk hx nx fun p hp hr => List.mem_append_left _ (t2 p hp ⟨hp, Sure.of st hp hr⟩)
    obtain ⟨v, g3, l3⟩ := full st gx
    refine ⟨_, mem_rows.mpr ⟨g3, l3⟩, ?_⟩
    rw [List.idxOf_append, if_pos (by simp), List.idxOf_append, if_neg nx]
    simp only [List.length_append, List.length_take, List.idxOf_cons_self] at lu ⊢
    omega
end Od
namespace Od
theorem argmin (f : Nat → Int) (S : Nat → Prop) : ∀ n : Nat, (∃ x, x < n ∧ S x) → ∃ x, x < n ∧ S x ∧ ∀ y, y < n → S y → f x ≤ f y
  | 0, ⟨x, h, _⟩ => by omega
  | n + 1, ⟨x, hx, sx⟩ => by
    by_cases h : ∃ x, x < n ∧ S x
    · obtain ⟨y, h1, h2, h3⟩ := argmin f S n h
      by_cases hn : S n ∧ f n < f y
      · refine ⟨n, by omega, hn.1, fun z hz sz => ?_⟩
        by_cases e : z = n
        · subst e; exact Int.le_refl _
        · have := h3 z (by omega) sz; omega
      · refine ⟨y, by omega, h2, fun z hz sz => ?_⟩
        by_cases e : z = n
        · subst e
          have : ¬ f z < f y := fun q => hn ⟨sz, q⟩
          omega
        · exact h3 z (by omega) sz
    · have e : x = n := by
        by_cases e : x = n
        · exact e
        · exact (h ⟨x, by omega, sx⟩).elim
      subst e
      refine ⟨x, by omega, sx, fun z hz sz => ?_⟩
      by_cases e : z = x
      · subst e; exact Int.le_refl _
      · exact (h ⟨z, by omega, sz⟩).elim
theorem st_boxes {n : Nat} {A B C D : Nat → Int} {R : Nat → Nat → Bool} (hx : ∀ i, i < n → A i < C i) (hy : ∀ i, i < n → B i < D i) (ha : ∀ i j, i < n → j < n → i ≠ j → C j ≤ A i ∨ C i ≤ A j ∨ D j ≤ B i ∨ D i ≤ B j)
    (hR : ∀ i j, i < n → j < n → R i j = true → (C i ≤ A j ∧ B i < D j ∧ B j < D i) ∨ (D i ≤ B j ∧ A i < C j ∧ A j < C i)) : St R n := by
  intro S hS
  let M : Nat → Prop := fun x => S x ∧ ∀ p, p < n → S p → ¬ (C p ≤ A x ∧ B p < D x ∧ B x < D p)
  obtain ⟨l, hl, sl, ml⟩ := argmin A S n hS
  obtain ⟨m, hm, ⟨sm, mm⟩, mb⟩ := argmin B M n ⟨l, hl, sl, fun p hp sp h => by
    have := ml p hp sp
    have := hx p hp
    omega⟩
  refine ⟨m, hm, sm, fun u hu su hr => ?_⟩
  rcases hR u m hu hm hr with h | h
  · exact mm u hu su h
  · have hyu := hy u hu
    let V : Nat → Prop := fun v => S v ∧ (v = u ∨ C v ≤ A u) ∧ B v < B m
    obtain ⟨v, hv, ⟨sv, cv, bv⟩, mv⟩ := argmin A V n ⟨u, hu, su, .inl rfl, by omega⟩
    have nm : ¬ M v := fun z => by have := mb v hv z; omega
    have : ∃ w, w < n ∧ S w ∧ (C w ≤ A v ∧ B w < D v ∧ B v < D w) := by
      by_cases q : ∃ w, w < n ∧ S w ∧ (C w ≤ A v ∧ B w < D v ∧ B v < D w)
      · exact q
      · exact (nm ⟨sv, fun p hp sp z => q ⟨p, hp, sp, z⟩⟩).elim
    obtain ⟨w, hw, sw, w1, w2, w3⟩ := this
    have hxw := hx w hw
    have hxv := hx v hv
    have hxu := hx u hu
    have bw : B m ≤ B w := by
      by_cases q : B w < B m
      · have cw : w = u ∨ C w ≤ A u := by
          rcases cv with e | e
          · subst e; exact .inr w1
          · exact .inr (by omega)
        have := mv w hw ⟨sw, cw, q⟩
        omega
      · omega
    have vu : v ≠ u := by rintro rfl; omega
    have cv := cv.resolve_left vu
    have vm : v ≠ m := by rintro rfl; omega
    have hym := hy m hm
    have hxm := hx m hm
    refine mm v hv sv ⟨?_, by omega, by omega⟩
    rcases ha v m hv hm vm with z | z | z | z <;> omega
end Od
namespace Den
open PySem PySem.Spec
def kvT (l : List (Nat × Nat)) : List (D × D) := l.map fun p => (Enc.e p, .bool true)
theorem nk_pair (p q : Nat × Nat) : nk (Enc.e p) = nk (Enc.e q) ↔ p = q := by
  obtain ⟨a, b⟩ := p
  obtain ⟨c, d⟩ := q
  show NestedKey.tup [NestedKey.num ((a : Nat) : Int), NestedKey.num ((b : Nat) : Int)] = NestedKey.tup [NestedKey.num ((c : Nat) : Int), NestedKey.num ((d : Nat) : Int)] ↔ _
  simp only [NestedKey.tup.injEq, List.cons.injEq, NestedKey.num.injEq, Prod.mk.injEq, and_true]
  omega
theorem kOk_pair (p : Nat × Nat) : kOk (Enc.e p) = true := by
  have e : (nk (Enc.e p)).depth = (NestedKey.tup [.num ((p.1 : Nat) : Int), .num ((p.2 : Nat) : Int)]).depth := rfl
  have e2 : (NestedKey.tup [.num ((p.1 : Nat) : Int), .num ((p.2 : Nat) : Int)]).depth = (NestedKey.tup [.num 0, .num 0]).depth := by
    simp [NestedKey.depth, NestedKey.depthAll]
  have e3 : (NestedKey.tup [.num 0, .num 0]).depth ≤ 8 := by decide +kernel
  show (true && (true && (true && true)) && decide ((nk (Enc.e p)).depth ≤ 8)) = true
  rw [e, e2]
  simp [e3]
theorem getKv_kvT (p : Nat × Nat) : ∀ l : List (Nat × Nat), (getKv (kvT l) (nk (Enc.e p))).isSome = decide (p ∈ l)
  | [] => rfl
  | q :: l => by
    show (getKv ((Enc.e q, .bool true) :: kvT l) _).isSome = _
    rw [getKv_cons]
    by_cases h : q = p
    · subst h; simp
    · have h1 : ¬ nk (Enc.e q) = nk (Enc.e p) := fun z => h ((nk_pair q p).mp z)
      have h2 : ¬ p = q := fun z => h z.symm
      rw [if_neg h1, getKv_kvT p l]
      simp [h2]
def insK (l : List (Nat × Nat)) (p : Nat × Nat) : List (Nat × Nat) := if p ∈ l then l else l ++ [p]
theorem insK_mem {l : List (Nat × Nat)} {p q : Nat × Nat} : q ∈ insK l p ↔ q ∈ l ∨ q = p := by
  unfold insK
  split
  · rename_i h
    exact ⟨.inl, fun z => z.elim id fun e => e ▸ h⟩
  · simp
theorem insK_nd {l : List (Nat × Nat)} {p : Nat × Nat} (h : l.Nodup) : (insK l p).Nodup := by
  unfold insK
  split
  · exact h
  · rename_i hp
    refine List.nodup_append.mpr ⟨h, by simp, fun a ha b hb => ?_⟩
    rw [List.mem_singleton] at hb
    subst hb
    rintro rfl; exact hp ha
theorem insK_len {l : List (Nat × Nat)} {p : Nat × Nat} : (insK l p).length ≤ l.length + 1 := by
  unfold insK
  split <;> simp
theorem putKv_kvT (l : List (Nat × Nat)) (p : Nat × Nat) : putKv (kvT l) (Enc.e p) (.bool true) = kvT (insK l p) := by
  unfold putKv insK
  rw [getKv_kvT]
  by_cases h : p ∈ l
  · rw [if_pos (by simpa using h), if_pos h]
    unfold kvT
    rw [List.map_map]
    refine List.map_congr_left fun q _ => ?_
    simp
  · rw [if_neg (by simpa using h), if_neg h]
    unfold kvT
    simp
theorem foldl_insK_nd : ∀ (l acc : List (Nat × Nat)), acc.Nodup → (l.foldl insK acc).Nodup
  | [], _, h => h
  | p :: l, acc, h => foldl_insK_nd l _ (insK_nd h)
theorem foldl_insK_mem {q : Nat × Nat} : ∀ (l acc : List (Nat × Nat)), q ∈ l.foldl insK acc ↔ q ∈ acc ∨ q ∈ l
  | [], acc => by simp
  | p :: l, acc => by
    rw [List.foldl_cons, foldl_insK_mem l, insK_mem, List.mem_cons, or_assoc]
theorem dcpL_kvT {i : Nat} {ρ : Ro} (hi : i < ρ.length) : ∀ (l acc : List (Nat × Nat)), acc.length + l.length < big → dcpL (setN i) (vaR i) (fun _ => .ok (.bool true)) ρ (l.map Enc.e) (kvT acc) = .ok (kvT (l.foldl insK acc))
  | [], acc, _ => rfl
  | p :: l, acc, h => by
    have ih := dcpL_kvT hi l (insK acc p) (by have := insK_len (l := acc) (p := p); simp at h; omega)
    show dcpL _ _ _ ρ (Enc.e p :: l.map Enc.e) (kvT acc) = _
    unfold dcpL
    have e1 : vaR i (ρ.set i (some (Enc.e p))) = .ok (Enc.e p) := by
      rw [vaR_eq]
      simp [hi]
    simp only [setN_eq, Rs.ok_bind, e1]
    rw [if_pos ⟨kOk_pair p, by unfold kvT; rw [List.length_map]; simp at h; omega⟩, putKv_kvT]
    exact ih
@[simp] theorem dcpS_eq {ρ : Ro} {i : Nat} {vs : List Nat} {fi : DI} {st : STg} {fk fv : DE} : dcpS i vs fi st fk fv ρ = fi ρ >>= fun ds => (dcpL st fk fv (wipeR ρ vs) ds []).noexc >>= fun k => .ok (.nx, ρ.set i (some (.dict k))) := rfl
theorem dinE_kvT {ρ : Ro} {i : Nat} {l : List (Nat × Nat)} {p : Nat × Nat} {neg : Bool} {f : DE} (hf : f ρ = .ok (Enc.e p)) (h : ρ[i]? = some (some (.dict (kvT l)))) : dinE neg f i ρ = .ok (.bool (if neg then !decide (p ∈ l) else decide (p ∈ l))) := by
  unfold dinE
  rw [hf]
  show (match ρ[i]? with | some (some (.dict kvs)) => _ | _ => _) = _
  rw [h]
  show (if kOk _ = true then _ else _) = _
  rw [if_pos (kOk_pair p), getKv_kvT]
theorem dsetS_kvT {ρ : Ro} {i : Nat} {l : List (Nat × Nat)} {p : Nat × Nat} {f g : DE} (hf : f ρ = .ok (Enc.e p)) (hg : g ρ = .ok (.bool true)) (h : ρ[i]? = some (some (.dict (kvT l)))) (hb : l.length < big) : dsetS f g i ρ = .ok (.nx, ρ.set i (some (.dict (kvT (insK l p))))) := by
  unfold dsetS
  rw [h]
  show (g ρ >>= fun d => f ρ >>= fun k => _) = _
  rw [hg, Rs.ok_bind, hf, Rs.ok_bind, if_pos ⟨kOk_pair p, by unfold kvT; rw [List.length_map]; exact hb⟩, putKv_kvT]
def lexL (n : Nat) (q : Nat → Nat → Bool) : List (Nat × Nat) := (List.range n).flatMap fun a => ((List.range n).filter (q a)).map fun b => (a, b)
theorem lexL_mem {n : Nat} {q : Nat → Nat → Bool} {p : Nat × Nat} : p ∈ lexL n q ↔ p.1 < n ∧ p.2 < n ∧ q p.1 p.2 = true := by
  unfold lexL
  simp only [List.mem_flatMap, List.mem_map, List.mem_filter, List.mem_range]
  constructor
  · rintro ⟨a, ha, b, ⟨hb, h⟩, rfl⟩; exact ⟨ha, hb, h⟩
  · rintro ⟨ha, hb, h⟩; exact ⟨p.1, ha, p.2, ⟨hb, h⟩, rfl⟩
theorem lexL_srt {n : Nat} (hn : n ≤ 64) (q : Nat → Nat → Bool) : (lexL n q).Pairwise fun x y => x.1 * 64 + x.2 < y.1 * 64 + y.2 := by
  unfold lexL
  refine List.pairwise_flatMap.mpr ⟨fun a _ => ?_, ?_⟩
  · refine List.pairwise_map.mpr (List.Pairwise.imp (R := (· < ·)) (fun h => by show _ + _ < _ + _; omega) ?_)
    exact List.Pairwise.filter _ List.pairwise_lt_range
  · refine List.Pairwise.imp_of_mem ?_ (List.pairwise_lt_range (n := n))
    intro a b ha hb h x hx y hy
    have ha := List.mem_range.mp ha
    have hb := List.mem_range.mp hb
    obtain ⟨x', h1, rfl⟩ := List.mem_map.mp hx
    obtain ⟨y', h2, rfl⟩ := List.mem_map.mp hy
    have h1 := List.mem_range.mp (List.mem_filter.mp h1).1
    have h2 := List.mem_range.mp (List.mem_filter.mp h2).1
    show _ + _ < _ + _
    omega
def toZ (p : Nat × Nat) : Int × Int := ((p.1 : Nat), (p.2 : Nat))
theorem srtP_lexL {n : Nat} (hn : n ≤ 64) {q : Nat → Nat → Bool} {l : List (Nat × Nat)} (nd : l.Nodup) (h : ∀ p, p ∈ l ↔ p ∈ lexL n q) : srtP (l.map toZ) = (lexL n q).map toZ := by
  have srt := lexL_srt hn q
  have nl : (lexL n q).Nodup := srt.imp fun h e => by subst e; omega
  have pm : l.Perm (lexL n q) := (List.perm_ext_iff_of_nodup nd nl).mpr h
  refine srtP_unique ((srtP_perm _).trans (pm.map toZ)) (fun p hp => ?_) (srtP_srt _) ?_
  · obtain ⟨x, hx, rfl⟩ := List.mem_map.mp ((srtP_perm _).mem_iff.mp hp)
    obtain ⟨h1, h2, _⟩ := lexL_mem.mp ((h x).mp hx)
    unfold bdP toZ
    dsimp only
    omega
  · refine List.pairwise_map.mpr (srt.imp fun h => ?_)
    unfold cdP toZ
    dsimp only
    omega
theorem dsrt_kvT {ρ : Ro} {i n : Nat} (hn : n ≤ 64) {q : Nat → Nat → Bool} {l : List (Nat × Nat)} (h : ρ[i]? = some (some (.dict (kvT l)))) (nd : l.Nodup) (hm : ∀ p, p ∈ l ↔ p ∈ lexL n q) (hl : l.length < 64) : dsrtE i ρ = .ok (Enc.e (lexL n q)) := by
  unfold dsrtE
  rw [h]
  have e : (kvT l).map (·.1) = (l.map toZ).map prD := by
    unfold kvT
    rw [List.map_map, List.map_map]
    rfl
  show (match prsO ((kvT l).map (·.1)) with | some ps => _ | none => _) = _
  rw [e, prsO_map fun p hp => by
    obtain ⟨x, hx, rfl⟩ := List.mem_map.mp hp
    obtain ⟨h1, h2, _⟩ := lexL_mem.mp ((hm x).mp hx)
    unfold bdP toZ
    dsimp only
    omega]
  show (if _ then _ else _) = _
  rw [if_pos (by rw [List.length_map]; exact hl), srtP_lexL hn nd hm, List.map_map]
  rfl
theorem wp_ifS {f : DE} {F U : DS} {ρ : Ro} {Q : Fl × Ro → Prop} (b : Bool) (hc : tstE f ρ = .ok b) (h : if b = true then Wp (F ρ) Q else Wp (U ρ) Q) : Wp (iteS f F U ρ) Q := by
  rw [iteS_eq, hc, Rs.ok_bind, wp_ite]
  exact h
end Den
namespace Od
open Den
structure Fw (R : Nat → Nat → Bool) (n k : Nat) (l : List (Nat × Nat)) : Prop where
  nd : l.Nodup
  bd : ∀ p ∈ l, p.1 < n ∧ p.2 < n ∧ Sure R n p.1 p.2
  base : ∀ a b, a < n → b < n → R a b = true → (a, b) ∈ l
  cl : ∀ c, c < k → ∀ a b, (a, c) ∈ l → (c, b) ∈ l → (a, b) ∈ l
structure Fj (l0 : List (Nat × Nat)) (m i j : Nat) (l : List (Nat × Nat)) : Prop where
  nd : l.Nodup
  sub : ∀ p ∈ l0, p ∈ l
  new : ∀ p ∈ l, p ∈ l0 ∨ ((p.1, m) ∈ l0 ∧ (m, p.2) ∈ l0)
  done : ∀ a b, (a < i ∨ (a = i ∧ b < j)) → (a, m) ∈ l0 → (m, b) ∈ l0 → (a, b) ∈ l
section
variable {R : Nat → Nat → Bool} {n m i j : Nat} {l0 l : List (Nat × Nat)}
theorem Fj.start (h : l0.Nodup) : Fj l0 m 0 0 l0 := ⟨h, fun _ h => h, fun _ h => .inl h, fun a b h => by omega⟩
theorem Fj.colM (J : Fj l0 m i j l) {x : Nat} : (x, m) ∈ l ↔ (x, m) ∈ l0 := ⟨fun h => (J.new _ h).elim id fun z => z.1, J.sub _⟩
theorem Fj.rowM (J : Fj l0 m i j l) {x : Nat} : (m, x) ∈ l ↔ (m, x) ∈ l0 := ⟨fun h => (J.new _ h).elim id fun z => z.2, J.sub _⟩
theorem Fj.row (J : Fj l0 m i n l) (hb : ∀ p ∈ l0, p.2 < n) : Fj l0 m (i + 1) 0 l := ⟨J.nd, J.sub, J.new, fun a b h h1 h2 => J.done a b (by have := hb _ h2; dsimp only at this; omega) h1 h2⟩
theorem Fj.yes (J : Fj l0 m i j l) (h1 : (i, m) ∈ l) (h2 : (m, j) ∈ l) : Fj l0 m i (j + 1) (insK l (i, j)) := by
  refine ⟨insK_nd J.nd, fun p hp => insK_mem.mpr (.inl (J.sub p hp)), fun p hp => ?_, fun a b h g1 g2 => insK_mem.mpr ?_⟩
  · rcases insK_mem.mp hp with h | rfl
    · exact J.new p h
    · exact .inr ⟨J.colM.mp h1, J.rowM.mp h2⟩
  · by_cases e : a = i ∧ b = j
    · exact .inr (by rw [e.1, e.2])
    · exact .inl (J.done a b (by omega) g1 g2)
theorem Fj.no (J : Fj l0 m i j l) (h : ¬ ((i, m) ∈ l ∧ (m, j) ∈ l)) : Fj l0 m i (j + 1) l := by
  refine ⟨J.nd, J.sub, J.new, fun a b hab g1 g2 => ?_⟩
  by_cases e : a = i ∧ b = j
  · obtain ⟨rfl, rfl⟩ := e
    exact (h ⟨J.colM.mpr g1, J.rowM.mpr g2⟩).elim
  · exact J.done a b (by omega) g1 g2
theorem Fw.next (st : St R n) (F : Fw R n m l0) (hm : m < n) (J : Fj l0 m n 0 l) : Fw R n (m + 1) l := by
  have all : ∀ a b, (a, m) ∈ l0 → (m, b) ∈ l0 → (a, b) ∈ l := fun a b h1 h2 => J.done a b (.inl (F.bd _ h1).1) h1 h2
  refine ⟨J.nd, fun p hp => ?_, fun a b ha hb r => J.sub _ (F.base a b ha hb r), fun c hc a b h1 h2 => ?_⟩
  · rcases J.new p hp with h | ⟨h1, h2⟩
    · exact F.bd p h
    · obtain ⟨a1, a2, a3⟩ := F.bd _ h1
      obtain ⟨b1, b2, b3⟩ := F.bd _ h2
      exact ⟨a1, b2, a3.trans st b2 b3⟩
  · by_cases e : c = m
    · subst e
      exact all a b (J.colM.mp h1) (J.rowM.mp h2)
    · have hc : c < m := by omega
      rcases J.new _ h1 with h1 | ⟨h1, g1⟩ <;> rcases J.new _ h2 with h2 | ⟨h2, g2⟩
      · exact J.sub _ (F.cl c hc a b h1 h2)
      · exact all a b (F.cl c hc a m h1 h2) g2
      · exact all a b h1 (F.cl c hc m b g1 h2)
      · exact all a b h1 g2
theorem Fw.mem (st : St R n) (F : Fw R n n l) {a b : Nat} : (a, b) ∈ l ↔ a < n ∧ b < n ∧ Sure R n a b := by
  constructor
  · exact fun h => F.bd _ h
  · rintro ⟨ha, hb, h⟩
    refine (sure_closed st (F := fun a b => (a, b) ∈ l) F.base (fun a b c _ hb _ h1 h2 => F.cl b hb a c h1 h2) (fun a b h => (F.bd _ h).2.2) ha hb).mpr h
theorem Fw.len (F : Fw R n m l) (hn : n ≤ 8) : l.length < 64 := by
  have h := List.Nodup.length_le_of_subset (l₂ := lexL 8 fun a b => decide (a ≠ b)) F.nd fun p hp => by
    obtain ⟨h1, h2, h3⟩ := F.bd p hp
    exact lexL_mem.mpr ⟨by omega, by omega, by simpa using h3.1⟩
  have e : (lexL 8 fun a b => decide (a ≠ b)).length = 56 := by decide +kernel
  omega
end
end Od
namespace Den
open PySem PySem.Spec
def nN (n : Nat) : D := .int (n : Int)
def nT (N : List Nat) : D := .tuple (N.map fun n : Nat => PyData.int (n : Int))
theorem wp_forR {n : Nat} {st : STg} {F : DS} (I : Nat → Ro → Prop) {Q : Fl × Ro → Prop} (ρ : Ro) (h0 : I 0 ρ)
    (hs : ∀ i, i < n → ∀ ρ, I i ρ → Wp (st (.int (i : Int)) ρ) fun ρ1 => Wp (F ρ1) fun p => match p with
      | (.nx, ρ2) => I (i + 1) ρ2
      | (.ct, ρ2) => I (i + 1) ρ2
      | (.bk, ρ2) => Q (.nx, ρ2)
      | (.rt d, ρ2) => Q (.rt d, ρ2)) (hq : ∀ ρ, I n ρ → Q (.nx, ρ)) : Wp (forL st F ((List.range n).map fun i : Nat => PyData.int (i : Int)) ρ) Q := by
  refine wp_for (g := fun i : Nat => PyData.int (i : Int)) I _ ρ 0 h0 (fun i a ρ ha hI => ?_) fun ρ hI => hq ρ (by simpa using hI)
  obtain ⟨h1, rfl⟩ := List.getElem?_eq_some_iff.mp ha
  have h2 : i < n := by simpa using h1
  rw [Nat.zero_add] at hI ⊢
  have := hs i h2 ρ hI
  rw [List.getElem_range]
  exact this
theorem wp_forL {α : Type} {st : STg} {F : DS} {g : α → D} (l : List α) (I : List α → List α → Ro → Prop) {Q : Fl × Ro → Prop} (ρ : Ro) (h0 : I [] l ρ)
    (hs : ∀ p a r, l = p ++ a :: r → ∀ ρ, I p (a :: r) ρ → Wp (st (g a) ρ) fun ρ1 => Wp (F ρ1) fun q => match q with
      | (.nx, ρ2) => I (p ++ [a]) r ρ2
      | (.ct, ρ2) => I (p ++ [a]) r ρ2
      | (.bk, ρ2) => Q (.nx, ρ2)
      | (.rt d, ρ2) => Q (.rt d, ρ2)) (hq : ∀ ρ, I l [] ρ → Q (.nx, ρ)) : Wp (forL st F (l.map g) ρ) Q := by
  refine wp_for (g := g) (fun k ρ => k ≤ l.length ∧ I (l.take k) (l.drop k) ρ) _ ρ 0 ⟨Nat.zero_le _, by simpa using h0⟩ (fun i a ρ ha hI => ?_) fun ρ hI => hq ρ (by
    have h := hI.2
    rw [Nat.zero_add, List.take_length, List.drop_length] at h
    exact h)
  obtain ⟨h1, rfl⟩ := List.getElem?_eq_some_iff.mp ha
  rw [Nat.zero_add] at hI ⊢
  have hI := hI.2
  rw [List.drop_eq_getElem_cons h1] at hI
  have h := hs (l.take i) l[i] (l.drop (i + 1)) (by rw [← List.drop_eq_getElem_cons h1, List.take_append_drop]) ρ hI
  have e : l.take i ++ [l[i]] = l.take (i + 1) := by rw [List.take_succ_eq_append_getElem h1]
  rw [e] at h
  refine h.imp fun ρ1 h => h.imp fun q h => ?_
  obtain ⟨fl, ρ2⟩ := q
  cases fl with
  | nx => exact ⟨by omega, h⟩
  | ct => exact ⟨by omega, h⟩
  | bk => exact h
  | rt d => exact h
theorem rng1_ok {f : DE} {ρ : Ro} {n : Nat} (hf : f ρ = .ok (.int (n : Int))) (hn : n ≤ 1000) : Den.rng1 f ρ = .ok ((List.range n).map fun i : Nat => PyData.int (i : Int)) := by
  rw [rng1_eq, hf]
  show (if -(big : Int) ≤ (n : Int) ∧ (n : Int) ≤ big then Rs.ok (rngD 0 (n : Int).toNat) else .stuck) = _
  have h1 : (n : Int) ≤ (1000 : Nat) := by exact_mod_cast hn
  have h2 : ((1000 : Nat) : Int) ≤ (big : Int) := by exact_mod_cast (show 1000 ≤ big by decide)
  have h3 : (0 : Int) ≤ (big : Int) := Int.natCast_nonneg _
  have h4 : (0 : Int) ≤ (n : Int) := Int.natCast_nonneg _
  generalize (big : Int) = B at *
  rw [if_pos (by omega), rng0_map]
  rfl
theorem rng2_ok {f g : DE} {ρ : Ro} {a b : Nat} (hf : f ρ = .ok (.int (a : Int))) (hg : g ρ = .ok (.int (b : Int))) (ha : a ≤ 1000) (hb : b ≤ 1000) : Den.rng2 f g ρ = .ok ((List.range (b - a)).map fun k : Nat => PyData.int ((a + k : Nat) : Int)) := by
  rw [rng2_eq, hf, Rs.ok_bind, hg]
  show (if (-(big : Int) ≤ (a : Int) ∧ (a : Int) ≤ big) ∧ -(big : Int) ≤ (b : Int) ∧ (b : Int) ≤ big then Rs.ok (rngD (a : Int) ((b : Int) - (a : Int)).toNat) else .stuck) = _
  have h1 : (a : Int) ≤ (1000 : Nat) := by exact_mod_cast ha
  have h1' : (b : Int) ≤ (1000 : Nat) := by exact_mod_cast hb
  have h2 : ((1000 : Nat) : Int) ≤ (big : Int) := by exact_mod_cast (show 1000 ≤ big by decide)
  have h3 : (0 : Int) ≤ (big : Int) := Int.natCast_nonneg _
  have h4 : (0 : Int) ≤ (a : Int) := Int.natCast_nonneg _
  have h4' : (0 : Int) ≤ (b : Int) := Int.natCast_nonneg _
  generalize (big : Int) = B at *
  rw [if_pos (by omega), rng_map]
  have e : ((b : Int) - (a : Int)).toNat = b - a := by omega
  rw [e]
  congr 1
theorem lt_big {n : Nat} (h : n ≤ 1000) : n < big := Nat.lt_of_le_of_lt h (by decide)
theorem nT_e (N : List Nat) : nT N = Enc.e (Tu.mk N) := rfl
theorem tu_eq {α : Type} [DecidableEq α] (a b : List α) : decide ((Tu.mk a : Tu α) = ⟨b⟩) = decide (a = b) := by
  rw [decide_eq_decide]
  constructor
  · intro h; injection h
  · intro h; rw [h]
theorem nT_eq (N M : List Nat) : eqD (nT N) (nT M) = .ok (.bool (decide (N = M))) := by
  have := eqD_e (α := Tu Nat) (by decide) ⟨N⟩ ⟨M⟩
  rw [tu_eq] at this
  exact this
theorem nT_ne (N M : List Nat) : neD (nT N) (nT M) = .ok (.bool (!decide (N = M))) := by
  have := neD_e (α := Tu Nat) (by decide) ⟨N⟩ ⟨M⟩
  rw [tu_eq] at this
  exact this
theorem in_pair (neg : Bool) (a b : Nat) (l : List (Nat × Nat)) : inD neg (.tuple [.int (a : Int), .int (b : Int)]) (.list (l.map Enc.e)) = .ok (.bool (if neg then !decide ((a, b) ∈ l) else decide ((a, b) ∈ l))) := by
  cases neg with
  | true =>
    show inD true (Enc.e (a, b)) _ = _
    rw [notinD_l (α := Nat × Nat) (by decide) (a, b) l]
    simp
  | false =>
    show inD false (Enc.e (a, b)) _ = _
    rw [inD_l (α := Nat × Nat) (by decide) (a, b) l]
    simp
theorem in_nT (neg : Bool) (x : Nat) (N : List Nat) : inD neg (.int (x : Int)) (nT N) = .ok (.bool (if neg then !decide (x ∈ N) else decide (x ∈ N))) := by
  show (if _ then _ else _) = _
  rw [if_pos ⟨shaped_of (Enc.sh x) (by decide), shaped_of (Enc.sh (Tu.mk N)) (by decide)⟩]
  have := inL_e x N
  rw [show inL (PyData.int (x : Int)) (N.map fun n : Nat => PyData.int (n : Int)) = decide (x ∈ N) from this]
theorem in_nL (neg : Bool) (x : Nat) (N : List Nat) : inD neg (.int (x : Int)) (.list (N.map fun n : Nat => PyData.int (n : Int))) = .ok (.bool (if neg then !decide (x ∈ N) else decide (x ∈ N))) := by
  cases neg with
  | true => exact notinD_l (α := Nat) (by decide) x N
  | false => exact inD_l (α := Nat) (by decide) x N
theorem nats_ints (N : List Nat) : (N.map fun n : Nat => PyData.int (n : Int)) = (N.map fun n : Nat => (n : Int)).map PyData.int := by rw [List.map_map]; rfl
theorem intsO_nat (N : List Nat) : intsO (N.map fun n : Nat => PyData.int (n : Int)) = some (N.map fun n : Nat => (n : Int)) := by rw [nats_ints, ints_map]
theorem idx_cast (x : Nat) : ∀ N : List Nat, (N.map fun n : Nat => (n : Int)).idxOf (x : Int) = N.idxOf x
  | [] => rfl
  | n :: r => by
    rw [List.map_cons, List.idxOf_cons, List.idxOf_cons, idx_cast x r]
    by_cases h : n = x
    · simp [h]
    · have h1 : ¬ (n : Int) = (x : Int) := by omega
      have h3 : ¬ ((n : Int) == (x : Int)) = true := by rw [beq_iff_eq]; exact h1
      have h2 : ¬ (n == x) = true := by rw [beq_iff_eq]; exact h
      simp only [h3, h2, cond_false, Bool.not_eq_true] at *
theorem idx_nT {N : List Nat} {x : Nat} (h : x ∈ N) : idxD true (nT N) (.int (x : Int)) = .ok (.int ((N.idxOf x : Nat) : Int)) := by
  show (if true = true then (match intsO (N.map fun n : Nat => PyData.int (n : Int)) with
    | some ns => if (x : Int) ∈ ns then Rs.ok (PyData.int (ns.idxOf (x : Int) : Nat)) else .stuck
    | none => .stuck) else .stuck) = _
  rw [if_pos rfl, intsO_nat]
  show (if _ then _ else _) = _
  rw [if_pos (List.mem_map.mpr ⟨x, h, rfl⟩), idx_cast]
theorem idxE_T {f g : DE} {ρ : Ro} {N : List Nat} {x : Nat} (hf : f ρ = .ok (nT N)) (hg : g ρ = .ok (.int (x : Int))) (h : x ∈ N) : idxE true f g ρ = .ok (.int ((N.idxOf x : Nat) : Int)) := by
  unfold idxE
  rw [hf]
  show (if true = true then g ρ >>= fun y => idxD true (nT N) y else .stuck) = _
  rw [if_pos rfl, hg]
  exact idx_nT h
def lexP (n : Nat) (q : Nat → Nat → Bool) (i j : Nat) : List (Nat × Nat) := ((List.range i).flatMap fun a => ((List.range n).filter (q a)).map fun b => (a, b)) ++ ((List.range j).filter (q i)).map fun b => (i, b)
theorem lexP_0 (n : Nat) (q : Nat → Nat → Bool) : lexP n q 0 0 = [] := rfl
theorem lexP_s (n : Nat) (q : Nat → Nat → Bool) (i j : Nat) : lexP n q i (j + 1) = lexP n q i j ++ (if q i j = true then [(i, j)] else []) := by
  unfold lexP
  rw [List.range_succ, List.filter_append, List.map_append, ← List.append_assoc]
  congr 1
  by_cases h : q i j = true <;> simp [h]
theorem lexP_n (n : Nat) (q : Nat → Nat → Bool) (i : Nat) : lexP n q i n = lexP n q (i + 1) 0 := by
  unfold lexP
  rw [List.range_succ, List.flatMap_append]
  simp
theorem lexP_all (n : Nat) (q : Nat → Nat → Bool) : lexP n q n 0 = lexL n q := by unfold lexP lexL; simp
theorem lexP_skip {n : Nat} {q : Nat → Nat → Bool} {i : Nat} : ∀ {j : Nat}, (∀ k, k < j → q i k = false) → lexP n q i j = lexP n q i 0
  | 0, _ => rfl
  | j + 1, h => by
    rw [lexP_s, lexP_skip fun k hk => h k (by omega), h j (by omega)]
    simp
theorem lexP_len {n : Nat} (q : Nat → Nat → Bool) {i j : Nat} (hi : i ≤ n) (hj : j ≤ n) : (lexP n q i j).length ≤ i * n + n := by
  unfold lexP
  rw [List.length_append, List.length_map]
  have h2 : ((List.range j).filter (q i)).length ≤ n := by
    have := List.length_filter_le (q i) (List.range j)
    rw [List.length_range] at this
    omega
  have h1 : ((List.range i).flatMap fun a => ((List.range n).filter (q a)).map fun b => (a, b)).length ≤ i * n := by
    clear h2 hj hi
    induction i with
    | zero => simp
    | succ i ih =>
      rw [List.range_succ, List.flatMap_append, List.length_append]
      have := List.length_filter_le (q i) (List.range n)
      rw [List.length_range] at this
      simp only [List.flatMap_cons, List.flatMap_nil, List.append_nil, List.length_map]
      have e : (i + 1) * n = i * n + n := by rw [Nat.succ_mul]
      omega
  omega
theorem appS_l {i : Nat} {f : DE} {ρ : Ro} {ds : List D} {d : D} (h : ρ[i]? = some (some (.list ds))) (hf : f ρ = .ok d) (hl : ds.length < big) : appS i f ρ = .ok (.nx, ρ.set i (some (.list (ds ++ [d])))) := by
  unfold appS
  rw [h]
  show (f ρ >>= fun d => if ds.length < big then _ else _) = _
  rw [hf, Rs.ok_bind, if_pos hl]
end Den
namespace Od
section
variable {R : Nat → Nat → Bool} {n : Nat}
theorem step_len : ∀ L : List (List Nat), (step R n L).length ≤ L.length * n
  | [] => by simp [step]
  | s :: L => by
    have ih := step_len L
    unfold step at ih ⊢
    rw [List.flatMap_cons, List.length_append, List.length_map, List.length_cons, Nat.succ_mul]
    have := List.length_filter_le (okN R n s) (List.range n)
    rw [List.length_range] at this
    omega
theorem rowsK_len : ∀ k : Nat, (rowsK R n k).length ≤ n ^ k
  | 0 => by simp [rowsK]
  | k + 1 => by
    have ih := rowsK_len k
    show (step R n (rowsK R n k)).length ≤ _
    rw [Nat.pow_succ]
    exact Nat.le_trans (step_len _) (Nat.mul_le_mul_right n ih)
theorem step_app (L M : List (List Nat)) : step R n (L ++ M) = step R n L ++ step R n M := by
  unfold step; rw [List.flatMap_append]
theorem step_one (s : List Nat) : step R n [s] = ((List.range n).filter (okN R n s)).map fun x => s ++ [x] := by
  unfold step; simp
def stepJ (R : Nat → Nat → Bool) (n : Nat) (L : List (List Nat)) (s : List Nat) (j : Nat) : List (List Nat) := step R n L ++ ((List.range j).filter (okN R n s)).map fun x => s ++ [x]
theorem stepJ_0 (L : List (List Nat)) (s : List Nat) : stepJ R n L s 0 = step R n L := by unfold stepJ; simp
theorem stepJ_s (L : List (List Nat)) (s : List Nat) (j : Nat) : stepJ R n L s (j + 1) = stepJ R n L s j ++ (if okN R n s j = true then [s ++ [j]] else []) := by
  unfold stepJ
  rw [List.range_succ, List.filter_append, List.map_append, ← List.append_assoc]
  congr 1
  by_cases h : okN R n s j = true <;> simp [h]
theorem stepJ_n (L : List (List Nat)) (s : List Nat) : stepJ R n L s n = step R n (L ++ [s]) := by
  rw [step_app, step_one]; rfl
theorem stepJ_len (L : List (List Nat)) (s : List Nat) {j : Nat} (hj : j ≤ n) : (stepJ R n L s j).length ≤ (L.length + 1) * n := by
  unfold stepJ
  rw [List.length_append, List.length_map, Nat.succ_mul]
  have h1 := step_len (R := R) (n := n) L
  have := List.length_filter_le (okN R n s) (List.range j)
  rw [List.length_range] at this
  omega
theorem pow_bound {n k : Nat} (hn : n ≤ 6) (hk : k ≤ 6) : n ^ k ≤ 46656 := by
  have h1 : n ^ k ≤ 6 ^ k := Nat.pow_le_pow_left hn k
  have h2 : 6 ^ k ≤ 6 ^ 6 := Nat.pow_le_pow_right (by decide) hk
  exact Nat.le_trans h1 (Nat.le_trans h2 (by decide))
end
end Od
namespace Den
theorem lt_big6 {n : Nat} (h : n ≤ 999999) : n < big := Nat.lt_of_le_of_lt h (by decide +kernel)
theorem le_big6 {n : Nat} (h : n ≤ 999999) : n ≤ big := Nat.le_of_lt (lt_big6 h)
end Den
namespace Od
section
variable {R : Nat → Nat → Bool} {n : Nat}
def nx (R : Nat → Nat → Bool) (l : List Nat) : List Nat := l.filter fun x => l.all fun p => !R p x
def wo (l : List Nat) (x : Nat) : List Nat := l.filter fun y => decide (y ≠ x)
def sufK (R : Nat → Nat → Bool) : Nat → List Nat → List (List Nat)
  | 0, _ => [[]]
  | k + 1, l => (nx R l).flatMap fun x => (sufK R k (wo l x)).map (x :: ·)
def suf (R : Nat → Nat → Bool) (l : List Nat) : List (List Nat) := sufK R l.length l
def cnt (R : Nat → Nat → Bool) (l : List Nat) : Nat := (suf R l).length
theorem wo_nd {l : List Nat} {x : Nat} (h : l.Nodup) : (wo l x).Nodup := List.Pairwise.filter _ h
theorem wo_mem {l : List Nat} {x y : Nat} : y ∈ wo l x ↔ y ∈ l ∧ y ≠ x := by
  unfold wo
  rw [List.mem_filter, decide_eq_true_eq]
theorem wo_len {l : List Nat} {x : Nat} (h : l.Nodup) (hx : x ∈ l) : (wo l x).length + 1 = l.length := by
  have e : wo l x = l.erase x := by
    unfold wo
    rw [List.Nodup.erase_eq_filter h]
    refine List.filter_congr fun y _ => ?_
    by_cases z : y = x <;> simp [z]
  rw [e, List.length_erase_of_mem hx]
  have := List.length_pos_of_mem hx
  omega
theorem wo_sub (l : List Nat) (x : Nat) : (wo l x).Sublist l := List.filter_sublist
theorem nx_mem {l : List Nat} {x : Nat} : x ∈ nx R l ↔ x ∈ l ∧ ∀ p ∈ l, R p x = false := by
  unfold nx
  rw [List.mem_filter, List.all_eq_true]
  refine and_congr_right fun _ => ⟨fun h p hp => ?_, fun h p hp => ?_⟩
  · have := h p hp
    simpa using this
  · simp [h p hp]
theorem suf_nil : suf R [] = [[]] := rfl
theorem suf_eq {l : List Nat} (h : l.Nodup) (hl : l ≠ []) : suf R l = (nx R l).flatMap fun x => (suf R (wo l x)).map (x :: ·) := by
  unfold suf
  obtain ⟨k, hk⟩ : ∃ k, l.length = k + 1 := ⟨l.length - 1, by
    have := List.length_pos_iff.mpr hl
    omega⟩
  have e : sufK R l.length l = (nx R l).flatMap fun x => (sufK R k (wo l x)).map (x :: ·) := by rw [hk]; rfl
  rw [e]
  have : ∀ x ∈ nx R l, (sufK R k (wo l x)).map (x :: ·) = (sufK R (wo l x).length (wo l x)).map (x :: ·) := fun x hx => by
    have := wo_len h (nx_mem.mp hx).1
    rw [show (wo l x).length = k by omega]
  rw [List.flatMap_def, List.flatMap_def, List.map_congr_left this]
theorem cnt_nil : cnt R [] = 1 := rfl
theorem cnt_eq {l : List Nat} (h : l.Nodup) (hl : l ≠ []) : cnt R l = ((nx R l).map fun x => cnt R (wo l x)).sum := by
  unfold cnt
  rw [suf_eq h hl, List.length_flatMap]
  congr 1
  refine List.map_congr_left fun x _ => ?_
  rw [List.length_map]
theorem nx_congr {R' : Nat → Nat → Bool} {l : List Nat} (h : ∀ a ∈ l, ∀ b ∈ l, R a b = R' a b) : nx R l = nx R' l := by
  unfold nx
  refine List.filter_congr fun x hx => ?_
  rw [Bool.eq_iff_iff, List.all_eq_true, List.all_eq_true]
  exact ⟨fun z p hp => by rw [← h p hp x hx]; exact z p hp, fun z p hp => by rw [h p hp x hx]; exact z p hp⟩
theorem sufK_congr {R' : Nat → Nat → Bool} : ∀ (k : Nat) {l : List Nat}, (∀ a ∈ l, ∀ b ∈ l, R a b = R' a b) → sufK R k l = sufK R' k l
  | 0, _, _ => rfl
  | k + 1, l, h => by
    show (nx R l).flatMap _ = (nx R' l).flatMap _
    rw [nx_congr h, List.flatMap_def, List.flatMap_def]
    congr 1
    refine List.map_congr_left fun x _ => ?_
    rw [sufK_congr k fun a ha b hb => h a (wo_mem.mp ha).1 b (wo_mem.mp hb).1]
theorem suf_congr {R' : Nat → Nat → Bool} {l : List Nat} (h : ∀ a ∈ l, ∀ b ∈ l, R a b = R' a b) : suf R l = suf R' l := sufK_congr _ h
def lft (n : Nat) (s : List Nat) : List Nat := (List.range n).filter fun x => decide (x ∉ s)
theorem lft_nd (s : List Nat) : (lft n s).Nodup := List.Pairwise.filter _ List.nodup_range
theorem lft_mem {s : List Nat} {x : Nat} : x ∈ lft n s ↔ x < n ∧ x ∉ s := by
  unfold lft
  rw [List.mem_filter, List.mem_range, decide_eq_true_eq]
theorem lft_nil : lft n [] = List.range n := by unfold lft; simp
theorem lft_snoc (s : List Nat) (x : Nat) : lft n (s ++ [x]) = wo (lft n s) x := by
  unfold lft wo
  rw [List.filter_filter]
  refine List.filter_congr fun y _ => ?_
  by_cases h1 : y ∈ s <;> by_cases h2 : y = x <;> simp [h1, h2]
theorem okN_nx (s : List Nat) : (List.range n).filter (okN R n s) = nx R (lft n s) := by
  unfold nx
  conv => rhs; unfold lft
  rw [List.filter_filter]
  refine List.filter_congr fun x hx => ?_
  rw [Bool.eq_iff_iff, okN_iff, Bool.and_eq_true, decide_eq_true_eq, List.all_eq_true, and_comm]
  refine and_congr ⟨fun h p hp => ?_, fun h p hp hr => ?_⟩ .rfl
  · cases hr : R p x with
    | false => rfl
    | true => exact ((lft_mem.mp hp).2 (h p (lft_mem.mp hp).1 hr)).elim
  · apply Classical.byContradiction
    intro z
    have := h p (lft_mem.mpr ⟨hp, z⟩)
    rw [hr] at this
    cases this
theorem filt_len (p : Nat → Bool) : ∀ l : List Nat, (l.filter p).length + (l.filter fun x => !p x).length = l.length
  | [] => rfl
  | a :: l => by
    have := filt_len p l
    by_cases h : p a = true
    · rw [List.filter_cons_of_pos h, List.filter_cons_of_neg (by simp [h])]
      simp; omega
    · rw [List.filter_cons_of_neg h, List.filter_cons_of_pos (by simp [h])]
      simp; omega
theorem lft_len {s : List Nat} (h : s.Nodup) (hs : ∀ x ∈ s, x < n) : (lft n s).length + s.length = n := by
  have e : s.Perm ((List.range n).filter fun x => decide (x ∈ s)) := (List.perm_ext_iff_of_nodup h (List.Pairwise.filter _ List.nodup_range)).mpr fun a => by
    rw [List.mem_filter, List.mem_range, decide_eq_true_eq]
    exact ⟨fun z => ⟨hs a z, z⟩, fun z => z.2⟩
  rw [e.length_eq]
  have this := filt_len (fun x => decide (x ∈ s)) (List.range n)
  rw [List.length_range] at this
  have e2 : lft n s = (List.range n).filter fun x => !decide (x ∈ s) := List.filter_congr fun x _ => by simp
  rw [e2]
  omega
def stepsK (R : Nat → Nat → Bool) (n : Nat) : Nat → List (List Nat) → List (List Nat)
  | 0, L => L
  | k + 1, L => stepsK R n k (step R n L)
theorem stepsK_app (k : Nat) : ∀ L M : List (List Nat), stepsK R n k (L ++ M) = stepsK R n k L ++ stepsK R n k M := by
  induction k with
  | zero => exact fun _ _ => rfl
  | succ k ih => intro L M; show stepsK R n k (step R n (L ++ M)) = _; rw [step_app, ih]; rfl
theorem stepsK_flat (k : Nat) (hk : stepsK R n k [] = []) : ∀ L : List (List Nat), stepsK R n k L = L.flatMap fun s => stepsK R n k [s]
  | [] => hk
  | s :: L => by
    have := stepsK_app (R := R) (n := n) k [s] L
    rw [List.flatMap_cons, ← stepsK_flat k hk L, ← this]
    rfl
theorem stepsK_nil : ∀ k : Nat, stepsK R n k [] = []
  | 0 => rfl
  | k + 1 => stepsK_nil k
theorem rowsK_steps (k : Nat) : ∀ j : Nat, stepsK R n k (rowsK R n j) = rowsK R n (j + k) := by
  induction k with
  | zero => exact fun _ => rfl
  | succ k ih =>
    intro j
    show stepsK R n k (step R n (rowsK R n j)) = _
    rw [show step R n (rowsK R n j) = rowsK R n (j + 1) from rfl, ih]
    congr 1; omega
theorem steps_suf (k : Nat) : ∀ s : List Nat, s.Nodup → (∀ x ∈ s, x < n) → s.length + k = n → stepsK R n k [s] = (suf R (lft n s)).map (s ++ ·) := by
  induction k with
  | zero =>
    intro s h hs hl
    have := lft_len h hs
    have e : lft n s = [] := List.length_eq_zero_iff.mp (by omega)
    rw [e, suf_nil]
    show [s] = _
    simp
  | succ k ih =>
    intro s h hs hl
    have hll := lft_len h hs
    have ne : lft n s ≠ [] := fun e => by rw [e] at hll; simp at hll; omega
    show stepsK R n k (step R n [s]) = _
    rw [step_one, okN_nx, stepsK_flat k (stepsK_nil k), suf_eq (lft_nd s) ne, List.map_flatMap, List.flatMap_map]
    rw [List.flatMap_def, List.flatMap_def]
    congr 1
    refine List.map_congr_left fun x hx => ?_
    have hx := lft_mem.mp (nx_mem.mp hx).1
    rw [ih (s ++ [x]) (by
      refine List.nodup_append.mpr ⟨h, by simp, fun a ha b hb => ?_⟩
      rw [List.mem_singleton] at hb
      subst hb
      rintro rfl; exact hx.2 ha) (fun y hy => by
      rcases List.mem_append.mp hy with z | z
      · exact hs y z
      · rw [List.mem_singleton.mp z]; exact hx.1) (by simp; omega), lft_snoc, List.map_map]
    refine List.map_congr_left fun t _ => ?_
    simp
theorem rows_suf : rows R n = suf R (List.range n) := by
  have h := rowsK_steps (R := R) (n := n) n 0
  rw [Nat.zero_add] at h
  unfold rows
  rw [← h]
  show stepsK R n n [[]] = _
  rw [steps_suf n [] List.nodup_nil (fun _ h => by cases h) (by simp), lft_nil]
  simp
end
end Od
namespace Den
open PySem PySem.Spec
section
variable {κ β : Type} [DecidableEq κ] {ek : κ → D} {ev : β → D}
def kvG (ek : κ → D) (ev : β → D) (t : List (κ × β)) : List (D × D) := t.map fun p => (ek p.1, ev p.2)
theorem getKv_kvG (inj : ∀ a b, nk (ek a) = nk (ek b) ↔ a = b) (a : κ) : ∀ t : List (κ × β), getKv (kvG ek ev t) (nk (ek a)) = (t.find? fun p => decide (p.1 = a)).map fun p => ev p.2
  | [] => rfl
  | p :: t => by
    show getKv ((ek p.1, ev p.2) :: kvG ek ev t) _ = _
    rw [getKv_cons, List.find?_cons, getKv_kvG inj a t]
    by_cases h : p.1 = a
    · have : nk (ek p.1) = nk (ek a) := (inj _ _).mpr h
      simp [h, this]
    · have : ¬ nk (ek p.1) = nk (ek a) := fun z => h ((inj _ _).mp z)
      simp [h, this]
structure Memo (f : κ → β) (U : List κ) (t : List (κ × β)) : Prop where
  val : ∀ p ∈ t, p.2 = f p.1
  sub : ∀ p ∈ t, p.1 ∈ U
  nd : (t.map (·.1)).Nodup
theorem Memo.nil (f : κ → β) (U : List κ) : Memo f U ([] : List (κ × β)) := ⟨fun _ h => (by cases h), fun _ h => (by cases h), List.nodup_nil⟩
theorem Memo.len {f : κ → β} {U : List κ} {t : List (κ × β)} (m : Memo f U t) : t.length ≤ U.length := by
  have := List.Nodup.length_le_of_subset m.nd fun a ha => by
    obtain ⟨p, hp, rfl⟩ := List.mem_map.mp ha
    exact m.sub p hp
  simpa using this
theorem Memo.get {f : κ → β} {U : List κ} {t : List (κ × β)} (m : Memo f U t) {a : κ} (h : a ∈ t.map (·.1)) : (t.find? fun p => decide (p.1 = a)).map (fun p => ev p.2) = some (ev (f a)) := by
  have hs : (t.find? fun p => decide (p.1 = a)).isSome := by
    rw [List.find?_isSome]
    obtain ⟨p, hp, e⟩ := List.mem_map.mp h
    exact ⟨p, hp, by simpa using e⟩
  obtain ⟨p, hp⟩ := Option.isSome_iff_exists.mp hs
  rw [hp]
  have h1 := List.mem_of_find?_eq_some hp
  have h2 := List.find?_some hp
  have h2 : p.1 = a := by simpa using h2
  show some (ev p.2) = _
  rw [m.val p h1, h2]
theorem find_none {t : List (κ × β)} {a : κ} (h : a ∉ t.map (·.1)) : (t.find? fun p => decide (p.1 = a)) = none := by
  rw [List.find?_eq_none]
  intro p hp
  have : ¬ p.1 = a := fun e => h (List.mem_map.mpr ⟨p, hp, e⟩)
  simpa using this
theorem Memo.put {f : κ → β} {U : List κ} {t : List (κ × β)} (m : Memo f U t) {a : κ} (ha : a ∈ U) (h : a ∉ t.map (·.1)) : Memo f U (t ++ [(a, f a)]) := by
  refine ⟨fun p hp => ?_, fun p hp => ?_, ?_⟩
  · rcases List.mem_append.mp hp with z | z
    · exact m.val p z
    · rw [List.mem_singleton.mp z]
  · rcases List.mem_append.mp hp with z | z
    · exact m.sub p z
    · rw [List.mem_singleton.mp z]; exact ha
  · rw [List.map_append]
    refine List.nodup_append.mpr ⟨m.nd, by simp, fun x hx y hy => ?_⟩
    rw [List.map_cons, List.map_nil, List.mem_singleton] at hy
    subst hy
    rintro rfl; exact h hx
theorem dinE_G (inj : ∀ a b, nk (ek a) = nk (ek b) ↔ a = b) (ok : ∀ a, kOk (ek a) = true) {ρ : Ro} {i : Nat} {t : List (κ × β)} {a : κ} {neg : Bool} {fx : DE} (hf : fx ρ = .ok (ek a)) (h : ρ[i]? = some (some (.dict (kvG ek ev t)))) : dinE neg fx i ρ = .ok (.bool (if neg then !decide (a ∈ t.map (·.1)) else decide (a ∈ t.map (·.1)))) := by
  unfold dinE
  rw [hf]
  show (match ρ[i]? with | some (some (.dict kvs)) => _ | _ => _) = _
  rw [h]
  show (if kOk _ = true then _ else _) = _
  rw [if_pos (ok a), getKv_kvG inj]
  have e : ((t.find? fun p => decide (p.1 = a)).map fun p => ev p.2).isSome = decide (a ∈ t.map (·.1)) := by
    rw [Option.isSome_map, Bool.eq_iff_iff, List.find?_isSome, decide_eq_true_iff, List.mem_map]
    exact ⟨fun ⟨p, hp, e⟩ => ⟨p, hp, by simpa using e⟩, fun ⟨p, hp, e⟩ => ⟨p, hp, by simpa using e⟩⟩
  rw [e]
theorem dgetE_G (inj : ∀ a b, nk (ek a) = nk (ek b) ↔ a = b) (ok : ∀ a, kOk (ek a) = true) {f : κ → β} {U : List κ} {ρ : Ro} {i : Nat} {t : List (κ × β)} {a : κ} {fx : DE} (m : Memo f U t) (ha : a ∈ t.map (·.1)) (hf : fx ρ = .ok (ek a)) (h : ρ[i]? = some (some (.dict (kvG ek ev t)))) : dgetE fx i ρ = .ok (ev (f a)) := by
  unfold dgetE
  rw [h]
  show (fx ρ >>= fun k => if kOk k = true then _ else _) = _
  rw [hf, Rs.ok_bind, if_pos (ok a), getKv_kvG inj, m.get ha]
theorem dsetS_G (inj : ∀ a b, nk (ek a) = nk (ek b) ↔ a = b) (ok : ∀ a, kOk (ek a) = true) {ρ : Ro} {i : Nat} {t : List (κ × β)} {a : κ} {b : β} {fx gx : DE} (hf : fx ρ = .ok (ek a)) (hg : gx ρ = .ok (ev b)) (h : ρ[i]? = some (some (.dict (kvG ek ev t)))) (na : a ∉ t.map (·.1)) (hb : t.length < big) : dsetS fx gx i ρ = .ok (.nx, ρ.set i (some (.dict (kvG ek ev (t ++ [(a, b)]))))) := by
  unfold dsetS
  rw [h]
  show (gx ρ >>= fun d => fx ρ >>= fun k => _) = _
  rw [hg, Rs.ok_bind, hf, Rs.ok_bind, if_pos ⟨ok a, by unfold kvG; rw [List.length_map]; exact hb⟩]
  have e : putKv (kvG ek ev t) (ek a) (ev b) = kvG ek ev (t ++ [(a, b)]) := by
    unfold putKv
    rw [getKv_kvG inj, find_none na, if_neg (by simp)]
    unfold kvG
    simp
  rw [e]
end
theorem nks_nat : ∀ a b : List Nat, nks (a.map fun n : Nat => PyData.int (n : Int)) = nks (b.map fun n : Nat => PyData.int (n : Int)) ↔ a = b
  | [], [] => by simp
  | [], y :: b => by
    show ([] : List NestedKey) = nk (.int (y : Int)) :: _ ↔ _
    simp
  | x :: a, [] => by
    show nk (.int (x : Int)) :: _ = ([] : List NestedKey) ↔ _
    simp
  | x :: a, y :: b => by
    show NestedKey.num (x : Int) :: nks _ = NestedKey.num (y : Int) :: nks _ ↔ _
    rw [List.cons.injEq, nks_nat a b, NestedKey.num.injEq, List.cons.injEq]
    exact and_congr_left fun _ => by omega
theorem nk_nT (a b : List Nat) : nk (nT a) = nk (nT b) ↔ a = b := by
  show NestedKey.tup (nks _) = NestedKey.tup (nks _) ↔ _
  rw [NestedKey.tup.injEq, nks_nat]
theorem kPts_nat : ∀ a : List Nat, kPts (a.map fun n : Nat => PyData.int (n : Int)) = true
  | [] => rfl
  | x :: a => by
    show (kPt (.int (x : Int)) && kPts _) = true
    rw [kPts_nat a]; rfl
theorem dep_nat : ∀ a : List Nat, NestedKey.depthAll (nks (a.map fun n : Nat => PyData.int (n : Int))) ≤ 1
  | [] => by
    show NestedKey.depthAll [] ≤ 1
    simp [NestedKey.depthAll]
  | x :: a => by
    have := dep_nat a
    show NestedKey.depthAll (NestedKey.num (x : Int) :: nks _) ≤ 1
    simp [NestedKey.depthAll, NestedKey.depth]
    exact this
theorem kOk_nT (a : List Nat) : kOk (nT a) = true := by
  have h1 : kPt (nT a) = true := kPts_nat a
  have h2 : (nk (nT a)).depth ≤ 8 := by
    show (NestedKey.tup (nks (a.map fun n : Nat => PyData.int (n : Int)))).depth ≤ 8
    have := dep_nat a
    simp [NestedKey.depth]
    omega
  unfold kOk
  rw [h1, decide_eq_true h2]
  rfl
end Den
namespace Od
def subs : List Nat → List (List Nat)
  | [] => [[]]
  | a :: l => subs l ++ (subs l).map (a :: ·)
theorem subs_len : ∀ l : List Nat, (subs l).length = 2 ^ l.length
  | [] => rfl
  | a :: l => by
    show (subs l ++ (subs l).map (a :: ·)).length = _
    rw [List.length_append, List.length_map, subs_len l, List.length_cons, Nat.pow_succ]
    omega
theorem subs_mem {l s : List Nat} (h : s.Sublist l) : s ∈ subs l := by
  induction h with
  | slnil => simp [subs]
  | cons a _ ih => exact List.mem_append_left _ ih
  | cons_cons a _ ih => exact List.mem_append_right _ (List.mem_map.mpr ⟨_, ih, rfl⟩)
end Od
namespace Od
def rel (M : List (Nat × Nat)) (a b : Nat) : Bool := decide ((a, b) ∈ M)
end Od
namespace Den
open PySem PySem.Spec
def zL (l : List Nat) : List D := l.map fun k : Nat => PyData.int (k : Int)
theorem neN (a b : Nat) : neD (.int (a : Int)) (.int (b : Int)) = .ok (.bool (!decide (a = b))) := neD_e (α := Nat) (by decide) a b
theorem eqN (a b : Nat) : eqD (.int (a : Int)) (.int (b : Int)) = .ok (.bool (decide (a = b))) := eqD_e (α := Nat) (by decide) a b
theorem compL_wo {ρ : Ro} {s k x : Nat} {l : List Nat} (hk : ρ[k]? = some (some (.int (x : Int)))) (hs : s < ρ.length) (hne : s ≠ k) : compL (setN s) (tstE (bi neD (vaR s) (vaR k))) (vaR s) ρ (l.map fun i : Nat => PyData.int (i : Int)) = .ok ((Od.wo l x).map fun i : Nat => PyData.int (i : Int)) := by
  refine compL_map _ fun y _ => ?_
  have e1 : vaR s (ρ.set s (some (.int (y : Int)))) = .ok (.int (y : Int)) := by rw [vaR_eq]; simp [hs]
  have e2 : vaR k (ρ.set s (some (.int (y : Int)))) = .ok (.int (x : Int)) := by
    rw [vaR_eq, List.getElem?_set_ne hne, hk]
  rw [setN_eq, wp_ok]
  refine ⟨?_, fun _ => e1⟩
  rw [tstE_eq, bi_eq, e1, Rs.ok_bind, e2, Rs.ok_bind, neN, Rs.ok_bind]
  show Rs.ok (!decide (y = x)) = _
  simp
theorem compL_later {ρ : Ro} {l : List Nat} {M : List (Nat × Nat)} {i j : Nat} (hi : i < ρ.length) (hj : j < ρ.length) (hij : i ≠ j) (h0 : ρ[0]? = some (some (nT l))) (hi0 : i ≠ 0) (hj0 : j ≠ 0) : compL (setT [i, j]) (tstE (bi (inD false) (vaR i) (vaR 0))) (vaR j) ρ (M.map Enc.e) = .ok ((M.filter fun p => decide (p.1 ∈ l)).map fun p => PyData.int (p.2 : Int)) := by
  refine compL_map (g := fun p : Nat × Nat => Enc.e p) _ fun p _ => ?_
  obtain ⟨a, b⟩ := p
  show Wp (setT [i, j] (.tuple [.int (a : Int), .int (b : Int)]) ρ) _
  rw [setT_eq, setAll_cons, setAll_cons, setAll_nil, wp_ok]
  generalize hρ : (ρ.set i (some (.int (a : Int)))).set j (some (.int (b : Int))) = ρ'
  have e1 : vaR i ρ' = .ok (.int (a : Int)) := by rw [vaR_eq, ← hρ, List.getElem?_set_ne (fun e => hij e.symm)]; simp [hi]
  have e2 : vaR j ρ' = .ok (.int (b : Int)) := by rw [vaR_eq, ← hρ]; simp [hj]
  have e3 : vaR 0 ρ' = .ok (nT l) := by rw [vaR_eq, ← hρ, List.getElem?_set_ne hj0, List.getElem?_set_ne hi0, h0]
  refine ⟨?_, fun _ => e2⟩
  rw [tstE_eq, bi_eq, e1, Rs.ok_bind, e3, Rs.ok_bind, in_nT, Rs.ok_bind]
  simp [blD]
theorem compL_next {ρ : Ro} {l Z : List Nat} {i k : Nat} (hk : ρ[k]? = some (some (.list (zL Z)))) (hi : i < ρ.length) (hne : i ≠ k) : compL (setN i) (tstE (bi (inD true) (vaR i) (vaR k))) (vaR i) ρ (l.map fun k : Nat => PyData.int (k : Int)) = .ok ((l.filter fun x => !decide (x ∈ Z)).map fun k : Nat => PyData.int (k : Int)) := by
  refine compL_map _ fun y _ => ?_
  have e1 : vaR i (ρ.set i (some (.int (y : Int)))) = .ok (.int (y : Int)) := by rw [vaR_eq]; simp [hi]
  have e2 : vaR k (ρ.set i (some (.int (y : Int)))) = .ok (.list (zL Z)) := by rw [vaR_eq, List.getElem?_set_ne hne, hk]
  rw [setN_eq, wp_ok]
  refine ⟨?_, fun _ => e1⟩
  rw [tstE_eq, bi_eq, e1, Rs.ok_bind, e2, Rs.ok_bind]
  unfold zL
  rw [in_nL, Rs.ok_bind]
  simp [blD]
theorem nx_later (l : List Nat) (M : List (Nat × Nat)) : (l.filter fun x => !decide (x ∈ (M.filter fun p => decide (p.1 ∈ l)).map (·.2))) = Od.nx (Od.rel M) l := by
  unfold Od.nx
  refine List.filter_congr fun x _ => ?_
  rw [Bool.eq_iff_iff, Bool.not_eq_true', decide_eq_false_iff_not, List.all_eq_true]
  unfold Od.rel
  constructor
  · intro h p hp
    rw [Bool.not_eq_true', decide_eq_false_iff_not]
    exact fun z => h (List.mem_map.mpr ⟨(p, x), List.mem_filter.mpr ⟨z, by simpa using hp⟩, rfl⟩)
  · intro h z
    obtain ⟨⟨a, b⟩, hp, rfl⟩ := List.mem_map.mp z
    obtain ⟨h1, h2⟩ := List.mem_filter.mp hp
    have := h a (by simpa using h2)
    rw [Bool.not_eq_true', decide_eq_false_iff_not] at this
    exact this h1
abbrev MemoC (M : List (Nat × Nat)) (n : Nat) (t : List (List Nat × Nat)) : Prop := Memo (Od.cnt (Od.rel M)) (Od.subs (List.range n)) t
abbrev kvC (t : List (List Nat × Nat)) : List (D × D) := kvG nT (fun k : Nat => PyData.int (k : Int)) t
theorem MemoC.big {M : List (Nat × Nat)} {n : Nat} {t : List (List Nat × Nat)} (m : MemoC M n t) (hn : n ≤ 8) : t.length < Den.big := by
  have h := m.len
  rw [Od.subs_len, List.length_range] at h
  have : 2 ^ n ≤ 2 ^ 8 := Nat.pow_le_pow_right (by decide) hn
  exact lt_big (by omega)
theorem dsetS_M {M : List (Nat × Nat)} {n : Nat} {t : List (List Nat × Nat)} (m : MemoC M n t) (hn : n ≤ 8) {l : List Nat} (hl : l.Sublist (List.range n)) {ρ : Ro} {i : Nat} {fx gx : DE} (hf : fx ρ = .ok (nT l)) (hg : gx ρ = .ok (.int ((Od.cnt (Od.rel M) l : Nat) : Int))) (h : ρ[i]? = some (some (.dict (kvC t)))) : ∃ t', dsetS fx gx i ρ = .ok (.nx, ρ.set i (some (.dict (kvC t')))) ∧ MemoC M n t' ∧ l ∈ t'.map (·.1) := by
  by_cases hk : l ∈ t.map (·.1)
  · refine ⟨t, ?_, m, hk⟩
    unfold dsetS
    rw [h]
    show (gx ρ >>= fun d => fx ρ >>= fun k => _) = _
    rw [hg, Rs.ok_bind, hf, Rs.ok_bind, if_pos ⟨kOk_nT l, by unfold kvC kvG; rw [List.length_map]; exact m.big hn⟩]
    have e : putKv (kvC t) (nT l) (.int ((Od.cnt (Od.rel M) l : Nat) : Int)) = kvC t := by
      unfold putKv
      have g : (Option.map (fun p : List Nat × Nat => PyData.int (p.2 : Int)) (t.find? fun p => decide (p.1 = l))) = some _ := m.get (ev := fun k : Nat => PyData.int (k : Int)) hk
      rw [getKv_kvG nk_nT, g, Option.isSome_some, if_pos rfl]
      unfold kvC kvG
      rw [List.map_map]
      refine List.map_congr_left fun p hp => ?_
      show (if nk (nT p.1) = nk (nT l) then (nT p.1, _) else _) = _
      by_cases z : p.1 = l
      · rw [if_pos ((nk_nT _ _).mpr z), ← z, m.val p hp]
      · rw [if_neg fun q => z ((nk_nT _ _).mp q)]
    rw [e]
  · exact ⟨t ++ [(l, Od.cnt (Od.rel M) l)], dsetS_G nk_nT kOk_nT (ev := fun k : Nat => PyData.int (k : Int)) hf hg h hk (m.big hn), m.put (Od.subs_mem hl) hk, by simp⟩
end Den
namespace Od
section
variable {R : Nat → Nat → Bool} {n : Nat}
theorem nx_ne (st : St R n) {l : List Nat} (hl : ∀ x ∈ l, x < n) (h : l ≠ []) : nx R l ≠ [] := by
  obtain ⟨a, ha⟩ := List.exists_mem_of_ne_nil l h
  obtain ⟨x, hx, sx, hp⟩ := st (· ∈ l) ⟨a, hl a ha, ha⟩
  intro e
  have : x ∈ nx R l := nx_mem.mpr ⟨sx, fun p hp' => by
    cases hr : R p x with
    | false => rfl
    | true => exact (hp p (hl p hp') hp' hr).elim⟩
  rw [e] at this; cases this
theorem suf_ne (st : St R n) : ∀ (k : Nat) {l : List Nat}, l.length = k → l.Nodup → (∀ x ∈ l, x < n) → suf R l ≠ []
  | 0, l, h, _, _ => by
    rw [List.length_eq_zero_iff.mp h, suf_nil]; simp
  | k + 1, l, h, nd, hl => by
    have ne : l ≠ [] := fun e => by rw [e] at h; simp at h
    rw [suf_eq nd ne]
    obtain ⟨x, hx⟩ := List.exists_mem_of_ne_nil _ (nx_ne st hl ne)
    have h1 := suf_ne st k (l := wo l x) (by have := wo_len nd (nx_mem.mp hx).1; omega) (wo_nd nd) fun y hy => hl y (wo_mem.mp hy).1
    obtain ⟨t, ht⟩ := List.exists_mem_of_ne_nil _ h1
    intro e
    have : x :: t ∈ (nx R l).flatMap fun x => (suf R (wo l x)).map (x :: ·) := List.mem_flatMap.mpr ⟨x, hx, List.mem_map.mpr ⟨t, ht, rfl⟩⟩
    rw [e] at this; cases this
theorem cnt_pos (st : St R n) {l : List Nat} (nd : l.Nodup) (hl : ∀ x ∈ l, x < n) : 0 < cnt R l := List.length_pos_iff.mpr (suf_ne st _ rfl nd hl)
theorem flat_at {α : Type} (f : Nat → List α) : ∀ (L : List Nat) (k : Nat) (a : α), (L.flatMap f)[k]? = some a → ∃ pre x r k', L = pre ++ x :: r ∧ k = (pre.map fun y => (f y).length).sum + k' ∧ (f x)[k']? = some a
  | [], k, a, h => by simp at h
  | y :: L, k, a, h => by
    rw [List.flatMap_cons] at h
    by_cases hk : k < (f y).length
    · rw [List.getElem?_append_left hk] at h
      exact ⟨[], y, L, k, rfl, by simp, h⟩
    · rw [List.getElem?_append_right (by omega)] at h
      obtain ⟨pre, x, r, k', e1, e2, e3⟩ := flat_at f L _ a h
      refine ⟨y :: pre, x, r, k', by rw [e1]; rfl, ?_, e3⟩
      rw [List.map_cons, List.sum_cons]
      omega
theorem at_flat {α : Type} (f : Nat → List α) : ∀ (pre : List Nat) (x : Nat) (r : List Nat) (k : Nat) (a : α), (f x)[k]? = some a → ((pre ++ x :: r).flatMap f)[(pre.map fun y => (f y).length).sum + k]? = some a
  | [], x, r, k, a, h => by
    rw [List.nil_append, List.flatMap_cons, List.map_nil, List.sum_nil, Nat.zero_add, List.getElem?_append_left (by
      rw [List.getElem?_eq_some_iff] at h; exact h.1)]
    exact h
  | y :: pre, x, r, k, a, h => by
    have ih := at_flat f pre x r k a h
    rw [List.cons_append, List.flatMap_cons, List.map_cons, List.sum_cons, List.getElem?_append_right (by omega)]
    rw [show (f y).length + (pre.map fun y => (f y).length).sum + k - (f y).length = (pre.map fun y => (f y).length).sum + k by omega]
    exact ih
theorem suf_at {l : List Nat} (nd : l.Nodup) (ne : l ≠ []) {k : Nat} {o : List Nat} (h : (suf R l)[k]? = some o) : ∃ pre x r k' t, nx R l = pre ++ x :: r ∧ k = (pre.map fun y => cnt R (wo l y)).sum + k' ∧ (suf R (wo l x))[k']? = some t ∧ o = x :: t := by
  rw [suf_eq nd ne] at h
  obtain ⟨pre, x, r, k', e1, e2, e3⟩ := flat_at _ _ _ _ h
  rw [List.getElem?_map, Option.map_eq_some_iff] at e3
  obtain ⟨t, e3, rfl⟩ := e3
  refine ⟨pre, x, r, k', t, e1, ?_, e3, rfl⟩
  rw [e2]
  congr 2
  refine List.map_congr_left fun y _ => ?_
  unfold cnt
  rw [List.length_map]
theorem at_suf {l : List Nat} (nd : l.Nodup) (ne : l ≠ []) {pre r : List Nat} {x k : Nat} {t : List Nat} (e : nx R l = pre ++ x :: r) (h : (suf R (wo l x))[k]? = some t) : (suf R l)[(pre.map fun y => cnt R (wo l y)).sum + k]? = some (x :: t) := by
  have h2 := at_flat (fun x => (suf R (wo l x)).map (x :: ·)) pre x r k (x :: t) (by rw [List.getElem?_map, h]; rfl)
  rw [suf_eq nd ne, e]
  have e2 : (pre.map fun y => cnt R (wo l y)) = pre.map fun y => ((suf R (wo l y)).map (y :: ·)).length := List.map_congr_left fun y _ => by
    unfold cnt; rw [List.length_map]
  rw [e2]
  exact h2
def rk (R : Nat → Nat → Bool) : List Nat → List Nat → Nat
  | _, [] => 0
  | l, x :: t => (((nx R l).filter fun y => decide (y < x)).map fun y => cnt R (wo l y)).sum + rk R (wo l x) t
theorem nx_before {l pre r : List Nat} {x : Nat} (s : l.Pairwise (· < ·)) (e : nx R l = pre ++ x :: r) : ((nx R l).filter fun y => decide (y < x)) = pre := by
  have h : (nx R l).Pairwise (· < ·) := List.Pairwise.filter _ s
  rw [e] at h ⊢
  obtain ⟨_, h2, h3⟩ := List.pairwise_append.mp h
  obtain ⟨h4, _⟩ := List.pairwise_cons.mp h2
  rw [List.filter_append, List.filter_cons_of_neg (by simp), List.filter_eq_self.mpr fun y hy => decide_eq_true (h3 y hy x List.mem_cons_self), List.filter_eq_nil_iff.mpr fun y hy => by
    have := h4 y hy
    simp; omega]
  simp
theorem rk_suf : ∀ (o l : List Nat) (k : Nat), l.Pairwise (· < ·) → (suf R l)[k]? = some o → rk R l o = k ∧ o.length = l.length
  | [], l, k, s, h => by
    have nd : l.Nodup := s.imp fun h => by omega
    by_cases e : l = []
    · subst e
      rw [suf_nil] at h
      have : k < 1 := by
        rw [List.getElem?_eq_some_iff] at h
        exact h.1
      exact ⟨by show 0 = k; omega, rfl⟩
    · obtain ⟨_, _, _, _, _, _, _, _, e⟩ := suf_at nd e h
      cases e
  | x :: t, l, k, s, h => by
    have nd : l.Nodup := s.imp fun h => by omega
    by_cases e : l = []
    · subst e
      rw [suf_nil] at h
      rw [List.getElem?_eq_some_iff] at h
      obtain ⟨h1, h2⟩ := h
      have : k = 0 := by simpa using h1
      subst this
      cases h2
    · obtain ⟨pre, y, r, k', t', e1, e2, e3, e4⟩ := suf_at nd e h
      injection e4 with e5 e6
      subst e5 e6
      obtain ⟨i1, i2⟩ := rk_suf t (wo l x) k' (List.Pairwise.filter _ s) e3
      have hx : x ∈ nx R l := by rw [e1]; simp
      have := wo_len nd (nx_mem.mp hx).1
      refine ⟨?_, by rw [List.length_cons, i2]; omega⟩
      unfold rk
      rw [nx_before s e1, i1, e2]
theorem mem_rows_iff (st : St R n) {l : List Nat} (hp : l.Perm (List.range n)) : l ∈ rows R n ↔ ∀ a b, a < n → b < n → R a b = true → l.idxOf a < l.idxOf b := by
  have hm : ∀ x, x ∈ l ↔ x < n := fun x => by rw [hp.mem_iff, List.mem_range]
  have nd : l.Nodup := hp.nodup_iff.mpr List.nodup_range
  constructor
  · intro h a b ha hb r
    obtain ⟨g, _⟩ := mem_rows.mp h
    exact (Sure.of st ha r).idx g ((hm b).mpr hb)
  · intro h
    refine mem_rows.mpr ⟨?_, by rw [hp.length_eq, List.length_range]⟩
    have key : ∀ k, k ≤ l.length → Gd R n (l.take k) := fun k => by
      induction k with
      | zero => exact fun _ => .nil
      | succ k ih =>
        intro hk
        rw [List.take_succ_eq_append_getElem (by omega)]
        have hkl : k < l.length := by omega
        have hx : l[k] < n := (hm _).mp (List.getElem_mem hkl)
        have hi : l.idxOf l[k] = k := List.Nodup.idxOf_getElem nd k hkl
        refine .snoc (ih (by omega)) hx (fun z => by have := idx_take z; omega) fun p hp' hr => ?_
        have := h p l[k] hp' hx hr
        exact take_idx (by omega) ((hm p).mpr hp')
    have := key l.length (Nat.le_refl _)
    rwa [List.take_length] at this
theorem rows_perm {l : List Nat} (h : l ∈ rows R n) : l.Perm (List.range n) := by
  obtain ⟨g, e⟩ := mem_rows.mp h
  refine (List.perm_ext_iff_of_nodup g.nodup List.nodup_range).mpr fun x => ?_
  rw [List.mem_range]
  exact ⟨g.lt x, g.all e⟩
def permB (n : Nat) (l : List Nat) : Bool := (l.all fun x => decide (x < n)) && decide (Den.srtI (l.map fun x : Nat => (x : Int)) = (List.range n).map fun x : Nat => (x : Int))
theorem permB_iff {l : List Nat} : permB n l = true ↔ l.Perm (List.range n) := by
  unfold permB
  rw [Bool.and_eq_true, decide_eq_true_eq, List.all_eq_true]
  constructor
  · rintro ⟨_, h⟩
    have h1 := (Den.srtI_perm (l.map fun x : Nat => (x : Int))).symm
    rw [h] at h1
    have h2 := h1.map Int.toNat
    rw [List.map_map, List.map_map] at h2
    have e : ∀ m : List Nat, m.map (Int.toNat ∘ fun x : Nat => (x : Int)) = m := fun m => by
      rw [List.map_congr_left (g := id) fun x _ => by simp]
      simp
    rw [e, e] at h2
    exact h2
  · intro h
    refine ⟨fun x hx => decide_eq_true (List.mem_range.mp (h.mem_iff.mp hx)), ?_⟩
    refine Den.srt_unique ((Den.srtI_perm _).trans (h.map _)) (Den.srtI_srt _) ?_
    exact List.pairwise_map.mpr (List.Pairwise.imp (R := (· < ·)) (fun h => by omega) List.pairwise_lt_range)
end
end Od
namespace Od
open Den
section
variable {R : Nat → Nat → Bool} {n : Nat} {T : Nat → Nat → Bool}
theorem rowsK_nd : ∀ k : Nat, (rowsK R n k).Nodup
  | 0 => by simp [rowsK]
  | k + 1 => by
    show (step R n (rowsK R n k)).Nodup
    unfold step
    refine List.pairwise_flatMap.mpr ⟨fun s _ => ?_, ?_⟩
    · refine List.pairwise_map.mpr ?_
      have h : ((List.range n).filter (okN R n s)).Nodup := List.Pairwise.filter _ List.nodup_range
      exact h.imp fun h e => h (by
        have := List.append_inj' e rfl
        simpa using this.2)
    · refine (rowsK_nd k).imp fun {s t} h x hx y hy => ?_
      obtain ⟨a, _, rfl⟩ := List.mem_map.mp hx
      obtain ⟨b, _, rfl⟩ := List.mem_map.mp hy
      intro e
      exact h (List.append_inj' e rfl).1
theorem rows_nd : (rows R n).Nodup := rowsK_nd n
theorem idx_ext {r r' : List Nat} (h : r ∈ rows R n) (h' : r' ∈ rows R n) (e : ∀ x, x < n → r.idxOf x = r'.idxOf x) : r = r' := by
  obtain ⟨g, l⟩ := mem_rows.mp h
  obtain ⟨g', l'⟩ := mem_rows.mp h'
  refine List.ext_getElem (by omega) fun i hi hi' => ?_
  have hx := g.lt _ (List.getElem_mem hi)
  have h1 := List.Nodup.idxOf_getElem g.nodup i hi
  have h2 := e _ hx
  rw [h1] at h2
  have hm := g'.all l' hx
  have h3 := List.getElem_idxOf (List.idxOf_lt_length_iff.mpr hm)
  rw [← h3]
  congr 1
  exact h2.symm
def opnT (T : Nat → Nat → Bool) (a b : Nat) : Bool := decide (a < b) && (!T a b && !T b a)
theorem sure_anti (st : St R n) {a b : Nat} (hb : b < n) (h : Sure R n a b) (k : Sure R n b a) : False := by
  obtain ⟨t, g, l⟩ := full st (s := []) .nil
  have hm := g.all l hb
  have h1 := h.idx g hm
  have h2 := k.idx g (h.2 _ g hm)
  omega
theorem sum_const (c : Nat) : ∀ l : List Nat, (l.map fun _ => c).sum = l.length * c
  | [] => by simp
  | a :: l => by
    rw [List.map_cons, List.sum_cons, sum_const c l, List.length_cons, Nat.succ_mul]
    omega
theorem two_open (st : St R n) (hT : ∀ a b, a < n → b < n → (T a b = true ↔ Sure R n a b)) : 2 * ((lexL n T).length + (lexL n (opnT T)).length) = n * (n - 1) := by
  have nd : ∀ q : Nat → Nat → Bool, (lexL n q).Nodup := fun q => by
    unfold lexL
    refine List.pairwise_flatMap.mpr ⟨fun a _ => ?_, ?_⟩
    · refine List.pairwise_map.mpr ?_
      have h : ((List.range n).filter (q a)).Nodup := List.Pairwise.filter _ List.nodup_range
      exact h.imp fun h e => h (by injection e)
    · refine (List.nodup_range (n := n)).imp fun {a b} h x hx y hy => ?_
      obtain ⟨c, _, rfl⟩ := List.mem_map.mp hx
      obtain ⟨d, _, rfl⟩ := List.mem_map.mp hy
      intro e
      injection e with e1 e2
      exact h e1
  have nds : ∀ q : Nat → Nat → Bool, ((lexL n q).map fun p => (p.2, p.1)).Nodup := fun q => List.pairwise_map.mpr ((nd q).imp fun {x y} h e => h (by
    injection e with e1 e2
    exact Prod.ext e2 e1))
  have mem : ∀ (q : Nat → Nat → Bool) (a b : Nat), (a, b) ∈ lexL n q ↔ a < n ∧ b < n ∧ q a b = true := fun q a b => lexL_mem
  have mems : ∀ (q : Nat → Nat → Bool) (a b : Nat), (a, b) ∈ (lexL n q).map (fun p => (p.2, p.1)) ↔ a < n ∧ b < n ∧ q b a = true := fun q a b => by
    rw [List.mem_map]
    constructor
    · rintro ⟨⟨c, d⟩, h, e⟩
      injection e with e1 e2
      subst e1 e2
      obtain ⟨h1, h2, h3⟩ := (mem q _ _).mp h
      exact ⟨h2, h1, h3⟩
    · rintro ⟨h1, h2, h3⟩
      exact ⟨(b, a), (mem q _ _).mpr ⟨h2, h1, h3⟩, rfl⟩
  have anti : ∀ a b, a < n → b < n → T a b = true → T b a = true → False := fun a b ha hb h k => sure_anti st hb ((hT a b ha hb).mp h) ((hT b a hb ha).mp k)
  have irr : ∀ a, a < n → T a a = true → False := fun a ha h => anti a a ha ha h h
  have p : ((lexL n T ++ lexL n (opnT T)) ++ ((lexL n T).map (fun p => (p.2, p.1)) ++ (lexL n (opnT T)).map fun p => (p.2, p.1))).Perm (lexL n fun a b => decide (a ≠ b)) := by
    refine (List.perm_ext_iff_of_nodup ?_ (nd _)).mpr fun x => ?_
    · refine List.nodup_append.mpr ⟨List.nodup_append.mpr ⟨nd _, nd _, fun x hx y hy e => ?_⟩, List.nodup_append.mpr ⟨nds _, nds _, fun x hx y hy e => ?_⟩, fun x hx y hy e => ?_⟩
      · subst e
        obtain ⟨a, b⟩ := x
        obtain ⟨h1, h2, h3⟩ := (mem _ _ _).mp hx
        obtain ⟨_, _, h4⟩ := (mem _ _ _).mp hy
        unfold opnT at h4
        simp [h3] at h4
      · subst e
        obtain ⟨a, b⟩ := x
        obtain ⟨h1, h2, h3⟩ := (mems _ _ _).mp hx
        obtain ⟨_, _, h4⟩ := (mems _ _ _).mp hy
        unfold opnT at h4
        simp [h3] at h4
      · subst e
        obtain ⟨a, b⟩ := x
        rcases List.mem_append.mp hx with hx | hx <;> rcases List.mem_append.mp hy with hy | hy
        · obtain ⟨h1, h2, h3⟩ := (mem _ _ _).mp hx
          obtain ⟨_, _, h4⟩ := (mems _ _ _).mp hy
          exact anti a b h1 h2 h3 h4
        · obtain ⟨h1, h2, h3⟩ := (mem _ _ _).mp hx
          obtain ⟨_, _, h4⟩ := (mems _ _ _).mp hy
          unfold opnT at h4
          simp [h3] at h4
        · obtain ⟨h1, h2, h3⟩ := (mem _ _ _).mp hx
          obtain ⟨_, _, h4⟩ := (mems _ _ _).mp hy
          unfold opnT at h3
          simp [h4] at h3
        · obtain ⟨h1, h2, h3⟩ := (mem _ _ _).mp hx
          obtain ⟨_, _, h4⟩ := (mems _ _ _).mp hy
          unfold opnT at h3 h4
          simp at h3 h4
          omega
    · obtain ⟨a, b⟩ := x
      rw [List.mem_append, List.mem_append, List.mem_append, mem, mem, mems, mems, mem]
      unfold opnT
      simp only [Bool.and_eq_true, decide_eq_true_eq, Bool.not_eq_true']
      constructor
      · rintro ((⟨h1, h2, h3⟩ | ⟨h1, h2, h3, _⟩) | ⟨h1, h2, h3⟩ | ⟨h1, h2, h3, _⟩)
        · exact ⟨h1, h2, by rintro rfl; exact irr a h1 h3⟩
        · exact ⟨h1, h2, by omega⟩
        · exact ⟨h1, h2, by rintro rfl; exact irr a h1 h3⟩
        · exact ⟨h1, h2, by omega⟩
      · rintro ⟨h1, h2, h3⟩
        cases e1 : T a b with
        | true => exact .inl (.inl ⟨h1, h2, rfl⟩)
        | false =>
          cases e2 : T b a with
          | true => exact .inr (.inl ⟨h1, h2, rfl⟩)
          | false =>
            by_cases h : a < b
            · exact .inl (.inr ⟨h1, h2, h, rfl, rfl⟩)
            · exact .inr (.inr ⟨h1, h2, by omega, rfl, rfl⟩)
  have e := p.length_eq
  simp only [List.length_append, List.length_map] at e
  have c : (lexL n fun a b => decide (a ≠ b)).length = n * (n - 1) := by
    unfold lexL
    rw [List.length_flatMap]
    have : ∀ a ∈ List.range n, (((List.range n).filter fun b => decide (a ≠ b)).map fun b => (a, b)).length = n - 1 := fun a ha => by
      rw [List.length_map]
      have h := wo_len (List.nodup_range (n := n)) ha
      unfold wo at h
      have e2 : ((List.range n).filter fun b => decide (a ≠ b)) = (List.range n).filter fun b => decide (b ≠ a) := List.filter_congr fun b _ => by
        rw [decide_eq_decide]; exact ⟨fun h e => h e.symm, fun h e => h e.symm⟩
      rw [e2]
      rw [List.length_range] at h
      omega
    rw [List.map_congr_left this, sum_const, List.length_range]
  omega
theorem one_row (st : St R n) (hT : ∀ a b, a < n → b < n → (T a b = true ↔ Sure R n a b)) : (rows R n).length = 1 ↔ lexL n (opnT T) = [] := by
  obtain ⟨t, g, l⟩ := full st (s := []) .nil
  rw [List.nil_append] at g l
  have r0 : t ∈ rows R n := mem_rows.mpr ⟨g, l⟩
  constructor
  · intro h
    rw [List.eq_nil_iff_forall_not_mem]
    rintro ⟨a, b⟩ hp
    obtain ⟨ha, hb, h3⟩ := lexL_mem.mp hp
    dsimp only at ha hb h3
    unfold opnT at h3
    simp only [Bool.and_eq_true, decide_eq_true_eq, Bool.not_eq_true'] at h3
    obtain ⟨h4, h5, h6⟩ := h3
    have all : ∀ r ∈ rows R n, r = t := fun r hr => by
      obtain ⟨x, hx⟩ := List.length_eq_one_iff.mp h
      rw [hx] at hr r0
      rw [List.mem_singleton.mp hr, List.mem_singleton.mp r0]
    have no : ∀ a b, a < n → b < n → a ≠ b → T a b = false → ¬ t.idxOf a < t.idxOf b := fun a b ha hb hne hf z => by
      have : T a b = true := (hT a b ha hb).mpr ((sure_iff st ha hb).mpr ⟨hne, fun r hr => by rw [all r hr]; exact z⟩)
      rw [hf] at this; cases this
    have n1 := no a b ha hb (by omega) h5
    have n2 := no b a hb ha (by omega) h6
    have := idx_inj (g.all l ha) (g.all l hb) (by omega)
    omega
  · intro h
    have cmp : ∀ a b, a < n → b < n → a ≠ b → T a b = true ∨ T b a = true := fun a b ha hb hne => by
      cases e1 : T a b with
      | true => exact .inl rfl
      | false =>
        cases e2 : T b a with
        | true => exact .inr rfl
        | false =>
          exfalso
          by_cases hlt : a < b
          · have : (a, b) ∈ lexL n (opnT T) := lexL_mem.mpr ⟨ha, hb, by unfold opnT; simp [e1, e2, hlt]⟩
            rw [h] at this; cases this
          · have : (b, a) ∈ lexL n (opnT T) := lexL_mem.mpr ⟨hb, ha, by unfold opnT; simp [e1, e2]; omega⟩
            rw [h] at this; cases this
    have key : ∀ r ∈ rows R n, ∀ x, x < n → r.idxOf x = ((List.range n).filter fun p => T p x).length := fun r hr x hx => by
      have h1 := (places st hT hx (r.idxOf x)).mp ⟨r, hr, rfl⟩
      have h2 := List.Nodup.length_le_of_subset (l₁ := List.range n) (l₂ := (x :: (List.range n).filter fun p => T p x) ++ (List.range n).filter fun p => T x p) List.nodup_range fun y hy => by
        have hy := List.mem_range.mp hy
        by_cases e : y = x
        · rw [e]; simp
        · rcases cmp y x hy hx e with z | z
          · exact List.mem_append_left _ (List.mem_cons_of_mem _ (List.mem_filter.mpr ⟨List.mem_range.mpr hy, z⟩))
          · exact List.mem_append_right _ (List.mem_filter.mpr ⟨List.mem_range.mpr hy, z⟩)
      simp at h2
      omega
    have all : ∀ r ∈ rows R n, r = t := fun r hr => idx_ext hr r0 fun x hx => by rw [key r hr x hx, key t r0 x hx]
    have h1 := List.Nodup.length_le_of_subset (l₂ := [t]) rows_nd fun r hr => by rw [all r hr]; simp
    have h2 := List.length_pos_of_mem r0
    simp at h1
    omega
def bools : Nat → List (List Bool)
  | 0 => [[]]
  | k + 1 => (bools k).map (true :: ·) ++ (bools k).map (false :: ·)
theorem bools_len : ∀ k : Nat, (bools k).length = 2 ^ k
  | 0 => rfl
  | k + 1 => by
    show ((bools k).map _ ++ (bools k).map _).length = _
    rw [List.length_append, List.length_map, List.length_map, bools_len k, Nat.pow_succ]
    omega
theorem bools_mem : ∀ l : List Bool, l ∈ bools l.length
  | [] => by simp [bools]
  | b :: l => by
    show b :: l ∈ (bools l.length).map _ ++ (bools l.length).map _
    cases b with
    | true => exact List.mem_append_left _ (List.mem_map.mpr ⟨l, bools_mem l, rfl⟩)
    | false => exact List.mem_append_right _ (List.mem_map.mpr ⟨l, bools_mem l, rfl⟩)
theorem idx_count {r : List Nat} (h : r ∈ rows R n) {x : Nat} (hx : x < n) : r.idxOf x = ((List.range n).filter fun y => decide (r.idxOf y < r.idxOf x)).length := by
  obtain ⟨g, l⟩ := mem_rows.mp h
  have hm := g.all l hx
  have hl := List.idxOf_lt_length_iff.mpr hm
  have p : (r.take (r.idxOf x)).Perm ((List.range n).filter fun y => decide (r.idxOf y < r.idxOf x)) := by
    refine (List.perm_ext_iff_of_nodup (List.Nodup.sublist (List.take_sublist _ _) g.nodup) (List.Pairwise.filter _ List.nodup_range)).mpr fun y => ?_
    rw [List.mem_filter, List.mem_range, decide_eq_true_eq]
    exact ⟨fun z => ⟨g.lt y (List.mem_of_mem_take z), idx_take z⟩, fun z => take_idx z.2 (g.all l z.1)⟩
  have := p.length_eq
  rw [List.length_take] at this
  omega
theorem rows_le (st : St R n) (hT : ∀ a b, a < n → b < n → (T a b = true ↔ Sure R n a b)) : (rows R n).length ≤ 2 ^ (lexL n (opnT T)).length := by
  let f : List Nat → List Bool := fun r => (lexL n (opnT T)).map fun p => decide (r.idxOf p.1 < r.idxOf p.2)
  have inj : ∀ r ∈ rows R n, ∀ r' ∈ rows R n, f r = f r' → r = r' := fun r hr r' hr' e => by
    have same : ∀ a b, a < n → b < n → decide (r.idxOf a < r.idxOf b) = decide (r'.idxOf a < r'.idxOf b) := fun a b ha hb => by
      obtain ⟨g, l⟩ := mem_rows.mp hr
      obtain ⟨g', l'⟩ := mem_rows.mp hr'
      by_cases hab : a = b
      · subst hab; simp
      have ne : r.idxOf a ≠ r.idxOf b := fun z => hab (idx_inj (g.all l ha) (g.all l hb) z)
      have ne' : r'.idxOf a ≠ r'.idxOf b := fun z => hab (idx_inj (g'.all l' ha) (g'.all l' hb) z)
      have op : ∀ a b, (a, b) ∈ lexL n (opnT T) → decide (r.idxOf a < r.idxOf b) = decide (r'.idxOf a < r'.idxOf b) := fun a b h => by
        have : ∀ p ∈ lexL n (opnT T), decide (r.idxOf p.1 < r.idxOf p.2) = decide (r'.idxOf p.1 < r'.idxOf p.2) := List.map_inj_left.mp e
        exact this (a, b) h
      cases e1 : T a b with
      | true =>
        have s := (sure_iff st ha hb).mp ((hT a b ha hb).mp e1)
        rw [decide_eq_true (s.2 r hr), decide_eq_true (s.2 r' hr')]
      | false =>
        cases e2 : T b a with
        | true =>
          have s := (sure_iff st hb ha).mp ((hT b a hb ha).mp e2)
          have s1 := s.2 r hr
          have s2 := s.2 r' hr'
          rw [decide_eq_false (by omega), decide_eq_false (by omega)]
        | false =>
          by_cases hlt : a < b
          · exact op a b (lexL_mem.mpr ⟨ha, hb, by unfold opnT; simp [e1, e2, hlt]⟩)
          · have := op b a (lexL_mem.mpr ⟨hb, ha, by unfold opnT; simp [e1, e2]; omega⟩)
            rw [decide_eq_decide] at this ⊢
            omega
    refine idx_ext hr hr' fun x hx => ?_
    rw [idx_count hr hx, idx_count hr' hx]
    congr 1
    refine List.filter_congr fun y hy => same y x (List.mem_range.mp hy) hx
  have nd : ((rows R n).map f).Nodup := List.pairwise_map.mpr (List.Pairwise.imp_of_mem (fun {a b} ha hb h e => h (inj a ha b hb e)) rows_nd)
  have := List.Nodup.length_le_of_subset (l₂ := bools (lexL n (opnT T)).length) nd fun v hv => by
    obtain ⟨r, _, rfl⟩ := List.mem_map.mp hv
    have := bools_mem (f r)
    rwa [show (f r).length = (lexL n (opnT T)).length from List.length_map ..] at this
  rw [List.length_map, bools_len] at this
  exact this
theorem sure_step (st : St R n) {a b : Nat} (ha : a < n) (hb : b < n) (h : Sure R n a b) : R a b = true ∨ ∃ m, m < n ∧ Sure R n a m ∧ Sure R n m b := by
  refine (sure_closed st (F := fun a b => a < n ∧ b < n ∧ (R a b = true ∨ ∃ m, m < n ∧ Sure R n a m ∧ Sure R n m b)) (fun a b ha hb r => ⟨ha, hb, .inl r⟩) (fun a b c ha hb hc h1 h2 => ⟨ha, hc, .inr ⟨b, hb, ?_, ?_⟩⟩) (fun a b h => ?_) ha hb).mpr h |>.2.2
  · rcases h1.2.2 with z | ⟨m, hm, z1, z2⟩
    · exact .of st ha z
    · exact z1.trans st hb z2
  · rcases h2.2.2 with z | ⟨m, hm, z1, z2⟩
    · exact .of st hb z
    · exact z1.trans st hc z2
  · obtain ⟨ha, hb, z⟩ := h
    rcases z with z | ⟨m, hm, z1, z2⟩
    · exact .of st ha z
    · exact z1.trans st hb z2
def btw (n : Nat) (T : Nat → Nat → Bool) (a b : Nat) : Nat := ((List.range n).filter fun m => T a m && T m b).length
theorem btw_lt (st : St R n) (hT : ∀ a b, a < n → b < n → (T a b = true ↔ Sure R n a b)) {a m b : Nat} (ha : a < n) (hm : m < n) (hb : b < n) (h1 : T a m = true) (h2 : T m b = true) : btw n T a m < btw n T a b ∧ btw n T m b < btw n T a b := by
  have s1 := (hT a m ha hm).mp h1
  have s2 := (hT m b hm hb).mp h2
  have nf : ∀ q : Nat → Bool, ((List.range n).filter q).Nodup := fun q => List.Pairwise.filter _ List.nodup_range
  unfold btw
  constructor
  · have := List.Nodup.length_le_of_subset (l₁ := m :: (List.range n).filter fun x => T a x && T x m) (l₂ := (List.range n).filter fun x => T a x && T x b) (List.nodup_cons.mpr ⟨fun z => by
      have z := (List.mem_filter.mp z).2
      rw [Bool.and_eq_true] at z
      exact sure_anti st hm ((hT m m hm hm).mp z.2) ((hT m m hm hm).mp z.2), nf _⟩) fun x hx => by
      rcases List.mem_cons.mp hx with rfl | hx
      · exact List.mem_filter.mpr ⟨List.mem_range.mpr hm, by rw [h1, h2]; rfl⟩
      · obtain ⟨h3, h4⟩ := List.mem_filter.mp hx
        rw [Bool.and_eq_true] at h4
        have hxn := List.mem_range.mp h3
        exact List.mem_filter.mpr ⟨h3, by rw [h4.1, (hT x b hxn hb).mpr (((hT x m hxn hm).mp h4.2).trans st hb s2)]; rfl⟩
    simp at this ⊢
    omega
  · have := List.Nodup.length_le_of_subset (l₁ := m :: (List.range n).filter fun x => T m x && T x b) (l₂ := (List.range n).filter fun x => T a x && T x b) (List.nodup_cons.mpr ⟨fun z => by
      have z := (List.mem_filter.mp z).2
      rw [Bool.and_eq_true] at z
      exact sure_anti st hm ((hT m m hm hm).mp z.1) ((hT m m hm hm).mp z.1), nf _⟩) fun x hx => by
      rcases List.mem_cons.mp hx with rfl | hx
      · exact List.mem_filter.mpr ⟨List.mem_range.mpr hm, by rw [h1, h2]; rfl⟩
      · obtain ⟨h3, h4⟩ := List.mem_filter.mp hx
        rw [Bool.and_eq_true] at h4
        have hxn := List.mem_range.mp h3
        exact List.mem_filter.mpr ⟨h3, by rw [h4.2, (hT a x ha hxn).mpr (s1.trans st hxn ((hT m x hm hxn).mp h4.1))]; rfl⟩
    simp at this ⊢
    omega
end
end Od
namespace Od
open Den
section
variable {R : Nat → Nat → Bool} {n : Nat} {T : Nat → Nat → Bool}
structure Hd (n : Nat) (T : Nat → Nat → Bool) (t : Nat) (l : List (Nat × Nat)) : Prop where
  nd : l.Nodup
  bd : ∀ p ∈ l, p.1 < n ∧ p.2 < n ∧ T p.1 p.2 = true
  full : ∀ a b, a < n → b < n → T a b = true → btw n T a b ≤ t → (a, b) ∈ l
structure Hj (n : Nat) (T : Nat → Nat → Bool) (l0 pre : List (Nat × Nat)) (q : Nat × Nat) (j : Nat) (l : List (Nat × Nat)) : Prop where
  nd : l.Nodup
  bd : ∀ p ∈ l, p.1 < n ∧ p.2 < n ∧ T p.1 p.2 = true
  sub : ∀ p ∈ l0, p ∈ l
  done : ∀ p ∈ pre, ∀ b, b < n → (p.2, b) ∈ l0 → (p.1, b) ∈ l
  now : ∀ b, b < j → (q.2, b) ∈ l0 → (q.1, b) ∈ l
theorem Hj.start {t : Nat} {l0 : List (Nat × Nat)} (h : Hd n T t l0) (q : Nat × Nat) : Hj n T l0 [] q 0 l0 := ⟨h.nd, h.bd, fun _ h => h, fun _ h => (by cases h), fun b h => by omega⟩
theorem Hj.row {l0 pre l : List (Nat × Nat)} {q : Nat × Nat} (h : Hj n T l0 pre q n l) (q' : Nat × Nat) : Hj n T l0 (pre ++ [q]) q' 0 l := ⟨h.nd, h.bd, h.sub, fun p hp b hb hm => by
  rcases List.mem_append.mp hp with z | z
  · exact h.done p z b hb hm
  · rw [List.mem_singleton.mp z] at hm ⊢
    exact h.now b hb hm, fun b h => by omega⟩
theorem Hj.go {l0 pre l : List (Nat × Nat)} {q : Nat × Nat} {j : Nat} (h : Hj n T l0 pre q j l) (q' : Nat × Nat) (e : j = 0) : Hj n T l0 pre q' 0 l := ⟨h.nd, h.bd, h.sub, h.done, fun b h => by omega⟩
theorem Hj.add {l0 pre l : List (Nat × Nat)} {q : Nat × Nat} {j : Nat} (h : Hj n T l0 pre q j l) (hb : q.1 < n ∧ j < n ∧ T q.1 j = true) (hn : (q.1, j) ∉ l) : Hj n T l0 pre q (j + 1) (l ++ [(q.1, j)]) := by
  refine ⟨List.nodup_append.mpr ⟨h.nd, by simp, fun a ha b hb' => ?_⟩, fun p hp => ?_, fun p hp => List.mem_append_left _ (h.sub p hp), fun p hp b hb' hm => List.mem_append_left _ (h.done p hp b hb' hm), fun b hb' hm => ?_⟩
  · rw [List.mem_singleton] at hb'
    subst hb'
    rintro rfl; exact hn ha
  · rcases List.mem_append.mp hp with z | z
    · exact h.bd p z
    · rw [List.mem_singleton.mp z]; exact hb
  · by_cases e : b = j
    · subst e; simp
    · exact List.mem_append_left _ (h.now b (by omega) hm)
theorem Hj.stay {l0 pre l : List (Nat × Nat)} {q : Nat × Nat} {j : Nat} (h : Hj n T l0 pre q j l) (hn : (q.2, j) ∈ l → (q.1, j) ∈ l) : Hj n T l0 pre q (j + 1) l := by
  refine ⟨h.nd, h.bd, h.sub, h.done, fun b hb hm => ?_⟩
  by_cases e : b = j
  · subst e; exact hn (h.sub _ hm)
  · exact h.now b (by omega) hm
theorem Hd.next (st : St R n) (hT : ∀ a b, a < n → b < n → (T a b = true ↔ Sure R n a b)) {t : Nat} {l0 l : List (Nat × Nat)} {q : Nat × Nat} (h : Hd n T t l0) (k : Hj n T l0 l0 q 0 l) : Hd n T (t + 1) l := by
  refine ⟨k.nd, k.bd, fun a b ha hb hab hlt => ?_⟩
  by_cases e : btw n T a b ≤ t
  · exact k.sub _ (h.full a b ha hb hab e)
  · have hpos : 0 < btw n T a b := by omega
    unfold btw at hpos
    obtain ⟨m, hm⟩ := List.exists_mem_of_length_pos hpos
    obtain ⟨h1, h2⟩ := List.mem_filter.mp hm
    rw [Bool.and_eq_true] at h2
    have hmn := List.mem_range.mp h1
    obtain ⟨b1, b2⟩ := btw_lt st hT ha hmn hb h2.1 h2.2
    exact k.done (a, m) (h.full a m ha hmn h2.1 (by omega)) b hb (h.full m b hmn hb h2.2 (by omega))
theorem Hd.mem {l : List (Nat × Nat)} (h : Hd n T n l) (p : Nat × Nat) : p ∈ l ↔ p ∈ lexL n T := by
  rw [lexL_mem]
  refine ⟨h.bd p, fun ⟨h1, h2, h3⟩ => h.full p.1 p.2 h1 h2 h3 ?_⟩
  unfold btw
  have := List.length_filter_le (fun m => T p.1 m && T m p.2) (List.range n)
  rwa [List.length_range] at this
theorem Hd.len (st : St R n) (hT : ∀ a b, a < n → b < n → (T a b = true ↔ Sure R n a b)) (hn : n ≤ 8) {l : List (Nat × Nat)} (nd : l.Nodup) (bd : ∀ p ∈ l, p.1 < n ∧ p.2 < n ∧ T p.1 p.2 = true) : l.length < 64 := by
  have h := List.Nodup.length_le_of_subset (l₂ := lexL 8 fun a b => decide (a ≠ b)) nd fun p hp => by
    obtain ⟨h1, h2, h3⟩ := bd p hp
    exact lexL_mem.mpr ⟨by omega, by omega, by simpa using ((hT _ _ h1 h2).mp h3).1⟩
  have e : (lexL 8 fun a b => decide (a ≠ b)).length = 56 := by decide +kernel
  omega
end
end Od
namespace Den
open PySem PySem.Spec
theorem wp_skip {ft : Tb} {c : E} {A : Ss} {pos : Pos} {U : DS} {ρ : Ro} {Q : Fl × Ro → Prop} (hc : tstE (c.den ft) ρ = .ok false) (h : Wp (U ρ) Q) : Wp (seqS (S.den ft (.iff c A .nil pos)) U ρ) Q := by
  rw [wp_seq]
  exact wp_if false hc (by rw [if_neg (by decide)]; exact h)
theorem sorted_pairs {n : Nat} (hn : n ≤ 64) {q : Nat → Nat → Bool} {l : List (Nat × Nat)} (nd : l.Nodup) (hm : ∀ p, p ∈ l ↔ p ∈ lexL n q) (hl : l.length < 64) : sortedA [.list (l.map Enc.e)] = .ok (.list ((lexL n q).map Enc.e)) := by
  have e0 : (l.map fun p : Nat × Nat => (Enc.e p : D)) = (l.map toZ).map prD := by rw [List.map_map]; rfl
  have bd : ∀ p ∈ l.map toZ, bdP p := fun p hp => by
    obtain ⟨x, hx, rfl⟩ := List.mem_map.mp hp
    obtain ⟨h1, h2, _⟩ := lexL_mem.mp ((hm x).mp hx)
    unfold bdP toZ
    dsimp only
    omega
  cases l with
  | nil =>
    have : lexL n q = [] := by
      rw [List.eq_nil_iff_forall_not_mem]
      intro p hp
      have := (hm p).mpr hp
      cases this
    rw [this]
    rfl
  | cons a r =>
    show (match intsO ((a :: r).map fun p : Nat × Nat => (Enc.e p : D)) with | some ns => (if ns.length < 64 then Rs.ok (PyData.list ((srtI ns).map PyData.int)) else .stuck) | none => (match prsO ((a :: r).map fun p : Nat × Nat => (Enc.e p : D)) with | some ps => (if ps.length < 64 then Rs.ok (PyData.list ((srtP ps).map prD)) else .stuck) | none => .stuck)) = _
    have e1 : intsO ((a :: r).map fun p : Nat × Nat => (Enc.e p : D)) = none := rfl
    rw [e1, e0]
    show (match prsO (((a :: r).map toZ).map prD) with | some ps => (if ps.length < 64 then Rs.ok (PyData.list ((srtP ps).map prD)) else .stuck) | none => .stuck) = _
    rw [prsO_map bd]
    show (if _ then _ else _) = _
    rw [if_pos (by rw [List.length_map]; exact hl), srtP_lexL hn nd hm, List.map_map]
    rfl
end Den
namespace Od
open Den
section
variable {R : Nat → Nat → Bool} {n : Nat} {T : Nat → Nat → Bool}
theorem idx_ne {y a : Nat} {r : List Nat} (h : y ≠ a) : (y :: r).idxOf a = r.idxOf a + 1 := by
  have e : (y == a) = false := by simpa using h
  rw [List.idxOf_cons, e]
  rfl
theorem idx_rev {r : List Nat} (nd : r.Nodup) {x : Nat} (hx : x ∈ r) : r.reverse.idxOf x + r.idxOf x + 1 = r.length := by
  have hl := List.idxOf_lt_length_iff.mpr hx
  have ndr : r.reverse.Nodup := (List.reverse_perm r).nodup_iff.mpr nd
  have hi : r.length - 1 - r.idxOf x < r.reverse.length := by rw [List.length_reverse]; omega
  have e : r.reverse[r.length - 1 - r.idxOf x] = x := by
    rw [List.getElem_reverse]
    have : r.length - 1 - (r.length - 1 - r.idxOf x) = r.idxOf x := by omega
    simp only [this]
    exact List.getElem_idxOf hl
  have h2 := List.Nodup.idxOf_getElem ndr _ hi
  rw [e] at h2
  omega
theorem rows_turn (st : St R n) (st' : St (fun a b => R b a) n) {r : List Nat} (h : r ∈ rows R n) : r.reverse ∈ rows (fun a b => R b a) n := by
  have hp := rows_perm h
  have nd : r.Nodup := hp.nodup_iff.mpr List.nodup_range
  have hm : ∀ x, x < n → x ∈ r := fun x hx => hp.mem_iff.mpr (List.mem_range.mpr hx)
  refine (mem_rows_iff st' ((List.reverse_perm r).trans hp)).mpr fun a b ha hb hr => ?_
  have := (mem_rows_iff st hp).mp h b a hb ha hr
  have h1 := idx_rev nd (hm a ha)
  have h2 := idx_rev nd (hm b hb)
  omega
theorem turn_le (st : St R n) (st' : St (fun a b => R b a) n) : (rows R n).length ≤ (rows (fun a b => R b a) n).length := by
  have nd : ((rows R n).map List.reverse).Nodup := List.pairwise_map.mpr (rows_nd.imp fun {a b} h e => h (by
    have := congrArg List.reverse e
    simpa using this))
  have := List.Nodup.length_le_of_subset nd fun x hx => by
    obtain ⟨r, hr, rfl⟩ := List.mem_map.mp hx
    exact rows_turn st st' hr
  simpa using this
theorem turn_len (st : St R n) (st' : St (fun a b => R b a) n) : (rows (fun a b => R b a) n).length = (rows R n).length :=
  Nat.le_antisymm (turn_le (R := fun a b => R b a) st' st) (turn_le st st')
theorem st_less (st : St R (n + 1)) : St R n := fun S ⟨x, hx, sx⟩ => by
  obtain ⟨y, hy, ⟨sy, hy2⟩, hp⟩ := st (fun z => S z ∧ z < n) ⟨x, by omega, sx, hx⟩
  exact ⟨y, hy2, sy, fun p hpn sp hr => hp p (by omega) ⟨sp, hpn⟩ hr⟩
theorem erase_idx {r : List Nat} {x a b : Nat} (ha : a ∈ r) (hb : b ∈ r) (hax : a ≠ x) (hbx : b ≠ x) (h : r.idxOf a < r.idxOf b) : (r.erase x).idxOf a < (r.erase x).idxOf b := by
  induction r with
  | nil => cases ha
  | cons y r ih =>
    by_cases hy : y = x
    · subst hy
      rw [List.erase_cons_head]
      rw [idx_ne (fun e => hax e.symm), idx_ne (fun e => hbx e.symm)] at h
      omega
    · rw [List.erase_cons_tail (by simpa using hy)]
      by_cases hya : y = a
      · subst hya
        rw [List.idxOf_cons_self]
        by_cases hyb : y = b
        · subst hyb; omega
        · rw [idx_ne hyb]; omega
      · have ha' : a ∈ r := (List.mem_cons.mp ha).resolve_left fun e => hya e.symm
        by_cases hyb : y = b
        · subst hyb
          rw [List.idxOf_cons_self] at h
          omega
        · have hb' : b ∈ r := (List.mem_cons.mp hb).resolve_left fun e => hyb e.symm
          rw [idx_ne hya, idx_ne hyb] at h ⊢
          have := ih ha' hb' (by omega)
          omega
theorem rows_less (st : St R (n + 1)) {r : List Nat} (h : r ∈ rows R (n + 1)) : r.erase n ∈ rows R n := by
  have hp := rows_perm h
  have hm : ∀ x, x < n + 1 → x ∈ r := fun x hx => hp.mem_iff.mpr (List.mem_range.mpr hx)
  have hp2 : (r.erase n).Perm (List.range n) := by
    have := hp.erase n
    rw [List.range_succ] at this
    have e : (List.range n ++ [n]).erase n = List.range n := by
      rw [List.erase_append_right _ (by simp)]
      simp
    rw [e] at this
    exact this
  refine (mem_rows_iff (st_less st) hp2).mpr fun a b ha hb hr => ?_
  exact erase_idx (hm a (by omega)) (hm b (by omega)) (by omega) (by omega) ((mem_rows_iff st hp).mp h a b (by omega) (by omega) hr)
theorem less_le (st : St R (n + 1)) : (rows R (n + 1)).length ≤ (n + 1) * (rows R n).length := by
  let f : List Nat → List Nat × Nat := fun r => (r.erase n, r.idxOf n)
  have inj : ∀ r ∈ rows R (n + 1), ∀ r' ∈ rows R (n + 1), f r = f r' → r = r' := fun r hr r' hr' e => by
    injection e with e1 e2
    have ins : ∀ l : List Nat, n ∈ l → l = (l.erase n).take (l.idxOf n) ++ n :: (l.erase n).drop (l.idxOf n) := fun l hl => by
      induction l with
      | nil => cases hl
      | cons y l ih =>
        by_cases hy : y = n
        · subst hy
          simp
        · have hl' : n ∈ l := (List.mem_cons.mp hl).resolve_left fun e => hy e.symm
          rw [List.erase_cons_tail (by simpa using hy), idx_ne hy]
          simp only [List.take_succ_cons, List.drop_succ_cons, List.cons_append]
          rw [← ih hl']
    have hp := rows_perm hr
    have hp' := rows_perm hr'
    rw [ins r (hp.mem_iff.mpr (by simp)), ins r' (hp'.mem_iff.mpr (by simp)), e1, e2]
  have nd : ((rows R (n + 1)).map f).Nodup := List.pairwise_map.mpr (List.Pairwise.imp_of_mem (fun {a b} ha hb h e => h (inj a ha b hb e)) rows_nd)
  have := List.Nodup.length_le_of_subset (l₂ := (List.range (n + 1)).flatMap fun k => (rows R n).map fun s => (s, k)) nd fun v hv => by
    obtain ⟨r, hr, rfl⟩ := List.mem_map.mp hv
    have hp := rows_perm hr
    have hl := hp.length_eq
    rw [List.length_range] at hl
    have hi := List.idxOf_lt_length_iff.mpr (hp.mem_iff.mpr (show n ∈ List.range (n + 1) by simp))
    exact List.mem_flatMap.mpr ⟨r.idxOf n, List.mem_range.mpr (by omega), List.mem_map.mpr ⟨r.erase n, rows_less st hr, rfl⟩⟩
  rw [List.length_map, List.length_flatMap] at this
  simp only [List.length_map] at this
  rw [sum_const, List.length_range] at this
  exact this
theorem one_chain (st : St R n) {r : List Nat} (hr : r ∈ rows R n) : (rows R n).length = 1 ↔ ∀ i (h : i + 1 < r.length), R r[i] r[i + 1] = true := by
  obtain ⟨g, l⟩ := mem_rows.mp hr
  constructor
  · intro h1 i hi
    have all : ∀ x ∈ rows R n, x = r := fun x hx => by
      obtain ⟨y, hy⟩ := List.length_eq_one_iff.mp h1
      rw [hy] at hx hr
      rw [List.mem_singleton.mp hx, List.mem_singleton.mp hr]
    have ha := g.lt _ (List.getElem_mem (show i < r.length by omega))
    have hb := g.lt _ (List.getElem_mem hi)
    have i1 := List.Nodup.idxOf_getElem g.nodup i (by omega)
    have i2 := List.Nodup.idxOf_getElem g.nodup (i + 1) hi
    generalize r[i] = a at *
    generalize r[i + 1] = b at *
    have s : Sure R n a b := (sure_iff st ha hb).mpr ⟨by rintro rfl; omega, fun x hx => by rw [all x hx]; omega⟩
    rcases sure_step st ha hb s with z | ⟨m, hm, z1, z2⟩
    · exact z
    · have := z1.idx g (g.all l hm)
      have := z2.idx g (g.all l hb)
      omega
  · intro h
    have key : ∀ x ∈ rows R n, ∀ j i (hij : i < j) (hj : j < r.length), x.idxOf (r[i]'(by omega)) < x.idxOf r[j] := fun x hx j => by
      obtain ⟨g', l'⟩ := mem_rows.mp hx
      induction j with
      | zero => intro i hi; omega
      | succ j ih =>
        intro i hi hj
        have hr' := h j hj
        have ha := g.lt _ (List.getElem_mem (show j < r.length by omega))
        have hb := g.lt _ (List.getElem_mem hj)
        have s := (Sure.of st ha hr').idx g' (g'.all l' hb)
        by_cases e : i = j
        · subst e; exact s
        · have := ih i (by omega) (by omega)
          omega
    have all : ∀ x ∈ rows R n, x = r := fun x hx => by
      obtain ⟨g', l'⟩ := mem_rows.mp hx
      refine idx_ext hx hr fun y hy => ?_
      rw [idx_count hx hy, idx_count hr hy]
      congr 1
      refine List.filter_congr fun z hz => ?_
      have hz := List.mem_range.mp hz
      have y1 := List.idxOf_lt_length_iff.mpr (g.all l hy)
      have z1 := List.idxOf_lt_length_iff.mpr (g.all l hz)
      have y2 := List.getElem_idxOf y1
      have z2 := List.getElem_idxOf z1
      rw [decide_eq_decide]
      have k1 := fun q => key x hx (r.idxOf y) (r.idxOf z) q y1
      have k2 := fun q => key x hx (r.idxOf z) (r.idxOf y) q z1
      simp only [y2, z2] at k1 k2
      constructor
      · intro q
        apply Classical.byContradiction
        intro w
        by_cases e : r.idxOf y = r.idxOf z
        · have : y = z := idx_inj (g.all l hy) (g.all l hz) e
          subst this; omega
        · have := k2 (by omega)
          omega
      · exact k1
    have h1 := List.Nodup.length_le_of_subset (l₂ := [r]) rows_nd fun x hx => by rw [all x hx]; simp
    have h2 := List.length_pos_of_mem hr
    simp at h1
    omega
abbrev zz (l : List Nat) : List Int := l.map fun x : Nat => (x : Int)
theorem lex_asym : ∀ a b : List Nat, HT.lexLt (zz a) (zz b) = true → HT.lexLt (zz b) (zz a) = false
  | [], [], h => rfl
  | [], _ :: _, _ => rfl
  | _ :: _, [], h => by cases h
  | x :: a, y :: b, h => by
    show (if (y : Int) = (x : Int) then HT.lexLt (zz b) (zz a) else decide ((y : Int) < (x : Int))) = false
    have h : (if (x : Int) = (y : Int) then HT.lexLt (zz a) (zz b) else decide ((x : Int) < (y : Int))) = true := h
    by_cases e : x = y
    · subst e
      rw [if_pos rfl] at h ⊢
      exact lex_asym a b h
    · rw [if_neg (by omega)] at h ⊢
      have := of_decide_eq_true h
      exact decide_eq_false (by omega)
theorem lex_sufK : ∀ (k : Nat) (l : List Nat), l.Pairwise (· < ·) → (sufK R k l).Pairwise fun a b => HT.lexLt (zz a) (zz b) = true
  | 0, l, _ => List.pairwise_singleton _ _
  | k + 1, l, h => by
    show ((nx R l).flatMap fun x => (sufK R k (wo l x)).map (x :: ·)).Pairwise _
    have hn : (nx R l).Pairwise (· < ·) := List.Pairwise.filter _ h
    refine List.pairwise_flatMap.mpr ⟨fun x _ => ?_, ?_⟩
    · refine List.pairwise_map.mpr ((lex_sufK k (wo l x) (List.Pairwise.filter _ h)).imp fun {a b} h => ?_)
      show (if (x : Int) = (x : Int) then HT.lexLt (zz a) (zz b) else _) = true
      rw [if_pos rfl]
      exact h
    · refine hn.imp fun {x y} h a ha b hb => ?_
      obtain ⟨s, _, rfl⟩ := List.mem_map.mp ha
      obtain ⟨t, _, rfl⟩ := List.mem_map.mp hb
      show (if (x : Int) = (y : Int) then HT.lexLt (zz s) (zz t) else decide ((x : Int) < (y : Int))) = true
      rw [if_neg (by omega)]
      exact decide_eq_true (by omega)
theorem lex_rows {i j : Nat} {a b : List Nat} (hi : (rows R n)[i]? = some a) (hj : (rows R n)[j]? = some b) (h : i < j) : HT.lexLt (zz b) (zz a) = false := by
  rw [rows_suf] at hi hj
  have p : (suf R (List.range n)).Pairwise fun a b => HT.lexLt (zz a) (zz b) = true := lex_sufK _ _ List.pairwise_lt_range
  obtain ⟨h1, rfl⟩ := List.getElem?_eq_some_iff.mp hi
  obtain ⟨h2, rfl⟩ := List.getElem?_eq_some_iff.mp hj
  exact lex_asym _ _ (List.pairwise_iff_getElem.mp p i j h1 h2 h)
end
end Od
namespace Od
open Den
def noR : Nat → Nat → Bool := fun _ _ => false
def goodO (R : Nat → Nat → Bool) (s : List Nat) : Bool := (List.range s.length).all fun i => !((s.take i).any fun e => R (s.getD i 0) e)
section
variable {R : Nat → Nat → Bool} {n : Nat}
theorem st_no : St noR n := fun S ⟨x, hx, sx⟩ => ⟨x, hx, sx, fun _ _ _ h => by cases h⟩
theorem okN_no (s : List Nat) (x : Nat) : okN noR n s x = decide (x ∉ s) := by
  rw [Bool.eq_iff_iff, okN_iff, decide_eq_true_eq]
  exact ⟨fun h => h.1, fun h => ⟨h, fun _ _ z => by cases z⟩⟩
theorem rows_no {s : List Nat} : s ∈ rows noR n ↔ s.Perm (List.range n) :=
  ⟨rows_perm, fun h => (mem_rows_iff st_no h).mpr fun _ _ _ _ z => by cases z⟩
theorem good_iff (st : St R n) {s : List Nat} (hp : s.Perm (List.range n)) : goodO R s = true ↔ s ∈ rows R n := by
  have nd : s.Nodup := hp.nodup_iff.mpr List.nodup_range
  have hm : ∀ x, x < n → x ∈ s := fun x hx => hp.mem_iff.mpr (List.mem_range.mpr hx)
  have hl : ∀ x ∈ s, x < n := fun x hx => List.mem_range.mp (hp.mem_iff.mp hx)
  have gd : ∀ i (h : i < s.length), s.getD i 0 = s[i] := fun i h => by rw [List.getD_eq_getElem?_getD, List.getElem?_eq_getElem h]; rfl
  rw [mem_rows_iff st hp]
  unfold goodO
  rw [List.all_eq_true]
  constructor
  · intro h a b ha hb hr
    have ia := List.idxOf_lt_length_iff.mpr (hm a ha)
    have h1 := h (s.idxOf a) (List.mem_range.mpr ia)
    rw [Bool.not_eq_true', List.any_eq_false, gd _ ia, List.getElem_idxOf ia] at h1
    have h2 : ¬ s.idxOf b < s.idxOf a := fun z => h1 b (take_idx z (hm b hb)) hr
    have h3 : s.idxOf a ≠ s.idxOf b := fun e => by
      have := idx_inj (hm a ha) (hm b hb) e
      subst this
      rw [st.irr ha] at hr; cases hr
    omega
  · intro h i hi
    have hi := List.mem_range.mp hi
    rw [Bool.not_eq_true', List.any_eq_false, gd _ hi]
    intro e he hr
    have h1 := h s[i] e (hl _ (List.getElem_mem hi)) (hl e (List.mem_of_mem_take he)) hr
    have h2 := idx_take he
    rw [List.Nodup.idxOf_getElem nd i hi] at h1
    omega
theorem good_mem (st : St R n) {s : List Nat} : s ∈ (rows noR n).filter (goodO R) ↔ s ∈ rows R n := by
  rw [List.mem_filter, rows_no]
  exact ⟨fun h => (good_iff st h.1).mp h.2, fun h => ⟨rows_perm h, (good_iff st (rows_perm h)).mpr h⟩⟩
theorem good_len (st : St R n) : ((rows noR n).filter (goodO R)).length = (rows R n).length := by
  refine List.Perm.length_eq ((List.perm_ext_iff_of_nodup (List.Pairwise.filter _ rows_nd) rows_nd).mpr fun s => good_mem st)
end
end Od
namespace Od
open Den
theorem lex_irr : ∀ a : List Nat, HT.lexLt (zz a) (zz a) = false
  | [] => rfl
  | x :: a => by
    show (if (x : Int) = (x : Int) then HT.lexLt (zz a) (zz a) else _) = false
    rw [if_pos rfl]; exact lex_irr a
theorem lex_cons (x y : Nat) (a b : List Nat) : HT.lexLt (zz (x :: a)) (zz (y :: b)) = if x = y then HT.lexLt (zz a) (zz b) else decide (x < y) := by
  show (if (x : Int) = (y : Int) then HT.lexLt (zz a) (zz b) else decide ((x : Int) < (y : Int))) = _
  by_cases h : x = y
  · rw [if_pos h, if_pos (by omega)]
  · rw [if_neg h, if_neg (by omega)]
    rw [decide_eq_decide]
    omega
theorem lex_trans : ∀ a b c : List Nat, HT.lexLt (zz a) (zz b) = true → HT.lexLt (zz b) (zz c) = true → HT.lexLt (zz a) (zz c) = true
  | [], [], _, h, _ => by cases h
  | _ :: _, [], _, h, _ => by cases h
  | [], _ :: _, [], _, h => by cases h
  | [], _ :: _, _ :: _, _, _ => rfl
  | _ :: _, _ :: _, [], _, h => by cases h
  | x :: a, y :: b, z :: c, h, k => by
    rw [lex_cons] at h k ⊢
    by_cases h1 : x = y
    · subst h1
      rw [if_pos rfl] at h
      by_cases h2 : x = z
      · subst h2
        rw [if_pos rfl] at k ⊢
        exact lex_trans a b c h k
      · rw [if_neg h2] at k ⊢
        exact k
    · rw [if_neg h1] at h
      have h := of_decide_eq_true h
      by_cases h2 : y = z
      · subst h2
        rw [if_neg h1]
        exact decide_eq_true h
      · rw [if_neg h2] at k
        have k := of_decide_eq_true k
        rw [if_neg (by omega)]
        exact decide_eq_true (by omega)
theorem lex_tot : ∀ a b : List Nat, HT.lexLt (zz a) (zz b) = false → HT.lexLt (zz b) (zz a) = false → a = b
  | [], [], _, _ => rfl
  | [], _ :: _, h, _ => by cases h
  | _ :: _, [], _, h => by cases h
  | x :: a, y :: b, h, k => by
    rw [lex_cons] at h k
    by_cases h1 : x = y
    · subst h1
      rw [if_pos rfl] at h k
      rw [lex_tot a b h k]
    · rw [if_neg h1] at h
      rw [if_neg (fun e => h1 e.symm)] at k
      have h := of_decide_eq_false h
      have k := of_decide_eq_false k
      omega
theorem lex_le_trans {a b c : List Nat} (h : HT.lexLt (zz b) (zz a) = false) (k : HT.lexLt (zz c) (zz b) = false) : HT.lexLt (zz c) (zz a) = false := by
  cases e : HT.lexLt (zz c) (zz a) with
  | false => rfl
  | true =>
    exfalso
    cases e2 : HT.lexLt (zz a) (zz b) with
    | true =>
      have := lex_trans c a b e e2
      rw [k] at this; cases this
    | false =>
      have := lex_tot a b e2 h
      subst this
      rw [k] at e; cases e
abbrev fl (p : Nat × List Nat) : List Nat := p.1 :: p.2
def ltP (p q : Nat × List Nat) : Bool := HT.lexLt (zz (fl p)) (zz (fl q))
def minP (a : Nat × List Nat) (l : List (Nat × List Nat)) : Nat × List Nat := l.foldl (fun a y => if ltP y a = true then y else a) a
theorem minP_spec : ∀ (l : List (Nat × List Nat)) (a : Nat × List Nat), minP a l ∈ a :: l ∧ ∀ y ∈ a :: l, ltP y (minP a l) = false
  | [], a => ⟨List.mem_singleton.mpr rfl, fun y hy => by rw [List.mem_singleton.mp hy]; exact lex_irr _⟩
  | b :: l, a => by
    have key : minP a (b :: l) = minP (if ltP b a = true then b else a) l := rfl
    rw [key]
    by_cases h : ltP b a = true
    · rw [if_pos h]
      obtain ⟨i1, i2⟩ := minP_spec l b
      refine ⟨List.mem_cons_of_mem _ i1, fun y hy => ?_⟩
      rcases List.mem_cons.mp hy with rfl | hy
      · have h1 := i2 b List.mem_cons_self
        exact lex_le_trans (b := fl b) h1 (lex_asym _ _ h)
      · exact i2 y hy
    · rw [if_neg h]
      obtain ⟨i1, i2⟩ := minP_spec l a
      refine ⟨?_, fun y hy => ?_⟩
      · rcases List.mem_cons.mp i1 with e | e
        · rw [e]; exact List.mem_cons_self
        · exact List.mem_cons_of_mem _ (List.mem_cons_of_mem _ e)
      · rcases List.mem_cons.mp hy with rfl | hy
        · exact i2 y List.mem_cons_self
        · rcases List.mem_cons.mp hy with rfl | hy
          · exact lex_le_trans (b := fl a) (i2 a List.mem_cons_self) (Bool.eq_false_iff.mpr h)
          · exact i2 y (List.mem_cons_of_mem _ hy)
section
variable {R S : Nat → Nat → Bool} {n : Nat}
def exA (S : Nat → Nat → Bool) (last : Option Nat) (x : Nat) : Nat := match last with
  | none => 0
  | some a => if S a x = true then 0 else 1
def costA (S : Nat → Nat → Bool) : Option Nat → List Nat → Nat
  | _, [] => 0
  | last, x :: t => costA S (some x) t + exA S last x
def bstK (R S : Nat → Nat → Bool) : Nat → List Nat → Option Nat → Nat × List Nat
  | 0, _, _ => (0, [])
  | k + 1, l, last => match (nx R l).map fun x => ((bstK R S k (wo l x) (some x)).1 + exA S last x, x :: (bstK R S k (wo l x) (some x)).2) with
    | [] => (0, [])
    | a :: r => minP a r
def bst (R S : Nat → Nat → Bool) (l : List Nat) (last : Option Nat) : Nat × List Nat := bstK R S l.length l last
theorem bst_nil (last : Option Nat) : bst R S [] last = (0, []) := rfl
def bstRows (R S : Nat → Nat → Bool) (l : List Nat) (last : Option Nat) : List (Nat × List Nat) := (nx R l).map fun x => ((bst R S (wo l x) (some x)).1 + exA S last x, x :: (bst R S (wo l x) (some x)).2)
theorem bst_eq {l : List Nat} (nd : l.Nodup) (ne : l ≠ []) (last : Option Nat) : bst R S l last = match bstRows R S l last with
    | [] => (0, [])
    | a :: r => minP a r := by
  unfold bst bstRows
  obtain ⟨k, hk⟩ : ∃ k, l.length = k + 1 := ⟨l.length - 1, by
    have := List.length_pos_iff.mpr ne
    omega⟩
  rw [hk]
  show (match (nx R l).map fun x => ((bstK R S k (wo l x) (some x)).1 + exA S last x, x :: (bstK R S k (wo l x) (some x)).2) with
    | [] => (0, [])
    | a :: r => minP a r) = _
  have e : ((nx R l).map fun x => ((bstK R S k (wo l x) (some x)).1 + exA S last x, x :: (bstK R S k (wo l x) (some x)).2)) = (nx R l).map fun x => ((bst R S (wo l x) (some x)).1 + exA S last x, x :: (bst R S (wo l x) (some x)).2) := List.map_congr_left fun x hx => by
    have := wo_len nd (nx_mem.mp hx).1
    unfold bst
    rw [show (wo l x).length = k by omega]
  rw [e]
theorem bst_spec (st : St R n) : ∀ (k : Nat) {l : List Nat} (last : Option Nat), l.length = k → l.Nodup → (∀ x ∈ l, x < n) →
    (bst R S l last).2 ∈ suf R l ∧ (bst R S l last).1 = costA S last (bst R S l last).2 ∧ ∀ o ∈ suf R l, ltP (costA S last o, o) (bst R S l last) = false
  | 0, l, last, h, _, _ => by
    rw [List.length_eq_zero_iff.mp h, suf_nil, bst_nil]
    refine ⟨List.mem_singleton.mpr rfl, rfl, fun o ho => ?_⟩
    rw [List.mem_singleton.mp ho]
    exact lex_irr _
  | k + 1, l, last, h, nd, hl => by
    have ne : l ≠ [] := fun e => by rw [e] at h; simp at h
    have ih := fun (x : Nat) (hx : x ∈ nx R l) => bst_spec st k (l := wo l x) (some x) (by have := wo_len nd (nx_mem.mp hx).1; omega) (wo_nd nd) fun y hy => hl y (wo_mem.mp hy).1
    have hne := nx_ne st hl ne
    obtain ⟨a, r, e⟩ : ∃ a r, bstRows R S l last = a :: r := by
      unfold bstRows
      cases h : nx R l with
      | nil => exact (hne h).elim
      | cons x t => exact ⟨_, _, rfl⟩
    have hb : bst R S l last = minP a r := by rw [bst_eq nd ne, e]
    obtain ⟨m1, m2⟩ := minP_spec r a
    rw [← e, ← hb] at m1 m2
    obtain ⟨x, hx, ex⟩ := List.mem_map.mp m1
    rw [suf_eq nd ne]
    obtain ⟨i1, i2, i3⟩ := ih x hx
    refine ⟨?_, ?_, fun o ho => ?_⟩
    · rw [← ex]
      exact List.mem_flatMap.mpr ⟨x, hx, List.mem_map.mpr ⟨_, i1, rfl⟩⟩
    · rw [← ex]
      show _ + _ = costA S (some x) _ + _
      rw [← i2]
    · obtain ⟨y, hy, ho⟩ := List.mem_flatMap.mp ho
      obtain ⟨t, ht, rfl⟩ := List.mem_map.mp ho
      obtain ⟨_, _, j3⟩ := ih y hy
      have h1 := m2 _ (List.mem_map.mpr ⟨y, hy, rfl⟩)
      have h2 := j3 t ht
      refine lex_le_trans (b := fl ((bst R S (wo l y) (some y)).1 + exA S last y, y :: (bst R S (wo l y) (some y)).2)) h1 ?_
      generalize bst R S (wo l y) (some y) = b at h2
      show HT.lexLt (zz ((costA S (some y) t + exA S last y) :: y :: t)) (zz ((b.1 + exA S last y) :: y :: b.2)) = false
      have h2 : HT.lexLt (zz (costA S (some y) t :: t)) (zz (b.1 :: b.2)) = false := h2
      rw [lex_cons] at h2
      rw [lex_cons]
      by_cases e : costA S (some y) t = b.1
      · rw [if_pos e] at h2
        rw [if_pos (by omega), lex_cons, if_pos rfl]
        exact h2
      · rw [if_neg e] at h2
        rw [if_neg (by omega)]
        have := of_decide_eq_false h2
        exact decide_eq_false (by omega)
theorem Gd.idx {s : List Nat} (h : Gd R n s) {a b : Nat} (ha : a < n) (hb : b ∈ s) (r : R a b = true) : s.idxOf a < s.idxOf b := by
  induction h with
  | nil => cases hb
  | @snoc s x g hx h1 h2 ih =>
    by_cases hs : b ∈ s
    · have hp := g.preds hs ha r
      rw [List.idxOf_append, if_pos hp, List.idxOf_append, if_pos hs]
      exact ih hs
    · have e : b = x := by
        rcases List.mem_append.mp hb with z | z
        · exact (hs z).elim
        · exact List.mem_singleton.mp z
      subst e
      have hp := h2 a ha r
      rw [List.idxOf_append, if_pos hp, List.idxOf_append, if_neg h1]
      have := List.idxOf_lt_length_iff.mpr hp
      omega
theorem mem_rows_any {l : List Nat} (hp : l.Perm (List.range n)) : l ∈ rows R n ↔ ∀ a b, a < n → b < n → R a b = true → l.idxOf a < l.idxOf b := by
  have hm : ∀ x, x ∈ l ↔ x < n := fun x => by rw [hp.mem_iff, List.mem_range]
  have nd : l.Nodup := hp.nodup_iff.mpr List.nodup_range
  constructor
  · intro h a b ha hb r
    exact (mem_rows.mp h).1.idx ha ((hm b).mpr hb) r
  · intro h
    refine mem_rows.mpr ⟨?_, by rw [hp.length_eq, List.length_range]⟩
    have key : ∀ k, k ≤ l.length → Gd R n (l.take k) := fun k => by
      induction k with
      | zero => exact fun _ => .nil
      | succ k ih =>
        intro hk
        rw [List.take_succ_eq_append_getElem (by omega)]
        have hkl : k < l.length := by omega
        have hx : l[k] < n := (hm _).mp (List.getElem_mem hkl)
        have hi : l.idxOf l[k] = k := List.Nodup.idxOf_getElem nd k hkl
        refine .snoc (ih (by omega)) hx (fun z => by have := idx_take z; omega) fun p hp' hr => ?_
        have := h p l[k] hp' hx hr
        exact take_idx (by omega) ((hm p).mpr hp')
    have := key l.length (Nat.le_refl _)
    rwa [List.take_length] at this
theorem rows_more (A : List (Nat × Nat)) : (rows (fun a b => R a b || decide ((a, b) ∈ A)) n).length = ((rows R n).filter fun s => A.all fun p => !decide (p.1 < n) || !decide (p.2 < n) || decide (s.idxOf p.1 < s.idxOf p.2)).length := by
  refine List.Perm.length_eq ((List.perm_ext_iff_of_nodup rows_nd (List.Pairwise.filter _ rows_nd)).mpr fun s => ?_)
  rw [List.mem_filter]
  constructor
  · intro h
    have hp := rows_perm h
    have h := (mem_rows_any hp).mp h
    refine ⟨(mem_rows_any hp).mpr fun a b ha hb r => h a b ha hb (by rw [r]; rfl), ?_⟩
    rw [List.all_eq_true]
    intro p hpA
    by_cases h1 : p.1 < n
    · by_cases h2 : p.2 < n
      · have := h p.1 p.2 h1 h2 (by rw [decide_eq_true hpA, Bool.or_true])
        rw [decide_eq_true this, Bool.or_true]
      · rw [decide_eq_false h2]; simp
    · rw [decide_eq_false h1]; simp
  · rintro ⟨h, k⟩
    have hp := rows_perm h
    have h := (mem_rows_any hp).mp h
    rw [List.all_eq_true] at k
    refine (mem_rows_any hp).mpr fun a b ha hb r => ?_
    rw [Bool.or_eq_true, decide_eq_true_eq] at r
    rcases r with r | r
    · exact h a b ha hb r
    · have := k (a, b) r
      rw [decide_eq_true ha, decide_eq_true hb] at this
      simpa using this
end
end Od
namespace Den
open PySem PySem.Spec PySem.W
theorem lex_dec : ∀ a b : List Int, HT.lexLt a b = decide (a < b)
  | [], [] => rfl
  | [], y :: b => by simp [HT.lexLt]
  | x :: a, [] => by simp [HT.lexLt]
  | x :: a, y :: b => by
    rw [HT.lexLt_cons, lex_dec a b]
    rw [Bool.eq_iff_iff, decide_eq_true_eq, List.cons_lt_cons_iff]
    by_cases h : x = y
    · subst h
      simp
    · simp [h]
def evP (p : Nat × List Nat) : D := .tuple [.int (p.1 : Int), nT p.2]
theorem alike_nT (a b : List Nat) : alike (nT a) (nT b) = true := by
  show alikeAll (a.map fun n : Nat => PyData.int (n : Int)) (b.map fun n : Nat => PyData.int (n : Int)) = true
  rw [nats_ints, nats_ints]
  exact PySem.W.alike_ints _ _
theorem alike_evP (p q : Nat × List Nat) : alike (evP p) (evP q) = true := by
  show alikeAll [.int (p.1 : Int), nT p.2] [.int (q.1 : Int), nT q.2] = true
  show (true && (alike (nT p.2) (nT q.2) && true)) = true
  rw [alike_nT]; rfl
theorem lt_evP (p q : Nat × List Nat) : dataLt (evP p) (evP q) = Od.ltP p q := by
  obtain ⟨c, o⟩ := p
  obtain ⟨d, u⟩ := q
  have h1 : alike (.int (c : Int)) (.int (d : Int)) = true := rfl
  show dataLt (.tuple [.int (c : Int), nT o]) (.tuple [.int (d : Int), nT u]) = HT.lexLt (Od.zz (c :: o)) (Od.zz (d :: u))
  rw [dataLt_pair h1 (alike_nT o u), Od.lex_cons]
  have e1 : PyData.eqv (.int (c : Int)) (.int (d : Int)) = decide (c = d) := Enc.eq (α := Nat) c d
  have e2 : PyData.eqv (nT o) (nT u) = decide (o = u) := by
    have := Enc.eq (α := Tu Nat) ⟨o⟩ ⟨u⟩
    rw [tu_eq] at this
    exact this
  have e3 : dataLt (nT o) (nT u) = HT.lexLt (Od.zz o) (Od.zz u) := by
    have h := dataLt_ints (Od.zz o) (Od.zz u)
    unfold rowLt at h
    show dataLt (.tuple (o.map fun n : Nat => PyData.int (n : Int))) (.tuple (u.map fun n : Nat => PyData.int (n : Int))) = _
    rw [dataLt_tuple, nats_ints, nats_ints, h, lex_dec]
  rw [e1, e2, e3, dataLt_int]
  by_cases h : c = d
  · subst h
    simp only [decide_true, if_true]
    by_cases h2 : o = u
    · subst h2
      simp only [decide_true, if_true]
      exact (Od.lex_irr o).symm
    · simp [h2]
  · rw [if_neg (by simpa using h), if_neg h, decide_eq_decide]
    omega
theorem evP_depth (p : Nat × List Nat) : (evP p).depth ≤ 3 := by
  have := (Enc.sh (Tu.mk p.2)).2
  have e : Enc.n (Tu Nat) = 1 := rfl
  rw [e] at this
  have this : (nT p.2).depth ≤ 1 := this
  show Nat.succ (max (PyData.int (p.1 : Int)).depth (max (nT p.2).depth 0)) ≤ 3
  have e2 : (PyData.int (p.1 : Int)).depth = 0 := rfl
  omega
theorem depthAll_le {n : Nat} : ∀ {ds : List D}, (∀ d ∈ ds, d.depth ≤ n) → PyData.depthAll ds ≤ n
  | [], _ => Nat.zero_le _
  | d :: ds, h => by
    show max d.depth (PyData.depthAll ds) ≤ n
    have := h d List.mem_cons_self
    have := depthAll_le fun x hx => h x (List.mem_cons_of_mem d hx)
    omega
theorem fold_evP : ∀ (l : List (Nat × List Nat)) (a : Nat × List Nat), (l.map evP).foldl (fun a y => if dataLt y a = true then y else a) (evP a) = evP (Od.minP a l)
  | [], a => rfl
  | b :: l, a => by
    rw [List.map_cons, List.foldl_cons, lt_evP]
    have : (if Od.ltP b a = true then evP b else evP a) = evP (if Od.ltP b a = true then b else a) := by split <;> rfl
    rw [this, fold_evP l]
    rfl
theorem min_evP (a : Nat × List Nat) (l : List (Nat × List Nat)) : minA [.list ((a :: l).map evP)] = .ok (evP (Od.minP a l)) := by
  have i0 : intsO ((a :: l).map evP) = none := rfl
  have al : alkB ((a :: l).map evP) = true := by
    unfold alkB
    rw [List.all_eq_true]
    intro x hx
    obtain ⟨p, _, rfl⟩ := List.mem_map.mp hx
    rw [Bool.and_eq_true, List.all_eq_true]
    refine ⟨fun y hy => ?_, rfl⟩
    obtain ⟨q, _, rfl⟩ := List.mem_map.mp hy
    exact alike_evP p q
  have hd : PyData.depthAll ((a :: l).map evP) ≤ 60 := depthAll_le fun d hd => by
    obtain ⟨p, _, rfl⟩ := List.mem_map.mp hd
    have := evP_depth p
    omega
  have hb : ((a :: l).map evP)[bestI ((a :: l).map evP)]? = some (evP (Od.minP a l)) := by
    have h := argBest_fold dataLt PyData.none (evP a) (l.map evP) (l.map evP).length (Nat.le_refl _)
    rw [List.take_length, fold_evP] at h
    have e : bestI ((a :: l).map evP) = argBest (fun i j => dataLt ((evP a :: l.map evP).getD i .none) ((evP a :: l.map evP).getD j .none)) (l.map evP).length := rfl
    rw [← e] at h
    obtain ⟨h1, h2⟩ := h
    have hlt : bestI ((a :: l).map evP) < ((a :: l).map evP).length := by
      rw [List.map_cons, List.length_cons]; exact Nat.lt_succ_of_le h1
    rw [List.getElem?_eq_getElem hlt]
    congr 1
    have h2' : ((a :: l).map evP).getD (bestI ((a :: l).map evP)) .none = evP (Od.minP a l) := h2
    rw [List.getD_eq_getElem?_getD, List.getElem?_eq_getElem hlt] at h2'
    exact h2'
  show (match intsO ((a :: l).map evP) with | some _ => Den.minD [.list ((a :: l).map evP)] | none => _) = _
  rw [i0]
  show (if _ then _ else _) = _
  rw [if_pos ⟨al, by simp, hd⟩, hb]
def oD : Option Nat → D
  | none => .none
  | some k => .int (k : Int)
def kLD (p : List Nat × Option Nat) : D := .tuple [nT p.1, oD p.2]
theorem nk_oD (a b : Option Nat) : nk (oD a) = nk (oD b) ↔ a = b := by
  cases a with
  | none =>
    cases b with
    | none => simp
    | some b =>
      show NestedKey.none = NestedKey.num (b : Int) ↔ _
      simp
  | some a =>
    cases b with
    | none =>
      show NestedKey.num (a : Int) = NestedKey.none ↔ _
      simp
    | some b =>
      show NestedKey.num (a : Int) = NestedKey.num (b : Int) ↔ _
      rw [NestedKey.num.injEq, Option.some.injEq]
      omega
theorem nk_kLD (a b : List Nat × Option Nat) : nk (kLD a) = nk (kLD b) ↔ a = b := by
  show NestedKey.tup [nk (nT a.1), nk (oD a.2)] = NestedKey.tup [nk (nT b.1), nk (oD b.2)] ↔ _
  rw [NestedKey.tup.injEq, List.cons.injEq, List.cons.injEq, nk_nT, nk_oD]
  simp [Prod.ext_iff]
theorem kOk_kLD (a : List Nat × Option Nat) : kOk (kLD a) = true := by
  have h1 : kPt (kLD a) = true := by
    show (kPt (nT a.1) && (kPt (oD a.2) && true)) = true
    have : kPt (nT a.1) = true := kPts_nat a.1
    rw [this]
    cases a.2 <;> rfl
  have h2 : (nk (kLD a)).depth ≤ 8 := by
    show (NestedKey.tup [nk (nT a.1), nk (oD a.2)]).depth ≤ 8
    have := dep_nat a.1
    have e : (nk (nT a.1)).depth ≤ 3 := by
      show (NestedKey.tup (nks (a.1.map fun n : Nat => PyData.int (n : Int)))).depth ≤ 3
      simp [NestedKey.depth]
      omega
    have e2 : (nk (oD a.2)).depth ≤ 1 := by
      cases a.2 with
      | none => show NestedKey.none.depth ≤ 1; simp [NestedKey.depth]
      | some k => show (NestedKey.num (k : Int)).depth ≤ 1; simp [NestedKey.depth]
    simp [NestedKey.depth, NestedKey.depthAll]
    omega
  unfold kOk
  rw [h1, decide_eq_true h2]
  rfl
section
variable {κ β : Type} [DecidableEq κ] {ek : κ → D} {ev : β → D}
theorem dsetS_any (inj : ∀ a b, nk (ek a) = nk (ek b) ↔ a = b) (ok : ∀ a, kOk (ek a) = true) {f : κ → β} {U : List κ} {t : List (κ × β)} (m : Memo f U t) (hU : U.length < big) {a : κ} (ha : a ∈ U) {ρ : Ro} {i : Nat} {fx gx : DE} (hf : fx ρ = .ok (ek a)) (hg : gx ρ = .ok (ev (f a))) (h : ρ[i]? = some (some (.dict (kvG ek ev t)))) :
    ∃ t', dsetS fx gx i ρ = .ok (.nx, ρ.set i (some (.dict (kvG ek ev t')))) ∧ Memo f U t' ∧ a ∈ t'.map (·.1) := by
  have hb : t.length < big := Nat.lt_of_le_of_lt m.len hU
  by_cases hk : a ∈ t.map (·.1)
  · refine ⟨t, ?_, m, hk⟩
    unfold dsetS
    rw [h]
    show (gx ρ >>= fun d => fx ρ >>= fun k => _) = _
    rw [hg, Rs.ok_bind, hf, Rs.ok_bind, if_pos ⟨ok a, by unfold kvG; rw [List.length_map]; exact hb⟩]
    have e : putKv (kvG ek ev t) (ek a) (ev (f a)) = kvG ek ev t := by
      unfold putKv
      have g : (Option.map (fun p : κ × β => ev p.2) (t.find? fun p => decide (p.1 = a))) = some _ := m.get (ev := ev) hk
      rw [getKv_kvG inj, g, Option.isSome_some, if_pos rfl]
      unfold kvG
      rw [List.map_map]
      refine List.map_congr_left fun p hp => ?_
      show (if nk (ek p.1) = nk (ek a) then (ek p.1, _) else _) = _
      by_cases z : p.1 = a
      · rw [if_pos ((inj _ _).mpr z), ← z, m.val p hp]
      · rw [if_neg fun q => z ((inj _ _).mp q)]
    rw [e]
  · exact ⟨t ++ [(a, f a)], dsetS_G inj ok (ev := ev) hf hg h hk hb, m.put ha hk, by simp⟩
end
end Den
namespace Od
def keysL (n : Nat) : List (List Nat × Option Nat) := (subs (List.range n)).flatMap fun l => (none :: (List.range n).map some).map fun o => (l, o)
theorem keysL_mem {n : Nat} {l : List Nat} (h : l.Sublist (List.range n)) {o : Option Nat} (ho : ∀ x, o = some x → x < n) : (l, o) ∈ keysL n := by
  refine List.mem_flatMap.mpr ⟨l, subs_mem h, List.mem_map.mpr ⟨o, ?_, rfl⟩⟩
  cases o with
  | none => exact List.mem_cons_self
  | some x => exact List.mem_cons_of_mem _ (List.mem_map.mpr ⟨x, List.mem_range.mpr (ho x rfl), rfl⟩)
theorem keysL_len {n : Nat} (hn : n ≤ 8) : (keysL n).length < Den.big := by
  have e : (keysL n).length = 2 ^ n * (n + 1) := by
    unfold keysL
    rw [List.length_flatMap]
    simp only [List.length_map, List.length_cons, List.length_range]
    have sc : ∀ (c : Nat) (L : List (List Nat)), (L.map fun _ => c).sum = L.length * c := fun c L => by
      induction L with
      | nil => simp
      | cons a L ih => rw [List.map_cons, List.sum_cons, ih, List.length_cons, Nat.succ_mul]; omega
    rw [sc, subs_len, List.length_range]
  have h1 : 2 ^ n ≤ 2 ^ 8 := Nat.pow_le_pow_right (by decide) hn
  have h2 := Nat.mul_le_mul h1 (show n + 1 ≤ 9 by omega)
  rw [e]
  exact Den.lt_big6 (by omega)
end Od
namespace Od
open Den
section
variable {R : Nat → Nat → Bool} {n : Nat}
theorem st_row {l : List Nat} (hp : l.Perm (List.range n)) (h : ∀ a b, a < n → b < n → R a b = true → l.idxOf a < l.idxOf b) : St R n := fun S hS => by
  obtain ⟨x, hx, sx, hmin⟩ := argmin (fun x => (l.idxOf x : Int)) S n hS
  refine ⟨x, hx, sx, fun p hpn sp hr => ?_⟩
  have h1 := hmin p hpn sp
  have h2 := h p x hpn hx hr
  omega
theorem idx_at {l : List Nat} (nd : l.Nodup) {i : Nat} (h : i < l.length) : l.idxOf l[i] = i := List.Nodup.idxOf_getElem nd i h
theorem pw_rows (irr : ∀ a, a < n → R a a = false) {l : List Nat} (hp : l.Perm (List.range n)) : l ∈ rows R n ↔ l.Pairwise fun x y => R y x = false := by
  have nd : l.Nodup := hp.nodup_iff.mpr List.nodup_range
  have hm : ∀ x, x ∈ l ↔ x < n := fun x => by rw [hp.mem_iff, List.mem_range]
  rw [mem_rows_any hp, List.pairwise_iff_getElem]
  constructor
  · intro h i j hi hj hij
    cases hr : R l[j] l[i] with
    | false => rfl
    | true =>
      have := h _ _ ((hm _).mp (List.getElem_mem hj)) ((hm _).mp (List.getElem_mem hi)) hr
      rw [idx_at nd hi, idx_at nd hj] at this
      omega
  · intro h a b ha hb hr
    have ia := List.idxOf_lt_length_iff.mpr ((hm a).mpr ha)
    have ib := List.idxOf_lt_length_iff.mpr ((hm b).mpr hb)
    apply Classical.byContradiction
    intro hlt
    have hne : l.idxOf b ≠ l.idxOf a := fun e => by
      have := idx_inj ((hm b).mpr hb) ((hm a).mpr ha) e
      subst this
      rw [irr _ ha] at hr; cases hr
    have := h (l.idxOf b) (l.idxOf a) ib ia (by omega)
    rw [List.getElem_idxOf ia, List.getElem_idxOf ib, hr] at this
    cases this
theorem swap_rows (irr : ∀ a, a < n → R a a = false) {pre post : List Nat} {a b : Nat} (h : pre ++ a :: b :: post ∈ rows R n) (hab : R a b = false) : pre ++ b :: a :: post ∈ rows R n := by
  have hp := rows_perm h
  have sw : (pre ++ b :: a :: post).Perm (pre ++ a :: b :: post) := (List.Perm.refl pre).append (.swap a b post)
  have h := (pw_rows irr hp).mp h
  refine (pw_rows irr (sw.trans hp)).mpr ?_
  rw [List.pairwise_append, List.pairwise_cons, List.pairwise_cons] at h ⊢
  obtain ⟨h1, ⟨h2, h3, h4⟩, h5⟩ := h
  refine ⟨h1, ⟨fun y hy => ?_, fun y hy => h2 y (List.mem_cons_of_mem _ hy), h4⟩, fun x hx y hy => h5 x hx y ?_⟩
  · rcases List.mem_cons.mp hy with rfl | hy
    · exact hab
    · exact h3 y hy
  · rcases List.mem_cons.mp hy with rfl | hy
    · exact List.mem_cons_of_mem _ List.mem_cons_self
    · rcases List.mem_cons.mp hy with rfl | hy
      · exact List.mem_cons_self
      · exact List.mem_cons_of_mem _ (List.mem_cons_of_mem _ hy)
theorem two_rows {l m : List Nat} (hl : l ∈ rows R n) (hm : m ∈ rows R n) (h : l ≠ m) : 2 ≤ (rows R n).length := by
  have := List.Nodup.length_le_of_subset (l₁ := [l, m]) (l₂ := rows R n) (by simp [h]) fun x hx => by
    simp only [List.mem_cons, List.not_mem_nil, or_false] at hx
    rcases hx with rfl | rfl
    · exact hl
    · exact hm
  simpa using this
theorem split2 {l : List Nat} {i : Nat} (h : i + 1 < l.length) : l = l.take i ++ l[i] :: l[i + 1] :: l.drop (i + 2) := by
  have h1 : l.drop i = l[i] :: l.drop (i + 1) := List.drop_eq_getElem_cons (by omega)
  have h2 : l.drop (i + 1) = l[i + 1] :: l.drop (i + 2) := List.drop_eq_getElem_cons h
  rw [← h2, ← h1, List.take_append_drop]
theorem swap_ne {pre post : List Nat} {a b : Nat} (h : a ≠ b) : pre ++ a :: b :: post ≠ pre ++ b :: a :: post := fun e => by
  have := List.append_cancel_left e
  injection this with e1 e2
  exact h e1
theorem halves (a b : Nat) (ha : a < n) (hb : b < n) (hne : a ≠ b) : ((rows R n).filter fun s => decide (s.idxOf a < s.idxOf b)).length + ((rows R n).filter fun s => decide (s.idxOf b < s.idxOf a)).length = (rows R n).length := by
  have e : ((rows R n).filter fun s => decide (s.idxOf b < s.idxOf a)) = (rows R n).filter fun s => !decide (s.idxOf a < s.idxOf b) := by
    refine List.filter_congr fun s hs => ?_
    obtain ⟨g, l⟩ := mem_rows.mp hs
    have : s.idxOf a ≠ s.idxOf b := fun e => hne (idx_inj (g.all l ha) (g.all l hb) e)
    rw [Bool.eq_iff_iff, decide_eq_true_eq, Bool.not_eq_true', decide_eq_false_iff_not]
    omega
  rw [e]
  generalize rows R n = L
  induction L with
  | nil => rfl
  | cons s L ih =>
    rw [List.filter_cons, List.filter_cons]
    cases decide (s.idxOf a < s.idxOf b) <;> simp <;> omega
end
end Od
namespace K15
open PySem PySem.Spec PyProof.Rows L2 Den
def top (i : Nat) : Stmt := PySem.Challenge.pw_panelorder_k15_whole_cutting.main.body.getD i (.Pass ⟨0, 0, 0, 0⟩)
def exs : List Str := ["InvalidPage", "InvalidNumber", "InvalidPart"]
def gls : List (Str × Cst) := [("SIZE", (.int 20)), ("MAX_PANELS", (.int 8))]
def bls : List Str := ["len", "all", "any", "max", "min", "tuple", "list", "sorted", "range", "isinstance", "enumerate", "int", "bool", "str", "set", "zip"]
def n0 : List Str := ["value", "least", "most"]
def g0 : Sg := ⟨n0, fun _ => false, gls, [], bls, fun _ => false, none⟩
def s0 : Ss := (.cons (.ret (.and (.isi .int (.var 0 "value" ⟨14, 22, 14, 27⟩) ⟨14, 11, 14, 21⟩ ⟨14, 29, 14, 32⟩ ⟨14, 11, 14, 33⟩) (.cons (.not (.isi .bool (.var 0 "value" ⟨14, 54, 14, 59⟩) ⟨14, 43, 14, 53⟩ ⟨14, 61, 14, 65⟩ ⟨14, 43, 14, 66⟩) ⟨14, 39, 14, 66⟩) (.cons (.chn .le .le (.var 1 "least" ⟨14, 73, 14, 78⟩) (.var 0 "value" ⟨14, 82, 14, 87⟩) (.var 2 "most" ⟨14, 91, 14, 95⟩) ⟨14, 73, 14, 95⟩) .nil)) ⟨14, 11, 14, 96⟩) ⟨14, 4, 14, 96⟩)
    .nil)
theorem py0 : s0.py = defBody (top 8) := by kernel_rfl
theorem ok0 : s0.ok g0 exs (defScope (top 8)) = true := by kernel_rfl
theorem sc0 : FnScope n0 ["value", "least", "most"] (defScope (top 8)) := scB_ok (by kernel_rfl)
def ds0 : List (List D → Rs D) := []
def d0 : List D → Rs D := defD (tbl ds0) 3 3 s0
def n1 : List Str := ["value", "part"]
def g1 : Sg := ⟨n1, fun _ => false, gls, [(("is_int" : Str), 3)], bls, fun _ => false, none⟩
def s1 : Ss := (.cons (.iff (.or (.not (.isi .tuple (.var 0 "value" ⟨16, 22, 16, 27⟩) ⟨16, 11, 16, 21⟩ ⟨16, 29, 16, 34⟩ ⟨16, 11, 16, 35⟩) ⟨16, 7, 16, 35⟩) (.cons (.cmp .ne (.prim .len ⟨16, 39, 16, 42⟩ (.var 0 "value" ⟨16, 43, 16, 48⟩) .nil ⟨16, 39, 16, 49⟩) (.cst (.int 4) 0 ⟨16, 53, 16, 54⟩) ⟨16, 39, 16, 54⟩) (.cons (.not (.prim .all ⟨16, 63, 16, 66⟩ (.comp (.call 0 "is_int" ⟨16, 68, 16, 74⟩ (.var 1 "part" ⟨16, 75, 16, 79⟩) (.cons (.cst (.int 0) 0 ⟨16, 81, 16, 82⟩) (.cons (.glo "SIZE" (.int 20) ⟨16, 84, 16, 88⟩) .nil)) ⟨16, 68, 16, 89⟩) (.nm 1 "part" ⟨16, 94, 16, 98⟩) (.seq (.var 0 "value" ⟨16, 102, 16, 107⟩)) .nil ⟨.function, [(".0", .local), ("part", .local), ("is_int", .globalImplicit), ("SIZE", .globalImplicit)], false, false, []⟩ [("part", 1)] ⟨16, 67, 16, 108⟩) .nil ⟨16, 63, 16, 109⟩) ⟨16, 59, 16, 109⟩) .nil)) ⟨16, 7, 16, 110⟩) (.cons (.ret (.cst (.bl false) 0 ⟨17, 15, 17, 20⟩) ⟨17, 8, 17, 20⟩)
    .nil) .nil ⟨16, 4, 17, 20⟩)
    (.cons (.ret (.and (.cmp .lt (.ix (.var 0 "value" ⟨18, 11, 18, 16⟩) (.cst (.int 0) 0 ⟨18, 17, 18, 18⟩) ⟨18, 11, 18, 19⟩) (.ix (.var 0 "value" ⟨18, 22, 18, 27⟩) (.cst (.int 2) 0 ⟨18, 28, 18, 29⟩) ⟨18, 22, 18, 30⟩) ⟨18, 11, 18, 30⟩) (.cons (.cmp .lt (.ix (.var 0 "value" ⟨18, 35, 18, 40⟩) (.cst (.int 1) 0 ⟨18, 41, 18, 42⟩) ⟨18, 35, 18, 43⟩) (.ix (.var 0 "value" ⟨18, 46, 18, 51⟩) (.cst (.int 3) 0 ⟨18, 52, 18, 53⟩) ⟨18, 46, 18, 54⟩) ⟨18, 35, 18, 54⟩) .nil) ⟨18, 11, 18, 54⟩) ⟨18, 4, 18, 54⟩)
    .nil))
theorem py1 : s1.py = defBody (top 9) := by kernel_rfl
theorem ok1 : s1.ok g1 exs (defScope (top 9)) = true := by kernel_rfl
theorem sc1 : FnScope n1 ["value"] (defScope (top 9)) := scB_ok (by kernel_rfl)
def ds1 : List (List D → Rs D) := [d0]
def d1 : List D → Rs D := defD (tbl ds1) 1 2 s1
def n2 : List Str := ["one", "other"]
def g2 : Sg := ⟨n2, fun _ => false, gls, [(("is_int" : Str), 3), (("is_panel" : Str), 1)], bls, fun _ => false, none⟩
def s2 : Ss := (.cons (.ret (.and (.cmp .lt (.ix (.var 0 "one" ⟨20, 11, 20, 14⟩) (.cst (.int 0) 0 ⟨20, 15, 20, 16⟩) ⟨20, 11, 20, 17⟩) (.ix (.var 1 "other" ⟨20, 20, 20, 25⟩) (.cst (.int 2) 0 ⟨20, 26, 20, 27⟩) ⟨20, 20, 20, 28⟩) ⟨20, 11, 20, 28⟩) (.cons (.cmp .lt (.ix (.var 1 "other" ⟨20, 33, 20, 38⟩) (.cst (.int 0) 0 ⟨20, 39, 20, 40⟩) ⟨20, 33, 20, 41⟩) (.ix (.var 0 "one" ⟨20, 44, 20, 47⟩) (.cst (.int 2) 0 ⟨20, 48, 20, 49⟩) ⟨20, 44, 20, 50⟩) ⟨20, 33, 20, 50⟩) .nil) ⟨20, 11, 20, 50⟩) ⟨20, 4, 20, 50⟩)
    .nil)
theorem py2 : s2.py = defBody (top 10) := by kernel_rfl
theorem ok2 : s2.ok g2 exs (defScope (top 10)) = true := by kernel_rfl
theorem sc2 : FnScope n2 ["one", "other"] (defScope (top 10)) := scB_ok (by kernel_rfl)
def ds2 : List (List D → Rs D) := [d0, d1]
def d2 : List D → Rs D := defD (tbl ds2) 2 2 s2
def n3 : List Str := ["one", "other"]
def g3 : Sg := ⟨n3, fun _ => false, gls, [(("is_int" : Str), 3), (("is_panel" : Str), 1), (("share_widths" : Str), 2)], bls, fun _ => false, none⟩
def s3 : Ss := (.cons (.ret (.and (.cmp .lt (.ix (.var 0 "one" ⟨22, 11, 22, 14⟩) (.cst (.int 1) 0 ⟨22, 15, 22, 16⟩) ⟨22, 11, 22, 17⟩) (.ix (.var 1 "other" ⟨22, 20, 22, 25⟩) (.cst (.int 3) 0 ⟨22, 26, 22, 27⟩) ⟨22, 20, 22, 28⟩) ⟨22, 11, 22, 28⟩) (.cons (.cmp .lt (.ix (.var 1 "other" ⟨22, 33, 22, 38⟩) (.cst (.int 1) 0 ⟨22, 39, 22, 40⟩) ⟨22, 33, 22, 41⟩) (.ix (.var 0 "one" ⟨22, 44, 22, 47⟩) (.cst (.int 3) 0 ⟨22, 48, 22, 49⟩) ⟨22, 44, 22, 50⟩) ⟨22, 33, 22, 50⟩) .nil) ⟨22, 11, 22, 50⟩) ⟨22, 4, 22, 50⟩)
    .nil)
theorem py3 : s3.py = defBody (top 11) := by kernel_rfl
theorem ok3 : s3.ok g3 exs (defScope (top 11)) = true := by kernel_rfl
theorem sc3 : FnScope n3 ["one", "other"] (defScope (top 11)) := scB_ok (by kernel_rfl)
def ds3 : List (List D → Rs D) := [d0, d1, d2]
def d3 : List D → Rs D := defD (tbl ds3) 2 2 s3
def n4 : List Str := ["candidate", "index", "one", "panel", "other"]
def g4 : Sg := ⟨n4, fun _ => false, gls, [(("is_int" : Str), 3), (("is_panel" : Str), 1), (("share_widths" : Str), 2), (("share_heights" : Str), 2)], bls, fun _ => false, none⟩
def s4 : Ss := (.cons (.iff (.or (.not (.isi .tuple (.var 0 "candidate" ⟨24, 22, 24, 31⟩) ⟨24, 11, 24, 21⟩ ⟨24, 33, 24, 38⟩ ⟨24, 11, 24, 39⟩) ⟨24, 7, 24, 39⟩) (.cons (.cmp .gt (.prim .len ⟨24, 43, 24, 46⟩ (.var 0 "candidate" ⟨24, 47, 24, 56⟩) .nil ⟨24, 43, 24, 57⟩) (.glo "MAX_PANELS" (.int 8) ⟨24, 60, 24, 70⟩) ⟨24, 43, 24, 70⟩) .nil) ⟨24, 7, 24, 70⟩) (.cons (.ret (.cst (.bl false) 0 ⟨25, 15, 25, 20⟩) ⟨25, 8, 25, 20⟩)
    .nil) .nil ⟨24, 4, 25, 20⟩)
    (.cons (.iff (.not (.prim .all ⟨26, 11, 26, 14⟩ (.comp (.call 1 "is_panel" ⟨26, 16, 26, 24⟩ (.var 3 "panel" ⟨26, 25, 26, 30⟩) .nil ⟨26, 16, 26, 31⟩) (.nm 3 "panel" ⟨26, 36, 26, 41⟩) (.seq (.var 0 "candidate" ⟨26, 45, 26, 54⟩)) .nil ⟨.function, [(".0", .local), ("panel", .local), ("is_panel", .globalImplicit)], false, false, []⟩ [("panel", 3)] ⟨26, 15, 26, 55⟩) .nil ⟨26, 11, 26, 56⟩) ⟨26, 7, 26, 56⟩) (.cons (.ret (.cst (.bl false) 0 ⟨27, 15, 27, 20⟩) ⟨27, 8, 27, 20⟩)
    .nil) .nil ⟨26, 4, 27, 20⟩)
    (.cons (.for (.tp [(1, "index", ⟨28, 8, 28, 13⟩), (2, "one", ⟨28, 15, 28, 18⟩)] 0 ⟨28, 8, 28, 18⟩) (.enu (.var 0 "candidate" ⟨28, 32, 28, 41⟩) ⟨28, 22, 28, 31⟩ ⟨28, 22, 28, 42⟩) (.cons (.iff (.prim .any ⟨29, 11, 29, 14⟩ (.comp (.and (.call 2 "share_widths" ⟨29, 16, 29, 28⟩ (.var 2 "one" ⟨29, 29, 29, 32⟩) (.cons (.var 4 "other" ⟨29, 34, 29, 39⟩) .nil) ⟨29, 16, 29, 40⟩) (.cons (.call 3 "share_heights" ⟨29, 45, 29, 58⟩ (.var 2 "one" ⟨29, 59, 29, 62⟩) (.cons (.var 4 "other" ⟨29, 64, 29, 69⟩) .nil) ⟨29, 45, 29, 70⟩) .nil) ⟨29, 16, 29, 70⟩) (.nm 4 "other" ⟨29, 75, 29, 80⟩) (.seq (.slo (.var 0 "candidate" ⟨29, 84, 29, 93⟩) (.bin .add (.var 1 "index" ⟨29, 94, 29, 99⟩) (.cst (.int 1) 0 ⟨29, 102, 29, 103⟩) ⟨29, 94, 29, 103⟩) ⟨29, 94, 29, 104⟩ ⟨29, 84, 29, 105⟩)) .nil ⟨.function, [(".0", .local), ("other", .local), ("share_widths", .globalImplicit), ("share_heights", .globalImplicit), ("one", .free)], false, false, []⟩ [("other", 4)] ⟨29, 15, 29, 106⟩) .nil ⟨29, 11, 29, 107⟩) (.cons (.ret (.cst (.bl false) 0 ⟨30, 19, 30, 24⟩) ⟨30, 12, 30, 24⟩)
    .nil) .nil ⟨29, 8, 30, 24⟩)
    .nil) ⟨28, 4, 30, 24⟩)
    (.cons (.ret (.cst (.bl true) 0 ⟨31, 11, 31, 15⟩) ⟨31, 4, 31, 15⟩)
    .nil))))
theorem py4 : s4.py = defBody (top 12) := by kernel_rfl
theorem ok4 : s4.ok g4 exs (defScope (top 12)) = true := by kernel_rfl
theorem sc4 : FnScope n4 ["candidate"] (defScope (top 12)) := scB_ok (by kernel_rfl)
def ds4 : List (List D → Rs D) := [d0, d1, d2, d3]
def d4 : List D → Rs D := defD (tbl ds4) 1 5 s4
def n5 : List Str := ["value"]
def g5 : Sg := ⟨n5, fun _ => false, gls, [(("is_int" : Str), 3), (("is_panel" : Str), 1), (("share_widths" : Str), 2), (("share_heights" : Str), 2), (("is_page" : Str), 1)], bls, fun _ => false, none⟩
def s5 : Ss := (.cons (.iff (.not (.call 4 "is_page" ⟨33, 11, 33, 18⟩ (.var 0 "value" ⟨33, 19, 33, 24⟩) .nil ⟨33, 11, 33, 25⟩) ⟨33, 7, 33, 25⟩) (.cons (.rse 0 "InvalidPage" ⟨34, 14, 34, 25⟩ "the value is not a page" 0 ⟨34, 26, 34, 51⟩ ⟨34, 14, 34, 52⟩ ⟨34, 8, 34, 52⟩)
    .nil) .nil ⟨33, 4, 34, 52⟩)
    .nil)
theorem py5 : s5.py = defBody (top 13) := by kernel_rfl
theorem ok5 : s5.ok g5 exs (defScope (top 13)) = true := by kernel_rfl
theorem sc5 : FnScope n5 ["value"] (defScope (top 13)) := scB_ok (by kernel_rfl)
def ds5 : List (List D → Rs D) := [d0, d1, d2, d3, d4]
def d5 : List D → Rs D := defD (tbl ds5) 1 1 s5
def n6 : List Str := ["value", "least", "most"]
def g6 : Sg := ⟨n6, fun _ => false, gls, [(("is_int" : Str), 3), (("is_panel" : Str), 1), (("share_widths" : Str), 2), (("share_heights" : Str), 2), (("is_page" : Str), 1), (("check_page" : Str), 1)], bls, fun _ => false, none⟩
def s6 : Ss := (.cons (.iff (.not (.call 0 "is_int" ⟨36, 11, 36, 17⟩ (.var 0 "value" ⟨36, 18, 36, 23⟩) (.cons (.var 1 "least" ⟨36, 25, 36, 30⟩) (.cons (.var 2 "most" ⟨36, 32, 36, 36⟩) .nil)) ⟨36, 11, 36, 37⟩) ⟨36, 7, 36, 37⟩) (.cons (.rse 1 "InvalidNumber" ⟨37, 14, 37, 27⟩ "the value is not an integer in the right range" 0 ⟨37, 28, 37, 76⟩ ⟨37, 14, 37, 77⟩ ⟨37, 8, 37, 77⟩)
    .nil) .nil ⟨36, 4, 37, 77⟩)
    .nil)
theorem py6 : s6.py = defBody (top 14) := by kernel_rfl
theorem ok6 : s6.ok g6 exs (defScope (top 14)) = true := by kernel_rfl
theorem sc6 : FnScope n6 ["value", "least", "most"] (defScope (top 14)) := scB_ok (by kernel_rfl)
def ds6 : List (List D → Rs D) := [d0, d1, d2, d3, d4, d5]
def d6 : List D → Rs D := defD (tbl ds6) 3 3 s6
def n7 : List Str := ["page", "one", "other", "left", "right"]
def g7 : Sg := ⟨n7, fun _ => false, gls, [(("is_int" : Str), 3), (("is_panel" : Str), 1), (("share_widths" : Str), 2), (("share_heights" : Str), 2), (("is_page" : Str), 1), (("check_page" : Str), 1), (("check_number" : Str), 3)], bls, fun _ => false, none⟩
def s7 : Ss := (.cons (.par [(3, "left", ⟨39, 4, 39, 8⟩), (4, "right", ⟨39, 10, 39, 15⟩)] 0 ⟨39, 4, 39, 15⟩ (.cons (.ix (.var 0 "page" ⟨39, 19, 39, 23⟩) (.var 1 "one" ⟨39, 24, 39, 27⟩) ⟨39, 19, 39, 28⟩) (.cons (.ix (.var 0 "page" ⟨39, 30, 39, 34⟩) (.var 2 "other" ⟨39, 35, 39, 40⟩) ⟨39, 30, 39, 41⟩) .nil)) 0 ⟨39, 18, 39, 42⟩ ⟨39, 4, 39, 42⟩)
    (.cons (.iff (.and (.cmp .le (.ix (.var 3 "left" ⟨40, 7, 40, 11⟩) (.cst (.int 2) 0 ⟨40, 12, 40, 13⟩) ⟨40, 7, 40, 14⟩) (.ix (.var 4 "right" ⟨40, 18, 40, 23⟩) (.cst (.int 0) 0 ⟨40, 24, 40, 25⟩) ⟨40, 18, 40, 26⟩) ⟨40, 7, 40, 26⟩) (.cons (.call 3 "share_heights" ⟨40, 31, 40, 44⟩ (.var 3 "left" ⟨40, 45, 40, 49⟩) (.cons (.var 4 "right" ⟨40, 51, 40, 56⟩) .nil) ⟨40, 31, 40, 57⟩) .nil) ⟨40, 7, 40, 57⟩) (.cons (.ret (.cst (.bl true) 0 ⟨41, 15, 41, 19⟩) ⟨41, 8, 41, 19⟩)
    .nil) .nil ⟨40, 4, 41, 19⟩)
    (.cons (.ret (.and (.cmp .le (.ix (.var 3 "left" ⟨42, 11, 42, 15⟩) (.cst (.int 3) 0 ⟨42, 16, 42, 17⟩) ⟨42, 11, 42, 18⟩) (.ix (.var 4 "right" ⟨42, 22, 42, 27⟩) (.cst (.int 1) 0 ⟨42, 28, 42, 29⟩) ⟨42, 22, 42, 30⟩) ⟨42, 11, 42, 30⟩) (.cons (.call 2 "share_widths" ⟨42, 35, 42, 47⟩ (.var 3 "left" ⟨42, 48, 42, 52⟩) (.cons (.var 4 "right" ⟨42, 54, 42, 59⟩) .nil) ⟨42, 35, 42, 60⟩) .nil) ⟨42, 11, 42, 60⟩) ⟨42, 4, 42, 60⟩)
    .nil)))
theorem py7 : s7.py = defBody (top 15) := by kernel_rfl
theorem ok7 : s7.ok g7 exs (defScope (top 15)) = true := by kernel_rfl
theorem sc7 : FnScope n7 ["page", "one", "other"] (defScope (top 15)) := scB_ok (by kernel_rfl)
def ds7 : List (List D → Rs D) := [d0, d1, d2, d3, d4, d5, d6]
def d7 : List D → Rs D := defD (tbl ds7) 3 5 s7
def n8 : List Str := ["page", "one", "other"]
def g8 : Sg := ⟨n8, fun _ => false, gls, [(("is_int" : Str), 3), (("is_panel" : Str), 1), (("share_widths" : Str), 2), (("share_heights" : Str), 2), (("is_page" : Str), 1), (("check_page" : Str), 1), (("check_number" : Str), 3), (("goes_before" : Str), 3)], bls, fun _ => false, none⟩
def s8 : Ss := (.cons (.expr (.call 5 "check_page" ⟨44, 4, 44, 14⟩ (.var 0 "page" ⟨44, 15, 44, 19⟩) .nil ⟨44, 4, 44, 20⟩) ⟨44, 4, 44, 20⟩)
    (.cons (.expr (.call 6 "check_number" ⟨45, 4, 45, 16⟩ (.var 1 "one" ⟨45, 17, 45, 20⟩) (.cons (.cst (.int 0) 0 ⟨45, 22, 45, 23⟩) (.cons (.bin .sub (.prim .len ⟨45, 25, 45, 28⟩ (.var 0 "page" ⟨45, 29, 45, 33⟩) .nil ⟨45, 25, 45, 34⟩) (.cst (.int 1) 0 ⟨45, 37, 45, 38⟩) ⟨45, 25, 45, 38⟩) .nil)) ⟨45, 4, 45, 39⟩) ⟨45, 4, 45, 39⟩)
    (.cons (.expr (.call 6 "check_number" ⟨46, 4, 46, 16⟩ (.var 2 "other" ⟨46, 17, 46, 22⟩) (.cons (.cst (.int 0) 0 ⟨46, 24, 46, 25⟩) (.cons (.bin .sub (.prim .len ⟨46, 27, 46, 30⟩ (.var 0 "page" ⟨46, 31, 46, 35⟩) .nil ⟨46, 27, 46, 36⟩) (.cst (.int 1) 0 ⟨46, 39, 46, 40⟩) ⟨46, 27, 46, 40⟩) .nil)) ⟨46, 4, 46, 41⟩) ⟨46, 4, 46, 41⟩)
    (.cons (.ret (.call 7 "goes_before" ⟨47, 11, 47, 22⟩ (.var 0 "page" ⟨47, 23, 47, 27⟩) (.cons (.var 1 "one" ⟨47, 29, 47, 32⟩) (.cons (.var 2 "other" ⟨47, 34, 47, 39⟩) .nil)) ⟨47, 11, 47, 40⟩) ⟨47, 4, 47, 40⟩)
    .nil))))
theorem py8 : s8.py = defBody (top 16) := by kernel_rfl
theorem ok8 : s8.ok g8 exs (defScope (top 16)) = true := by kernel_rfl
theorem sc8 : FnScope n8 ["page", "one", "other"] (defScope (top 16)) := scB_ok (by kernel_rfl)
def ds8 : List (List D → Rs D) := [d0, d1, d2, d3, d4, d5, d6, d7]
def d8 : List D → Rs D := defD (tbl ds8) 3 3 s8
def n9 : List Str := ["page", "numbers", "one", "other"]
def g9 : Sg := ⟨n9, fun _ => false, gls, [(("is_int" : Str), 3), (("is_panel" : Str), 1), (("share_widths" : Str), 2), (("share_heights" : Str), 2), (("is_page" : Str), 1), (("check_page" : Str), 1), (("check_number" : Str), 3), (("goes_before" : Str), 3), (("is_before" : Str), 3)], bls, fun _ => false, none⟩
def s9 : Ss := (.cons (.set 1 "numbers" ⟨49, 4, 49, 11⟩ (.lrng1 (.prim .len ⟨49, 25, 49, 28⟩ (.var 0 "page" ⟨49, 29, 49, 33⟩) .nil ⟨49, 25, 49, 34⟩) ⟨49, 14, 49, 18⟩ ⟨49, 19, 49, 24⟩ ⟨49, 19, 49, 35⟩ ⟨49, 14, 49, 36⟩) ⟨49, 4, 49, 36⟩)
    (.cons (.ret (.comp2 (.tup (.cons (.var 2 "one" ⟨50, 13, 50, 16⟩) (.cons (.var 3 "other" ⟨50, 18, 50, 23⟩) .nil)) 0 ⟨50, 12, 50, 24⟩) (.nm 2 "one" ⟨50, 29, 50, 32⟩) (.seq (.var 1 "numbers" ⟨50, 36, 50, 43⟩)) (.nm 3 "other" ⟨50, 48, 50, 53⟩) (.seq (.var 1 "numbers" ⟨50, 57, 50, 64⟩)) (.cons (.call 7 "goes_before" ⟨50, 68, 50, 79⟩ (.var 0 "page" ⟨50, 80, 50, 84⟩) (.cons (.var 2 "one" ⟨50, 86, 50, 89⟩) (.cons (.var 3 "other" ⟨50, 91, 50, 96⟩) .nil)) ⟨50, 68, 50, 97⟩) .nil) ⟨.function, [(".0", .local), ("one", .local), ("other", .local), ("goes_before", .globalImplicit), ("numbers", .free), ("page", .free)], false, false, []⟩ [("one", 2), ("other", 3)] ⟨50, 11, 50, 98⟩) ⟨50, 4, 50, 98⟩)
    .nil))
theorem py9 : s9.py = defBody (top 17) := by kernel_rfl
theorem ok9 : s9.ok g9 exs (defScope (top 17)) = true := by kernel_rfl
theorem sc9 : FnScope n9 ["page"] (defScope (top 17)) := scB_ok (by kernel_rfl)
def ds9 : List (List D → Rs D) := [d0, d1, d2, d3, d4, d5, d6, d7, d8]
def d9 : List D → Rs D := defD (tbl ds9) 1 4 s9
def n10 : List Str := ["page", "part", "low", "found", "line", "is_clear", "number"]
def g10 : Sg := ⟨n10, fun i => i == 3, gls, [(("is_int" : Str), 3), (("is_panel" : Str), 1), (("share_widths" : Str), 2), (("share_heights" : Str), 2), (("is_page" : Str), 1), (("check_page" : Str), 1), (("check_number" : Str), 3), (("goes_before" : Str), 3), (("is_before" : Str), 3), (("find_pairs" : Str), 1)], bls, fun _ => false, none⟩
def s10 : Ss := (.cons (.set 3 "found" ⟨53, 4, 53, 9⟩ (.lst .nil ⟨53, 12, 53, 14⟩) ⟨53, 4, 53, 14⟩)
    (.cons (.for (.nm 4 "line" ⟨54, 8, 54, 12⟩) (.seq (.srts (.comp (.ix (.ix (.var 0 "page" ⟨54, 28, 54, 32⟩) (.var 6 "number" ⟨54, 33, 54, 39⟩) ⟨54, 28, 54, 40⟩) (.var 2 "low" ⟨54, 41, 54, 44⟩) ⟨54, 28, 54, 45⟩) (.nm 6 "number" ⟨54, 50, 54, 56⟩) (.seq (.var 1 "part" ⟨54, 60, 54, 64⟩)) .nil ⟨.function, [(".0", .local), ("number", .local), ("low", .free), ("page", .free)], false, false, []⟩ [("number", 6)] ⟨54, 27, 54, 65⟩) ⟨54, 16, 54, 22⟩ ⟨54, 23, 54, 26⟩ ⟨54, 23, 54, 66⟩ ⟨54, 16, 54, 67⟩)) (.cons (.set 5 "is_clear" ⟨55, 8, 55, 16⟩ (.prim .all ⟨55, 19, 55, 22⟩ (.comp (.or (.cmp .le (.ix (.ix (.var 0 "page" ⟨55, 24, 55, 28⟩) (.var 6 "number" ⟨55, 29, 55, 35⟩) ⟨55, 24, 55, 36⟩) (.bin .add (.var 2 "low" ⟨55, 37, 55, 40⟩) (.cst (.int 2) 0 ⟨55, 43, 55, 44⟩) ⟨55, 37, 55, 44⟩) ⟨55, 24, 55, 45⟩) (.var 4 "line" ⟨55, 49, 55, 53⟩) ⟨55, 24, 55, 53⟩) (.cons (.cmp .ge (.ix (.ix (.var 0 "page" ⟨55, 57, 55, 61⟩) (.var 6 "number" ⟨55, 62, 55, 68⟩) ⟨55, 57, 55, 69⟩) (.var 2 "low" ⟨55, 70, 55, 73⟩) ⟨55, 57, 55, 74⟩) (.var 4 "line" ⟨55, 78, 55, 82⟩) ⟨55, 57, 55, 82⟩) .nil) ⟨55, 24, 55, 82⟩) (.nm 6 "number" ⟨55, 87, 55, 93⟩) (.seq (.var 1 "part" ⟨55, 97, 55, 101⟩)) .nil ⟨.function, [(".0", .local), ("number", .local), ("line", .free), ("low", .free), ("page", .free)], false, false, []⟩ [("number", 6)] ⟨55, 23, 55, 102⟩) .nil ⟨55, 19, 55, 103⟩) ⟨55, 8, 55, 103⟩)
    (.cons (.iff (.and (.var 5 "is_clear" ⟨56, 11, 56, 19⟩) (.cons (.prim .any ⟨56, 24, 56, 27⟩ (.comp (.cmp .le (.ix (.ix (.var 0 "page" ⟨56, 29, 56, 33⟩) (.var 6 "number" ⟨56, 34, 56, 40⟩) ⟨56, 29, 56, 41⟩) (.bin .add (.var 2 "low" ⟨56, 42, 56, 45⟩) (.cst (.int 2) 0 ⟨56, 48, 56, 49⟩) ⟨56, 42, 56, 49⟩) ⟨56, 29, 56, 50⟩) (.var 4 "line" ⟨56, 54, 56, 58⟩) ⟨56, 29, 56, 58⟩) (.nm 6 "number" ⟨56, 63, 56, 69⟩) (.seq (.var 1 "part" ⟨56, 73, 56, 77⟩)) .nil ⟨.function, [(".0", .local), ("number", .local), ("line", .free), ("low", .free), ("page", .free)], false, false, []⟩ [("number", 6)] ⟨56, 28, 56, 78⟩) .nil ⟨56, 24, 56, 79⟩) .nil) ⟨56, 11, 56, 79⟩) (.cons (.app 3 "found" ⟨57, 12, 57, 17⟩ ⟨57, 12, 57, 24⟩ ⟨57, 12, 57, 30⟩ (.var 4 "line" ⟨57, 25, 57, 29⟩) ⟨57, 12, 57, 30⟩)
    .nil) .nil ⟨56, 8, 57, 30⟩)
    .nil)) ⟨54, 4, 57, 30⟩)
    (.cons (.retO 3 "found" ⟨58, 11, 58, 16⟩ ⟨58, 4, 58, 16⟩)
    .nil)))
theorem py10 : s10.py = defBody (top 19) := by kernel_rfl
theorem ok10 : s10.ok g10 exs (defScope (top 19)) = true := by kernel_rfl
theorem sc10 : FnScope n10 ["page", "part", "low"] (defScope (top 19)) := scB_ok (by kernel_rfl)
def ds10 : List (List D → Rs D) := [d0, d1, d2, d3, d4, d5, d6, d7, d8, d9]
def d10 : List D → Rs D := defD (tbl ds10) 3 7 s10
def n11 : List Str := ["page", "part", "low", "found", "rest", "line", "number"]
def g11 : Sg := ⟨n11, fun i => i == 3, gls, [(("is_int" : Str), 3), (("is_panel" : Str), 1), (("share_widths" : Str), 2), (("share_heights" : Str), 2), (("is_page" : Str), 1), (("check_page" : Str), 1), (("check_number" : Str), 3), (("goes_before" : Str), 3), (("is_before" : Str), 3), (("find_pairs" : Str), 1), (("find_cuts" : Str), 3)], bls, fun _ => false, none⟩
def s11 : Ss := (.cons (.par [(3, "found", ⟨60, 4, 60, 9⟩), (4, "rest", ⟨60, 11, 60, 15⟩)] 0 ⟨60, 4, 60, 15⟩ (.cons (.lst .nil ⟨60, 19, 60, 21⟩) (.cons (.var 1 "part" ⟨60, 23, 60, 27⟩) .nil)) 0 ⟨60, 18, 60, 28⟩ ⟨60, 4, 60, 28⟩)
    (.cons (.for (.nm 5 "line" ⟨61, 8, 61, 12⟩) (.seq (.call 10 "find_cuts" ⟨61, 16, 61, 25⟩ (.var 0 "page" ⟨61, 26, 61, 30⟩) (.cons (.var 1 "part" ⟨61, 32, 61, 36⟩) (.cons (.var 2 "low" ⟨61, 38, 61, 41⟩) .nil)) ⟨61, 16, 61, 42⟩)) (.cons (.app 3 "found" ⟨62, 8, 62, 13⟩ ⟨62, 8, 62, 20⟩ ⟨62, 8, 62, 89⟩ (.prim .tuple ⟨62, 21, 62, 26⟩ (.comp (.var 6 "number" ⟨62, 28, 62, 34⟩) (.nm 6 "number" ⟨62, 39, 62, 45⟩) (.seq (.var 4 "rest" ⟨62, 49, 62, 53⟩)) (.cons (.cmp .le (.ix (.ix (.var 0 "page" ⟨62, 57, 62, 61⟩) (.var 6 "number" ⟨62, 62, 62, 68⟩) ⟨62, 57, 62, 69⟩) (.bin .add (.var 2 "low" ⟨62, 70, 62, 73⟩) (.cst (.int 2) 0 ⟨62, 76, 62, 77⟩) ⟨62, 70, 62, 77⟩) ⟨62, 57, 62, 78⟩) (.var 5 "line" ⟨62, 82, 62, 86⟩) ⟨62, 57, 62, 86⟩) .nil) ⟨.function, [(".0", .local), ("number", .local), ("line", .free), ("low", .free), ("page", .free)], false, false, []⟩ [("number", 6)] ⟨62, 27, 62, 87⟩) .nil ⟨62, 21, 62, 88⟩) ⟨62, 8, 62, 89⟩)
    (.cons (.set 4 "rest" ⟨63, 8, 63, 12⟩ (.prim .tuple ⟨63, 15, 63, 20⟩ (.comp (.var 6 "number" ⟨63, 22, 63, 28⟩) (.nm 6 "number" ⟨63, 33, 63, 39⟩) (.seq (.var 4 "rest" ⟨63, 43, 63, 47⟩)) (.cons (.cmp .ge (.ix (.ix (.var 0 "page" ⟨63, 51, 63, 55⟩) (.var 6 "number" ⟨63, 56, 63, 62⟩) ⟨63, 51, 63, 63⟩) (.var 2 "low" ⟨63, 64, 63, 67⟩) ⟨63, 51, 63, 68⟩) (.var 5 "line" ⟨63, 72, 63, 76⟩) ⟨63, 51, 63, 76⟩) .nil) ⟨.function, [(".0", .local), ("number", .local), ("line", .free), ("low", .free), ("page", .free)], false, false, []⟩ [("number", 6)] ⟨63, 21, 63, 77⟩) .nil ⟨63, 15, 63, 78⟩) ⟨63, 8, 63, 78⟩)
    .nil)) ⟨61, 4, 63, 78⟩)
    (.cons (.ret (.bin .add (.var 3 "found" ⟨64, 11, 64, 16⟩) (.lst (.cons (.var 4 "rest" ⟨64, 20, 64, 24⟩) .nil) ⟨64, 19, 64, 25⟩) ⟨64, 11, 64, 25⟩) ⟨64, 4, 64, 25⟩)
    .nil)))
theorem py11 : s11.py = defBody (top 20) := by kernel_rfl
theorem ok11 : s11.ok g11 exs (defScope (top 20)) = true := by kernel_rfl
theorem sc11 : FnScope n11 ["page", "part", "low"] (defScope (top 20)) := scB_ok (by kernel_rfl)
def ds11 : List (List D → Rs D) := [d0, d1, d2, d3, d4, d5, d6, d7, d8, d9, d10]
def d11 : List D → Rs D := defD (tbl ds11) 3 7 s11
def n12 : List Str := ["page", "value", "one", "other"]
def g12 : Sg := ⟨n12, fun _ => false, gls, [(("is_int" : Str), 3), (("is_panel" : Str), 1), (("share_widths" : Str), 2), (("share_heights" : Str), 2), (("is_page" : Str), 1), (("check_page" : Str), 1), (("check_number" : Str), 3), (("goes_before" : Str), 3), (("is_before" : Str), 3), (("find_pairs" : Str), 1), (("find_cuts" : Str), 3), (("find_parts" : Str), 3)], bls, fun _ => false, none⟩
def s12 : Ss := (.cons (.expr (.call 5 "check_page" ⟨66, 4, 66, 14⟩ (.var 0 "page" ⟨66, 15, 66, 19⟩) .nil ⟨66, 4, 66, 20⟩) ⟨66, 4, 66, 20⟩)
    (.cons (.iff (.or (.not (.isi .tuple (.var 1 "value" ⟨67, 22, 67, 27⟩) ⟨67, 11, 67, 21⟩ ⟨67, 29, 67, 34⟩ ⟨67, 11, 67, 35⟩) ⟨67, 7, 67, 35⟩) (.cons (.cmp .eq (.var 1 "value" ⟨67, 39, 67, 44⟩) (.tup .nil 0 ⟨67, 48, 67, 50⟩) ⟨67, 39, 67, 50⟩) (.cons (.not (.prim .all ⟨67, 59, 67, 62⟩ (.comp (.call 0 "is_int" ⟨67, 64, 67, 70⟩ (.var 2 "one" ⟨67, 71, 67, 74⟩) (.cons (.cst (.int 0) 0 ⟨67, 76, 67, 77⟩) (.cons (.bin .sub (.prim .len ⟨67, 79, 67, 82⟩ (.var 0 "page" ⟨67, 83, 67, 87⟩) .nil ⟨67, 79, 67, 88⟩) (.cst (.int 1) 0 ⟨67, 91, 67, 92⟩) ⟨67, 79, 67, 92⟩) .nil)) ⟨67, 64, 67, 93⟩) (.nm 2 "one" ⟨67, 98, 67, 101⟩) (.seq (.var 1 "value" ⟨67, 105, 67, 110⟩)) .nil ⟨.function, [(".0", .local), ("one", .local), ("is_int", .globalImplicit), ("len", .globalImplicit), ("page", .free)], false, false, []⟩ [("one", 2)] ⟨67, 63, 67, 111⟩) .nil ⟨67, 59, 67, 112⟩) ⟨67, 55, 67, 112⟩) .nil)) ⟨67, 7, 67, 113⟩) (.cons (.rse 2 "InvalidPart" ⟨68, 14, 68, 25⟩ "the value is not a tuple of numbers of panels" 0 ⟨68, 26, 68, 73⟩ ⟨68, 14, 68, 74⟩ ⟨68, 8, 68, 74⟩)
    .nil) .nil ⟨67, 4, 68, 74⟩)
    (.cons (.iff (.not (.prim .all ⟨69, 11, 69, 14⟩ (.comp (.cmp .lt (.var 2 "one" ⟨69, 16, 69, 19⟩) (.var 3 "other" ⟨69, 22, 69, 27⟩) ⟨69, 16, 69, 27⟩) (.tp [(2, "one", ⟨69, 32, 69, 35⟩), (3, "other", ⟨69, 37, 69, 42⟩)] 0 ⟨69, 32, 69, 42⟩) (.zip (.var 1 "value" ⟨69, 50, 69, 55⟩) (.slo (.var 1 "value" ⟨69, 57, 69, 62⟩) (.cst (.int 1) 0 ⟨69, 63, 69, 64⟩) ⟨69, 63, 69, 65⟩ ⟨69, 57, 69, 66⟩) ⟨69, 46, 69, 49⟩ ⟨69, 46, 69, 67⟩) .nil ⟨.function, [(".0", .local), ("one", .local), ("other", .local)], false, false, []⟩ [("one", 2), ("other", 3)] ⟨69, 15, 69, 68⟩) .nil ⟨69, 11, 69, 69⟩) ⟨69, 7, 69, 69⟩) (.cons (.rse 2 "InvalidPart" ⟨70, 14, 70, 25⟩ "the numbers are not ascending" 0 ⟨70, 26, 70, 57⟩ ⟨70, 14, 70, 58⟩ ⟨70, 8, 70, 58⟩)
    .nil) .nil ⟨69, 4, 70, 58⟩)
    .nil)))
theorem py12 : s12.py = defBody (top 21) := by kernel_rfl
theorem ok12 : s12.ok g12 exs (defScope (top 21)) = true := by kernel_rfl
theorem sc12 : FnScope n12 ["page", "value"] (defScope (top 21)) := scB_ok (by kernel_rfl)
def ds12 : List (List D → Rs D) := [d0, d1, d2, d3, d4, d5, d6, d7, d8, d9, d10, d11]
def d12 : List D → Rs D := defD (tbl ds12) 2 4 s12
def n13 : List Str := ["page", "part"]
def g13 : Sg := ⟨n13, fun _ => false, gls, [(("is_int" : Str), 3), (("is_panel" : Str), 1), (("share_widths" : Str), 2), (("share_heights" : Str), 2), (("is_page" : Str), 1), (("check_page" : Str), 1), (("check_number" : Str), 3), (("goes_before" : Str), 3), (("is_before" : Str), 3), (("find_pairs" : Str), 1), (("find_cuts" : Str), 3), (("find_parts" : Str), 3), (("check_part" : Str), 2)], bls, fun _ => false, none⟩
def s13 : Ss := (.cons (.expr (.call 12 "check_part" ⟨72, 4, 72, 14⟩ (.var 0 "page" ⟨72, 15, 72, 19⟩) (.cons (.var 1 "part" ⟨72, 21, 72, 25⟩) .nil) ⟨72, 4, 72, 26⟩) ⟨72, 4, 72, 26⟩)
    (.cons (.ret (.call 11 "find_parts" ⟨73, 11, 73, 21⟩ (.var 0 "page" ⟨73, 22, 73, 26⟩) (.cons (.var 1 "part" ⟨73, 28, 73, 32⟩) (.cons (.cst (.int 1) 0 ⟨73, 34, 73, 35⟩) .nil)) ⟨73, 11, 73, 36⟩) ⟨73, 4, 73, 36⟩)
    .nil))
theorem py13 : s13.py = defBody (top 22) := by kernel_rfl
theorem ok13 : s13.ok g13 exs (defScope (top 22)) = true := by kernel_rfl
theorem sc13 : FnScope n13 ["page", "part"] (defScope (top 22)) := scB_ok (by kernel_rfl)
def ds13 : List (List D → Rs D) := [d0, d1, d2, d3, d4, d5, d6, d7, d8, d9, d10, d11, d12]
def d13 : List D → Rs D := defD (tbl ds13) 2 2 s13
def n14 : List Str := ["page", "part"]
def g14 : Sg := ⟨n14, fun _ => false, gls, [(("is_int" : Str), 3), (("is_panel" : Str), 1), (("share_widths" : Str), 2), (("share_heights" : Str), 2), (("is_page" : Str), 1), (("check_page" : Str), 1), (("check_number" : Str), 3), (("goes_before" : Str), 3), (("is_before" : Str), 3), (("find_pairs" : Str), 1), (("find_cuts" : Str), 3), (("find_parts" : Str), 3), (("check_part" : Str), 2), (("row_parts" : Str), 2)], bls, fun _ => false, none⟩
def s14 : Ss := (.cons (.expr (.call 12 "check_part" ⟨75, 4, 75, 14⟩ (.var 0 "page" ⟨75, 15, 75, 19⟩) (.cons (.var 1 "part" ⟨75, 21, 75, 25⟩) .nil) ⟨75, 4, 75, 26⟩) ⟨75, 4, 75, 26⟩)
    (.cons (.ret (.call 11 "find_parts" ⟨76, 11, 76, 21⟩ (.var 0 "page" ⟨76, 22, 76, 26⟩) (.cons (.var 1 "part" ⟨76, 28, 76, 32⟩) (.cons (.cst (.int 0) 0 ⟨76, 34, 76, 35⟩) .nil)) ⟨76, 11, 76, 36⟩) ⟨76, 4, 76, 36⟩)
    .nil))
theorem py14 : s14.py = defBody (top 23) := by kernel_rfl
theorem ok14 : s14.ok g14 exs (defScope (top 23)) = true := by kernel_rfl
theorem sc14 : FnScope n14 ["page", "part"] (defScope (top 23)) := scB_ok (by kernel_rfl)
def ds14 : List (List D → Rs D) := [d0, d1, d2, d3, d4, d5, d6, d7, d8, d9, d10, d11, d12, d13]
def d14 : List D → Rs D := defD (tbl ds14) 2 2 s14
def n15 : List Str := ["page", "part", "low", "parts", "found", "one", "order", "stuck"]
def g15 : Sg := ⟨n15, fun _ => false, gls, [(("is_int" : Str), 3), (("is_panel" : Str), 1), (("share_widths" : Str), 2), (("share_heights" : Str), 2), (("is_page" : Str), 1), (("check_page" : Str), 1), (("check_number" : Str), 3), (("goes_before" : Str), 3), (("is_before" : Str), 3), (("find_pairs" : Str), 1), (("find_cuts" : Str), 3), (("find_parts" : Str), 3), (("check_part" : Str), 2), (("row_parts" : Str), 2), (("column_parts" : Str), 2), (("read_part" : Str), 3)], bls, fun _ => false, none⟩
def s15 : Ss := (.cons (.iff (.cmp .lt (.prim .len ⟨78, 7, 78, 10⟩ (.var 1 "part" ⟨78, 11, 78, 15⟩) .nil ⟨78, 7, 78, 16⟩) (.cst (.int 2) 0 ⟨78, 19, 78, 20⟩) ⟨78, 7, 78, 20⟩) (.cons (.ret (.tup (.cons (.var 1 "part" ⟨79, 16, 79, 20⟩) (.cons (.cst .non 0 ⟨79, 22, 79, 26⟩) .nil)) 0 ⟨79, 15, 79, 27⟩) ⟨79, 8, 79, 27⟩)
    .nil) .nil ⟨78, 4, 79, 27⟩)
    (.cons (.set 3 "parts" ⟨80, 4, 80, 9⟩ (.call 11 "find_parts" ⟨80, 12, 80, 22⟩ (.var 0 "page" ⟨80, 23, 80, 27⟩) (.cons (.var 1 "part" ⟨80, 29, 80, 33⟩) (.cons (.var 2 "low" ⟨80, 35, 80, 38⟩) .nil)) ⟨80, 12, 80, 39⟩) ⟨80, 4, 80, 39⟩)
    (.cons (.iff (.cmp .eq (.prim .len ⟨81, 7, 81, 10⟩ (.var 3 "parts" ⟨81, 11, 81, 16⟩) .nil ⟨81, 7, 81, 17⟩) (.cst (.int 1) 0 ⟨81, 21, 81, 22⟩) ⟨81, 7, 81, 22⟩) (.cons (.set 3 "parts" ⟨82, 8, 82, 13⟩ (.call 11 "find_parts" ⟨82, 16, 82, 26⟩ (.var 0 "page" ⟨82, 27, 82, 31⟩) (.cons (.var 1 "part" ⟨82, 33, 82, 37⟩) (.cons (.bin .sub (.cst (.int 1) 0 ⟨82, 39, 82, 40⟩) (.var 2 "low" ⟨82, 43, 82, 46⟩) ⟨82, 39, 82, 46⟩) .nil)) ⟨82, 16, 82, 47⟩) ⟨82, 8, 82, 47⟩)
    .nil) .nil ⟨81, 4, 82, 47⟩)
    (.cons (.iff (.cmp .eq (.prim .len ⟨83, 7, 83, 10⟩ (.var 3 "parts" ⟨83, 11, 83, 16⟩) .nil ⟨83, 7, 83, 17⟩) (.cst (.int 1) 0 ⟨83, 21, 83, 22⟩) ⟨83, 7, 83, 22⟩) (.cons (.ret (.tup (.cons (.tup .nil 0 ⟨84, 16, 84, 18⟩) (.cons (.var 1 "part" ⟨84, 20, 84, 24⟩) .nil)) 0 ⟨84, 15, 84, 25⟩) ⟨84, 8, 84, 25⟩)
    .nil) .nil ⟨83, 4, 84, 25⟩)
    (.cons (.set 4 "found" ⟨85, 4, 85, 9⟩ (.tup .nil 0 ⟨85, 12, 85, 14⟩) ⟨85, 4, 85, 14⟩)
    (.cons (.for (.nm 5 "one" ⟨86, 8, 86, 11⟩) (.seq (.var 3 "parts" ⟨86, 15, 86, 20⟩)) (.cons (.asg [(6, "order", ⟨87, 8, 87, 13⟩), (7, "stuck", ⟨87, 15, 87, 20⟩)] 0 ⟨87, 8, 87, 20⟩ (.call 15 "read_part" ⟨87, 23, 87, 32⟩ (.var 0 "page" ⟨87, 33, 87, 37⟩) (.cons (.var 5 "one" ⟨87, 39, 87, 42⟩) (.cons (.var 2 "low" ⟨87, 44, 87, 47⟩) .nil)) ⟨87, 23, 87, 48⟩) ⟨87, 8, 87, 48⟩)
    (.cons (.iff (.cmp .isnot (.var 7 "stuck" ⟨88, 11, 88, 16⟩) (.cst .non 0 ⟨88, 24, 88, 28⟩) ⟨88, 11, 88, 28⟩) (.cons (.ret (.tup (.cons (.tup .nil 0 ⟨89, 20, 89, 22⟩) (.cons (.var 7 "stuck" ⟨89, 24, 89, 29⟩) .nil)) 0 ⟨89, 19, 89, 30⟩) ⟨89, 12, 89, 30⟩)
    .nil) .nil ⟨88, 8, 89, 30⟩)
    (.cons (.set 4 "found" ⟨90, 8, 90, 13⟩ (.bin .add (.var 4 "found" ⟨90, 16, 90, 21⟩) (.var 6 "order" ⟨90, 24, 90, 29⟩) ⟨90, 16, 90, 29⟩) ⟨90, 8, 90, 29⟩)
    .nil))) ⟨86, 4, 90, 29⟩)
    (.cons (.ret (.tup (.cons (.var 4 "found" ⟨91, 12, 91, 17⟩) (.cons (.cst .non 0 ⟨91, 19, 91, 23⟩) .nil)) 0 ⟨91, 11, 91, 24⟩) ⟨91, 4, 91, 24⟩)
    .nil)))))))
theorem py15 : s15.py = defBody (top 24) := by kernel_rfl
theorem ok15 : s15.ok g15 exs (defScope (top 24)) = true := by kernel_rfl
theorem sc15 : FnScope n15 ["page", "part", "low"] (defScope (top 24)) := scB_ok (by kernel_rfl)
def ds15 : List (List D → Rs D) := [d0, d1, d2, d3, d4, d5, d6, d7, d8, d9, d10, d11, d12, d13, d14]
def d15 : List D → Rs D := recD ds15 3 8 s15 12
def n16 : List Str := ["page", "low", "order", "stuck"]
def g16 : Sg := ⟨n16, fun _ => false, gls, [(("is_int" : Str), 3), (("is_panel" : Str), 1), (("share_widths" : Str), 2), (("share_heights" : Str), 2), (("is_page" : Str), 1), (("check_page" : Str), 1), (("check_number" : Str), 3), (("goes_before" : Str), 3), (("is_before" : Str), 3), (("find_pairs" : Str), 1), (("find_cuts" : Str), 3), (("find_parts" : Str), 3), (("check_part" : Str), 2), (("row_parts" : Str), 2), (("column_parts" : Str), 2), (("read_part" : Str), 3)], bls, fun _ => false, none⟩
def s16 : Ss := (.cons (.asg [(2, "order", ⟨93, 4, 93, 9⟩), (3, "stuck", ⟨93, 11, 93, 16⟩)] 0 ⟨93, 4, 93, 16⟩ (.call 15 "read_part" ⟨93, 19, 93, 28⟩ (.var 0 "page" ⟨93, 29, 93, 33⟩) (.cons (.trng1 (.prim .len ⟨93, 47, 93, 50⟩ (.var 0 "page" ⟨93, 51, 93, 55⟩) .nil ⟨93, 47, 93, 56⟩) ⟨93, 35, 93, 40⟩ ⟨93, 41, 93, 46⟩ ⟨93, 41, 93, 57⟩ ⟨93, 35, 93, 58⟩) (.cons (.var 1 "low" ⟨93, 60, 93, 63⟩) .nil)) ⟨93, 19, 93, 64⟩) ⟨93, 4, 93, 64⟩)
    (.cons (.ret (.ite (.cmp .is (.var 3 "stuck" ⟨94, 20, 94, 25⟩) (.cst .non 0 ⟨94, 29, 94, 33⟩) ⟨94, 20, 94, 33⟩) (.var 2 "order" ⟨94, 11, 94, 16⟩) (.cst .non 0 ⟨94, 39, 94, 43⟩) ⟨94, 11, 94, 43⟩) ⟨94, 4, 94, 43⟩)
    .nil))
theorem py16 : s16.py = defBody (top 25) := by kernel_rfl
theorem ok16 : s16.ok g16 exs (defScope (top 25)) = true := by kernel_rfl
theorem sc16 : FnScope n16 ["page", "low"] (defScope (top 25)) := scB_ok (by kernel_rfl)
def ds16 : List (List D → Rs D) := [d0, d1, d2, d3, d4, d5, d6, d7, d8, d9, d10, d11, d12, d13, d14, d15]
def d16 : List D → Rs D := defD (tbl ds16) 2 4 s16
def n17 : List Str := ["page"]
def g17 : Sg := ⟨n17, fun _ => false, gls, [(("is_int" : Str), 3), (("is_panel" : Str), 1), (("share_widths" : Str), 2), (("share_heights" : Str), 2), (("is_page" : Str), 1), (("check_page" : Str), 1), (("check_number" : Str), 3), (("goes_before" : Str), 3), (("is_before" : Str), 3), (("find_pairs" : Str), 1), (("find_cuts" : Str), 3), (("find_parts" : Str), 3), (("check_part" : Str), 2), (("row_parts" : Str), 2), (("column_parts" : Str), 2), (("read_part" : Str), 3), (("find_reading" : Str), 2)], bls, fun _ => false, none⟩
def s17 : Ss := (.cons (.expr (.call 5 "check_page" ⟨96, 4, 96, 14⟩ (.var 0 "page" ⟨96, 15, 96, 19⟩) .nil ⟨96, 4, 96, 20⟩) ⟨96, 4, 96, 20⟩)
    (.cons (.ret (.call 16 "find_reading" ⟨97, 11, 97, 23⟩ (.var 0 "page" ⟨97, 24, 97, 28⟩) (.cons (.cst (.int 1) 0 ⟨97, 30, 97, 31⟩) .nil) ⟨97, 11, 97, 32⟩) ⟨97, 4, 97, 32⟩)
    .nil))
theorem py17 : s17.py = defBody (top 26) := by kernel_rfl
theorem ok17 : s17.ok g17 exs (defScope (top 26)) = true := by kernel_rfl
theorem sc17 : FnScope n17 ["page"] (defScope (top 26)) := scB_ok (by kernel_rfl)
def ds17 : List (List D → Rs D) := [d0, d1, d2, d3, d4, d5, d6, d7, d8, d9, d10, d11, d12, d13, d14, d15, d16]
def d17 : List D → Rs D := defD (tbl ds17) 1 1 s17
def n18 : List Str := ["page"]
def g18 : Sg := ⟨n18, fun _ => false, gls, [(("is_int" : Str), 3), (("is_panel" : Str), 1), (("share_widths" : Str), 2), (("share_heights" : Str), 2), (("is_page" : Str), 1), (("check_page" : Str), 1), (("check_number" : Str), 3), (("goes_before" : Str), 3), (("is_before" : Str), 3), (("find_pairs" : Str), 1), (("find_cuts" : Str), 3), (("find_parts" : Str), 3), (("check_part" : Str), 2), (("row_parts" : Str), 2), (("column_parts" : Str), 2), (("read_part" : Str), 3), (("find_reading" : Str), 2), (("by_rows" : Str), 1)], bls, fun _ => false, none⟩
def s18 : Ss := (.cons (.expr (.call 5 "check_page" ⟨99, 4, 99, 14⟩ (.var 0 "page" ⟨99, 15, 99, 19⟩) .nil ⟨99, 4, 99, 20⟩) ⟨99, 4, 99, 20⟩)
    (.cons (.ret (.call 16 "find_reading" ⟨100, 11, 100, 23⟩ (.var 0 "page" ⟨100, 24, 100, 28⟩) (.cons (.cst (.int 0) 0 ⟨100, 30, 100, 31⟩) .nil) ⟨100, 11, 100, 32⟩) ⟨100, 4, 100, 32⟩)
    .nil))
theorem py18 : s18.py = defBody (top 27) := by kernel_rfl
theorem ok18 : s18.ok g18 exs (defScope (top 27)) = true := by kernel_rfl
theorem sc18 : FnScope n18 ["page"] (defScope (top 27)) := scB_ok (by kernel_rfl)
def ds18 : List (List D → Rs D) := [d0, d1, d2, d3, d4, d5, d6, d7, d8, d9, d10, d11, d12, d13, d14, d15, d16, d17]
def d18 : List D → Rs D := defD (tbl ds18) 1 1 s18
def n19 : List Str := ["page"]
def g19 : Sg := ⟨n19, fun _ => false, gls, [(("is_int" : Str), 3), (("is_panel" : Str), 1), (("share_widths" : Str), 2), (("share_heights" : Str), 2), (("is_page" : Str), 1), (("check_page" : Str), 1), (("check_number" : Str), 3), (("goes_before" : Str), 3), (("is_before" : Str), 3), (("find_pairs" : Str), 1), (("find_cuts" : Str), 3), (("find_parts" : Str), 3), (("check_part" : Str), 2), (("row_parts" : Str), 2), (("column_parts" : Str), 2), (("read_part" : Str), 3), (("find_reading" : Str), 2), (("by_rows" : Str), 1), (("by_columns" : Str), 1)], bls, fun _ => false, none⟩
def s19 : Ss := (.cons (.expr (.call 5 "check_page" ⟨102, 4, 102, 14⟩ (.var 0 "page" ⟨102, 15, 102, 19⟩) .nil ⟨102, 4, 102, 20⟩) ⟨102, 4, 102, 20⟩)
    (.cons (.ret (.ix (.call 15 "read_part" ⟨103, 11, 103, 20⟩ (.var 0 "page" ⟨103, 21, 103, 25⟩) (.cons (.trng1 (.prim .len ⟨103, 39, 103, 42⟩ (.var 0 "page" ⟨103, 43, 103, 47⟩) .nil ⟨103, 39, 103, 48⟩) ⟨103, 27, 103, 32⟩ ⟨103, 33, 103, 38⟩ ⟨103, 33, 103, 49⟩ ⟨103, 27, 103, 50⟩) (.cons (.cst (.int 1) 0 ⟨103, 52, 103, 53⟩) .nil)) ⟨103, 11, 103, 54⟩) (.cst (.int 1) 0 ⟨103, 55, 103, 56⟩) ⟨103, 11, 103, 57⟩) ⟨103, 4, 103, 57⟩)
    .nil))
theorem py19 : s19.py = defBody (top 28) := by kernel_rfl
theorem ok19 : s19.ok g19 exs (defScope (top 28)) = true := by kernel_rfl
theorem sc19 : FnScope n19 ["page"] (defScope (top 28)) := scB_ok (by kernel_rfl)
def ds19 : List (List D → Rs D) := [d0, d1, d2, d3, d4, d5, d6, d7, d8, d9, d10, d11, d12, d13, d14, d15, d16, d17, d18]
def d19 : List D → Rs D := defD (tbl ds19) 1 1 s19
def n20 : List Str := ["page"]
def g20 : Sg := ⟨n20, fun _ => false, gls, [(("is_int" : Str), 3), (("is_panel" : Str), 1), (("share_widths" : Str), 2), (("share_heights" : Str), 2), (("is_page" : Str), 1), (("check_page" : Str), 1), (("check_number" : Str), 3), (("goes_before" : Str), 3), (("is_before" : Str), 3), (("find_pairs" : Str), 1), (("find_cuts" : Str), 3), (("find_parts" : Str), 3), (("check_part" : Str), 2), (("row_parts" : Str), 2), (("column_parts" : Str), 2), (("read_part" : Str), 3), (("find_reading" : Str), 2), (("by_rows" : Str), 1), (("by_columns" : Str), 1), (("stuck_part" : Str), 1)], bls, fun _ => false, none⟩
def s20 : Ss := (.cons (.expr (.call 5 "check_page" ⟨105, 4, 105, 14⟩ (.var 0 "page" ⟨105, 15, 105, 19⟩) .nil ⟨105, 4, 105, 20⟩) ⟨105, 4, 105, 20⟩)
    (.cons (.ret (.cmp .isnot (.call 16 "find_reading" ⟨106, 11, 106, 23⟩ (.var 0 "page" ⟨106, 24, 106, 28⟩) (.cons (.cst (.int 1) 0 ⟨106, 30, 106, 31⟩) .nil) ⟨106, 11, 106, 32⟩) (.cst .non 0 ⟨106, 40, 106, 44⟩) ⟨106, 11, 106, 44⟩) ⟨106, 4, 106, 44⟩)
    .nil))
theorem py20 : s20.py = defBody (top 29) := by kernel_rfl
theorem ok20 : s20.ok g20 exs (defScope (top 29)) = true := by kernel_rfl
theorem sc20 : FnScope n20 ["page"] (defScope (top 29)) := scB_ok (by kernel_rfl)
def ds20 : List (List D → Rs D) := [d0, d1, d2, d3, d4, d5, d6, d7, d8, d9, d10, d11, d12, d13, d14, d15, d16, d17, d18, d19]
def d20 : List D → Rs D := defD (tbl ds20) 1 1 s20
def n21 : List Str := ["many", "candidate", "number"]
def g21 : Sg := ⟨n21, fun _ => false, gls, [(("is_int" : Str), 3), (("is_panel" : Str), 1), (("share_widths" : Str), 2), (("share_heights" : Str), 2), (("is_page" : Str), 1), (("check_page" : Str), 1), (("check_number" : Str), 3), (("goes_before" : Str), 3), (("is_before" : Str), 3), (("find_pairs" : Str), 1), (("find_cuts" : Str), 3), (("find_parts" : Str), 3), (("check_part" : Str), 2), (("row_parts" : Str), 2), (("column_parts" : Str), 2), (("read_part" : Str), 3), (("find_reading" : Str), 2), (("by_rows" : Str), 1), (("by_columns" : Str), 1), (("stuck_part" : Str), 1), (("is_cuttable" : Str), 1)], bls, fun _ => false, none⟩
def s21 : Ss := (.cons (.iff (.or (.not (.isi .tuple (.var 1 "candidate" ⟨109, 22, 109, 31⟩) ⟨109, 11, 109, 21⟩ ⟨109, 33, 109, 38⟩ ⟨109, 11, 109, 39⟩) ⟨109, 7, 109, 39⟩) (.cons (.not (.prim .all ⟨109, 47, 109, 50⟩ (.comp (.call 0 "is_int" ⟨109, 52, 109, 58⟩ (.var 2 "number" ⟨109, 59, 109, 65⟩) (.cons (.cst (.int 0) 0 ⟨109, 67, 109, 68⟩) (.cons (.bin .sub (.var 0 "many" ⟨109, 70, 109, 74⟩) (.cst (.int 1) 0 ⟨109, 77, 109, 78⟩) ⟨109, 70, 109, 78⟩) .nil)) ⟨109, 52, 109, 79⟩) (.nm 2 "number" ⟨109, 84, 109, 90⟩) (.seq (.var 1 "candidate" ⟨109, 94, 109, 103⟩)) .nil ⟨.function, [(".0", .local), ("number", .local), ("is_int", .globalImplicit), ("many", .free)], false, false, []⟩ [("number", 2)] ⟨109, 51, 109, 104⟩) .nil ⟨109, 47, 109, 105⟩) ⟨109, 43, 109, 105⟩) .nil) ⟨109, 7, 109, 105⟩) (.cons (.ret (.cst (.bl false) 0 ⟨110, 15, 110, 20⟩) ⟨110, 8, 110, 20⟩)
    .nil) .nil ⟨109, 4, 110, 20⟩)
    (.cons (.ret (.cmp .eq (.prim .sorted ⟨111, 11, 111, 17⟩ (.var 1 "candidate" ⟨111, 18, 111, 27⟩) .nil ⟨111, 11, 111, 28⟩) (.lrng1 (.var 0 "many" ⟨111, 43, 111, 47⟩) ⟨111, 32, 111, 36⟩ ⟨111, 37, 111, 42⟩ ⟨111, 37, 111, 48⟩ ⟨111, 32, 111, 49⟩) ⟨111, 11, 111, 49⟩) ⟨111, 4, 111, 49⟩)
    .nil))
theorem py21 : s21.py = defBody (top 31) := by kernel_rfl
theorem ok21 : s21.ok g21 exs (defScope (top 31)) = true := by kernel_rfl
theorem sc21 : FnScope n21 ["many", "candidate"] (defScope (top 31)) := scB_ok (by kernel_rfl)
def ds21 : List (List D → Rs D) := [d0, d1, d2, d3, d4, d5, d6, d7, d8, d9, d10, d11, d12, d13, d14, d15, d16, d17, d18, d19, d20]
def d21 : List D → Rs D := defD (tbl ds21) 2 3 s21
def n22 : List Str := ["order", "known", "one", "other"]
def g22 : Sg := ⟨n22, fun _ => false, gls, [(("is_int" : Str), 3), (("is_panel" : Str), 1), (("share_widths" : Str), 2), (("share_heights" : Str), 2), (("is_page" : Str), 1), (("check_page" : Str), 1), (("check_number" : Str), 3), (("goes_before" : Str), 3), (("is_before" : Str), 3), (("find_pairs" : Str), 1), (("find_cuts" : Str), 3), (("find_parts" : Str), 3), (("check_part" : Str), 2), (("row_parts" : Str), 2), (("column_parts" : Str), 2), (("read_part" : Str), 3), (("find_reading" : Str), 2), (("by_rows" : Str), 1), (("by_columns" : Str), 1), (("stuck_part" : Str), 1), (("is_cuttable" : Str), 1), (("has_order" : Str), 2)], bls, fun _ => false, none⟩
def s22 : Ss := (.cons (.ret (.prim .all ⟨113, 11, 113, 14⟩ (.comp (.cmp .lt (.idx true (.var 0 "order" ⟨113, 16, 113, 21⟩) (.var 2 "one" ⟨113, 28, 113, 31⟩) ⟨113, 16, 113, 27⟩ ⟨113, 16, 113, 32⟩) (.idx true (.var 0 "order" ⟨113, 35, 113, 40⟩) (.var 3 "other" ⟨113, 47, 113, 52⟩) ⟨113, 35, 113, 46⟩ ⟨113, 35, 113, 53⟩) ⟨113, 16, 113, 53⟩) (.tp [(2, "one", ⟨113, 58, 113, 61⟩), (3, "other", ⟨113, 63, 113, 68⟩)] 0 ⟨113, 58, 113, 68⟩) (.seq (.var 1 "known" ⟨113, 72, 113, 77⟩)) .nil ⟨.function, [(".0", .local), ("one", .local), ("other", .local), ("order", .free)], false, false, []⟩ [("one", 2), ("other", 3)] ⟨113, 15, 113, 78⟩) .nil ⟨113, 11, 113, 79⟩) ⟨113, 4, 113, 79⟩)
    .nil)
theorem py22 : s22.py = defBody (top 32) := by kernel_rfl
theorem ok22 : s22.ok g22 exs (defScope (top 32)) = true := by kernel_rfl
theorem sc22 : FnScope n22 ["order", "known"] (defScope (top 32)) := scB_ok (by kernel_rfl)
def ds22 : List (List D → Rs D) := [d0, d1, d2, d3, d4, d5, d6, d7, d8, d9, d10, d11, d12, d13, d14, d15, d16, d17, d18, d19, d20, d21]
def d22 : List D → Rs D := defD (tbl ds22) 2 4 s22
def n23 : List Str := ["page", "candidate"]
def g23 : Sg := ⟨n23, fun _ => false, gls, [(("is_int" : Str), 3), (("is_panel" : Str), 1), (("share_widths" : Str), 2), (("share_heights" : Str), 2), (("is_page" : Str), 1), (("check_page" : Str), 1), (("check_number" : Str), 3), (("goes_before" : Str), 3), (("is_before" : Str), 3), (("find_pairs" : Str), 1), (("find_cuts" : Str), 3), (("find_parts" : Str), 3), (("check_part" : Str), 2), (("row_parts" : Str), 2), (("column_parts" : Str), 2), (("read_part" : Str), 3), (("find_reading" : Str), 2), (("by_rows" : Str), 1), (("by_columns" : Str), 1), (("stuck_part" : Str), 1), (("is_cuttable" : Str), 1), (("has_order" : Str), 2), (("keeps_pairs" : Str), 2)], bls, fun _ => false, none⟩
def s23 : Ss := (.cons (.ret (.and (.call 21 "has_order" ⟨115, 11, 115, 20⟩ (.prim .len ⟨115, 21, 115, 24⟩ (.var 0 "page" ⟨115, 25, 115, 29⟩) .nil ⟨115, 21, 115, 30⟩) (.cons (.var 1 "candidate" ⟨115, 32, 115, 41⟩) .nil) ⟨115, 11, 115, 42⟩) (.cons (.call 22 "keeps_pairs" ⟨115, 47, 115, 58⟩ (.var 1 "candidate" ⟨115, 59, 115, 68⟩) (.cons (.call 9 "find_pairs" ⟨115, 70, 115, 80⟩ (.var 0 "page" ⟨115, 81, 115, 85⟩) .nil ⟨115, 70, 115, 86⟩) .nil) ⟨115, 47, 115, 87⟩) .nil) ⟨115, 11, 115, 87⟩) ⟨115, 4, 115, 87⟩)
    .nil)
theorem py23 : s23.py = defBody (top 33) := by kernel_rfl
theorem ok23 : s23.ok g23 exs (defScope (top 33)) = true := by kernel_rfl
theorem sc23 : FnScope n23 ["page", "candidate"] (defScope (top 33)) := scB_ok (by kernel_rfl)
def ds23 : List (List D → Rs D) := [d0, d1, d2, d3, d4, d5, d6, d7, d8, d9, d10, d11, d12, d13, d14, d15, d16, d17, d18, d19, d20, d21, d22]
def d23 : List D → Rs D := defD (tbl ds23) 2 2 s23
def n24 : List Str := ["page", "candidate"]
def g24 : Sg := ⟨n24, fun _ => false, gls, [(("is_int" : Str), 3), (("is_panel" : Str), 1), (("share_widths" : Str), 2), (("share_heights" : Str), 2), (("is_page" : Str), 1), (("check_page" : Str), 1), (("check_number" : Str), 3), (("goes_before" : Str), 3), (("is_before" : Str), 3), (("find_pairs" : Str), 1), (("find_cuts" : Str), 3), (("find_parts" : Str), 3), (("check_part" : Str), 2), (("row_parts" : Str), 2), (("column_parts" : Str), 2), (("read_part" : Str), 3), (("find_reading" : Str), 2), (("by_rows" : Str), 1), (("by_columns" : Str), 1), (("stuck_part" : Str), 1), (("is_cuttable" : Str), 1), (("has_order" : Str), 2), (("keeps_pairs" : Str), 2), (("fits" : Str), 2)], bls, fun _ => false, none⟩
def s24 : Ss := (.cons (.expr (.call 5 "check_page" ⟨117, 4, 117, 14⟩ (.var 0 "page" ⟨117, 15, 117, 19⟩) .nil ⟨117, 4, 117, 20⟩) ⟨117, 4, 117, 20⟩)
    (.cons (.ret (.call 23 "fits" ⟨118, 11, 118, 15⟩ (.var 0 "page" ⟨118, 16, 118, 20⟩) (.cons (.var 1 "candidate" ⟨118, 22, 118, 31⟩) .nil) ⟨118, 11, 118, 32⟩) ⟨118, 4, 118, 32⟩)
    .nil))
theorem py24 : s24.py = defBody (top 34) := by kernel_rfl
theorem ok24 : s24.ok g24 exs (defScope (top 34)) = true := by kernel_rfl
theorem sc24 : FnScope n24 ["page", "candidate"] (defScope (top 34)) := scB_ok (by kernel_rfl)
def ds24 : List (List D → Rs D) := [d0, d1, d2, d3, d4, d5, d6, d7, d8, d9, d10, d11, d12, d13, d14, d15, d16, d17, d18, d19, d20, d21, d22, d23]
def d24 : List D → Rs D := defD (tbl ds24) 2 2 s24
def n25 : List Str := ["left", "known", "later", "one", "other", "number"]
def g25 : Sg := ⟨n25, fun _ => false, gls, [(("is_int" : Str), 3), (("is_panel" : Str), 1), (("share_widths" : Str), 2), (("share_heights" : Str), 2), (("is_page" : Str), 1), (("check_page" : Str), 1), (("check_number" : Str), 3), (("goes_before" : Str), 3), (("is_before" : Str), 3), (("find_pairs" : Str), 1), (("find_cuts" : Str), 3), (("find_parts" : Str), 3), (("check_part" : Str), 2), (("row_parts" : Str), 2), (("column_parts" : Str), 2), (("read_part" : Str), 3), (("find_reading" : Str), 2), (("by_rows" : Str), 1), (("by_columns" : Str), 1), (("stuck_part" : Str), 1), (("is_cuttable" : Str), 1), (("has_order" : Str), 2), (("keeps_pairs" : Str), 2), (("fits" : Str), 2), (("can_read" : Str), 2)], bls, fun _ => false, none⟩
def s25 : Ss := (.cons (.set 2 "later" ⟨120, 4, 120, 9⟩ (.comp (.var 4 "other" ⟨120, 13, 120, 18⟩) (.tp [(3, "one", ⟨120, 23, 120, 26⟩), (4, "other", ⟨120, 28, 120, 33⟩)] 0 ⟨120, 23, 120, 33⟩) (.seq (.var 1 "known" ⟨120, 37, 120, 42⟩)) (.cons (.cmp .isin (.var 3 "one" ⟨120, 46, 120, 49⟩) (.var 0 "left" ⟨120, 53, 120, 57⟩) ⟨120, 46, 120, 57⟩) .nil) ⟨.function, [(".0", .local), ("one", .local), ("other", .local), ("left", .free)], false, false, []⟩ [("one", 3), ("other", 4)] ⟨120, 12, 120, 58⟩) ⟨120, 4, 120, 58⟩)
    (.cons (.ret (.comp (.var 5 "number" ⟨121, 12, 121, 18⟩) (.nm 5 "number" ⟨121, 23, 121, 29⟩) (.seq (.var 0 "left" ⟨121, 33, 121, 37⟩)) (.cons (.cmp .notin (.var 5 "number" ⟨121, 41, 121, 47⟩) (.var 2 "later" ⟨121, 55, 121, 60⟩) ⟨121, 41, 121, 60⟩) .nil) ⟨.function, [(".0", .local), ("number", .local), ("later", .free)], false, false, []⟩ [("number", 5)] ⟨121, 11, 121, 61⟩) ⟨121, 4, 121, 61⟩)
    .nil))
theorem py25 : s25.py = defBody (top 35) := by kernel_rfl
theorem ok25 : s25.ok g25 exs (defScope (top 35)) = true := by kernel_rfl
theorem sc25 : FnScope n25 ["left", "known"] (defScope (top 35)) := scB_ok (by kernel_rfl)
def ds25 : List (List D → Rs D) := [d0, d1, d2, d3, d4, d5, d6, d7, d8, d9, d10, d11, d12, d13, d14, d15, d16, d17, d18, d19, d20, d21, d22, d23, d24]
def d25 : List D → Rs D := defD (tbl ds25) 2 6 s25
def n26 : List Str := ["left", "known", "seen", "total", "number", "other"]
def g26 : Sg := ⟨n26, fun i => i == 2, gls, [(("is_int" : Str), 3), (("is_panel" : Str), 1), (("share_widths" : Str), 2), (("share_heights" : Str), 2), (("is_page" : Str), 1), (("check_page" : Str), 1), (("check_number" : Str), 3), (("goes_before" : Str), 3), (("is_before" : Str), 3), (("find_pairs" : Str), 1), (("find_cuts" : Str), 3), (("find_parts" : Str), 3), (("check_part" : Str), 2), (("row_parts" : Str), 2), (("column_parts" : Str), 2), (("read_part" : Str), 3), (("find_reading" : Str), 2), (("by_rows" : Str), 1), (("by_columns" : Str), 1), (("stuck_part" : Str), 1), (("is_cuttable" : Str), 1), (("has_order" : Str), 2), (("keeps_pairs" : Str), 2), (("fits" : Str), 2), (("can_read" : Str), 2), (("next_ones" : Str), 2), (("count_left" : Str), 1000 + 2)], bls, fun i => i == 2, some 2⟩
def s26 : Ss := (.cons (.iff (.cmp .eq (.var 0 "left" ⟨123, 7, 123, 11⟩) (.tup .nil 0 ⟨123, 15, 123, 17⟩) ⟨123, 7, 123, 17⟩) (.cons (.ret (.cst (.int 1) 0 ⟨124, 15, 124, 16⟩) ⟨124, 8, 124, 16⟩)
    .nil) .nil ⟨123, 4, 124, 16⟩)
    (.cons (.iff (.din true (.var 0 "left" ⟨125, 7, 125, 11⟩) 2 "seen" ⟨125, 19, 125, 23⟩ ⟨125, 7, 125, 23⟩) (.cons (.set 3 "total" ⟨126, 8, 126, 13⟩ (.cst (.int 0) 0 ⟨126, 16, 126, 17⟩) ⟨126, 8, 126, 17⟩)
    (.cons (.for (.nm 4 "number" ⟨127, 12, 127, 18⟩) (.seq (.call 25 "next_ones" ⟨127, 22, 127, 31⟩ (.var 0 "left" ⟨127, 32, 127, 36⟩) (.cons (.var 1 "known" ⟨127, 38, 127, 43⟩) .nil) ⟨127, 22, 127, 44⟩)) (.cons (.setX 3 "total" ⟨128, 12, 128, 17⟩ (.binR .add (.var 3 "total" ⟨128, 20, 128, 25⟩) (.mc 26 "count_left" ⟨128, 28, 128, 38⟩ (.prim .tuple ⟨128, 39, 128, 44⟩ (.comp (.var 5 "other" ⟨128, 46, 128, 51⟩) (.nm 5 "other" ⟨128, 56, 128, 61⟩) (.seq (.var 0 "left" ⟨128, 65, 128, 69⟩)) (.cons (.cmp .ne (.var 5 "other" ⟨128, 73, 128, 78⟩) (.var 4 "number" ⟨128, 82, 128, 88⟩) ⟨128, 73, 128, 88⟩) .nil) ⟨.function, [(".0", .local), ("other", .local), ("number", .free)], false, false, []⟩ [("other", 5)] ⟨128, 45, 128, 89⟩) .nil ⟨128, 39, 128, 90⟩) (.cons (.var 1 "known" ⟨128, 92, 128, 97⟩) .nil) 2 "seen" ⟨128, 99, 128, 103⟩ ⟨128, 28, 128, 104⟩) ⟨128, 20, 128, 104⟩) ⟨128, 12, 128, 104⟩)
    .nil) ⟨127, 8, 128, 104⟩)
    (.cons (.dset 2 "seen" ⟨129, 8, 129, 12⟩ (.var 0 "left" ⟨129, 13, 129, 17⟩) ⟨129, 8, 129, 18⟩ (.var 3 "total" ⟨129, 21, 129, 26⟩) ⟨129, 8, 129, 26⟩)
    .nil))) .nil ⟨125, 4, 129, 26⟩)
    (.cons (.ret (.dget 2 "seen" ⟨130, 11, 130, 15⟩ (.var 0 "left" ⟨130, 16, 130, 20⟩) ⟨130, 11, 130, 21⟩) ⟨130, 4, 130, 21⟩)
    .nil)))
theorem py26 : s26.py = defBody (top 36) := by kernel_rfl
theorem ok26 : s26.ok g26 exs (defScope (top 36)) = true := by kernel_rfl
theorem sc26 : FnScope n26 ["left", "known", "seen"] (defScope (top 36)) := scB_ok (by kernel_rfl)
def ds26 : List (List D → Rs D) := [d0, d1, d2, d3, d4, d5, d6, d7, d8, d9, d10, d11, d12, d13, d14, d15, d16, d17, d18, d19, d20, d21, d22, d23, d24, d25]
def d26 : List D → Rs D := recM ds26 2 6 s26 12
def n27 : List Str := ["many", "known"]
def g27 : Sg := ⟨n27, fun _ => false, gls, [(("is_int" : Str), 3), (("is_panel" : Str), 1), (("share_widths" : Str), 2), (("share_heights" : Str), 2), (("is_page" : Str), 1), (("check_page" : Str), 1), (("check_number" : Str), 3), (("goes_before" : Str), 3), (("is_before" : Str), 3), (("find_pairs" : Str), 1), (("find_cuts" : Str), 3), (("find_parts" : Str), 3), (("check_part" : Str), 2), (("row_parts" : Str), 2), (("column_parts" : Str), 2), (("read_part" : Str), 3), (("find_reading" : Str), 2), (("by_rows" : Str), 1), (("by_columns" : Str), 1), (("stuck_part" : Str), 1), (("is_cuttable" : Str), 1), (("has_order" : Str), 2), (("keeps_pairs" : Str), 2), (("fits" : Str), 2), (("can_read" : Str), 2), (("next_ones" : Str), 2), (("count_left" : Str), 1000 + 2)], bls, fun _ => false, none⟩
def s27 : Ss := (.cons (.ret (.mn 26 "count_left" ⟨132, 11, 132, 21⟩ (.trng1 (.var 0 "many" ⟨132, 34, 132, 38⟩) ⟨132, 22, 132, 27⟩ ⟨132, 28, 132, 33⟩ ⟨132, 28, 132, 39⟩ ⟨132, 22, 132, 40⟩) (.cons (.var 1 "known" ⟨132, 42, 132, 47⟩) .nil) ⟨132, 49, 132, 51⟩ ⟨132, 11, 132, 52⟩) ⟨132, 4, 132, 52⟩)
    .nil)
theorem py27 : s27.py = defBody (top 37) := by kernel_rfl
theorem ok27 : s27.ok g27 exs (defScope (top 37)) = true := by kernel_rfl
theorem sc27 : FnScope n27 ["many", "known"] (defScope (top 37)) := scB_ok (by kernel_rfl)
def ds27 : List (List D → Rs D) := [d0, d1, d2, d3, d4, d5, d6, d7, d8, d9, d10, d11, d12, d13, d14, d15, d16, d17, d18, d19, d20, d21, d22, d23, d24, d25, d26]
def d27 : List D → Rs D := defD (tbl ds27) 2 2 s27
def n28 : List Str := ["page", "known", "left", "found", "number", "other"]
def g28 : Sg := ⟨n28, fun _ => false, gls, [(("is_int" : Str), 3), (("is_panel" : Str), 1), (("share_widths" : Str), 2), (("share_heights" : Str), 2), (("is_page" : Str), 1), (("check_page" : Str), 1), (("check_number" : Str), 3), (("goes_before" : Str), 3), (("is_before" : Str), 3), (("find_pairs" : Str), 1), (("find_cuts" : Str), 3), (("find_parts" : Str), 3), (("check_part" : Str), 2), (("row_parts" : Str), 2), (("column_parts" : Str), 2), (("read_part" : Str), 3), (("find_reading" : Str), 2), (("by_rows" : Str), 1), (("by_columns" : Str), 1), (("stuck_part" : Str), 1), (("is_cuttable" : Str), 1), (("has_order" : Str), 2), (("keeps_pairs" : Str), 2), (("fits" : Str), 2), (("can_read" : Str), 2), (("next_ones" : Str), 2), (("count_left" : Str), 1000 + 2), (("find_number" : Str), 2)], bls, fun _ => false, none⟩
def s28 : Ss := (.cons (.expr (.call 5 "check_page" ⟨134, 4, 134, 14⟩ (.var 0 "page" ⟨134, 15, 134, 19⟩) .nil ⟨134, 4, 134, 20⟩) ⟨134, 4, 134, 20⟩)
    (.cons (.par [(1, "known", ⟨135, 4, 135, 9⟩), (2, "left", ⟨135, 11, 135, 15⟩), (3, "found", ⟨135, 17, 135, 22⟩)] 0 ⟨135, 4, 135, 22⟩ (.cons (.call 9 "find_pairs" ⟨135, 26, 135, 36⟩ (.var 0 "page" ⟨135, 37, 135, 41⟩) .nil ⟨135, 26, 135, 42⟩) (.cons (.trng1 (.prim .len ⟨135, 56, 135, 59⟩ (.var 0 "page" ⟨135, 60, 135, 64⟩) .nil ⟨135, 56, 135, 65⟩) ⟨135, 44, 135, 49⟩ ⟨135, 50, 135, 55⟩ ⟨135, 50, 135, 66⟩ ⟨135, 44, 135, 67⟩) (.cons (.tup .nil 0 ⟨135, 69, 135, 71⟩) .nil))) 0 ⟨135, 25, 135, 72⟩ ⟨135, 4, 135, 72⟩)
    (.cons (.whl 1000 (.cmp .ne (.var 2 "left" ⟨136, 10, 136, 14⟩) (.tup .nil 0 ⟨136, 18, 136, 20⟩) ⟨136, 10, 136, 20⟩) (.cons (.set 4 "number" ⟨137, 8, 137, 14⟩ (.ix (.call 25 "next_ones" ⟨137, 17, 137, 26⟩ (.var 2 "left" ⟨137, 27, 137, 31⟩) (.cons (.var 1 "known" ⟨137, 33, 137, 38⟩) .nil) ⟨137, 17, 137, 39⟩) (.cst (.int 0) 0 ⟨137, 40, 137, 41⟩) ⟨137, 17, 137, 42⟩) ⟨137, 8, 137, 42⟩)
    (.cons (.set 3 "found" ⟨138, 8, 138, 13⟩ (.bin .add (.var 3 "found" ⟨138, 16, 138, 21⟩) (.tup (.cons (.var 4 "number" ⟨138, 25, 138, 31⟩) .nil) 0 ⟨138, 24, 138, 33⟩) ⟨138, 16, 138, 33⟩) ⟨138, 8, 138, 33⟩)
    (.cons (.set 2 "left" ⟨139, 8, 139, 12⟩ (.prim .tuple ⟨139, 15, 139, 20⟩ (.comp (.var 5 "other" ⟨139, 22, 139, 27⟩) (.nm 5 "other" ⟨139, 32, 139, 37⟩) (.seq (.var 2 "left" ⟨139, 41, 139, 45⟩)) (.cons (.cmp .ne (.var 5 "other" ⟨139, 49, 139, 54⟩) (.var 4 "number" ⟨139, 58, 139, 64⟩) ⟨139, 49, 139, 64⟩) .nil) ⟨.function, [(".0", .local), ("other", .local), ("number", .free)], false, false, []⟩ [("other", 5)] ⟨139, 21, 139, 65⟩) .nil ⟨139, 15, 139, 66⟩) ⟨139, 8, 139, 66⟩)
    .nil))) ⟨136, 4, 139, 66⟩)
    (.cons (.ret (.var 3 "found" ⟨140, 11, 140, 16⟩) ⟨140, 4, 140, 16⟩)
    .nil))))
theorem py28 : s28.py = defBody (top 38) := by kernel_rfl
theorem ok28 : s28.ok g28 exs (defScope (top 38)) = true := by kernel_rfl
theorem sc28 : FnScope n28 ["page"] (defScope (top 38)) := scB_ok (by kernel_rfl)
def ds28 : List (List D → Rs D) := [d0, d1, d2, d3, d4, d5, d6, d7, d8, d9, d10, d11, d12, d13, d14, d15, d16, d17, d18, d19, d20, d21, d22, d23, d24, d25, d26, d27]
def d28 : List D → Rs D := defD (tbl ds28) 1 6 s28
def n29 : List Str := ["page"]
def g29 : Sg := ⟨n29, fun _ => false, gls, [(("is_int" : Str), 3), (("is_panel" : Str), 1), (("share_widths" : Str), 2), (("share_heights" : Str), 2), (("is_page" : Str), 1), (("check_page" : Str), 1), (("check_number" : Str), 3), (("goes_before" : Str), 3), (("is_before" : Str), 3), (("find_pairs" : Str), 1), (("find_cuts" : Str), 3), (("find_parts" : Str), 3), (("check_part" : Str), 2), (("row_parts" : Str), 2), (("column_parts" : Str), 2), (("read_part" : Str), 3), (("find_reading" : Str), 2), (("by_rows" : Str), 1), (("by_columns" : Str), 1), (("stuck_part" : Str), 1), (("is_cuttable" : Str), 1), (("has_order" : Str), 2), (("keeps_pairs" : Str), 2), (("fits" : Str), 2), (("can_read" : Str), 2), (("next_ones" : Str), 2), (("count_left" : Str), 1000 + 2), (("find_number" : Str), 2), (("first_order" : Str), 1)], bls, fun _ => false, none⟩
def s29 : Ss := (.cons (.expr (.call 5 "check_page" ⟨142, 4, 142, 14⟩ (.var 0 "page" ⟨142, 15, 142, 19⟩) .nil ⟨142, 4, 142, 20⟩) ⟨142, 4, 142, 20⟩)
    (.cons (.ret (.cmp .eq (.call 27 "find_number" ⟨143, 11, 143, 22⟩ (.prim .len ⟨143, 23, 143, 26⟩ (.var 0 "page" ⟨143, 27, 143, 31⟩) .nil ⟨143, 23, 143, 32⟩) (.cons (.call 9 "find_pairs" ⟨143, 34, 143, 44⟩ (.var 0 "page" ⟨143, 45, 143, 49⟩) .nil ⟨143, 34, 143, 50⟩) .nil) ⟨143, 11, 143, 51⟩) (.cst (.int 1) 0 ⟨143, 55, 143, 56⟩) ⟨143, 11, 143, 56⟩) ⟨143, 4, 143, 56⟩)
    .nil))
theorem py29 : s29.py = defBody (top 39) := by kernel_rfl
theorem ok29 : s29.ok g29 exs (defScope (top 39)) = true := by kernel_rfl
theorem sc29 : FnScope n29 ["page"] (defScope (top 39)) := scB_ok (by kernel_rfl)
def ds29 : List (List D → Rs D) := [d0, d1, d2, d3, d4, d5, d6, d7, d8, d9, d10, d11, d12, d13, d14, d15, d16, d17, d18, d19, d20, d21, d22, d23, d24, d25, d26, d27, d28]
def d29 : List D → Rs D := defD (tbl ds29) 1 1 s29
def n30 : List Str := ["_law_script", "_law_k", "_law_many", "_law_cell", "_law_turn", "_law_rest"]
def g30 : Sg := ⟨n30, fun _ => false, gls, [(("is_int" : Str), 3), (("is_panel" : Str), 1), (("share_widths" : Str), 2), (("share_heights" : Str), 2), (("is_page" : Str), 1), (("check_page" : Str), 1), (("check_number" : Str), 3), (("goes_before" : Str), 3), (("is_before" : Str), 3), (("find_pairs" : Str), 1), (("find_cuts" : Str), 3), (("find_parts" : Str), 3), (("check_part" : Str), 2), (("row_parts" : Str), 2), (("column_parts" : Str), 2), (("read_part" : Str), 3), (("find_reading" : Str), 2), (("by_rows" : Str), 1), (("by_columns" : Str), 1), (("stuck_part" : Str), 1), (("is_cuttable" : Str), 1), (("has_order" : Str), 2), (("keeps_pairs" : Str), 2), (("fits" : Str), 2), (("can_read" : Str), 2), (("next_ones" : Str), 2), (("count_left" : Str), 1000 + 2), (("find_number" : Str), 2), (("first_order" : Str), 1), (("is_sure" : Str), 1)], bls, fun _ => false, none⟩
def s30 : Ss := (.cons (.set 3 "_law_cell" ⟨146, 4, 146, 13⟩ (.bin .mul (.cst (.int 7) 0 ⟨146, 16, 146, 17⟩) (.var 1 "_law_k" ⟨146, 20, 146, 26⟩) ⟨146, 16, 146, 26⟩) ⟨146, 4, 146, 26⟩)
    (.cons (.iff (.cmp .ne (.var 0 "_law_script" ⟨147, 7, 147, 18⟩) (.lst .nil ⟨147, 22, 147, 24⟩) ⟨147, 7, 147, 24⟩) (.cons (.set 3 "_law_cell" ⟨148, 8, 148, 17⟩ (.ix (.var 0 "_law_script" ⟨148, 20, 148, 31⟩) (.bin .mod (.var 1 "_law_k" ⟨148, 32, 148, 38⟩) (.prim .len ⟨148, 41, 148, 44⟩ (.var 0 "_law_script" ⟨148, 45, 148, 56⟩) .nil ⟨148, 41, 148, 57⟩) ⟨148, 32, 148, 57⟩) ⟨148, 20, 148, 58⟩) ⟨148, 8, 148, 58⟩)
    (.cons (.set 4 "_law_turn" ⟨149, 8, 149, 17⟩ (.bin .div (.var 1 "_law_k" ⟨149, 20, 149, 26⟩) (.prim .len ⟨149, 30, 149, 33⟩ (.var 0 "_law_script" ⟨149, 34, 149, 45⟩) .nil ⟨149, 30, 149, 46⟩) ⟨149, 20, 149, 46⟩) ⟨149, 8, 149, 46⟩)
    (.cons (.iff (.and (.cmp .ge (.var 3 "_law_cell" ⟨150, 11, 150, 20⟩) (.bin .pow (.cst (.int 10) 0 ⟨150, 24, 150, 26⟩) (.cst (.int 18) 0 ⟨150, 30, 150, 32⟩) ⟨150, 24, 150, 32⟩) ⟨150, 11, 150, 32⟩) (.cons (.cmp .lt (.var 4 "_law_turn" ⟨150, 37, 150, 46⟩) (.cst (.int 60) 0 ⟨150, 49, 150, 51⟩) ⟨150, 37, 150, 51⟩) .nil) ⟨150, 11, 150, 51⟩) (.cons (.set 5 "_law_rest" ⟨151, 12, 151, 21⟩ (.bin .div (.var 3 "_law_cell" ⟨151, 24, 151, 33⟩) (.bin .pow (.cst (.int 10) 0 ⟨151, 37, 151, 39⟩) (.cst (.int 18) 0 ⟨151, 43, 151, 45⟩) ⟨151, 37, 151, 45⟩) ⟨151, 24, 151, 45⟩) ⟨151, 12, 151, 45⟩)
    (.cons (.whl 1000 (.and (.cmp .gt (.var 5 "_law_rest" ⟨152, 18, 152, 27⟩) (.cst (.int 0) 0 ⟨152, 30, 152, 31⟩) ⟨152, 18, 152, 31⟩) (.cons (.cmp .gt (.var 4 "_law_turn" ⟨152, 36, 152, 45⟩) (.cst (.int 0) 0 ⟨152, 48, 152, 49⟩) ⟨152, 36, 152, 49⟩) .nil) ⟨152, 18, 152, 49⟩) (.cons (.set 5 "_law_rest" ⟨153, 16, 153, 25⟩ (.bin .div (.var 5 "_law_rest" ⟨153, 28, 153, 37⟩) (.cst (.int 1000000) 0 ⟨153, 41, 153, 48⟩) ⟨153, 28, 153, 48⟩) ⟨153, 16, 153, 48⟩)
    (.cons (.set 4 "_law_turn" ⟨154, 16, 154, 25⟩ (.bin .sub (.var 4 "_law_turn" ⟨154, 28, 154, 37⟩) (.cst (.int 1) 0 ⟨154, 40, 154, 41⟩) ⟨154, 28, 154, 41⟩) ⟨154, 16, 154, 41⟩)
    .nil)) ⟨152, 12, 154, 41⟩)
    (.cons (.iff (.cmp .gt (.var 5 "_law_rest" ⟨155, 15, 155, 24⟩) (.cst (.int 0) 0 ⟨155, 27, 155, 28⟩) ⟨155, 15, 155, 28⟩) (.cons (.ret (.bin .mod (.bin .mod (.var 5 "_law_rest" ⟨156, 23, 156, 32⟩) (.cst (.int 1000000) 0 ⟨156, 35, 156, 42⟩) ⟨156, 23, 156, 42⟩) (.var 2 "_law_many" ⟨156, 45, 156, 54⟩) ⟨156, 23, 156, 54⟩) ⟨156, 16, 156, 54⟩)
    .nil) .nil ⟨155, 12, 156, 54⟩)
    .nil))) .nil ⟨150, 8, 156, 54⟩)
    (.cons (.set 3 "_law_cell" ⟨157, 8, 157, 17⟩ (.bin .add (.var 3 "_law_cell" ⟨157, 20, 157, 29⟩) (.bin .mul (.cst (.int 6553) 0 ⟨157, 32, 157, 36⟩) (.bin .div (.var 1 "_law_k" ⟨157, 40, 157, 46⟩) (.prim .len ⟨157, 50, 157, 53⟩ (.var 0 "_law_script" ⟨157, 54, 157, 65⟩) .nil ⟨157, 50, 157, 66⟩) ⟨157, 40, 157, 66⟩) ⟨157, 32, 157, 67⟩) ⟨157, 20, 157, 67⟩) ⟨157, 8, 157, 67⟩)
    .nil)))) .nil ⟨147, 4, 157, 67⟩)
    (.cons (.set 3 "_law_cell" ⟨158, 4, 158, 13⟩ (.bin .mod (.bin .add (.bin .mul (.bin .mod (.var 3 "_law_cell" ⟨158, 17, 158, 26⟩) (.cst (.int 2147483563) 0 ⟨158, 29, 158, 39⟩) ⟨158, 17, 158, 39⟩) (.cst (.int 69069) 0 ⟨158, 42, 158, 47⟩) ⟨158, 17, 158, 47⟩) (.bin .mul (.cst (.int 104723) 0 ⟨158, 50, 158, 56⟩) (.bin .add (.var 1 "_law_k" ⟨158, 60, 158, 66⟩) (.cst (.int 1) 0 ⟨158, 69, 158, 70⟩) ⟨158, 60, 158, 70⟩) ⟨158, 50, 158, 71⟩) ⟨158, 17, 158, 71⟩) (.cst (.int 2147483563) 0 ⟨158, 75, 158, 85⟩) ⟨158, 16, 158, 85⟩) ⟨158, 4, 158, 85⟩)
    (.cons (.set 3 "_law_cell" ⟨159, 4, 159, 13⟩ (.bin .mod (.bin .add (.bin .mul (.var 3 "_law_cell" ⟨159, 17, 159, 26⟩) (.var 3 "_law_cell" ⟨159, 29, 159, 38⟩) ⟨159, 17, 159, 38⟩) (.bin .div (.var 3 "_law_cell" ⟨159, 41, 159, 50⟩) (.cst (.int 3) 0 ⟨159, 54, 159, 55⟩) ⟨159, 41, 159, 55⟩) ⟨159, 17, 159, 55⟩) (.cst (.int 2147483399) 0 ⟨159, 59, 159, 69⟩) ⟨159, 16, 159, 69⟩) ⟨159, 4, 159, 69⟩)
    (.cons (.ret (.bin .mod (.bin .div (.bin .mod (.bin .add (.bin .mul (.var 3 "_law_cell" ⟨160, 12, 160, 21⟩) (.var 3 "_law_cell" ⟨160, 24, 160, 33⟩) ⟨160, 12, 160, 33⟩) (.bin .div (.var 3 "_law_cell" ⟨160, 36, 160, 45⟩) (.cst (.int 7) 0 ⟨160, 49, 160, 50⟩) ⟨160, 36, 160, 50⟩) ⟨160, 12, 160, 50⟩) (.cst (.int 2147483647) 0 ⟨160, 54, 160, 64⟩) ⟨160, 11, 160, 64⟩) (.cst (.int 11) 0 ⟨160, 68, 160, 70⟩) ⟨160, 11, 160, 70⟩) (.var 2 "_law_many" ⟨160, 73, 160, 82⟩) ⟨160, 11, 160, 82⟩) ⟨160, 4, 160, 82⟩)
    .nil)))))
theorem py30 : s30.py = defBody (top 41) := by kernel_rfl
theorem ok30 : s30.ok g30 exs (defScope (top 41)) = true := by kernel_rfl
theorem sc30 : FnScope n30 ["_law_script", "_law_k", "_law_many"] (defScope (top 41)) := scB_ok (by kernel_rfl)
def ds30 : List (List D → Rs D) := [d0, d1, d2, d3, d4, d5, d6, d7, d8, d9, d10, d11, d12, d13, d14, d15, d16, d17, d18, d19, d20, d21, d22, d23, d24, d25, d26, d27, d28, d29]
def d30 : List D → Rs D := defD (tbl ds30) 3 6 s30
def n31 : List Str := ["_law_script", "_law_at", "_law_most", "_law_found", "_law_kept", "_law_k", "_law_place", "_law_way", "_law_left", "_law_top", "_law_right", "_law_bottom", "_law_size", "_law_line", "_law_first", "_law_second", "_law_turn", "_law_panel"]
def g31 : Sg := ⟨n31, fun i => i == 4, gls, [(("is_int" : Str), 3), (("is_panel" : Str), 1), (("share_widths" : Str), 2), (("share_heights" : Str), 2), (("is_page" : Str), 1), (("check_page" : Str), 1), (("check_number" : Str), 3), (("goes_before" : Str), 3), (("is_before" : Str), 3), (("find_pairs" : Str), 1), (("find_cuts" : Str), 3), (("find_parts" : Str), 3), (("check_part" : Str), 2), (("row_parts" : Str), 2), (("column_parts" : Str), 2), (("read_part" : Str), 3), (("find_reading" : Str), 2), (("by_rows" : Str), 1), (("by_columns" : Str), 1), (("stuck_part" : Str), 1), (("is_cuttable" : Str), 1), (("has_order" : Str), 2), (("keeps_pairs" : Str), 2), (("fits" : Str), 2), (("can_read" : Str), 2), (("next_ones" : Str), 2), (("count_left" : Str), 1000 + 2), (("find_number" : Str), 2), (("first_order" : Str), 1), (("is_sure" : Str), 1), (("_law_drawn" : Str), 3)], bls, fun _ => false, none⟩
def s31 : Ss := (.cons (.par [(3, "_law_found", ⟨162, 4, 162, 14⟩), (4, "_law_kept", ⟨162, 16, 162, 25⟩)] 0 ⟨162, 4, 162, 25⟩ (.cons (.lst (.cons (.tup (.cons (.cst (.int 0) 0 ⟨162, 31, 162, 32⟩) (.cons (.cst (.int 0) 0 ⟨162, 34, 162, 35⟩) (.cons (.cst (.int 12) 0 ⟨162, 37, 162, 39⟩) (.cons (.cst (.int 12) 0 ⟨162, 41, 162, 43⟩) .nil)))) 0 ⟨162, 30, 162, 44⟩) .nil) ⟨162, 29, 162, 45⟩) (.cons (.lst .nil ⟨162, 47, 162, 49⟩) .nil)) 0 ⟨162, 28, 162, 50⟩ ⟨162, 4, 162, 50⟩)
    (.cons (.for (.nm 5 "_law_k" ⟨163, 8, 163, 14⟩) (.rng1 (.call 30 "_law_drawn" ⟨163, 24, 163, 34⟩ (.var 0 "_law_script" ⟨163, 35, 163, 46⟩) (.cons (.var 1 "_law_at" ⟨163, 48, 163, 55⟩) (.cons (.var 2 "_law_most" ⟨163, 57, 163, 66⟩) .nil)) ⟨163, 24, 163, 67⟩) ⟨163, 18, 163, 23⟩ ⟨163, 18, 163, 68⟩) (.cons (.par [(6, "_law_place", ⟨164, 8, 164, 18⟩), (7, "_law_way", ⟨164, 20, 164, 28⟩)] 0 ⟨164, 8, 164, 28⟩ (.cons (.call 30 "_law_drawn" ⟨164, 32, 164, 42⟩ (.var 0 "_law_script" ⟨164, 43, 164, 54⟩) (.cons (.bin .add (.bin .add (.var 1 "_law_at" ⟨164, 56, 164, 63⟩) (.cst (.int 1) 0 ⟨164, 66, 164, 67⟩) ⟨164, 56, 164, 67⟩) (.bin .mul (.cst (.int 4) 0 ⟨164, 70, 164, 71⟩) (.var 5 "_law_k" ⟨164, 74, 164, 80⟩) ⟨164, 70, 164, 80⟩) ⟨164, 56, 164, 80⟩) (.cons (.prim .len ⟨164, 82, 164, 85⟩ (.var 3 "_law_found" ⟨164, 86, 164, 96⟩) .nil ⟨164, 82, 164, 97⟩) .nil)) ⟨164, 32, 164, 98⟩) (.cons (.call 30 "_law_drawn" ⟨164, 100, 164, 110⟩ (.var 0 "_law_script" ⟨164, 111, 164, 122⟩) (.cons (.bin .add (.bin .add (.var 1 "_law_at" ⟨164, 124, 164, 131⟩) (.cst (.int 2) 0 ⟨164, 134, 164, 135⟩) ⟨164, 124, 164, 135⟩) (.bin .mul (.cst (.int 4) 0 ⟨164, 138, 164, 139⟩) (.var 5 "_law_k" ⟨164, 142, 164, 148⟩) ⟨164, 138, 164, 148⟩) ⟨164, 124, 164, 148⟩) (.cons (.cst (.int 2) 0 ⟨164, 150, 164, 151⟩) .nil)) ⟨164, 100, 164, 152⟩) .nil)) 0 ⟨164, 31, 164, 153⟩ ⟨164, 8, 164, 153⟩)
    (.cons (.asg [(8, "_law_left", ⟨165, 8, 165, 17⟩), (9, "_law_top", ⟨165, 19, 165, 27⟩), (10, "_law_right", ⟨165, 29, 165, 39⟩), (11, "_law_bottom", ⟨165, 41, 165, 52⟩)] 0 ⟨165, 8, 165, 52⟩ (.ix (.var 3 "_law_found" ⟨165, 55, 165, 65⟩) (.var 6 "_law_place" ⟨165, 66, 165, 76⟩) ⟨165, 55, 165, 77⟩) ⟨165, 8, 165, 77⟩)
    (.cons (.set 12 "_law_size" ⟨166, 8, 166, 17⟩ (.ite (.cmp .eq (.var 7 "_law_way" ⟨166, 46, 166, 54⟩) (.cst (.int 0) 0 ⟨166, 58, 166, 59⟩) ⟨166, 46, 166, 59⟩) (.bin .sub (.var 10 "_law_right" ⟨166, 20, 166, 30⟩) (.var 8 "_law_left" ⟨166, 33, 166, 42⟩) ⟨166, 20, 166, 42⟩) (.bin .sub (.var 11 "_law_bottom" ⟨166, 65, 166, 76⟩) (.var 9 "_law_top" ⟨166, 79, 166, 87⟩) ⟨166, 65, 166, 87⟩) ⟨166, 20, 166, 87⟩) ⟨166, 8, 166, 87⟩)
    (.cons (.iff (.cmp .gt (.var 12 "_law_size" ⟨167, 11, 167, 20⟩) (.cst (.int 1) 0 ⟨167, 23, 167, 24⟩) ⟨167, 11, 167, 24⟩) (.cons (.set 13 "_law_line" ⟨168, 12, 168, 21⟩ (.bin .add (.cst (.int 1) 0 ⟨168, 24, 168, 25⟩) (.call 30 "_law_drawn" ⟨168, 28, 168, 38⟩ (.var 0 "_law_script" ⟨168, 39, 168, 50⟩) (.cons (.bin .add (.bin .add (.var 1 "_law_at" ⟨168, 52, 168, 59⟩) (.cst (.int 3) 0 ⟨168, 62, 168, 63⟩) ⟨168, 52, 168, 63⟩) (.bin .mul (.cst (.int 4) 0 ⟨168, 66, 168, 67⟩) (.var 5 "_law_k" ⟨168, 70, 168, 76⟩) ⟨168, 66, 168, 76⟩) ⟨168, 52, 168, 76⟩) (.cons (.bin .sub (.var 12 "_law_size" ⟨168, 78, 168, 87⟩) (.cst (.int 1) 0 ⟨168, 90, 168, 91⟩) ⟨168, 78, 168, 91⟩) .nil)) ⟨168, 28, 168, 92⟩) ⟨168, 24, 168, 92⟩) ⟨168, 12, 168, 92⟩)
    (.cons (.set 14 "_law_first" ⟨169, 12, 169, 22⟩ (.ite (.cmp .eq (.var 7 "_law_way" ⟨169, 86, 169, 94⟩) (.cst (.int 0) 0 ⟨169, 98, 169, 99⟩) ⟨169, 86, 169, 99⟩) (.tup (.cons (.var 8 "_law_left" ⟨169, 26, 169, 35⟩) (.cons (.var 9 "_law_top" ⟨169, 37, 169, 45⟩) (.cons (.bin .add (.var 8 "_law_left" ⟨169, 47, 169, 56⟩) (.var 13 "_law_line" ⟨169, 59, 169, 68⟩) ⟨169, 47, 169, 68⟩) (.cons (.var 11 "_law_bottom" ⟨169, 70, 169, 81⟩) .nil)))) 0 ⟨169, 25, 169, 82⟩) (.tup (.cons (.var 8 "_law_left" ⟨169, 106, 169, 115⟩) (.cons (.var 9 "_law_top" ⟨169, 117, 169, 125⟩) (.cons (.var 10 "_law_right" ⟨169, 127, 169, 137⟩) (.cons (.bin .add (.var 9 "_law_top" ⟨169, 139, 169, 147⟩) (.var 13 "_law_line" ⟨169, 150, 169, 159⟩) ⟨169, 139, 169, 159⟩) .nil)))) 0 ⟨169, 105, 169, 160⟩) ⟨169, 25, 169, 160⟩) ⟨169, 12, 169, 160⟩)
    (.cons (.set 15 "_law_second" ⟨170, 12, 170, 23⟩ (.ite (.cmp .eq (.var 7 "_law_way" ⟨170, 88, 170, 96⟩) (.cst (.int 0) 0 ⟨170, 100, 170, 101⟩) ⟨170, 88, 170, 101⟩) (.tup (.cons (.bin .add (.var 8 "_law_left" ⟨170, 27, 170, 36⟩) (.var 13 "_law_line" ⟨170, 39, 170, 48⟩) ⟨170, 27, 170, 48⟩) (.cons (.var 9 "_law_top" ⟨170, 50, 170, 58⟩) (.cons (.var 10 "_law_right" ⟨170, 60, 170, 70⟩) (.cons (.var 11 "_law_bottom" ⟨170, 72, 170, 83⟩) .nil)))) 0 ⟨170, 26, 170, 84⟩) (.tup (.cons (.var 8 "_law_left" ⟨170, 108, 170, 117⟩) (.cons (.bin .add (.var 9 "_law_top" ⟨170, 119, 170, 127⟩) (.var 13 "_law_line" ⟨170, 130, 170, 139⟩) ⟨170, 119, 170, 139⟩) (.cons (.var 10 "_law_right" ⟨170, 141, 170, 151⟩) (.cons (.var 11 "_law_bottom" ⟨170, 153, 170, 164⟩) .nil)))) 0 ⟨170, 107, 170, 165⟩) ⟨170, 26, 170, 165⟩) ⟨170, 12, 170, 165⟩)
    (.cons (.set 16 "_law_turn" ⟨171, 12, 171, 21⟩ (.call 30 "_law_drawn" ⟨171, 24, 171, 34⟩ (.var 0 "_law_script" ⟨171, 35, 171, 46⟩) (.cons (.bin .add (.bin .add (.var 1 "_law_at" ⟨171, 48, 171, 55⟩) (.cst (.int 4) 0 ⟨171, 58, 171, 59⟩) ⟨171, 48, 171, 59⟩) (.bin .mul (.cst (.int 4) 0 ⟨171, 62, 171, 63⟩) (.var 5 "_law_k" ⟨171, 66, 171, 72⟩) ⟨171, 62, 171, 72⟩) ⟨171, 48, 171, 72⟩) (.cons (.cst (.int 2) 0 ⟨171, 74, 171, 75⟩) .nil)) ⟨171, 24, 171, 76⟩) ⟨171, 12, 171, 76⟩)
    (.cons (.set 3 "_law_found" ⟨172, 12, 172, 22⟩ (.bin .add (.bin .add (.bin .add (.shi (.var 3 "_law_found" ⟨172, 25, 172, 35⟩) (.var 6 "_law_place" ⟨172, 37, 172, 47⟩) ⟨172, 36, 172, 47⟩ ⟨172, 25, 172, 48⟩) (.lst (.cons (.ix (.lst (.cons (.var 14 "_law_first" ⟨172, 53, 172, 63⟩) (.cons (.var 15 "_law_second" ⟨172, 65, 172, 76⟩) .nil)) ⟨172, 52, 172, 77⟩) (.var 16 "_law_turn" ⟨172, 78, 172, 87⟩) ⟨172, 52, 172, 88⟩) .nil) ⟨172, 51, 172, 89⟩) ⟨172, 25, 172, 89⟩) (.slo (.var 3 "_law_found" ⟨172, 92, 172, 102⟩) (.bin .add (.var 6 "_law_place" ⟨172, 103, 172, 113⟩) (.cst (.int 1) 0 ⟨172, 116, 172, 117⟩) ⟨172, 103, 172, 117⟩) ⟨172, 103, 172, 118⟩ ⟨172, 92, 172, 119⟩) ⟨172, 25, 172, 119⟩) (.lst (.cons (.ix (.lst (.cons (.var 15 "_law_second" ⟨172, 124, 172, 135⟩) (.cons (.var 14 "_law_first" ⟨172, 137, 172, 147⟩) .nil)) ⟨172, 123, 172, 148⟩) (.var 16 "_law_turn" ⟨172, 149, 172, 158⟩) ⟨172, 123, 172, 159⟩) .nil) ⟨172, 122, 172, 160⟩) ⟨172, 25, 172, 160⟩) ⟨172, 12, 172, 160⟩)
    .nil))))) .nil ⟨167, 8, 172, 160⟩)
    .nil)))) ⟨163, 4, 172, 160⟩)
    (.cons (.for (.tp [(5, "_law_k", ⟨173, 8, 173, 14⟩), (17, "_law_panel", ⟨173, 16, 173, 26⟩)] 0 ⟨173, 8, 173, 26⟩) (.enu (.var 3 "_law_found" ⟨173, 40, 173, 50⟩) ⟨173, 30, 173, 39⟩ ⟨173, 30, 173, 51⟩) (.cons (.set 4 "_law_kept" ⟨174, 8, 174, 17⟩ (.lad (.var 4 "_law_kept" ⟨174, 20, 174, 29⟩) (.ite (.cmp .gt (.call 30 "_law_drawn" ⟨174, 49, 174, 59⟩ (.var 0 "_law_script" ⟨174, 60, 174, 71⟩) (.cons (.bin .add (.bin .add (.var 1 "_law_at" ⟨174, 73, 174, 80⟩) (.cst (.int 40) 0 ⟨174, 83, 174, 85⟩) ⟨174, 73, 174, 85⟩) (.var 5 "_law_k" ⟨174, 88, 174, 94⟩) ⟨174, 73, 174, 94⟩) (.cons (.cst (.int 5) 0 ⟨174, 96, 174, 97⟩) .nil)) ⟨174, 49, 174, 98⟩) (.cst (.int 0) 0 ⟨174, 101, 174, 102⟩) ⟨174, 49, 174, 102⟩) (.lst (.cons (.var 17 "_law_panel" ⟨174, 34, 174, 44⟩) .nil) ⟨174, 33, 174, 45⟩) (.lst .nil ⟨174, 108, 174, 110⟩) ⟨174, 33, 174, 110⟩) ⟨174, 20, 174, 111⟩) ⟨174, 8, 174, 111⟩)
    .nil) ⟨173, 4, 174, 111⟩)
    (.cons (.iff (.cmp .eq (.call 30 "_law_drawn" ⟨175, 7, 175, 17⟩ (.var 0 "_law_script" ⟨175, 18, 175, 29⟩) (.cons (.bin .add (.var 1 "_law_at" ⟨175, 31, 175, 38⟩) (.cst (.int 50) 0 ⟨175, 41, 175, 43⟩) ⟨175, 31, 175, 43⟩) (.cons (.cst (.int 4) 0 ⟨175, 45, 175, 46⟩) .nil)) ⟨175, 7, 175, 47⟩) (.cst (.int 0) 0 ⟨175, 51, 175, 52⟩) ⟨175, 7, 175, 52⟩) (.cons (.set 4 "_law_kept" ⟨176, 8, 176, 17⟩ (.lst (.cons (.tup (.cons (.cst (.int 2) 0 ⟨176, 22, 176, 23⟩) (.cons (.cst (.int 0) 0 ⟨176, 25, 176, 26⟩) (.cons (.cst (.int 8) 0 ⟨176, 28, 176, 29⟩) (.cons (.cst (.int 2) 0 ⟨176, 31, 176, 32⟩) .nil)))) 0 ⟨176, 21, 176, 33⟩) (.cons (.tup (.cons (.cst (.int 6) 0 ⟨176, 36, 176, 37⟩) (.cons (.cst (.int 2) 0 ⟨176, 39, 176, 40⟩) (.cons (.cst (.int 8) 0 ⟨176, 42, 176, 43⟩) (.cons (.cst (.int 8) 0 ⟨176, 45, 176, 46⟩) .nil)))) 0 ⟨176, 35, 176, 47⟩) (.cons (.tup (.cons (.cst (.int 0) 0 ⟨176, 50, 176, 51⟩) (.cons (.cst (.int 6) 0 ⟨176, 53, 176, 54⟩) (.cons (.cst (.int 6) 0 ⟨176, 56, 176, 57⟩) (.cons (.cst (.int 8) 0 ⟨176, 59, 176, 60⟩) .nil)))) 0 ⟨176, 49, 176, 61⟩) (.cons (.tup (.cons (.cst (.int 0) 0 ⟨176, 64, 176, 65⟩) (.cons (.cst (.int 0) 0 ⟨176, 67, 176, 68⟩) (.cons (.cst (.int 2) 0 ⟨176, 70, 176, 71⟩) (.cons (.cst (.int 6) 0 ⟨176, 73, 176, 74⟩) .nil)))) 0 ⟨176, 63, 176, 75⟩) (.cons (.tup (.cons (.cst (.int 3) 0 ⟨176, 78, 176, 79⟩) (.cons (.cst (.int 3) 0 ⟨176, 81, 176, 82⟩) (.cons (.cst (.int 5) 0 ⟨176, 84, 176, 85⟩) (.cons (.cst (.int 5) 0 ⟨176, 87, 176, 88⟩) .nil)))) 0 ⟨176, 77, 176, 89⟩) .nil))))) ⟨176, 20, 176, 90⟩) ⟨176, 8, 176, 90⟩)
    (.cons (.set 4 "_law_kept" ⟨177, 8, 177, 17⟩ (.lshi (.var 4 "_law_kept" ⟨177, 20, 177, 29⟩) (.bin .add (.cst (.int 2) 0 ⟨177, 31, 177, 32⟩) (.call 30 "_law_drawn" ⟨177, 35, 177, 45⟩ (.var 0 "_law_script" ⟨177, 46, 177, 57⟩) (.cons (.bin .add (.var 1 "_law_at" ⟨177, 59, 177, 66⟩) (.cst (.int 51) 0 ⟨177, 69, 177, 71⟩) ⟨177, 59, 177, 71⟩) (.cons (.cst (.int 4) 0 ⟨177, 73, 177, 74⟩) .nil)) ⟨177, 35, 177, 75⟩) ⟨177, 31, 177, 75⟩) ⟨177, 30, 177, 75⟩ ⟨177, 20, 177, 76⟩) ⟨177, 8, 177, 76⟩)
    .nil)) .nil ⟨175, 4, 177, 76⟩)
    (.cons (.iff (.cmp .eq (.call 30 "_law_drawn" ⟨178, 7, 178, 17⟩ (.var 0 "_law_script" ⟨178, 18, 178, 29⟩) (.cons (.bin .add (.var 1 "_law_at" ⟨178, 31, 178, 38⟩) (.cst (.int 52) 0 ⟨178, 41, 178, 43⟩) ⟨178, 31, 178, 43⟩) (.cons (.cst (.int 4) 0 ⟨178, 45, 178, 46⟩) .nil)) ⟨178, 7, 178, 47⟩) (.cst (.int 0) 0 ⟨178, 51, 178, 52⟩) ⟨178, 7, 178, 52⟩) (.cons (.set 4 "_law_kept" ⟨179, 8, 179, 17⟩ (.lshi (.lst (.cons (.tup (.cons (.cst (.int 9) 0 ⟨179, 22, 179, 23⟩) (.cons (.cst (.int 0) 0 ⟨179, 25, 179, 26⟩) (.cons (.cst (.int 11) 0 ⟨179, 28, 179, 30⟩) (.cons (.cst (.int 2) 0 ⟨179, 32, 179, 33⟩) .nil)))) 0 ⟨179, 21, 179, 34⟩) (.cons (.tup (.cons (.cst (.int 6) 0 ⟨179, 37, 179, 38⟩) (.cons (.cst (.int 2) 0 ⟨179, 40, 179, 41⟩) (.cons (.cst (.int 8) 0 ⟨179, 43, 179, 44⟩) (.cons (.cst (.int 4) 0 ⟨179, 46, 179, 47⟩) .nil)))) 0 ⟨179, 36, 179, 48⟩) (.cons (.tup (.cons (.cst (.int 3) 0 ⟨179, 51, 179, 52⟩) (.cons (.cst (.int 4) 0 ⟨179, 54, 179, 55⟩) (.cons (.cst (.int 5) 0 ⟨179, 57, 179, 58⟩) (.cons (.cst (.int 6) 0 ⟨179, 60, 179, 61⟩) .nil)))) 0 ⟨179, 50, 179, 62⟩) (.cons (.tup (.cons (.cst (.int 0) 0 ⟨179, 65, 179, 66⟩) (.cons (.cst (.int 6) 0 ⟨179, 68, 179, 69⟩) (.cons (.cst (.int 2) 0 ⟨179, 71, 179, 72⟩) (.cons (.cst (.int 8) 0 ⟨179, 74, 179, 75⟩) .nil)))) 0 ⟨179, 64, 179, 76⟩) .nil)))) ⟨179, 20, 179, 77⟩) (.bin .add (.cst (.int 2) 0 ⟨179, 79, 179, 80⟩) (.call 30 "_law_drawn" ⟨179, 83, 179, 93⟩ (.var 0 "_law_script" ⟨179, 94, 179, 105⟩) (.cons (.bin .add (.var 1 "_law_at" ⟨179, 107, 179, 114⟩) (.cst (.int 53) 0 ⟨179, 117, 179, 119⟩) ⟨179, 107, 179, 119⟩) (.cons (.cst (.int 3) 0 ⟨179, 121, 179, 122⟩) .nil)) ⟨179, 83, 179, 123⟩) ⟨179, 79, 179, 123⟩) ⟨179, 78, 179, 123⟩ ⟨179, 20, 179, 124⟩) ⟨179, 8, 179, 124⟩)
    .nil) .nil ⟨178, 4, 179, 124⟩)
    (.cons (.iff (.and (.cmp .lt (.prim .len ⟨180, 7, 180, 10⟩ (.var 4 "_law_kept" ⟨180, 11, 180, 20⟩) .nil ⟨180, 7, 180, 21⟩) (.var 2 "_law_most" ⟨180, 24, 180, 33⟩) ⟨180, 7, 180, 33⟩) (.cons (.cmp .lt (.prim .max ⟨180, 38, 180, 41⟩ (.bin .add (.lst (.cons (.cst (.int 0) 0 ⟨180, 43, 180, 44⟩) .nil) ⟨180, 42, 180, 45⟩) (.comp (.ix (.var 17 "_law_panel" ⟨180, 49, 180, 59⟩) (.cst (.int 3) 0 ⟨180, 60, 180, 61⟩) ⟨180, 49, 180, 62⟩) (.nm 17 "_law_panel" ⟨180, 67, 180, 77⟩) (.seq (.var 4 "_law_kept" ⟨180, 81, 180, 90⟩)) .nil ⟨.function, [(".0", .local), ("_law_panel", .local)], false, false, []⟩ [("_law_panel", 17)] ⟨180, 48, 180, 91⟩) ⟨180, 42, 180, 91⟩) .nil ⟨180, 38, 180, 92⟩) (.cst (.int 9) 0 ⟨180, 95, 180, 96⟩) ⟨180, 38, 180, 96⟩) (.cons (.cmp .eq (.call 30 "_law_drawn" ⟨180, 102, 180, 112⟩ (.var 0 "_law_script" ⟨180, 113, 180, 124⟩) (.cons (.bin .add (.var 1 "_law_at" ⟨180, 126, 180, 133⟩) (.cst (.int 54) 0 ⟨180, 136, 180, 138⟩) ⟨180, 126, 180, 138⟩) (.cons (.cst (.int 2) 0 ⟨180, 140, 180, 141⟩) .nil)) ⟨180, 102, 180, 142⟩) (.cst (.int 0) 0 ⟨180, 146, 180, 147⟩) ⟨180, 102, 180, 147⟩) .nil)) ⟨180, 7, 180, 148⟩) (.cons (.app 4 "_law_kept" ⟨181, 8, 181, 17⟩ ⟨181, 8, 181, 24⟩ ⟨181, 8, 181, 40⟩ (.tup (.cons (.cst (.int 0) 0 ⟨181, 26, 181, 27⟩) (.cons (.cst (.int 9) 0 ⟨181, 29, 181, 30⟩) (.cons (.cst (.int 12) 0 ⟨181, 32, 181, 34⟩) (.cons (.cst (.int 12) 0 ⟨181, 36, 181, 38⟩) .nil)))) 0 ⟨181, 25, 181, 39⟩) ⟨181, 8, 181, 40⟩)
    .nil) .nil ⟨180, 4, 181, 40⟩)
    (.cons (.ret (.prim .tuple ⟨182, 11, 182, 16⟩ (.var 4 "_law_kept" ⟨182, 17, 182, 26⟩) .nil ⟨182, 11, 182, 27⟩) ⟨182, 4, 182, 27⟩)
    .nil)))))))
theorem py31 : s31.py = defBody (top 42) := by kernel_rfl
theorem ok31 : s31.ok g31 exs (defScope (top 42)) = true := by kernel_rfl
theorem sc31 : FnScope n31 ["_law_script", "_law_at", "_law_most"] (defScope (top 42)) := scB_ok (by kernel_rfl)
def ds31 : List (List D → Rs D) := [d0, d1, d2, d3, d4, d5, d6, d7, d8, d9, d10, d11, d12, d13, d14, d15, d16, d17, d18, d19, d20, d21, d22, d23, d24, d25, d26, d27, d28, d29, d30]
def d31 : List D → Rs D := defD (tbl ds31) 3 18 s31
def n32 : List Str := ["_law_page_here", "_law_stuck_here", "_law_small", "_law_number"]
def g32 : Sg := ⟨n32, fun _ => false, gls, [(("is_int" : Str), 3), (("is_panel" : Str), 1), (("share_widths" : Str), 2), (("share_heights" : Str), 2), (("is_page" : Str), 1), (("check_page" : Str), 1), (("check_number" : Str), 3), (("goes_before" : Str), 3), (("is_before" : Str), 3), (("find_pairs" : Str), 1), (("find_cuts" : Str), 3), (("find_parts" : Str), 3), (("check_part" : Str), 2), (("row_parts" : Str), 2), (("column_parts" : Str), 2), (("read_part" : Str), 3), (("find_reading" : Str), 2), (("by_rows" : Str), 1), (("by_columns" : Str), 1), (("stuck_part" : Str), 1), (("is_cuttable" : Str), 1), (("has_order" : Str), 2), (("keeps_pairs" : Str), 2), (("fits" : Str), 2), (("can_read" : Str), 2), (("next_ones" : Str), 2), (("count_left" : Str), 1000 + 2), (("find_number" : Str), 2), (("first_order" : Str), 1), (("is_sure" : Str), 1), (("_law_drawn" : Str), 3), (("_law_page" : Str), 3)], bls, fun _ => false, none⟩
def s32 : Ss := (.cons (.set 1 "_law_stuck_here" ⟨184, 4, 184, 19⟩ (.call 19 "stuck_part" ⟨184, 22, 184, 32⟩ (.var 0 "_law_page_here" ⟨184, 33, 184, 47⟩) .nil ⟨184, 22, 184, 48⟩) ⟨184, 4, 184, 48⟩)
    (.cons (.iff (.cmp .isnot (.var 1 "_law_stuck_here" ⟨185, 7, 185, 22⟩) (.cst .non 0 ⟨185, 30, 185, 34⟩) ⟨185, 7, 185, 34⟩) (.cons (.iff (.or (.cmp .lt (.prim .len ⟨186, 11, 186, 14⟩ (.var 1 "_law_stuck_here" ⟨186, 15, 186, 30⟩) .nil ⟨186, 11, 186, 31⟩) (.cst (.int 4) 0 ⟨186, 34, 186, 35⟩) ⟨186, 11, 186, 35⟩) (.cons (.cmp .ne (.call 13 "row_parts" ⟨186, 39, 186, 48⟩ (.var 0 "_law_page_here" ⟨186, 49, 186, 63⟩) (.cons (.var 1 "_law_stuck_here" ⟨186, 65, 186, 80⟩) .nil) ⟨186, 39, 186, 81⟩) (.lst (.cons (.var 1 "_law_stuck_here" ⟨186, 86, 186, 101⟩) .nil) ⟨186, 85, 186, 102⟩) ⟨186, 39, 186, 102⟩) .nil) ⟨186, 11, 186, 102⟩) (.cons (.ret (.cst (.bl false) 0 ⟨187, 19, 187, 24⟩) ⟨187, 12, 187, 24⟩)
    .nil) .nil ⟨186, 8, 187, 24⟩)
    (.cons (.iff (.cmp .ne (.call 14 "column_parts" ⟨188, 11, 188, 23⟩ (.var 0 "_law_page_here" ⟨188, 24, 188, 38⟩) (.cons (.var 1 "_law_stuck_here" ⟨188, 40, 188, 55⟩) .nil) ⟨188, 11, 188, 56⟩) (.lst (.cons (.var 1 "_law_stuck_here" ⟨188, 61, 188, 76⟩) .nil) ⟨188, 60, 188, 77⟩) ⟨188, 11, 188, 77⟩) (.cons (.ret (.cst (.bl false) 0 ⟨189, 19, 189, 24⟩) ⟨189, 12, 189, 24⟩)
    .nil) .nil ⟨188, 8, 189, 24⟩)
    (.cons (.set 2 "_law_small" ⟨190, 8, 190, 18⟩ (.prim .tuple ⟨190, 21, 190, 26⟩ (.comp (.ix (.var 0 "_law_page_here" ⟨190, 28, 190, 42⟩) (.var 3 "_law_number" ⟨190, 43, 190, 54⟩) ⟨190, 28, 190, 55⟩) (.nm 3 "_law_number" ⟨190, 60, 190, 71⟩) (.seq (.var 1 "_law_stuck_here" ⟨190, 75, 190, 90⟩)) .nil ⟨.function, [(".0", .local), ("_law_number", .local), ("_law_page_here", .free)], false, false, []⟩ [("_law_number", 3)] ⟨190, 27, 190, 91⟩) .nil ⟨190, 21, 190, 92⟩) ⟨190, 8, 190, 92⟩)
    (.cons (.iff (.or (.call 20 "is_cuttable" ⟨191, 11, 191, 22⟩ (.var 2 "_law_small" ⟨191, 23, 191, 33⟩) .nil ⟨191, 11, 191, 34⟩) (.cons (.cmp .ne (.call 19 "stuck_part" ⟨191, 38, 191, 48⟩ (.var 2 "_law_small" ⟨191, 49, 191, 59⟩) .nil ⟨191, 38, 191, 60⟩) (.trng1 (.prim .len ⟨191, 76, 191, 79⟩ (.var 2 "_law_small" ⟨191, 80, 191, 90⟩) .nil ⟨191, 76, 191, 91⟩) ⟨191, 64, 191, 69⟩ ⟨191, 70, 191, 75⟩ ⟨191, 70, 191, 92⟩ ⟨191, 64, 191, 93⟩) ⟨191, 38, 191, 93⟩) .nil) ⟨191, 11, 191, 93⟩) (.cons (.ret (.cst (.bl false) 0 ⟨192, 19, 192, 24⟩) ⟨192, 12, 192, 24⟩)
    .nil) .nil ⟨191, 8, 192, 24⟩)
    .nil)))) .nil ⟨185, 4, 192, 24⟩)
    (.cons (.ret (.or (.cmp .gt (.prim .len ⟨193, 11, 193, 14⟩ (.var 0 "_law_page_here" ⟨193, 15, 193, 29⟩) .nil ⟨193, 11, 193, 30⟩) (.cst (.int 3) 0 ⟨193, 33, 193, 34⟩) ⟨193, 11, 193, 34⟩) (.cons (.cmp .is (.call 20 "is_cuttable" ⟨193, 38, 193, 49⟩ (.var 0 "_law_page_here" ⟨193, 50, 193, 64⟩) .nil ⟨193, 38, 193, 65⟩) (.cst (.bl true) 0 ⟨193, 69, 193, 73⟩) ⟨193, 38, 193, 73⟩) .nil) ⟨193, 11, 193, 73⟩) ⟨193, 4, 193, 73⟩)
    .nil)))
theorem py32 : s32.py = defBody (top 43) := by kernel_rfl
theorem ok32 : s32.ok g32 exs (defScope (top 43)) = true := by kernel_rfl
theorem sc32 : FnScope n32 ["_law_page_here"] (defScope (top 43)) := scB_ok (by kernel_rfl)
def ds32 : List (List D → Rs D) := [d0, d1, d2, d3, d4, d5, d6, d7, d8, d9, d10, d11, d12, d13, d14, d15, d16, d17, d18, d19, d20, d21, d22, d23, d24, d25, d26, d27, d28, d29, d30, d31]
def d32 : List D → Rs D := defD (tbl ds32) 1 4 s32
def n33 : List Str := ["_law_script", "_law_page_here", "_law_whole", "_law_rows", "_law_columns", "_law_turned", "_law_way", "_law_parts", "_law_held", "_law_part", "_law_one", "_law_other", "_law_turned_parts", "_law_left", "_law_top", "_law_right", "_law_bottom", "_law_a", "_law_b"]
def g33 : Sg := ⟨n33, fun i => i == 6, gls, [(("is_int" : Str), 3), (("is_panel" : Str), 1), (("share_widths" : Str), 2), (("share_heights" : Str), 2), (("is_page" : Str), 1), (("check_page" : Str), 1), (("check_number" : Str), 3), (("goes_before" : Str), 3), (("is_before" : Str), 3), (("find_pairs" : Str), 1), (("find_cuts" : Str), 3), (("find_parts" : Str), 3), (("check_part" : Str), 2), (("row_parts" : Str), 2), (("column_parts" : Str), 2), (("read_part" : Str), 3), (("find_reading" : Str), 2), (("by_rows" : Str), 1), (("by_columns" : Str), 1), (("stuck_part" : Str), 1), (("is_cuttable" : Str), 1), (("has_order" : Str), 2), (("keeps_pairs" : Str), 2), (("fits" : Str), 2), (("can_read" : Str), 2), (("next_ones" : Str), 2), (("count_left" : Str), 1000 + 2), (("find_number" : Str), 2), (("first_order" : Str), 1), (("is_sure" : Str), 1), (("_law_drawn" : Str), 3), (("_law_page" : Str), 3), (("_law_stuck" : Str), 1)], bls, fun i => i == 6, none⟩
def s33 : Ss := (.cons (.set 1 "_law_page_here" ⟨195, 4, 195, 18⟩ (.call 31 "_law_page" ⟨195, 21, 195, 30⟩ (.var 0 "_law_script" ⟨195, 31, 195, 42⟩) (.cons (.cst (.int 10) 0 ⟨195, 44, 195, 46⟩) (.cons (.cst (.int 8) 0 ⟨195, 48, 195, 49⟩) .nil)) ⟨195, 21, 195, 50⟩) ⟨195, 4, 195, 50⟩)
    (.cons (.set 2 "_law_whole" ⟨196, 4, 196, 14⟩ (.trng1 (.prim .len ⟨196, 29, 196, 32⟩ (.var 1 "_law_page_here" ⟨196, 33, 196, 47⟩) .nil ⟨196, 29, 196, 48⟩) ⟨196, 17, 196, 22⟩ ⟨196, 23, 196, 28⟩ ⟨196, 23, 196, 49⟩ ⟨196, 17, 196, 50⟩) ⟨196, 4, 196, 50⟩)
    (.cons (.par [(3, "_law_rows", ⟨197, 4, 197, 13⟩), (4, "_law_columns", ⟨197, 15, 197, 27⟩)] 0 ⟨197, 4, 197, 27⟩ (.cons (.call 17 "by_rows" ⟨197, 31, 197, 38⟩ (.var 1 "_law_page_here" ⟨197, 39, 197, 53⟩) .nil ⟨197, 31, 197, 54⟩) (.cons (.call 18 "by_columns" ⟨197, 56, 197, 66⟩ (.var 1 "_law_page_here" ⟨197, 67, 197, 81⟩) .nil ⟨197, 56, 197, 82⟩) .nil)) 0 ⟨197, 30, 197, 83⟩ ⟨197, 4, 197, 83⟩)
    (.cons (.iff (.or (.cmp .ne (.cmp .is (.var 3 "_law_rows" ⟨198, 8, 198, 17⟩) (.cst .non 0 ⟨198, 21, 198, 25⟩) ⟨198, 8, 198, 25⟩) (.not (.call 20 "is_cuttable" ⟨198, 35, 198, 46⟩ (.var 1 "_law_page_here" ⟨198, 47, 198, 61⟩) .nil ⟨198, 35, 198, 62⟩) ⟨198, 31, 198, 62⟩) ⟨198, 7, 198, 63⟩) (.cons (.cmp .ne (.cmp .is (.var 3 "_law_rows" ⟨198, 68, 198, 77⟩) (.cst .non 0 ⟨198, 81, 198, 85⟩) ⟨198, 68, 198, 85⟩) (.cmp .is (.var 4 "_law_columns" ⟨198, 91, 198, 103⟩) (.cst .non 0 ⟨198, 107, 198, 111⟩) ⟨198, 91, 198, 111⟩) ⟨198, 67, 198, 112⟩) .nil) ⟨198, 7, 198, 112⟩) (.cons (.ret (.cst (.bl false) 0 ⟨199, 15, 199, 20⟩) ⟨199, 8, 199, 20⟩)
    .nil) .nil ⟨198, 4, 199, 20⟩)
    (.cons (.iff (.cmp .ne (.cmp .is (.var 3 "_law_rows" ⟨200, 8, 200, 17⟩) (.cst .non 0 ⟨200, 21, 200, 25⟩) ⟨200, 8, 200, 25⟩) (.cmp .isnot (.call 19 "stuck_part" ⟨200, 31, 200, 41⟩ (.var 1 "_law_page_here" ⟨200, 42, 200, 56⟩) .nil ⟨200, 31, 200, 57⟩) (.cst .non 0 ⟨200, 65, 200, 69⟩) ⟨200, 31, 200, 69⟩) ⟨200, 7, 200, 70⟩) (.cons (.ret (.cst (.bl false) 0 ⟨201, 15, 201, 20⟩) ⟨201, 8, 201, 20⟩)
    .nil) .nil ⟨200, 4, 201, 20⟩)
    (.cons (.iff (.and (.cmp .isnot (.var 3 "_law_rows" ⟨202, 7, 202, 16⟩) (.cst .non 0 ⟨202, 24, 202, 28⟩) ⟨202, 7, 202, 28⟩) (.cons (.cmp .isnot (.call 24 "can_read" ⟨202, 33, 202, 41⟩ (.var 1 "_law_page_here" ⟨202, 42, 202, 56⟩) (.cons (.var 3 "_law_rows" ⟨202, 58, 202, 67⟩) .nil) ⟨202, 33, 202, 68⟩) (.cst (.bl true) 0 ⟨202, 76, 202, 80⟩) ⟨202, 33, 202, 80⟩) .nil) ⟨202, 7, 202, 80⟩) (.cons (.ret (.cst (.bl false) 0 ⟨203, 15, 203, 20⟩) ⟨203, 8, 203, 20⟩)
    .nil) .nil ⟨202, 4, 203, 20⟩)
    (.cons (.iff (.and (.cmp .isnot (.var 3 "_law_rows" ⟨204, 7, 204, 16⟩) (.cst .non 0 ⟨204, 24, 204, 28⟩) ⟨204, 7, 204, 28⟩) (.cons (.cmp .isnot (.call 24 "can_read" ⟨204, 33, 204, 41⟩ (.var 1 "_law_page_here" ⟨204, 42, 204, 56⟩) (.cons (.var 4 "_law_columns" ⟨204, 58, 204, 70⟩) .nil) ⟨204, 33, 204, 71⟩) (.cst (.bl true) 0 ⟨204, 79, 204, 83⟩) ⟨204, 33, 204, 83⟩) .nil) ⟨204, 7, 204, 83⟩) (.cons (.ret (.cst (.bl false) 0 ⟨205, 15, 205, 20⟩) ⟨205, 8, 205, 20⟩)
    .nil) .nil ⟨204, 4, 205, 20⟩)
    (.cons (.iff (.and (.cmp .isnot (.var 3 "_law_rows" ⟨206, 7, 206, 16⟩) (.cst .non 0 ⟨206, 24, 206, 28⟩) ⟨206, 7, 206, 28⟩) (.cons (.call 29 "is_sure" ⟨206, 33, 206, 40⟩ (.var 1 "_law_page_here" ⟨206, 41, 206, 55⟩) .nil ⟨206, 33, 206, 56⟩) (.cons (.or (.cmp .ne (.var 3 "_law_rows" ⟨206, 62, 206, 71⟩) (.call 28 "first_order" ⟨206, 75, 206, 86⟩ (.var 1 "_law_page_here" ⟨206, 87, 206, 101⟩) .nil ⟨206, 75, 206, 102⟩) ⟨206, 62, 206, 102⟩) (.cons (.cmp .ne (.var 4 "_law_columns" ⟨206, 106, 206, 118⟩) (.var 3 "_law_rows" ⟨206, 122, 206, 131⟩) ⟨206, 106, 206, 131⟩) .nil) ⟨206, 62, 206, 131⟩) .nil)) ⟨206, 7, 206, 132⟩) (.cons (.ret (.cst (.bl false) 0 ⟨207, 15, 207, 20⟩) ⟨207, 8, 207, 20⟩)
    .nil) .nil ⟨206, 4, 207, 20⟩)
    (.cons (.set 5 "_law_turned" ⟨208, 4, 208, 15⟩ (.prim .tuple ⟨208, 18, 208, 23⟩ (.comp (.tup (.cons (.var 14 "_law_top" ⟨208, 26, 208, 34⟩) (.cons (.var 13 "_law_left" ⟨208, 36, 208, 45⟩) (.cons (.var 16 "_law_bottom" ⟨208, 47, 208, 58⟩) (.cons (.var 15 "_law_right" ⟨208, 60, 208, 70⟩) .nil)))) 0 ⟨208, 25, 208, 71⟩) (.tp [(13, "_law_left", ⟨208, 76, 208, 85⟩), (14, "_law_top", ⟨208, 87, 208, 95⟩), (15, "_law_right", ⟨208, 97, 208, 107⟩), (16, "_law_bottom", ⟨208, 109, 208, 120⟩)] 0 ⟨208, 76, 208, 120⟩) (.seq (.var 1 "_law_page_here" ⟨208, 124, 208, 138⟩)) .nil ⟨.function, [(".0", .local), ("_law_left", .local), ("_law_top", .local), ("_law_right", .local), ("_law_bottom", .local)], false, false, []⟩ [("_law_left", 13), ("_law_top", 14), ("_law_right", 15), ("_law_bottom", 16)] ⟨208, 24, 208, 139⟩) .nil ⟨208, 18, 208, 140⟩) ⟨208, 4, 208, 140⟩)
    (.cons (.iff (.or (.cmp .ne (.call 17 "by_rows" ⟨209, 7, 209, 14⟩ (.var 5 "_law_turned" ⟨209, 15, 209, 26⟩) .nil ⟨209, 7, 209, 27⟩) (.var 4 "_law_columns" ⟨209, 31, 209, 43⟩) ⟨209, 7, 209, 43⟩) (.cons (.cmp .ne (.call 18 "by_columns" ⟨209, 47, 209, 57⟩ (.var 5 "_law_turned" ⟨209, 58, 209, 69⟩) .nil ⟨209, 47, 209, 70⟩) (.var 3 "_law_rows" ⟨209, 74, 209, 83⟩) ⟨209, 47, 209, 83⟩) .nil) ⟨209, 7, 209, 83⟩) (.cons (.ret (.cst (.bl false) 0 ⟨210, 15, 210, 20⟩) ⟨210, 8, 210, 20⟩)
    .nil) .nil ⟨209, 4, 210, 20⟩)
    (.cons (.iff (.cmp .ne (.var 2 "_law_whole" ⟨211, 7, 211, 17⟩) (.tup .nil 0 ⟨211, 21, 211, 23⟩) ⟨211, 7, 211, 23⟩) (.cons (.forF 6 "_law_way" ⟨212, 12, 212, 20⟩ 33 2 [(13, "row_parts", ⟨212, 25, 212, 34⟩), (14, "column_parts", ⟨212, 36, 212, 48⟩)] 0 ⟨212, 24, 212, 49⟩ (.cons (.set 7 "_law_parts" ⟨213, 12, 213, 22⟩ (.callv 33 6 "_law_way" ⟨213, 25, 213, 33⟩ (.var 1 "_law_page_here" ⟨213, 34, 213, 48⟩) (.cons (.var 2 "_law_whole" ⟨213, 50, 213, 60⟩) .nil) ⟨213, 25, 213, 61⟩) ⟨213, 12, 213, 61⟩)
    (.cons (.set 8 "_law_held" ⟨214, 12, 214, 21⟩ (.lst .nil ⟨214, 24, 214, 26⟩) ⟨214, 12, 214, 26⟩)
    (.cons (.for (.nm 9 "_law_part" ⟨215, 16, 215, 25⟩) (.seq (.var 7 "_law_parts" ⟨215, 29, 215, 39⟩)) (.cons (.set 8 "_law_held" ⟨216, 16, 216, 25⟩ (.bin .add (.var 8 "_law_held" ⟨216, 28, 216, 37⟩) (.prim .list ⟨216, 40, 216, 44⟩ (.var 9 "_law_part" ⟨216, 45, 216, 54⟩) .nil ⟨216, 40, 216, 55⟩) ⟨216, 28, 216, 55⟩) ⟨216, 16, 216, 55⟩)
    (.cons (.iff (.or (.cmp .eq (.var 9 "_law_part" ⟨217, 19, 217, 28⟩) (.tup .nil 0 ⟨217, 32, 217, 34⟩) ⟨217, 19, 217, 34⟩) (.cons (.cmp .ne (.callv 33 6 "_law_way" ⟨217, 38, 217, 46⟩ (.var 1 "_law_page_here" ⟨217, 47, 217, 61⟩) (.cons (.var 9 "_law_part" ⟨217, 63, 217, 72⟩) .nil) ⟨217, 38, 217, 73⟩) (.lst (.cons (.var 9 "_law_part" ⟨217, 78, 217, 87⟩) .nil) ⟨217, 77, 217, 88⟩) ⟨217, 38, 217, 88⟩) .nil) ⟨217, 19, 217, 88⟩) (.cons (.ret (.cst (.bl false) 0 ⟨218, 27, 218, 32⟩) ⟨218, 20, 218, 32⟩)
    .nil) .nil ⟨217, 16, 218, 32⟩)
    .nil)) ⟨215, 12, 218, 32⟩)
    (.cons (.iff (.cmp .ne (.prim .sorted ⟨219, 15, 219, 21⟩ (.var 8 "_law_held" ⟨219, 22, 219, 31⟩) .nil ⟨219, 15, 219, 32⟩) (.prim .list ⟨219, 36, 219, 40⟩ (.var 2 "_law_whole" ⟨219, 41, 219, 51⟩) .nil ⟨219, 36, 219, 52⟩) ⟨219, 15, 219, 52⟩) (.cons (.ret (.cst (.bl false) 0 ⟨220, 23, 220, 28⟩) ⟨220, 16, 220, 28⟩)
    .nil) .nil ⟨219, 12, 220, 28⟩)
    (.cons (.for (.tp [(10, "_law_one", ⟨221, 16, 221, 24⟩), (11, "_law_other", ⟨221, 26, 221, 36⟩)] 0 ⟨221, 16, 221, 36⟩) (.zip (.var 7 "_law_parts" ⟨221, 44, 221, 54⟩) (.slo (.var 7 "_law_parts" ⟨221, 56, 221, 66⟩) (.cst (.int 1) 0 ⟨221, 67, 221, 68⟩) ⟨221, 67, 221, 69⟩ ⟨221, 56, 221, 70⟩) ⟨221, 40, 221, 43⟩ ⟨221, 40, 221, 71⟩) (.cons (.iff (.cmp .ne (.comp (.var 17 "_law_a" ⟨222, 20, 222, 26⟩) (.nm 17 "_law_a" ⟨222, 31, 222, 37⟩) (.seq (.var 11 "_law_other" ⟨222, 41, 222, 51⟩)) (.cons (.cmp .ne (.comp (.var 18 "_law_b" ⟨222, 56, 222, 62⟩) (.nm 18 "_law_b" ⟨222, 67, 222, 73⟩) (.seq (.var 10 "_law_one" ⟨222, 77, 222, 85⟩)) (.cons (.call 8 "is_before" ⟨222, 89, 222, 98⟩ (.var 1 "_law_page_here" ⟨222, 99, 222, 113⟩) (.cons (.var 17 "_law_a" ⟨222, 115, 222, 121⟩) (.cons (.var 18 "_law_b" ⟨222, 123, 222, 129⟩) .nil)) ⟨222, 89, 222, 130⟩) .nil) ⟨.function, [(".0", .local), ("_law_b", .local), ("is_before", .globalImplicit), ("_law_a", .free), ("_law_page_here", .free)], false, false, []⟩ [("_law_b", 18)] ⟨222, 55, 222, 131⟩) (.lst .nil ⟨222, 135, 222, 137⟩) ⟨222, 55, 222, 137⟩) .nil) ⟨.function, [(".0", .local), ("_law_a", .cell), ("_law_one", .free), ("_law_page_here", .free)], false, false, []⟩ [("_law_a", 17)] ⟨222, 19, 222, 138⟩) (.lst .nil ⟨222, 142, 222, 144⟩) ⟨222, 19, 222, 144⟩) (.cons (.ret (.cst (.bl false) 0 ⟨223, 27, 223, 32⟩) ⟨223, 20, 223, 32⟩)
    .nil) .nil ⟨222, 16, 223, 32⟩)
    .nil) ⟨221, 12, 223, 32⟩)
    .nil))))) ⟨212, 8, 223, 32⟩)
    (.cons (.set 12 "_law_turned_parts" ⟨224, 8, 224, 25⟩ (.call 14 "column_parts" ⟨224, 28, 224, 40⟩ (.var 5 "_law_turned" ⟨224, 41, 224, 52⟩) (.cons (.var 2 "_law_whole" ⟨224, 54, 224, 64⟩) .nil) ⟨224, 28, 224, 65⟩) ⟨224, 8, 224, 65⟩)
    (.cons (.iff (.cmp .ne (.var 12 "_law_turned_parts" ⟨225, 11, 225, 28⟩) (.call 13 "row_parts" ⟨225, 32, 225, 41⟩ (.var 1 "_law_page_here" ⟨225, 42, 225, 56⟩) (.cons (.var 2 "_law_whole" ⟨225, 58, 225, 68⟩) .nil) ⟨225, 32, 225, 69⟩) ⟨225, 11, 225, 69⟩) (.cons (.ret (.cst (.bl false) 0 ⟨226, 19, 226, 24⟩) ⟨226, 12, 226, 24⟩)
    .nil) .nil ⟨225, 8, 226, 24⟩)
    .nil))) .nil ⟨211, 4, 226, 24⟩)
    (.cons (.ret (.call 32 "_law_stuck" ⟨227, 11, 227, 21⟩ (.var 1 "_law_page_here" ⟨227, 22, 227, 36⟩) .nil ⟨227, 11, 227, 37⟩) ⟨227, 4, 227, 37⟩)
    .nil))))))))))))
theorem py33 : s33.py = defBody (top 44) := by kernel_rfl
theorem ok33 : s33.ok g33 exs (defScope (top 44)) = true := by kernel_rfl
theorem sc33 : FnScope n33 ["_law_script"] (defScope (top 44)) := scB_ok (by kernel_rfl)
def ds33 : List (List D → Rs D) := [d0, d1, d2, d3, d4, d5, d6, d7, d8, d9, d10, d11, d12, d13, d14, d15, d16, d17, d18, d19, d20, d21, d22, d23, d24, d25, d26, d27, d28, d29, d30, d31, d32]
def d33 : List D → Rs D := defD (tbl ds33) 1 19 s33
def D0 : He.DefD := ⟨("is_int", none), "is_int", "is_int", defArgs (top 8), defBody (top 8), defScope (top 8), [], []⟩
def D1 : He.DefD := ⟨("is_panel", none), "is_panel", "is_panel", defArgs (top 9), defBody (top 9), defScope (top 9), [], []⟩
def D2 : He.DefD := ⟨("share_widths", none), "share_widths", "share_widths", defArgs (top 10), defBody (top 10), defScope (top 10), [], []⟩
def D3 : He.DefD := ⟨("share_heights", none), "share_heights", "share_heights", defArgs (top 11), defBody (top 11), defScope (top 11), [], []⟩
def D4 : He.DefD := ⟨("is_page", none), "is_page", "is_page", defArgs (top 12), defBody (top 12), defScope (top 12), [], []⟩
def D5 : He.DefD := ⟨("check_page", none), "check_page", "check_page", defArgs (top 13), defBody (top 13), defScope (top 13), [], []⟩
def D6 : He.DefD := ⟨("check_number", none), "check_number", "check_number", defArgs (top 14), defBody (top 14), defScope (top 14), [], []⟩
def D7 : He.DefD := ⟨("goes_before", none), "goes_before", "goes_before", defArgs (top 15), defBody (top 15), defScope (top 15), [], []⟩
def D8 : He.DefD := ⟨("is_before", none), "is_before", "is_before", defArgs (top 16), defBody (top 16), defScope (top 16), [], []⟩
def D9 : He.DefD := ⟨("find_pairs", none), "find_pairs", "find_pairs", defArgs (top 17), defBody (top 17), defScope (top 17), [], []⟩
def D10 : He.DefD := ⟨("find_cuts", none), "find_cuts", "find_cuts", defArgs (top 19), defBody (top 19), defScope (top 19), [], []⟩
def D11 : He.DefD := ⟨("find_parts", none), "find_parts", "find_parts", defArgs (top 20), defBody (top 20), defScope (top 20), [], []⟩
def D12 : He.DefD := ⟨("check_part", none), "check_part", "check_part", defArgs (top 21), defBody (top 21), defScope (top 21), [], []⟩
def D13 : He.DefD := ⟨("row_parts", none), "row_parts", "row_parts", defArgs (top 22), defBody (top 22), defScope (top 22), [], []⟩
def D14 : He.DefD := ⟨("column_parts", none), "column_parts", "column_parts", defArgs (top 23), defBody (top 23), defScope (top 23), [], []⟩
def D15 : He.DefD := ⟨("read_part", none), "read_part", "read_part", defArgs (top 24), defBody (top 24), defScope (top 24), [], []⟩
def D16 : He.DefD := ⟨("find_reading", none), "find_reading", "find_reading", defArgs (top 25), defBody (top 25), defScope (top 25), [], []⟩
def D17 : He.DefD := ⟨("by_rows", none), "by_rows", "by_rows", defArgs (top 26), defBody (top 26), defScope (top 26), [], []⟩
def D18 : He.DefD := ⟨("by_columns", none), "by_columns", "by_columns", defArgs (top 27), defBody (top 27), defScope (top 27), [], []⟩
def D19 : He.DefD := ⟨("stuck_part", none), "stuck_part", "stuck_part", defArgs (top 28), defBody (top 28), defScope (top 28), [], []⟩
def D20 : He.DefD := ⟨("is_cuttable", none), "is_cuttable", "is_cuttable", defArgs (top 29), defBody (top 29), defScope (top 29), [], []⟩
def D21 : He.DefD := ⟨("has_order", none), "has_order", "has_order", defArgs (top 31), defBody (top 31), defScope (top 31), [], []⟩
def D22 : He.DefD := ⟨("keeps_pairs", none), "keeps_pairs", "keeps_pairs", defArgs (top 32), defBody (top 32), defScope (top 32), [], []⟩
def D23 : He.DefD := ⟨("fits", none), "fits", "fits", defArgs (top 33), defBody (top 33), defScope (top 33), [], []⟩
def D24 : He.DefD := ⟨("can_read", none), "can_read", "can_read", defArgs (top 34), defBody (top 34), defScope (top 34), [], []⟩
def D25 : He.DefD := ⟨("next_ones", none), "next_ones", "next_ones", defArgs (top 35), defBody (top 35), defScope (top 35), [], []⟩
def D26 : He.DefD := ⟨("count_left", none), "count_left", "count_left", defArgs (top 36), defBody (top 36), defScope (top 36), [], []⟩
def D27 : He.DefD := ⟨("find_number", none), "find_number", "find_number", defArgs (top 37), defBody (top 37), defScope (top 37), [], []⟩
def D28 : He.DefD := ⟨("first_order", none), "first_order", "first_order", defArgs (top 38), defBody (top 38), defScope (top 38), [], []⟩
def D29 : He.DefD := ⟨("is_sure", none), "is_sure", "is_sure", defArgs (top 39), defBody (top 39), defScope (top 39), [], []⟩
def D30 : He.DefD := ⟨("_law_drawn", none), "_law_drawn", "_law_drawn", defArgs (top 41), defBody (top 41), defScope (top 41), [], []⟩
def D31 : He.DefD := ⟨("_law_page", none), "_law_page", "_law_page", defArgs (top 42), defBody (top 42), defScope (top 42), [], []⟩
def D32 : He.DefD := ⟨("_law_stuck", none), "_law_stuck", "_law_stuck", defArgs (top 43), defBody (top 43), defScope (top 43), [], []⟩
def D33 : He.DefD := ⟨("law", none), "law", "law", defArgs (top 44), defBody (top 44), defScope (top 44), [], []⟩
def fns : List He.DefD := [D0, D1, D2, D3, D4, D5, D6, D7, D8, D9, D10, D11, D12, D13, D14, D15, D16, D17, D18, D19, D20, D21, D22, D23, D24, D25, D26, D27, D28, D29, D30, D31, D32, D33]
def names : List Str := [("is_int" : Str), ("is_panel" : Str), ("share_widths" : Str), ("share_heights" : Str), ("is_page" : Str), ("check_page" : Str), ("check_number" : Str), ("goes_before" : Str), ("is_before" : Str), ("find_pairs" : Str), ("find_cuts" : Str), ("find_parts" : Str), ("check_part" : Str), ("row_parts" : Str), ("column_parts" : Str), ("read_part" : Str), ("find_reading" : Str), ("by_rows" : Str), ("by_columns" : Str), ("stuck_part" : Str), ("is_cuttable" : Str), ("has_order" : Str), ("keeps_pairs" : Str), ("fits" : Str), ("can_read" : Str), ("next_ones" : Str), ("count_left" : Str), ("find_number" : Str), ("first_order" : Str), ("is_sure" : Str), ("_law_drawn" : Str), ("_law_page" : Str), ("_law_stuck" : Str), ("law" : Str)]
def fas : List He.Fa := faOf names bls gls exs
section
variable {P : Program} {w : World} {K : PySem.W.Frag} {mg : Str → Option Value} {base h : Heap}
theorem all1 (X : K.In h) (G : h.Ns mainGlobals mg) (c : He.SaysD fas fns K) (M : Mods K mg (clE K exs) bls gls exs) : AllP P w K mg base (clE K exs) 1 [(("is_int" : Str), 3)] [d0] := by
  obtain ⟨fd, F⟩ := c.def_ 0 (d := D0) rfl
  exact (allP_nil).step M F sc0 py0 ok0 rfl rfl rfl (He.glo_ok X G (c.fact 0 (f := .glo "is_int") rfl)) (F.bindsN (ps := ["value", "least", "most"]) fun _ _ _ _ _ _ us hl => match us, hl with | [_, _, _], _ => rfl)
theorem all2 (X : K.In h) (G : h.Ns mainGlobals mg) (c : He.SaysD fas fns K) (M : Mods K mg (clE K exs) bls gls exs) : AllP P w K mg base (clE K exs) 2 [(("is_int" : Str), 3), (("is_panel" : Str), 1)] [d0, d1] := by
  obtain ⟨fd, F⟩ := c.def_ 1 (d := D1) rfl
  exact (all1 X G c M).step M F sc1 py1 ok1 rfl rfl rfl (He.glo_ok X G (c.fact 1 (f := .glo "is_panel") rfl)) (F.bindsN (ps := ["value"]) fun _ _ _ _ _ _ us hl => match us, hl with | [_], _ => rfl)
theorem all3 (X : K.In h) (G : h.Ns mainGlobals mg) (c : He.SaysD fas fns K) (M : Mods K mg (clE K exs) bls gls exs) : AllP P w K mg base (clE K exs) 3 [(("is_int" : Str), 3), (("is_panel" : Str), 1), (("share_widths" : Str), 2)] [d0, d1, d2] := by
  obtain ⟨fd, F⟩ := c.def_ 2 (d := D2) rfl
  exact (all2 X G c M).step M F sc2 py2 ok2 rfl rfl rfl (He.glo_ok X G (c.fact 2 (f := .glo "share_widths") rfl)) (F.bindsN (ps := ["one", "other"]) fun _ _ _ _ _ _ us hl => match us, hl with | [_, _], _ => rfl)
theorem all4 (X : K.In h) (G : h.Ns mainGlobals mg) (c : He.SaysD fas fns K) (M : Mods K mg (clE K exs) bls gls exs) : AllP P w K mg base (clE K exs) 4 [(("is_int" : Str), 3), (("is_panel" : Str), 1), (("share_widths" : Str), 2), (("share_heights" : Str), 2)] [d0, d1, d2, d3] := by
  obtain ⟨fd, F⟩ := c.def_ 3 (d := D3) rfl
  exact (all3 X G c M).step M F sc3 py3 ok3 rfl rfl rfl (He.glo_ok X G (c.fact 3 (f := .glo "share_heights") rfl)) (F.bindsN (ps := ["one", "other"]) fun _ _ _ _ _ _ us hl => match us, hl with | [_, _], _ => rfl)
theorem all5 (X : K.In h) (G : h.Ns mainGlobals mg) (c : He.SaysD fas fns K) (M : Mods K mg (clE K exs) bls gls exs) : AllP P w K mg base (clE K exs) 5 [(("is_int" : Str), 3), (("is_panel" : Str), 1), (("share_widths" : Str), 2), (("share_heights" : Str), 2), (("is_page" : Str), 1)] [d0, d1, d2, d3, d4] := by
  obtain ⟨fd, F⟩ := c.def_ 4 (d := D4) rfl
  exact (all4 X G c M).step M F sc4 py4 ok4 rfl rfl rfl (He.glo_ok X G (c.fact 4 (f := .glo "is_page") rfl)) (F.bindsN (ps := ["candidate"]) fun _ _ _ _ _ _ us hl => match us, hl with | [_], _ => rfl)
theorem all6 (X : K.In h) (G : h.Ns mainGlobals mg) (c : He.SaysD fas fns K) (M : Mods K mg (clE K exs) bls gls exs) : AllP P w K mg base (clE K exs) 6 [(("is_int" : Str), 3), (("is_panel" : Str), 1), (("share_widths" : Str), 2), (("share_heights" : Str), 2), (("is_page" : Str), 1), (("check_page" : Str), 1)] [d0, d1, d2, d3, d4, d5] := by
  obtain ⟨fd, F⟩ := c.def_ 5 (d := D5) rfl
  exact (all5 X G c M).step M F sc5 py5 ok5 rfl rfl rfl (He.glo_ok X G (c.fact 5 (f := .glo "check_page") rfl)) (F.bindsN (ps := ["value"]) fun _ _ _ _ _ _ us hl => match us, hl with | [_], _ => rfl)
theorem all7 (X : K.In h) (G : h.Ns mainGlobals mg) (c : He.SaysD fas fns K) (M : Mods K mg (clE K exs) bls gls exs) : AllP P w K mg base (clE K exs) 7 [(("is_int" : Str), 3), (("is_panel" : Str), 1), (("share_widths" : Str), 2), (("share_heights" : Str), 2), (("is_page" : Str), 1), (("check_page" : Str), 1), (("check_number" : Str), 3)] [d0, d1, d2, d3, d4, d5, d6] := by
  obtain ⟨fd, F⟩ := c.def_ 6 (d := D6) rfl
  exact (all6 X G c M).step M F sc6 py6 ok6 rfl rfl rfl (He.glo_ok X G (c.fact 6 (f := .glo "check_number") rfl)) (F.bindsN (ps := ["value", "least", "most"]) fun _ _ _ _ _ _ us hl => match us, hl with | [_, _, _], _ => rfl)
theorem all8 (X : K.In h) (G : h.Ns mainGlobals mg) (c : He.SaysD fas fns K) (M : Mods K mg (clE K exs) bls gls exs) : AllP P w K mg base (clE K exs) 8 [(("is_int" : Str), 3), (("is_panel" : Str), 1), (("share_widths" : Str), 2), (("share_heights" : Str), 2), (("is_page" : Str), 1), (("check_page" : Str), 1), (("check_number" : Str), 3), (("goes_before" : Str), 3)] [d0, d1, d2, d3, d4, d5, d6, d7] := by
  obtain ⟨fd, F⟩ := c.def_ 7 (d := D7) rfl
  exact (all7 X G c M).step M F sc7 py7 ok7 rfl rfl rfl (He.glo_ok X G (c.fact 7 (f := .glo "goes_before") rfl)) (F.bindsN (ps := ["page", "one", "other"]) fun _ _ _ _ _ _ us hl => match us, hl with | [_, _, _], _ => rfl)
theorem all9 (X : K.In h) (G : h.Ns mainGlobals mg) (c : He.SaysD fas fns K) (M : Mods K mg (clE K exs) bls gls exs) : AllP P w K mg base (clE K exs) 9 [(("is_int" : Str), 3), (("is_panel" : Str), 1), (("share_widths" : Str), 2), (("share_heights" : Str), 2), (("is_page" : Str), 1), (("check_page" : Str), 1), (("check_number" : Str), 3), (("goes_before" : Str), 3), (("is_before" : Str), 3)] [d0, d1, d2, d3, d4, d5, d6, d7, d8] := by
  obtain ⟨fd, F⟩ := c.def_ 8 (d := D8) rfl
  exact (all8 X G c M).step M F sc8 py8 ok8 rfl rfl rfl (He.glo_ok X G (c.fact 8 (f := .glo "is_before") rfl)) (F.bindsN (ps := ["page", "one", "other"]) fun _ _ _ _ _ _ us hl => match us, hl with | [_, _, _], _ => rfl)
theorem all10 (X : K.In h) (G : h.Ns mainGlobals mg) (c : He.SaysD fas fns K) (M : Mods K mg (clE K exs) bls gls exs) : AllP P w K mg base (clE K exs) 10 [(("is_int" : Str), 3), (("is_panel" : Str), 1), (("share_widths" : Str), 2), (("share_heights" : Str), 2), (("is_page" : Str), 1), (("check_page" : Str), 1), (("check_number" : Str), 3), (("goes_before" : Str), 3), (("is_before" : Str), 3), (("find_pairs" : Str), 1)] [d0, d1, d2, d3, d4, d5, d6, d7, d8, d9] := by
  obtain ⟨fd, F⟩ := c.def_ 9 (d := D9) rfl
  exact (all9 X G c M).step M F sc9 py9 ok9 rfl rfl rfl (He.glo_ok X G (c.fact 9 (f := .glo "find_pairs") rfl)) (F.bindsN (ps := ["page"]) fun _ _ _ _ _ _ us hl => match us, hl with | [_], _ => rfl)
theorem all11 (X : K.In h) (G : h.Ns mainGlobals mg) (c : He.SaysD fas fns K) (M : Mods K mg (clE K exs) bls gls exs) : AllP P w K mg base (clE K exs) 11 [(("is_int" : Str), 3), (("is_panel" : Str), 1), (("share_widths" : Str), 2), (("share_heights" : Str), 2), (("is_page" : Str), 1), (("check_page" : Str), 1), (("check_number" : Str), 3), (("goes_before" : Str), 3), (("is_before" : Str), 3), (("find_pairs" : Str), 1), (("find_cuts" : Str), 3)] [d0, d1, d2, d3, d4, d5, d6, d7, d8, d9, d10] := by
  obtain ⟨fd, F⟩ := c.def_ 10 (d := D10) rfl
  exact (all10 X G c M).step M F sc10 py10 ok10 rfl rfl rfl (He.glo_ok X G (c.fact 10 (f := .glo "find_cuts") rfl)) (F.bindsN (ps := ["page", "part", "low"]) fun _ _ _ _ _ _ us hl => match us, hl with | [_, _, _], _ => rfl)
theorem all12 (X : K.In h) (G : h.Ns mainGlobals mg) (c : He.SaysD fas fns K) (M : Mods K mg (clE K exs) bls gls exs) : AllP P w K mg base (clE K exs) 12 [(("is_int" : Str), 3), (("is_panel" : Str), 1), (("share_widths" : Str), 2), (("share_heights" : Str), 2), (("is_page" : Str), 1), (("check_page" : Str), 1), (("check_number" : Str), 3), (("goes_before" : Str), 3), (("is_before" : Str), 3), (("find_pairs" : Str), 1), (("find_cuts" : Str), 3), (("find_parts" : Str), 3)] [d0, d1, d2, d3, d4, d5, d6, d7, d8, d9, d10, d11] := by
  obtain ⟨fd, F⟩ := c.def_ 11 (d := D11) rfl
  exact (all11 X G c M).step M F sc11 py11 ok11 rfl rfl rfl (He.glo_ok X G (c.fact 11 (f := .glo "find_parts") rfl)) (F.bindsN (ps := ["page", "part", "low"]) fun _ _ _ _ _ _ us hl => match us, hl with | [_, _, _], _ => rfl)
theorem all13 (X : K.In h) (G : h.Ns mainGlobals mg) (c : He.SaysD fas fns K) (M : Mods K mg (clE K exs) bls gls exs) : AllP P w K mg base (clE K exs) 13 [(("is_int" : Str), 3), (("is_panel" : Str), 1), (("share_widths" : Str), 2), (("share_heights" : Str), 2), (("is_page" : Str), 1), (("check_page" : Str), 1), (("check_number" : Str), 3), (("goes_before" : Str), 3), (("is_before" : Str), 3), (("find_pairs" : Str), 1), (("find_cuts" : Str), 3), (("find_parts" : Str), 3), (("check_part" : Str), 2)] [d0, d1, d2, d3, d4, d5, d6, d7, d8, d9, d10, d11, d12] := by
  obtain ⟨fd, F⟩ := c.def_ 12 (d := D12) rfl
  exact (all12 X G c M).step M F sc12 py12 ok12 rfl rfl rfl (He.glo_ok X G (c.fact 12 (f := .glo "check_part") rfl)) (F.bindsN (ps := ["page", "value"]) fun _ _ _ _ _ _ us hl => match us, hl with | [_, _], _ => rfl)
theorem all14 (X : K.In h) (G : h.Ns mainGlobals mg) (c : He.SaysD fas fns K) (M : Mods K mg (clE K exs) bls gls exs) : AllP P w K mg base (clE K exs) 14 [(("is_int" : Str), 3), (("is_panel" : Str), 1), (("share_widths" : Str), 2), (("share_heights" : Str), 2), (("is_page" : Str), 1), (("check_page" : Str), 1), (("check_number" : Str), 3), (("goes_before" : Str), 3), (("is_before" : Str), 3), (("find_pairs" : Str), 1), (("find_cuts" : Str), 3), (("find_parts" : Str), 3), (("check_part" : Str), 2), (("row_parts" : Str), 2)] [d0, d1, d2, d3, d4, d5, d6, d7, d8, d9, d10, d11, d12, d13] := by
  obtain ⟨fd, F⟩ := c.def_ 13 (d := D13) rfl
  exact (all13 X G c M).step M F sc13 py13 ok13 rfl rfl rfl (He.glo_ok X G (c.fact 13 (f := .glo "row_parts") rfl)) (F.bindsN (ps := ["page", "part"]) fun _ _ _ _ _ _ us hl => match us, hl with | [_, _], _ => rfl)
theorem all15 (X : K.In h) (G : h.Ns mainGlobals mg) (c : He.SaysD fas fns K) (M : Mods K mg (clE K exs) bls gls exs) : AllP P w K mg base (clE K exs) 15 [(("is_int" : Str), 3), (("is_panel" : Str), 1), (("share_widths" : Str), 2), (("share_heights" : Str), 2), (("is_page" : Str), 1), (("check_page" : Str), 1), (("check_number" : Str), 3), (("goes_before" : Str), 3), (("is_before" : Str), 3), (("find_pairs" : Str), 1), (("find_cuts" : Str), 3), (("find_parts" : Str), 3), (("check_part" : Str), 2), (("row_parts" : Str), 2), (("column_parts" : Str), 2)] [d0, d1, d2, d3, d4, d5, d6, d7, d8, d9, d10, d11, d12, d13, d14] := by
  obtain ⟨fd, F⟩ := c.def_ 14 (d := D14) rfl
  exact (all14 X G c M).step M F sc14 py14 ok14 rfl rfl rfl (He.glo_ok X G (c.fact 14 (f := .glo "column_parts") rfl)) (F.bindsN (ps := ["page", "part"]) fun _ _ _ _ _ _ us hl => match us, hl with | [_, _], _ => rfl)
theorem all16 (X : K.In h) (G : h.Ns mainGlobals mg) (c : He.SaysD fas fns K) (M : Mods K mg (clE K exs) bls gls exs) : AllP P w K mg base (clE K exs) 28 [(("is_int" : Str), 3), (("is_panel" : Str), 1), (("share_widths" : Str), 2), (("share_heights" : Str), 2), (("is_page" : Str), 1), (("check_page" : Str), 1), (("check_number" : Str), 3), (("goes_before" : Str), 3), (("is_before" : Str), 3), (("find_pairs" : Str), 1), (("find_cuts" : Str), 3), (("find_parts" : Str), 3), (("check_part" : Str), 2), (("row_parts" : Str), 2), (("column_parts" : Str), 2), (("read_part" : Str), 3)] [d0, d1, d2, d3, d4, d5, d6, d7, d8, d9, d10, d11, d12, d13, d14, d15] := by
  obtain ⟨fd, F⟩ := c.def_ 15 (d := D15) rfl
  exact (all15 X G c M).stepRec M F sc15 py15 ok15 rfl rfl rfl (He.glo_ok X G (c.fact 15 (f := .glo "read_part") rfl)) (F.bindsN (ps := ["page", "part", "low"]) fun _ _ _ _ _ _ us hl => match us, hl with | [_, _, _], _ => rfl) (by decide) 12
theorem all17 (X : K.In h) (G : h.Ns mainGlobals mg) (c : He.SaysD fas fns K) (M : Mods K mg (clE K exs) bls gls exs) : AllP P w K mg base (clE K exs) 29 [(("is_int" : Str), 3), (("is_panel" : Str), 1), (("share_widths" : Str), 2), (("share_heights" : Str), 2), (("is_page" : Str), 1), (("check_page" : Str), 1), (("check_number" : Str), 3), (("goes_before" : Str), 3), (("is_before" : Str), 3), (("find_pairs" : Str), 1), (("find_cuts" : Str), 3), (("find_parts" : Str), 3), (("check_part" : Str), 2), (("row_parts" : Str), 2), (("column_parts" : Str), 2), (("read_part" : Str), 3), (("find_reading" : Str), 2)] [d0, d1, d2, d3, d4, d5, d6, d7, d8, d9, d10, d11, d12, d13, d14, d15, d16] := by
  obtain ⟨fd, F⟩ := c.def_ 16 (d := D16) rfl
  exact (all16 X G c M).step M F sc16 py16 ok16 rfl rfl rfl (He.glo_ok X G (c.fact 16 (f := .glo "find_reading") rfl)) (F.bindsN (ps := ["page", "low"]) fun _ _ _ _ _ _ us hl => match us, hl with | [_, _], _ => rfl)
theorem all18 (X : K.In h) (G : h.Ns mainGlobals mg) (c : He.SaysD fas fns K) (M : Mods K mg (clE K exs) bls gls exs) : AllP P w K mg base (clE K exs) 30 [(("is_int" : Str), 3), (("is_panel" : Str), 1), (("share_widths" : Str), 2), (("share_heights" : Str), 2), (("is_page" : Str), 1), (("check_page" : Str), 1), (("check_number" : Str), 3), (("goes_before" : Str), 3), (("is_before" : Str), 3), (("find_pairs" : Str), 1), (("find_cuts" : Str), 3), (("find_parts" : Str), 3), (("check_part" : Str), 2), (("row_parts" : Str), 2), (("column_parts" : Str), 2), (("read_part" : Str), 3), (("find_reading" : Str), 2), (("by_rows" : Str), 1)] [d0, d1, d2, d3, d4, d5, d6, d7, d8, d9, d10, d11, d12, d13, d14, d15, d16, d17] := by
  obtain ⟨fd, F⟩ := c.def_ 17 (d := D17) rfl
  exact (all17 X G c M).step M F sc17 py17 ok17 rfl rfl rfl (He.glo_ok X G (c.fact 17 (f := .glo "by_rows") rfl)) (F.bindsN (ps := ["page"]) fun _ _ _ _ _ _ us hl => match us, hl with | [_], _ => rfl)
theorem all19 (X : K.In h) (G : h.Ns mainGlobals mg) (c : He.SaysD fas fns K) (M : Mods K mg (clE K exs) bls gls exs) : AllP P w K mg base (clE K exs) 31 [(("is_int" : Str), 3), (("is_panel" : Str), 1), (("share_widths" : Str), 2), (("share_heights" : Str), 2), (("is_page" : Str), 1), (("check_page" : Str), 1), (("check_number" : Str), 3), (("goes_before" : Str), 3), (("is_before" : Str), 3), (("find_pairs" : Str), 1), (("find_cuts" : Str), 3), (("find_parts" : Str), 3), (("check_part" : Str), 2), (("row_parts" : Str), 2), (("column_parts" : Str), 2), (("read_part" : Str), 3), (("find_reading" : Str), 2), (("by_rows" : Str), 1), (("by_columns" : Str), 1)] [d0, d1, d2, d3, d4, d5, d6, d7, d8, d9, d10, d11, d12, d13, d14, d15, d16, d17, d18] := by
  obtain ⟨fd, F⟩ := c.def_ 18 (d := D18) rfl
  exact (all18 X G c M).step M F sc18 py18 ok18 rfl rfl rfl (He.glo_ok X G (c.fact 18 (f := .glo "by_columns") rfl)) (F.bindsN (ps := ["page"]) fun _ _ _ _ _ _ us hl => match us, hl with | [_], _ => rfl)
theorem all20 (X : K.In h) (G : h.Ns mainGlobals mg) (c : He.SaysD fas fns K) (M : Mods K mg (clE K exs) bls gls exs) : AllP P w K mg base (clE K exs) 32 [(("is_int" : Str), 3), (("is_panel" : Str), 1), (("share_widths" : Str), 2), (("share_heights" : Str), 2), (("is_page" : Str), 1), (("check_page" : Str), 1), (("check_number" : Str), 3), (("goes_before" : Str), 3), (("is_before" : Str), 3), (("find_pairs" : Str), 1), (("find_cuts" : Str), 3), (("find_parts" : Str), 3), (("check_part" : Str), 2), (("row_parts" : Str), 2), (("column_parts" : Str), 2), (("read_part" : Str), 3), (("find_reading" : Str), 2), (("by_rows" : Str), 1), (("by_columns" : Str), 1), (("stuck_part" : Str), 1)] [d0, d1, d2, d3, d4, d5, d6, d7, d8, d9, d10, d11, d12, d13, d14, d15, d16, d17, d18, d19] := by
  obtain ⟨fd, F⟩ := c.def_ 19 (d := D19) rfl
  exact (all19 X G c M).step M F sc19 py19 ok19 rfl rfl rfl (He.glo_ok X G (c.fact 19 (f := .glo "stuck_part") rfl)) (F.bindsN (ps := ["page"]) fun _ _ _ _ _ _ us hl => match us, hl with | [_], _ => rfl)
theorem all21 (X : K.In h) (G : h.Ns mainGlobals mg) (c : He.SaysD fas fns K) (M : Mods K mg (clE K exs) bls gls exs) : AllP P w K mg base (clE K exs) 33 [(("is_int" : Str), 3), (("is_panel" : Str), 1), (("share_widths" : Str), 2), (("share_heights" : Str), 2), (("is_page" : Str), 1), (("check_page" : Str), 1), (("check_number" : Str), 3), (("goes_before" : Str), 3), (("is_before" : Str), 3), (("find_pairs" : Str), 1), (("find_cuts" : Str), 3), (("find_parts" : Str), 3), (("check_part" : Str), 2), (("row_parts" : Str), 2), (("column_parts" : Str), 2), (("read_part" : Str), 3), (("find_reading" : Str), 2), (("by_rows" : Str), 1), (("by_columns" : Str), 1), (("stuck_part" : Str), 1), (("is_cuttable" : Str), 1)] [d0, d1, d2, d3, d4, d5, d6, d7, d8, d9, d10, d11, d12, d13, d14, d15, d16, d17, d18, d19, d20] := by
  obtain ⟨fd, F⟩ := c.def_ 20 (d := D20) rfl
  exact (all20 X G c M).step M F sc20 py20 ok20 rfl rfl rfl (He.glo_ok X G (c.fact 20 (f := .glo "is_cuttable") rfl)) (F.bindsN (ps := ["page"]) fun _ _ _ _ _ _ us hl => match us, hl with | [_], _ => rfl)
theorem all22 (X : K.In h) (G : h.Ns mainGlobals mg) (c : He.SaysD fas fns K) (M : Mods K mg (clE K exs) bls gls exs) : AllP P w K mg base (clE K exs) 34 [(("is_int" : Str), 3), (("is_panel" : Str), 1), (("share_widths" : Str), 2), (("share_heights" : Str), 2), (("is_page" : Str), 1), (("check_page" : Str), 1), (("check_number" : Str), 3), (("goes_before" : Str), 3), (("is_before" : Str), 3), (("find_pairs" : Str), 1), (("find_cuts" : Str), 3), (("find_parts" : Str), 3), (("check_part" : Str), 2), (("row_parts" : Str), 2), (("column_parts" : Str), 2), (("read_part" : Str), 3), (("find_reading" : Str), 2), (("by_rows" : Str), 1), (("by_columns" : Str), 1), (("stuck_part" : Str), 1), (("is_cuttable" : Str), 1), (("has_order" : Str), 2)] [d0, d1, d2, d3, d4, d5, d6, d7, d8, d9, d10, d11, d12, d13, d14, d15, d16, d17, d18, d19, d20, d21] := by
  obtain ⟨fd, F⟩ := c.def_ 21 (d := D21) rfl
  exact (all21 X G c M).step M F sc21 py21 ok21 rfl rfl rfl (He.glo_ok X G (c.fact 21 (f := .glo "has_order") rfl)) (F.bindsN (ps := ["many", "candidate"]) fun _ _ _ _ _ _ us hl => match us, hl with | [_, _], _ => rfl)
theorem all23 (X : K.In h) (G : h.Ns mainGlobals mg) (c : He.SaysD fas fns K) (M : Mods K mg (clE K exs) bls gls exs) : AllP P w K mg base (clE K exs) 35 [(("is_int" : Str), 3), (("is_panel" : Str), 1), (("share_widths" : Str), 2), (("share_heights" : Str), 2), (("is_page" : Str), 1), (("check_page" : Str), 1), (("check_number" : Str), 3), (("goes_before" : Str), 3), (("is_before" : Str), 3), (("find_pairs" : Str), 1), (("find_cuts" : Str), 3), (("find_parts" : Str), 3), (("check_part" : Str), 2), (("row_parts" : Str), 2), (("column_parts" : Str), 2), (("read_part" : Str), 3), (("find_reading" : Str), 2), (("by_rows" : Str), 1), (("by_columns" : Str), 1), (("stuck_part" : Str), 1), (("is_cuttable" : Str), 1), (("has_order" : Str), 2), (("keeps_pairs" : Str), 2)] [d0, d1, d2, d3, d4, d5, d6, d7, d8, d9, d10, d11, d12, d13, d14, d15, d16, d17, d18, d19, d20, d21, d22] := by
  obtain ⟨fd, F⟩ := c.def_ 22 (d := D22) rfl
  exact (all22 X G c M).step M F sc22 py22 ok22 rfl rfl rfl (He.glo_ok X G (c.fact 22 (f := .glo "keeps_pairs") rfl)) (F.bindsN (ps := ["order", "known"]) fun _ _ _ _ _ _ us hl => match us, hl with | [_, _], _ => rfl)
theorem all24 (X : K.In h) (G : h.Ns mainGlobals mg) (c : He.SaysD fas fns K) (M : Mods K mg (clE K exs) bls gls exs) : AllP P w K mg base (clE K exs) 36 [(("is_int" : Str), 3), (("is_panel" : Str), 1), (("share_widths" : Str), 2), (("share_heights" : Str), 2), (("is_page" : Str), 1), (("check_page" : Str), 1), (("check_number" : Str), 3), (("goes_before" : Str), 3), (("is_before" : Str), 3), (("find_pairs" : Str), 1), (("find_cuts" : Str), 3), (("find_parts" : Str), 3), (("check_part" : Str), 2), (("row_parts" : Str), 2), (("column_parts" : Str), 2), (("read_part" : Str), 3), (("find_reading" : Str), 2), (("by_rows" : Str), 1), (("by_columns" : Str), 1), (("stuck_part" : Str), 1), (("is_cuttable" : Str), 1), (("has_order" : Str), 2), (("keeps_pairs" : Str), 2), (("fits" : Str), 2)] [d0, d1, d2, d3, d4, d5, d6, d7, d8, d9, d10, d11, d12, d13, d14, d15, d16, d17, d18, d19, d20, d21, d22, d23] := by
  obtain ⟨fd, F⟩ := c.def_ 23 (d := D23) rfl
  exact (all23 X G c M).step M F sc23 py23 ok23 rfl rfl rfl (He.glo_ok X G (c.fact 23 (f := .glo "fits") rfl)) (F.bindsN (ps := ["page", "candidate"]) fun _ _ _ _ _ _ us hl => match us, hl with | [_, _], _ => rfl)
theorem all25 (X : K.In h) (G : h.Ns mainGlobals mg) (c : He.SaysD fas fns K) (M : Mods K mg (clE K exs) bls gls exs) : AllP P w K mg base (clE K exs) 37 [(("is_int" : Str), 3), (("is_panel" : Str), 1), (("share_widths" : Str), 2), (("share_heights" : Str), 2), (("is_page" : Str), 1), (("check_page" : Str), 1), (("check_number" : Str), 3), (("goes_before" : Str), 3), (("is_before" : Str), 3), (("find_pairs" : Str), 1), (("find_cuts" : Str), 3), (("find_parts" : Str), 3), (("check_part" : Str), 2), (("row_parts" : Str), 2), (("column_parts" : Str), 2), (("read_part" : Str), 3), (("find_reading" : Str), 2), (("by_rows" : Str), 1), (("by_columns" : Str), 1), (("stuck_part" : Str), 1), (("is_cuttable" : Str), 1), (("has_order" : Str), 2), (("keeps_pairs" : Str), 2), (("fits" : Str), 2), (("can_read" : Str), 2)] [d0, d1, d2, d3, d4, d5, d6, d7, d8, d9, d10, d11, d12, d13, d14, d15, d16, d17, d18, d19, d20, d21, d22, d23, d24] := by
  obtain ⟨fd, F⟩ := c.def_ 24 (d := D24) rfl
  exact (all24 X G c M).step M F sc24 py24 ok24 rfl rfl rfl (He.glo_ok X G (c.fact 24 (f := .glo "can_read") rfl)) (F.bindsN (ps := ["page", "candidate"]) fun _ _ _ _ _ _ us hl => match us, hl with | [_, _], _ => rfl)
theorem all26 (X : K.In h) (G : h.Ns mainGlobals mg) (c : He.SaysD fas fns K) (M : Mods K mg (clE K exs) bls gls exs) : AllP P w K mg base (clE K exs) 38 [(("is_int" : Str), 3), (("is_panel" : Str), 1), (("share_widths" : Str), 2), (("share_heights" : Str), 2), (("is_page" : Str), 1), (("check_page" : Str), 1), (("check_number" : Str), 3), (("goes_before" : Str), 3), (("is_before" : Str), 3), (("find_pairs" : Str), 1), (("find_cuts" : Str), 3), (("find_parts" : Str), 3), (("check_part" : Str), 2), (("row_parts" : Str), 2), (("column_parts" : Str), 2), (("read_part" : Str), 3), (("find_reading" : Str), 2), (("by_rows" : Str), 1), (("by_columns" : Str), 1), (("stuck_part" : Str), 1), (("is_cuttable" : Str), 1), (("has_order" : Str), 2), (("keeps_pairs" : Str), 2), (("fits" : Str), 2), (("can_read" : Str), 2), (("next_ones" : Str), 2)] [d0, d1, d2, d3, d4, d5, d6, d7, d8, d9, d10, d11, d12, d13, d14, d15, d16, d17, d18, d19, d20, d21, d22, d23, d24, d25] := by
  obtain ⟨fd, F⟩ := c.def_ 25 (d := D25) rfl
  exact (all25 X G c M).step M F sc25 py25 ok25 rfl rfl rfl (He.glo_ok X G (c.fact 25 (f := .glo "next_ones") rfl)) (F.bindsN (ps := ["left", "known"]) fun _ _ _ _ _ _ us hl => match us, hl with | [_, _], _ => rfl)
theorem all27 (X : K.In h) (G : h.Ns mainGlobals mg) (c : He.SaysD fas fns K) (M : Mods K mg (clE K exs) bls gls exs) : AllP P w K mg base (clE K exs) 51 [(("is_int" : Str), 3), (("is_panel" : Str), 1), (("share_widths" : Str), 2), (("share_heights" : Str), 2), (("is_page" : Str), 1), (("check_page" : Str), 1), (("check_number" : Str), 3), (("goes_before" : Str), 3), (("is_before" : Str), 3), (("find_pairs" : Str), 1), (("find_cuts" : Str), 3), (("find_parts" : Str), 3), (("check_part" : Str), 2), (("row_parts" : Str), 2), (("column_parts" : Str), 2), (("read_part" : Str), 3), (("find_reading" : Str), 2), (("by_rows" : Str), 1), (("by_columns" : Str), 1), (("stuck_part" : Str), 1), (("is_cuttable" : Str), 1), (("has_order" : Str), 2), (("keeps_pairs" : Str), 2), (("fits" : Str), 2), (("can_read" : Str), 2), (("next_ones" : Str), 2), (("count_left" : Str), 1000 + 2)] [d0, d1, d2, d3, d4, d5, d6, d7, d8, d9, d10, d11, d12, d13, d14, d15, d16, d17, d18, d19, d20, d21, d22, d23, d24, d25, d26] := by
  obtain ⟨fd, F⟩ := c.def_ 26 (d := D26) rfl
  exact (all26 X G c M).stepMRec M F sc26 py26 ok26 rfl rfl rfl (He.glo_ok X G (c.fact 26 (f := .glo "count_left") rfl)) (F.bindsN (ps := ["left", "known", "seen"]) fun _ _ _ _ _ _ us hl => match us, hl with | [_, _, _], _ => rfl) rfl rfl 12
theorem all28 (X : K.In h) (G : h.Ns mainGlobals mg) (c : He.SaysD fas fns K) (M : Mods K mg (clE K exs) bls gls exs) : AllP P w K mg base (clE K exs) 52 [(("is_int" : Str), 3), (("is_panel" : Str), 1), (("share_widths" : Str), 2), (("share_heights" : Str), 2), (("is_page" : Str), 1), (("check_page" : Str), 1), (("check_number" : Str), 3), (("goes_before" : Str), 3), (("is_before" : Str), 3), (("find_pairs" : Str), 1), (("find_cuts" : Str), 3), (("find_parts" : Str), 3), (("check_part" : Str), 2), (("row_parts" : Str), 2), (("column_parts" : Str), 2), (("read_part" : Str), 3), (("find_reading" : Str), 2), (("by_rows" : Str), 1), (("by_columns" : Str), 1), (("stuck_part" : Str), 1), (("is_cuttable" : Str), 1), (("has_order" : Str), 2), (("keeps_pairs" : Str), 2), (("fits" : Str), 2), (("can_read" : Str), 2), (("next_ones" : Str), 2), (("count_left" : Str), 1000 + 2), (("find_number" : Str), 2)] [d0, d1, d2, d3, d4, d5, d6, d7, d8, d9, d10, d11, d12, d13, d14, d15, d16, d17, d18, d19, d20, d21, d22, d23, d24, d25, d26, d27] := by
  obtain ⟨fd, F⟩ := c.def_ 27 (d := D27) rfl
  exact (all27 X G c M).step M F sc27 py27 ok27 rfl rfl rfl (He.glo_ok X G (c.fact 27 (f := .glo "find_number") rfl)) (F.bindsN (ps := ["many", "known"]) fun _ _ _ _ _ _ us hl => match us, hl with | [_, _], _ => rfl)
theorem all29 (X : K.In h) (G : h.Ns mainGlobals mg) (c : He.SaysD fas fns K) (M : Mods K mg (clE K exs) bls gls exs) : AllP P w K mg base (clE K exs) 53 [(("is_int" : Str), 3), (("is_panel" : Str), 1), (("share_widths" : Str), 2), (("share_heights" : Str), 2), (("is_page" : Str), 1), (("check_page" : Str), 1), (("check_number" : Str), 3), (("goes_before" : Str), 3), (("is_before" : Str), 3), (("find_pairs" : Str), 1), (("find_cuts" : Str), 3), (("find_parts" : Str), 3), (("check_part" : Str), 2), (("row_parts" : Str), 2), (("column_parts" : Str), 2), (("read_part" : Str), 3), (("find_reading" : Str), 2), (("by_rows" : Str), 1), (("by_columns" : Str), 1), (("stuck_part" : Str), 1), (("is_cuttable" : Str), 1), (("has_order" : Str), 2), (("keeps_pairs" : Str), 2), (("fits" : Str), 2), (("can_read" : Str), 2), (("next_ones" : Str), 2), (("count_left" : Str), 1000 + 2), (("find_number" : Str), 2), (("first_order" : Str), 1)] [d0, d1, d2, d3, d4, d5, d6, d7, d8, d9, d10, d11, d12, d13, d14, d15, d16, d17, d18, d19, d20, d21, d22, d23, d24, d25, d26, d27, d28] := by
  obtain ⟨fd, F⟩ := c.def_ 28 (d := D28) rfl
  exact (all28 X G c M).step M F sc28 py28 ok28 rfl rfl rfl (He.glo_ok X G (c.fact 28 (f := .glo "first_order") rfl)) (F.bindsN (ps := ["page"]) fun _ _ _ _ _ _ us hl => match us, hl with | [_], _ => rfl)
theorem all30 (X : K.In h) (G : h.Ns mainGlobals mg) (c : He.SaysD fas fns K) (M : Mods K mg (clE K exs) bls gls exs) : AllP P w K mg base (clE K exs) 54 [(("is_int" : Str), 3), (("is_panel" : Str), 1), (("share_widths" : Str), 2), (("share_heights" : Str), 2), (("is_page" : Str), 1), (("check_page" : Str), 1), (("check_number" : Str), 3), (("goes_before" : Str), 3), (("is_before" : Str), 3), (("find_pairs" : Str), 1), (("find_cuts" : Str), 3), (("find_parts" : Str), 3), (("check_part" : Str), 2), (("row_parts" : Str), 2), (("column_parts" : Str), 2), (("read_part" : Str), 3), (("find_reading" : Str), 2), (("by_rows" : Str), 1), (("by_columns" : Str), 1), (("stuck_part" : Str), 1), (("is_cuttable" : Str), 1), (("has_order" : Str), 2), (("keeps_pairs" : Str), 2), (("fits" : Str), 2), (("can_read" : Str), 2), (("next_ones" : Str), 2), (("count_left" : Str), 1000 + 2), (("find_number" : Str), 2), (("first_order" : Str), 1), (("is_sure" : Str), 1)] [d0, d1, d2, d3, d4, d5, d6, d7, d8, d9, d10, d11, d12, d13, d14, d15, d16, d17, d18, d19, d20, d21, d22, d23, d24, d25, d26, d27, d28, d29] := by
  obtain ⟨fd, F⟩ := c.def_ 29 (d := D29) rfl
  exact (all29 X G c M).step M F sc29 py29 ok29 rfl rfl rfl (He.glo_ok X G (c.fact 29 (f := .glo "is_sure") rfl)) (F.bindsN (ps := ["page"]) fun _ _ _ _ _ _ us hl => match us, hl with | [_], _ => rfl)
theorem all31 (X : K.In h) (G : h.Ns mainGlobals mg) (c : He.SaysD fas fns K) (M : Mods K mg (clE K exs) bls gls exs) : AllP P w K mg base (clE K exs) 55 [(("is_int" : Str), 3), (("is_panel" : Str), 1), (("share_widths" : Str), 2), (("share_heights" : Str), 2), (("is_page" : Str), 1), (("check_page" : Str), 1), (("check_number" : Str), 3), (("goes_before" : Str), 3), (("is_before" : Str), 3), (("find_pairs" : Str), 1), (("find_cuts" : Str), 3), (("find_parts" : Str), 3), (("check_part" : Str), 2), (("row_parts" : Str), 2), (("column_parts" : Str), 2), (("read_part" : Str), 3), (("find_reading" : Str), 2), (("by_rows" : Str), 1), (("by_columns" : Str), 1), (("stuck_part" : Str), 1), (("is_cuttable" : Str), 1), (("has_order" : Str), 2), (("keeps_pairs" : Str), 2), (("fits" : Str), 2), (("can_read" : Str), 2), (("next_ones" : Str), 2), (("count_left" : Str), 1000 + 2), (("find_number" : Str), 2), (("first_order" : Str), 1), (("is_sure" : Str), 1), (("_law_drawn" : Str), 3)] [d0, d1, d2, d3, d4, d5, d6, d7, d8, d9, d10, d11, d12, d13, d14, d15, d16, d17, d18, d19, d20, d21, d22, d23, d24, d25, d26, d27, d28, d29, d30] := by
  obtain ⟨fd, F⟩ := c.def_ 30 (d := D30) rfl
  exact (all30 X G c M).step M F sc30 py30 ok30 rfl rfl rfl (He.glo_ok X G (c.fact 30 (f := .glo "_law_drawn") rfl)) (F.bindsN (ps := ["_law_script", "_law_k", "_law_many"]) fun _ _ _ _ _ _ us hl => match us, hl with | [_, _, _], _ => rfl)
theorem all32 (X : K.In h) (G : h.Ns mainGlobals mg) (c : He.SaysD fas fns K) (M : Mods K mg (clE K exs) bls gls exs) : AllP P w K mg base (clE K exs) 56 [(("is_int" : Str), 3), (("is_panel" : Str), 1), (("share_widths" : Str), 2), (("share_heights" : Str), 2), (("is_page" : Str), 1), (("check_page" : Str), 1), (("check_number" : Str), 3), (("goes_before" : Str), 3), (("is_before" : Str), 3), (("find_pairs" : Str), 1), (("find_cuts" : Str), 3), (("find_parts" : Str), 3), (("check_part" : Str), 2), (("row_parts" : Str), 2), (("column_parts" : Str), 2), (("read_part" : Str), 3), (("find_reading" : Str), 2), (("by_rows" : Str), 1), (("by_columns" : Str), 1), (("stuck_part" : Str), 1), (("is_cuttable" : Str), 1), (("has_order" : Str), 2), (("keeps_pairs" : Str), 2), (("fits" : Str), 2), (("can_read" : Str), 2), (("next_ones" : Str), 2), (("count_left" : Str), 1000 + 2), (("find_number" : Str), 2), (("first_order" : Str), 1), (("is_sure" : Str), 1), (("_law_drawn" : Str), 3), (("_law_page" : Str), 3)] [d0, d1, d2, d3, d4, d5, d6, d7, d8, d9, d10, d11, d12, d13, d14, d15, d16, d17, d18, d19, d20, d21, d22, d23, d24, d25, d26, d27, d28, d29, d30, d31] := by
  obtain ⟨fd, F⟩ := c.def_ 31 (d := D31) rfl
  exact (all31 X G c M).step M F sc31 py31 ok31 rfl rfl rfl (He.glo_ok X G (c.fact 31 (f := .glo "_law_page") rfl)) (F.bindsN (ps := ["_law_script", "_law_at", "_law_most"]) fun _ _ _ _ _ _ us hl => match us, hl with | [_, _, _], _ => rfl)
theorem all33 (X : K.In h) (G : h.Ns mainGlobals mg) (c : He.SaysD fas fns K) (M : Mods K mg (clE K exs) bls gls exs) : AllP P w K mg base (clE K exs) 57 [(("is_int" : Str), 3), (("is_panel" : Str), 1), (("share_widths" : Str), 2), (("share_heights" : Str), 2), (("is_page" : Str), 1), (("check_page" : Str), 1), (("check_number" : Str), 3), (("goes_before" : Str), 3), (("is_before" : Str), 3), (("find_pairs" : Str), 1), (("find_cuts" : Str), 3), (("find_parts" : Str), 3), (("check_part" : Str), 2), (("row_parts" : Str), 2), (("column_parts" : Str), 2), (("read_part" : Str), 3), (("find_reading" : Str), 2), (("by_rows" : Str), 1), (("by_columns" : Str), 1), (("stuck_part" : Str), 1), (("is_cuttable" : Str), 1), (("has_order" : Str), 2), (("keeps_pairs" : Str), 2), (("fits" : Str), 2), (("can_read" : Str), 2), (("next_ones" : Str), 2), (("count_left" : Str), 1000 + 2), (("find_number" : Str), 2), (("first_order" : Str), 1), (("is_sure" : Str), 1), (("_law_drawn" : Str), 3), (("_law_page" : Str), 3), (("_law_stuck" : Str), 1)] [d0, d1, d2, d3, d4, d5, d6, d7, d8, d9, d10, d11, d12, d13, d14, d15, d16, d17, d18, d19, d20, d21, d22, d23, d24, d25, d26, d27, d28, d29, d30, d31, d32] := by
  obtain ⟨fd, F⟩ := c.def_ 32 (d := D32) rfl
  exact (all32 X G c M).step M F sc32 py32 ok32 rfl rfl rfl (He.glo_ok X G (c.fact 32 (f := .glo "_law_stuck") rfl)) (F.bindsN (ps := ["_law_page_here"]) fun _ _ _ _ _ _ us hl => match us, hl with | [_], _ => rfl)
theorem all34 (X : K.In h) (G : h.Ns mainGlobals mg) (c : He.SaysD fas fns K) (M : Mods K mg (clE K exs) bls gls exs) : AllP P w K mg base (clE K exs) 58 [(("is_int" : Str), 3), (("is_panel" : Str), 1), (("share_widths" : Str), 2), (("share_heights" : Str), 2), (("is_page" : Str), 1), (("check_page" : Str), 1), (("check_number" : Str), 3), (("goes_before" : Str), 3), (("is_before" : Str), 3), (("find_pairs" : Str), 1), (("find_cuts" : Str), 3), (("find_parts" : Str), 3), (("check_part" : Str), 2), (("row_parts" : Str), 2), (("column_parts" : Str), 2), (("read_part" : Str), 3), (("find_reading" : Str), 2), (("by_rows" : Str), 1), (("by_columns" : Str), 1), (("stuck_part" : Str), 1), (("is_cuttable" : Str), 1), (("has_order" : Str), 2), (("keeps_pairs" : Str), 2), (("fits" : Str), 2), (("can_read" : Str), 2), (("next_ones" : Str), 2), (("count_left" : Str), 1000 + 2), (("find_number" : Str), 2), (("first_order" : Str), 1), (("is_sure" : Str), 1), (("_law_drawn" : Str), 3), (("_law_page" : Str), 3), (("_law_stuck" : Str), 1), (("law" : Str), 1)] [d0, d1, d2, d3, d4, d5, d6, d7, d8, d9, d10, d11, d12, d13, d14, d15, d16, d17, d18, d19, d20, d21, d22, d23, d24, d25, d26, d27, d28, d29, d30, d31, d32, d33] := by
  obtain ⟨fd, F⟩ := c.def_ 33 (d := D33) rfl
  exact (all33 X G c M).step M F sc33 py33 ok33 rfl rfl rfl (He.glo_ok X G (c.fact 33 (f := .glo "law") rfl)) (F.bindsN (ps := ["_law_script"]) fun _ _ _ _ _ _ us hl => match us, hl with | [_], _ => rfl)
end
abbrev R : PySem.W.OpenRow := PySem.W.OpenLaw.row PySem.Challenge.rw_panelorder_k15_whole_cutting
abbrev hk : PySem.W.Hook := hookQ 4 fas fns (exsB exs)
def ob (s : PySem.W.SharedT) : AlE := obsQ 4 fas fns (exsB exs) (HandSHeadRun.getT s)
theorem ob_eq (s : PySem.W.SharedT) : ob s = hk.obs s.abs := obsQ_eq (HandSHeadRun.getT_eq s)
def loose : List PySem.Str := [("PanelError" : PySem.Str), ("InvalidPage" : PySem.Str), ("InvalidNumber" : PySem.Str), ("InvalidPart" : PySem.Str), ("SIZE" : PySem.Str), ("MAX_PANELS" : PySem.Str), ("is_int" : PySem.Str), ("is_panel" : PySem.Str), ("share_widths" : PySem.Str), ("share_heights" : PySem.Str), ("is_page" : PySem.Str), ("check_page" : PySem.Str), ("check_number" : PySem.Str), ("goes_before" : PySem.Str), ("is_before" : PySem.Str), ("find_pairs" : PySem.Str), ("find_cuts" : PySem.Str), ("find_parts" : PySem.Str), ("check_part" : PySem.Str), ("row_parts" : PySem.Str), ("column_parts" : PySem.Str), ("read_part" : PySem.Str), ("find_reading" : PySem.Str), ("by_rows" : PySem.Str), ("by_columns" : PySem.Str), ("stuck_part" : PySem.Str), ("is_cuttable" : PySem.Str), ("has_order" : PySem.Str), ("keeps_pairs" : PySem.Str), ("fits" : PySem.Str), ("can_read" : PySem.Str), ("next_ones" : PySem.Str), ("count_left" : PySem.Str), ("find_number" : PySem.Str), ("first_order" : PySem.Str), ("is_sure" : PySem.Str), ("_law_drawn" : PySem.Str), ("_law_page" : PySem.Str), ("_law_stuck" : PySem.Str)]
abbrev place : Nat := 44
abbrev K0 : Nat := 58
abbrev dLaw : List D → Rs D := d33
end K15
namespace K15
open PySem PySem.Spec Den
def inR (x a b : Int) : Bool := decide (a ≤ x) && decide (x ≤ b)
theorem v0 (x a b : Int) : d0 [.int x, .int a, .int b] = .ok (.bool (inR x a b)) := by
  simp [d0, defD, s0, startD, seqS, isiD, inR]
  by_cases h : a ≤ x <;> simp [h]
def okP (p : Pan) : Bool := inR p.a 0 20 && inR p.b 0 20 && inR p.c 0 20 && inR p.d 0 20 && decide (p.a < p.c) && decide (p.b < p.d)
theorem neI (i j : Int) : neD (.int i) (.int j) = .ok (.bool (!decide (i = j))) := neD_e (α := Int) (by decide) i j
theorem eqI (i j : Int) : eqD (.int i) (.int j) = .ok (.bool (decide (i = j))) := eqD_e (α := Int) (by decide) i j
theorem v1 (p : Pan) : d1 [pD p] = .ok (.bool (okP p)) := by
  have e : compL (setN 1) (fun x => Rs.ok true) (appE (tbl ds1 0) (consArg (vaR 1) (consArg (fun x => Rs.ok (PyData.int 0)) (consArg (fun x => Rs.ok (PyData.int 20)) noArg)))) [some (pD p), none] ([p.a, p.b, p.c, p.d].map PyData.int) = .ok ([p.a, p.b, p.c, p.d].map fun x => PyData.bool (inR x 0 20)) := by
    refine compL_all _ fun x _ => ?_
    simp [tbl, ds1, v0]
  have e2 := allD_bs (bs := [p.a, p.b, p.c, p.d].map fun x => inR x 0 20)
  simp at e e2
  simp [pD] at e
  simp [d1, defD, s1, startD, seqS, isiD, okP, pD, neI, e, e2]
  by_cases h1 : inR p.a 0 20 = true <;> by_cases h2 : inR p.b 0 20 = true <;> by_cases h3 : inR p.c 0 20 = true <;> by_cases h4 : inR p.d 0 20 = true <;> by_cases h5 : p.a < p.c <;> simp [h1, h2, h3, h4, h5]
theorem v2 (p q : Pan) : d2 [pD p, pD q] = .ok (.bool (decide (p.a < q.c) && decide (q.a < p.c))) := by
  simp [d2, defD, s2, startD, seqS, pD]
  by_cases h : p.a < q.c <;> simp [h]
theorem v3 (p q : Pan) : d3 [pD p, pD q] = .ok (.bool (decide (p.b < q.d) && decide (q.b < p.d))) := by
  simp [d3, defD, s3, startD, seqS, pD]
  by_cases h : p.b < q.d <;> simp [h]
def shW (p q : Pan) : Bool := decide (p.a < q.c) && decide (q.a < p.c)
def shH (p q : Pan) : Bool := decide (p.b < q.d) && decide (q.b < p.d)
def lap (p q : Pan) : Bool := shW p q && shH p q
def apart : List Pan → Bool
  | [] => true
  | p :: r => !(r.any (lap p)) && apart r
def okPage (P : List Pan) : Bool := decide (P.length ≤ 8) && P.all okP && apart P
theorem enuL_map (P : List Pan) : ∀ n, enuL n (P.map pD) = ((P.zipIdx n).map fun x => PyData.tuple [.int ((x.2 : Nat) : Int), pD x.1]) := by
  induction P with
  | nil => intro n; rfl
  | cons p r ih => intro n; simp only [List.map_cons, enuL, List.zipIdx_cons, ih]
theorem any_lap (p : Pan) (r : List Pan) : compL (setN 4) (fun _ => Rs.ok true) (andE (appE (tbl ds4 2) (consArg (vaR 2) (consArg (vaR 4) noArg))) (appE (tbl ds4 3) (consArg (vaR 2) (consArg (vaR 4) noArg)))) [c, x, some (pD p), u, none] (r.map pD) = .ok (r.map fun q => PyData.bool (lap p q)) := by
  refine compL_all _ fun q _ => ?_
  simp [tbl, ds4, v2, v3, lap, shW, shH]
  by_cases h1 : p.a < q.c <;> by_cases h2 : q.a < p.c <;> simp [h1, h2]
theorem v4 (P : List Pan) : d4 [.tuple (P.map pD)] = .ok (.bool (okPage P)) := by
  refine Wp.eq (wp_def rfl ?_)
  have e1 : compL (setN 3) (fun x => Rs.ok true) (appE (tbl ds4 1) (consArg (vaR 3) noArg)) [some (.tuple (P.map pD)), none, none, none, none] (P.map pD) = .ok (P.map fun p => PyData.bool (okP p)) := by
    refine compL_all _ fun p _ => ?_
    simp [tbl, ds4, v1]
  simp [s4, startD, isiD]
  split
  · rename_i h; simp [okPage]; omega
  · rename_i h
    simp [e1]
    by_cases h2 : ∀ p ∈ P, okP p = true
    · have h2' : P.all okP = true := by simpa using h2
      rw [if_pos h2, enuL_map]
      refine wp_for (fun k ρ => apart P = apart (P.drop k) ∧ ∃ x y, ρ = [some (.tuple (P.map pD)), x, y, none, none]) _ _ 0 ⟨rfl, _, _, rfl⟩ (fun i a ρ hi hI => ?_) fun ρ hI => ?_
      · obtain ⟨h3, x, y, rfl⟩ := hI
        have hlt : i < P.length := by
          have := (List.getElem?_eq_some_iff.mp hi).1
          simpa using this
        have ha : a = (P[i], i) := by
          have := (List.getElem?_eq_some_iff.mp hi).2
          simpa using this.symm
        subst ha
        have hc : cutD (P.map pD) (some ((i : Int) + 1)) none = (P.drop (i + 1)).map pD := by
          have := cut_from (P.map pD) (i + 1)
          rw [List.map_drop]; exact this
        rw [Nat.zero_add, List.drop_eq_getElem_cons hlt] at h3
        simp [-List.map_drop, hc, any_lap]
        split
        · rename_i h4
          have : apart P = false := by rw [h3]; simp [apart]; intro h5; obtain ⟨q, h6, h7⟩ := h4; rw [h5 q h6] at h7; cases h7
          simp [okPage, this]
        · rename_i h4
          rw [h3]
          have h5 : (List.drop (i + 1) P).any (lap P[i]) = false := by simpa using h4
          show (!(List.drop (i + 1) P).any (lap P[i]) && apart (List.drop (i + 1) P)) = _
          rw [h5]
          simp
      · obtain ⟨h3, x, y, rfl⟩ := hI
        have : P.drop (0 + P.zipIdx.length) = [] := List.drop_eq_nil_of_le (by simp)
        rw [this] at h3
        simp [okPage, h2', h3, apart]
        omega
    · have h2' : P.all okP = false := by simpa using h2
      rw [if_neg h2]
      simp [okPage, h2']
theorem v5 {v : D} {b : Bool} (h : d4 [v] = .ok (.bool b)) : d5 [v] = if b = true then .ok .none else .exc 0 := by
  have e : tbl ds5 4 = d4 := rfl
  simp [d5, defD, s5, startD, e, h]
  cases b <;> simp [seqS, h]
theorem v6 {v : D} {i j : Int} {b : Bool} (h : d0 [v, .int i, .int j] = .ok (.bool b)) : d6 [v, .int i, .int j] = if b = true then .ok .none else .exc 1 := by
  have e : tbl ds6 0 = d0 := rfl
  simp [d6, defD, s6, startD, e, h]
  cases b <;> simp [seqS, h]
def bef (p q : Pan) : Bool := (decide (p.c ≤ q.a) && shH p q) || (decide (p.d ≤ q.b) && shW p q)
theorem at_map {P : List Pan} {i : Nat} (h : i < P.length) : L2.atI (P.map pD) (i : Int) = some (pD P[i]) := by
  rw [atI_nn (by simpa using h)]
  simp
theorem v7 {P : List Pan} {i j : Nat} (hi : i < P.length) (hj : j < P.length) : d7 [.tuple (P.map pD), .int i, .int j] = .ok (.bool (bef P[i] P[j])) := by
  have e2 : tbl ds7 2 = d2 := rfl
  have e3 : tbl ds7 3 = d3 := rfl
  refine Wp.eq (wp_def rfl ?_)
  simp [s7, startD, at_map hi, at_map hj]
  have e4 : L2.atI [PyData.int (P[i]).a, PyData.int (P[i]).b, PyData.int (P[i]).c, PyData.int (P[i]).d] 2 = some (.int (P[i]).c) := by simp
  simp [pD, e2, e3]
  have v2' := v2 P[i] P[j]
  have v3' := v3 P[i] P[j]
  simp [pD] at v2' v3'
  simp [v2', v3']
  by_cases h1 : (P[i]).c ≤ (P[j]).a <;> by_cases h2 : (P[i]).d ≤ (P[j]).b <;> simp [h1, h2, bef, shW, shH]
  all_goals split <;> simp_all <;> omega
theorem v8 {P : List Pan} {i j : Nat} (hP : okPage P = true) (hi : i < P.length) (hj : j < P.length) : d8 [.tuple (P.map pD), .int i, .int j] = .ok (.bool (bef P[i] P[j])) := by
  have e5 : tbl ds8 5 = d5 := rfl
  have e6 : tbl ds8 6 = d6 := rfl
  have e7 : tbl ds8 7 = d7 := rfl
  have h5 := v5 (v4 P)
  rw [hP, if_pos rfl] at h5
  have h6 : ∀ k : Nat, k < P.length → d6 [.int k, .int 0, .int ((P.length : Int) - 1)] = .ok .none := fun k hk => by
    have := v6 (v0 (k : Int) 0 ((P.length : Int) - 1))
    rw [this, if_pos]
    simp [inR]; omega
  refine Wp.eq (wp_def rfl ?_)
  simp [s8, startD, e5, e6, e7, h5, h6 i hi, h6 j hj, v7 hi hj]
def befI (P : List Pan) (i j : Nat) : Bool := match P[i]?, P[j]? with
  | some p, some q => bef p q
  | _, _ => false
theorem befI_eq {P : List Pan} {i j : Nat} (hi : i < P.length) (hj : j < P.length) : befI P i j = bef P[i] P[j] := by
  unfold befI
  rw [List.getElem?_eq_getElem hi, List.getElem?_eq_getElem hj]
def row (P : List Pan) (i : Nat) : List (Nat × Nat) := ((List.range P.length).filter (befI P i)).map fun j => (i, j)
def prs (P : List Pan) : List (Nat × Nat) := (List.range P.length).flatMap (row P)
theorem row_len (P : List Pan) (a : Nat) : (row P a).length ≤ P.length := by
  unfold row
  rw [List.length_map]
  have := List.length_filter_le (befI P a) (List.range P.length)
  simpa using this
theorem rows_len (P : List Pan) : ∀ k : Nat, ((List.range k).flatMap (row P)).length ≤ k * P.length := fun k => by
  induction k with
  | zero => simp
  | succ k ih =>
    rw [List.range_succ, List.flatMap_append, List.length_append, Nat.succ_mul]
    have := row_len P k
    simp [-List.length_flatMap]
    omega
theorem prs_len (P : List Pan) : (prs P).length ≤ P.length * P.length := rows_len P P.length
theorem v9 {P : List Pan} (hP : P.length ≤ 8) : d9 [.tuple (P.map pD)] = .ok (Enc.e (prs P)) := by
  have e7 : tbl ds9 7 = d7 := rfl
  refine Wp.eq (wp_def rfl ?_)
  have e1 : compL2 (setN 2) (seqE (vaR 1)) (setN 3) (tstE (appE (tbl ds9 7) (consArg (vaR 0) (consArg (vaR 2) (consArg (vaR 3) noArg))))) (tupA (consArg (vaR 2) (consArg (vaR 3) noArg))) [3] [some (.tuple (P.map pD)), some (.list ((List.range P.length).map fun i : Nat => PyData.int (i : Int))), none, none] ((List.range P.length).map fun i : Nat => PyData.int (i : Int)) = .ok ((List.range P.length).flatMap fun i => ((List.range P.length).filter (befI P i)).map fun j : Nat => PyData.tuple [.int (i : Int), .int (j : Int)]) := by
    refine compL2_map (l1 := fun _ => List.range P.length) (g1 := fun i : Nat => PyData.int (i : Int)) _ fun i hi => ?_
    have hi' : i < P.length := by simpa using hi
    simp
    intro j hj
    simp [e7, v7 hi' hj, befI_eq hi' hj]
  have e2 : ((List.range P.length).flatMap fun i => ((List.range P.length).filter (befI P i)).map fun j : Nat => PyData.tuple [.int (i : Int), .int (j : Int)]) = (prs P).map Enc.e := by
    unfold prs row
    rw [List.map_flatMap]
    congr 1
    funext i
    rw [List.map_map]; rfl
  rw [e2] at e1
  have hl := prs_len P
  have hl2 : P.length * P.length ≤ 8 * 8 := Nat.mul_le_mul hP hP
  simp [s9, startD, rng0_map]
  refine ⟨by omega, ?_⟩
  rw [wp_noexc, e1]
  exact ⟨by rw [List.length_map]; unfold big; omega, rfl⟩
theorem okLen {P : List Pan} (h : okPage P = true) : P.length ≤ 8 := by
  unfold okPage at h
  simp at h
  exact h.1.1
theorem v5ok {P : List Pan} (h : okPage P = true) : d5 [.tuple (P.map pD)] = .ok .none := by
  have h5 := v5 (v4 P)
  rw [h, if_pos rfl] at h5
  exact h5
theorem pair_e (l : List (Nat × Nat)) : (Enc.e l : D) = .list (l.map fun p => PyData.tuple [.int (p.1 : Int), .int (p.2 : Int)]) := rfl
theorem nats_e (l : List Nat) : (Enc.e l : D) = .list (l.map fun p : Nat => PyData.int (p : Int)) := rfl
def intsD (ns : List Int) : D := .list (ns.map PyData.int)
theorem intsD_at {ns : List Int} {i : Nat} (h : i < ns.length) : L2.atI (ns.map PyData.int) (i : Int) = some (.int ns[i]) := by
  rw [atI_nn (by simpa using h)]
  simp
theorem v13 (ns : List Int) (k : Nat) (m : Int) (hlen : ns.length ≤ 63) (hm : 0 < m) : ∃ r : Int, d30 [intsD ns, .int k, .int m] = .ok (.int r) ∧ 0 ≤ r ∧ r < m := by
  have : Wp (d30 [intsD ns, .int k, .int m]) fun d => ∃ r : Int, d = .int r ∧ 0 ≤ r ∧ r < m := by
    refine wp_def rfl ?_
    have e1 : neD (intsD ns) (.list []) = .ok (.bool (!decide (ns = []))) := neD_e (α := List Int) (by decide) ns []
    simp only [s30, x_Ss_den_cons]
    refine wp_cut (R := fun ρ => ρ = [some (intsD ns), some (.int k), some (.int m), some (.int (7 * k)), none, none]) ?_ fun ρ1 h => ?_
    · simp [startD]
    · subst h
      refine wp_cut (R := fun ρ => ∃ c x y, ρ = [some (intsD ns), some (.int k), some (.int m), some (.int c), x, y]) ?_ fun ρ1 h => ?_
      · simp [e1]
        intro hn
        have hl : 0 < ns.length := List.length_pos_iff.mpr hn
        obtain ⟨j, hl2, e2⟩ : ∃ j : Nat, j < ns.length ∧ (k : Int) % (ns.length : Int) = (j : Int) := ⟨k % ns.length, Nat.mod_lt _ hl, by omega⟩
        obtain ⟨t, e3⟩ : ∃ t : Nat, (k : Int) / (ns.length : Int) = (t : Int) := ⟨k / ns.length, by omega⟩
        have hat : L2.atI (ns.map PyData.int) (j : Int) = some (.int ns[j]) := intsD_at hl2
        generalize ns[j] = cell at hat
        have hle : (0 : Int) < ns.length ∧ (ns.length : Int) < 18446744073709551616 := ⟨by omega, by omega⟩
        by_cases c1 : (1000000000000000000 : Int) ≤ cell
        · by_cases c2 : (t : Int) < 60
          · simp [intsD, e2, hat, e3, hle, c1, c2]
            refine ⟨hl, ?_⟩
            refine wp_while (fun n ρ => ∃ r u : Int, n = u.toNat ∧ 0 ≤ u ∧ u ≤ 60 ∧ ρ = [some (.list (ns.map PyData.int)), some (.int k), some (.int m), some (.int cell), some (.int u), some (.int r)]) t _ _ (by omega) ⟨_, _, by omega, by omega, by omega, rfl⟩ ?_
            rintro n ρ ⟨r, u, hn', hu, hu2, rfl⟩
            by_cases h1 : 0 < r
            · by_cases h2 : 0 < u
              · simp [h1, h2]
                exact ⟨(u - 1).toNat, by omega, r / 1000000, u - 1, rfl, by omega, by omega, rfl, rfl⟩
              · simp [h1, h2]
                exact ⟨hm, Int.emod_nonneg _ (by omega), Int.emod_lt_of_pos _ hm⟩
            · simp [h1, e3, hle, hl]
          · simp [intsD, e2, hat, e3, hle, c1, c2]
            exact hn
        · simp [intsD, e2, hat, e3, hle, c1]
          exact hn
      · obtain ⟨c, x, y, rfl⟩ := h
        have hu : ∀ u : Int, 0 ≤ u % 2147483563 ∧ u % 2147483563 < 2147483563 := fun u => ⟨Int.emod_nonneg _ (by decide), Int.emod_lt_of_pos _ (by decide)⟩
        have hv : ∀ u : Int, 0 ≤ u % 2147483399 ∧ u % 2147483399 < 2147483399 := fun u => ⟨Int.emod_nonneg _ (by decide), Int.emod_lt_of_pos _ (by decide)⟩
        simp
        have h1 := hu (c % 2147483563 * 69069 + 104723 * (↑k + 1))
        generalize (c % 2147483563 * 69069 + 104723 * (↑k + 1)) % 2147483563 = u at *
        have h2 := hv (u * u + u / 3)
        generalize (u * u + u / 3) % 2147483399 = v at *
        exact ⟨⟨by omega, by omega⟩, ⟨by omega, by omega⟩, hm, Int.emod_nonneg _ (by omega), Int.emod_lt_of_pos _ hm⟩
  obtain ⟨d, e, r, rfl, h⟩ := wp_iff.mp this
  exact ⟨r, e, h⟩
theorem drawn (ns : List Int) (hlen : ns.length ≤ 63) (k : Nat) (m : Nat) (hm : 0 < m) : ∃ r : Nat, d30 [intsD ns, .int k, .int m] = .ok (.int r) ∧ r < m := by
  obtain ⟨r, e, h1, h2⟩ := v13 ns k m hlen (by omega)
  exact ⟨r.toNat, by rw [e]; congr 2; omega, by omega⟩
theorem drawnI (ns : List Int) (hlen : ns.length ≤ 63) (x m : Int) (hx : 0 ≤ x) (hm : 0 < m) : ∃ r : Nat, d30 [intsD ns, .int x, .int m] = .ok (.int r) ∧ (r : Int) < m := by
  obtain ⟨r, e, h⟩ := drawn ns hlen x.toNat m.toNat (by omega)
  have hx' : ((x.toNat : Nat) : Int) = x := by omega
  have hm' : ((m.toNat : Nat) : Int) = m := by omega
  rw [hx', hm'] at e
  exact ⟨r, e, by omega⟩
structure Sheet (F : List Pan) : Prop where
  box : ∀ p ∈ F, 0 ≤ p.a ∧ p.a < p.c ∧ p.c ≤ 12 ∧ 0 ≤ p.b ∧ p.b < p.d ∧ p.d ≤ 12
  ap : F.Pairwise fun p q => lap p q = false
theorem lap_symm (p q : Pan) : lap p q = lap q p := by
  unfold lap shW shH
  rw [Bool.and_comm (decide (p.a < q.c)), Bool.and_comm (decide (p.b < q.d))]
theorem lap_false {p q : Pan} : lap p q = false ↔ q.c ≤ p.a ∨ p.c ≤ q.a ∨ q.d ≤ p.b ∨ p.d ≤ q.b := by
  unfold lap shW shH
  rw [Bool.eq_false_iff]
  simp
  omega
theorem apart_iff (F : List Pan) : apart F = true ↔ F.Pairwise fun p q => lap p q = false := by
  induction F with
  | nil => simp [apart]
  | cons p r ih =>
    unfold apart
    rw [Bool.and_eq_true, ih, List.pairwise_cons]
    simp
theorem Sheet.page {F : List Pan} (h : Sheet F) (hl : F.length ≤ 8) : okPage F = true := by
  unfold okPage
  rw [(apart_iff F).mpr h.ap]
  simp [hl]
  intro p hp
  have := h.box p hp
  simp [okP, inR]
  omega
theorem Sheet.cut {F : List Pan} (h : Sheet F) {i : Nat} (hi : i < F.length) {x y : Pan} (hx : (F[i]).a ≤ x.a ∧ x.a < x.c ∧ x.c ≤ (F[i]).c ∧ (F[i]).b ≤ x.b ∧ x.b < x.d ∧ x.d ≤ (F[i]).d) (hy : (F[i]).a ≤ y.a ∧ y.a < y.c ∧ y.c ≤ (F[i]).c ∧ (F[i]).b ≤ y.b ∧ y.b < y.d ∧ y.d ≤ (F[i]).d)
    (hxy : lap x y = false) : Sheet (F.take i ++ [x] ++ F.drop (i + 1) ++ [y]) := by
  have e : F = F.take i ++ F[i] :: F.drop (i + 1) := by rw [← List.drop_eq_getElem_cons hi, List.take_append_drop]
  have hb := h.box F[i] (List.getElem_mem hi)
  have hap := h.ap
  rw [e, List.pairwise_append] at hap
  obtain ⟨a1, a2, a3⟩ := hap
  rw [List.pairwise_cons] at a2
  obtain ⟨a4, a5⟩ := a2
  refine ⟨fun p hp => ?_, ?_⟩
  · simp only [List.mem_append, List.mem_singleton] at hp
    rcases hp with ((hp | rfl) | hp) | rfl
    · exact h.box p (List.mem_of_mem_take hp)
    · omega
    · exact h.box p (List.mem_of_mem_drop hp)
    · omega
  · have k1 : ∀ p ∈ F.take i, lap p x = false ∧ lap p y = false := fun p hp => by
      have := lap_false.mp (a3 p hp F[i] List.mem_cons_self)
      exact ⟨lap_false.mpr (by omega), lap_false.mpr (by omega)⟩
    have k2 : ∀ p ∈ F.drop (i + 1), lap x p = false ∧ lap p y = false := fun p hp => by
      have := lap_false.mp (a4 p hp)
      exact ⟨lap_false.mpr (by omega), lap_false.mpr (by omega)⟩
    simp only [List.pairwise_append, List.pairwise_cons, List.mem_append, List.mem_singleton, List.Pairwise.nil, List.not_mem_nil]
    refine ⟨⟨⟨a1, ⟨fun _ z => z.elim, trivial⟩, fun p hp q hq => hq ▸ (k1 p hp).1⟩, a5, fun p hp q hq => ?_⟩, ⟨fun _ z => z.elim, trivial⟩, fun p hp q hq => ?_⟩
    · rcases hp with hp | rfl
      · exact a3 p hp q (List.mem_cons_of_mem _ hq)
      · exact (k2 q hq).1
    · subst hq
      rcases hp with (hp | rfl) | hp
      · exact (k1 p hp).2
      · exact hxy
      · exact (k2 p hp).2
theorem Sheet.sub {F K : List Pan} (h : Sheet F) (s : K.Sublist F) : Sheet K := ⟨fun p hp => h.box p (s.subset hp), h.ap.sublist s⟩
theorem cutAt (F : List Pan) (i : Nat) : cutD (F.map pD) none (some (i : Int)) = (F.take i).map pD ∧ cutD (F.map pD) (some ((i : Int) + 1)) none = (F.drop (i + 1)).map pD := by
  refine ⟨by rw [cut_to, List.map_take], ?_⟩
  have := cut_from (F.map pD) (i + 1)
  rw [List.map_drop]
  exact this
def PgI (ns : List Int) (at_ most : Nat) (n : Nat) (ρ : Ro) : Prop := ∃ (F : List Pan) (x5 x6 x7 x8 x9 x10 x11 x12 x13 x14 x15 x16 x17 : Option D), ρ = [some (intsD ns), some (.int at_), some (.int most), some (.list (F.map pD)), some (.list []), x5, x6, x7, x8, x9, x10, x11, x12, x13, x14, x15, x16, x17] ∧ Sheet F ∧ 0 < F.length ∧ F.length ≤ n
def PgJ (ns : List Int) (at_ most : Nat) (n k : Nat) (ρ : Ro) : Prop := ∃ (F : List Pan) (i w : Nat) (hi : i < F.length) (x13 x14 x15 x16 x17 : Option D), ρ = [some (intsD ns), some (.int at_), some (.int most), some (.list (F.map pD)), some (.list []), some (.int k), some (.int i), some (.int w), some (.int F[i].a), some (.int F[i].b), some (.int F[i].c), some (.int F[i].d), some (.int (if w = 0 then F[i].c - F[i].a else F[i].d - F[i].b)), x13, x14, x15, x16, x17] ∧ Sheet F ∧ 0 < F.length ∧ F.length ≤ n ∧ w < 2
def PgK (ns : List Int) (at_ most : Nat) (ρ : Ro) : Prop := ∃ (F K : List Pan) (x5 x6 x7 x8 x9 x10 x11 x12 x13 x14 x15 x16 x17 : Option D), ρ = [some (intsD ns), some (.int at_), some (.int most), some (.list (F.map pD)), some (.list (K.map pD)), x5, x6, x7, x8, x9, x10, x11, x12, x13, x14, x15, x16, x17] ∧ Sheet K ∧ K.length ≤ 8
theorem max_d (K : List Pan) : maxD [.list (.int 0 :: K.map fun p => PyData.int p.d)] = .ok (.int (maxL 0 (K.map (·.d)))) := by
  have : intsO (.int 0 :: K.map fun p => PyData.int p.d) = some (0 :: K.map (·.d)) := by
    have := ints_map (0 :: K.map (·.d))
    rw [List.map_cons, List.map_map] at this
    exact this
  simp [maxD, this]
theorem sheetA : Sheet [⟨2, 0, 8, 2⟩, ⟨6, 2, 8, 8⟩, ⟨0, 6, 6, 8⟩, ⟨0, 0, 2, 6⟩, ⟨3, 3, 5, 5⟩] := ⟨by decide, by decide⟩
theorem sheetB : Sheet [⟨9, 0, 11, 2⟩, ⟨6, 2, 8, 4⟩, ⟨3, 4, 5, 6⟩, ⟨0, 6, 2, 8⟩] := ⟨by decide, by decide⟩
theorem Sheet.add {K : List Pan} (h : Sheet K) (hk : ∀ p ∈ K, p.d < 9) : Sheet (K ++ [⟨0, 9, 12, 12⟩]) := by
  refine ⟨fun p hp => ?_, ?_⟩
  · rcases List.mem_append.mp hp with hp | hp
    · exact h.box p hp
    · rw [List.mem_singleton.mp hp]; decide
  · rw [List.pairwise_append]
    refine ⟨h.ap, by simp, fun p hp q hq => ?_⟩
    rw [List.mem_singleton.mp hq, lap_false]
    have := hk p hp
    simp
    omega
theorem v14 (ns : List Int) (hlen : ns.length ≤ 63) (at_ most : Nat) (hm : 0 < most) (hm8 : most ≤ 8) : ∃ P : List Pan, d31 [intsD ns, .int at_, .int most] = .ok (.tuple (P.map pD)) ∧ Sheet P ∧ P.length ≤ 8 := by
  have e13 : tbl ds31 30 = d30 := rfl
  have : Wp (d31 [intsD ns, .int at_, .int most]) fun d => ∃ P : List Pan, d = .tuple (P.map pD) ∧ Sheet P ∧ P.length ≤ 8 := by
    refine wp_def rfl ?_
    simp only [s31, x_Ss_den_cons]
    refine wp_cut (R := fun ρ => ρ = [some (intsD ns), some (.int at_), some (.int most), some (.list [pD ⟨0, 0, 12, 12⟩]), some (.list []), none, none, none, none, none, none, none, none, none, none, none, none, none]) ?_ fun ρ1 h => ?_
    · simp [startD, pD]
    · subst h
      refine wp_cut (R := PgI ns at_ most 8) ?_ fun ρ1 h => ?_
      · obtain ⟨r, hr, hr2⟩ := drawnI ns hlen at_ most (by omega) (by omega)
        simp only [x_S_den_for, forS_eq, wp_bind]
        simp only [x_Ss_den_cons]
        rw [show (I.den (tbl ds31) _ _ : Rs (List D)) = .ok ((List.range r).map fun i : Nat => PyData.int (i : Int)) by simp [e13, hr, rng0_map]; omega, wp_ok]
        refine wp_for (fun k ρ => PgI ns at_ most (k + 1) ρ) _ _ 0 ?_ (fun i a ρ hi hI => ?_) fun ρ hI => ?_
        · refine ⟨[⟨0, 0, 12, 12⟩], _, _, _, _, _, _, _, _, _, _, _, _, _, rfl, ⟨by simp, by simp⟩, by simp, by simp⟩
        · obtain ⟨F, x5, x6, x7, x8, x9, x10, x11, x12, x13, x14, x15, x16, x17, rfl, hF, hF0, hFl⟩ := hI
          have ha : a = i := by
            have := List.getElem?_eq_some_iff.mp hi
            simp at this
            exact this.2.symm
          subst ha
          have har : a < r := by
            have := List.getElem?_eq_some_iff.mp hi
            simp at this
            exact this
          simp only [tg1, setN_eq, wp_ok]
          refine wp_cut (R := fun ρ => ∃ (i w : Nat), i < F.length ∧ w < 2 ∧ ρ = [some (intsD ns), some (.int at_), some (.int most), some (.list (F.map pD)), some (.list []), some (.int a), some (.int i), some (.int w), x8, x9, x10, x11, x12, x13, x14, x15, x16, x17]) ?_ fun ρ1 h => ?_
          · obtain ⟨p, hp, hp2⟩ := drawnI ns hlen (at_ + 1 + 4 * a) F.length (by omega) (by omega)
            obtain ⟨q, hq, hq2⟩ := drawnI ns hlen (at_ + 2 + 4 * a) 2 (by omega) (by omega)
            simp [e13, hp, hq]
            exact ⟨p, by omega, q, by omega, rfl, rfl⟩
          · obtain ⟨i, w, hi', hw, rfl⟩ := h
            refine wp_cut (R := fun ρ => ρ = [some (intsD ns), some (.int at_), some (.int most), some (.list (F.map pD)), some (.list []), some (.int a), some (.int i), some (.int w), some (.int F[i].a), some (.int F[i].b), some (.int F[i].c), some (.int F[i].d), x12, x13, x14, x15, x16, x17]) ?_ fun ρ1 h => ?_
            · simp [at_map hi', pD]
            · subst h
              refine wp_cut (R := PgJ ns at_ most (0 + a + 1) a) ?_ fun ρ1 h => ?_
              · have e0 : eqD (.int (w : Int)) (.int 0) = .ok (.bool (decide ((w : Int) = 0))) := eqI _ _
                simp [e0]
                split
                · rename_i hw0
                  exact ⟨F, i, w, hi', x13, x14, x15, x16, x17, by simp [hw0], hF, hF0, by omega, hw⟩
                · rename_i hw0
                  exact ⟨F, i, w, hi', x13, x14, x15, x16, x17, by simp [hw0], hF, hF0, by omega, hw⟩
              · obtain ⟨F, i, w, hi', x13, x14, x15, x16, x17, rfl, hF, hF0, hFl, hw⟩ := h
                have hb := hF.box F[i] (List.getElem_mem hi')
                generalize hsz : (if w = 0 then F[i].c - F[i].a else F[i].d - F[i].b) = sz
                by_cases h1 : 1 < sz
                · refine wp_cut0 (R := PgI ns at_ most (0 + a + 1 + 1)) ?_ fun ρ1 h => h
                  refine wp_if true (by simp [h1]) ?_
                  rw [if_pos rfl]
                  refine wp_cons (R := fun ρ => ∃ ln : Int, 1 ≤ ln ∧ ln < sz ∧ ρ = [some (intsD ns), some (.int at_), some (.int most), some (.list (F.map pD)), some (.list []), some (.int a), some (.int i), some (.int w), some (.int F[i].a), some (.int F[i].b), some (.int F[i].c), some (.int F[i].d), some (.int sz), some (.int ln), x14, x15, x16, x17]) ?_ fun ρ1 h => ?_
                  · obtain ⟨q, hq, hq2⟩ := drawnI ns hlen (at_ + 3 + 4 * a) (sz - 1) (by omega) (by omega)
                    simp [e13, hq]
                    omega
                  · obtain ⟨ln, hln, hln2, rfl⟩ := h
                    refine wp_cons (R := fun ρ => ∃ X : Pan, X = (if w = 0 then ⟨F[i].a, F[i].b, F[i].a + ln, F[i].d⟩ else ⟨F[i].a, F[i].b, F[i].c, F[i].b + ln⟩) ∧ ρ = [some (intsD ns), some (.int at_), some (.int most), some (.list (F.map pD)), some (.list []), some (.int a), some (.int i), some (.int w), some (.int F[i].a), some (.int F[i].b), some (.int F[i].c), some (.int F[i].d), some (.int sz), some (.int ln), some (pD X), x15, x16, x17]) ?_ fun ρ1 h => ?_
                    · by_cases hw0 : w = 0 <;> simp [eqI, hw0, pD]
                    · obtain ⟨X, hX, rfl⟩ := h
                      refine wp_cons (R := fun ρ => ∃ Y : Pan, Y = (if w = 0 then ⟨F[i].a + ln, F[i].b, F[i].c, F[i].d⟩ else ⟨F[i].a, F[i].b + ln, F[i].c, F[i].d⟩) ∧ ρ = [some (intsD ns), some (.int at_), some (.int most), some (.list (F.map pD)), some (.list []), some (.int a), some (.int i), some (.int w), some (.int F[i].a), some (.int F[i].b), some (.int F[i].c), some (.int F[i].d), some (.int sz), some (.int ln), some (pD X), some (pD Y), x16, x17]) ?_ fun ρ1 h => ?_
                      · by_cases hw0 : w = 0 <;> simp [eqI, hw0, pD]
                      · obtain ⟨Y, hY, rfl⟩ := h
                        have hXp : (F[i]).a ≤ X.a ∧ X.a < X.c ∧ X.c ≤ (F[i]).c ∧ (F[i]).b ≤ X.b ∧ X.b < X.d ∧ X.d ≤ (F[i]).d := by
                          by_cases hw0 : w = 0 <;> simp [hw0] at hX hsz <;> subst hX <;> simp <;> omega
                        have hYp : (F[i]).a ≤ Y.a ∧ Y.a < Y.c ∧ Y.c ≤ (F[i]).c ∧ (F[i]).b ≤ Y.b ∧ Y.b < Y.d ∧ Y.d ≤ (F[i]).d := by
                          by_cases hw0 : w = 0 <;> simp [hw0] at hY hsz <;> subst hY <;> simp <;> omega
                        have hXY : lap X Y = false := by
                          rw [lap_false]
                          by_cases hw0 : w = 0 <;> simp [hw0] at hX hY <;> subst hX hY <;> simp
                        obtain ⟨q, hq, hq2⟩ := drawnI ns hlen (at_ + 4 + 4 * a) 2 (by omega) (by omega)
                        refine wp_cons (R := fun ρ => ρ = [some (intsD ns), some (.int at_), some (.int most), some (.list (F.map pD)), some (.list []), some (.int a), some (.int i), some (.int w), some (.int F[i].a), some (.int F[i].b), some (.int F[i].c), some (.int F[i].d), some (.int sz), some (.int ln), some (pD X), some (pD Y), some (.int q), x17]) ?_ fun ρ1 h => ?_
                        · simp [e13, hq]
                        · subst h
                          have hlt : (F.take i ++ [X] ++ F.drop (i + 1) ++ [Y]).length = F.length + 1 := by
                            simp; omega
                          have cu1 := hF.cut hi' hXp hYp hXY
                          have cu2 := hF.cut hi' hYp hXp (by rw [lap_symm]; exact hXY)
                          have hq3 : q = 0 ∨ q = 1 := by omega
                          have hl4 : (List.take i F).length + 1 + (List.drop (i + 1) F).length + 1 ≤ 9 := by simp; omega
                          simp at hl4
                          rcases hq3 with rfl | rfl
                          · simp [-List.map_take, -List.map_drop, (cutAt F i).1, (cutAt F i).2]
                            rw [show List.map pD (List.take i F) ++ pD X :: (List.map pD (List.drop (i + 1) F) ++ [pD Y]) = List.map pD (F.take i ++ [X] ++ F.drop (i + 1) ++ [Y]) by simp]
                            have hlt' : (F.take i ++ [X] ++ F.drop (i + 1) ++ [Y]).length = F.length + 1 := by
                              simp; omega
                            exact ⟨by unfold big; omega, by unfold big; omega, by unfold big; omega, F.take i ++ [X] ++ F.drop (i + 1) ++ [Y], _, _, _, _, _, _, _, _, _, _, _, _, _, rfl, cu1, by omega, by omega⟩
                          · simp [-List.map_take, -List.map_drop, (cutAt F i).1, (cutAt F i).2]
                            rw [show List.map pD (List.take i F) ++ pD Y :: (List.map pD (List.drop (i + 1) F) ++ [pD X]) = List.map pD (F.take i ++ [Y] ++ F.drop (i + 1) ++ [X]) by simp]
                            have hlt' : (F.take i ++ [Y] ++ F.drop (i + 1) ++ [X]).length = F.length + 1 := by
                              simp; omega
                            exact ⟨by unfold big; omega, by unfold big; omega, by unfold big; omega, F.take i ++ [Y] ++ F.drop (i + 1) ++ [X], _, _, _, _, _, _, _, _, _, _, _, _, _, rfl, cu2, by omega, by omega⟩
                · simp [h1]
                  exact ⟨F, _, _, _, _, _, _, _, _, _, _, _, _, _, rfl, hF, hF0, by omega⟩
        · obtain ⟨F, x5, x6, x7, x8, x9, x10, x11, x12, x13, x14, x15, x16, x17, rfl, hF, hF0, hFl⟩ := hI
          exact ⟨F, _, _, _, _, _, _, _, _, _, _, _, _, _, rfl, hF, hF0, by simp at hFl; omega⟩
      · obtain ⟨F, x5, x6, x7, x8, x9, x10, x11, x12, x13, x14, x15, x16, x17, rfl, hF, hF0, hFl⟩ := h
        refine wp_cut (R := PgK ns at_ most) ?_ fun ρ1 h => ?_
        · simp only [x_S_den_for, forS_eq, wp_bind]
          rw [show (I.den (tbl ds31) _ _ : Rs (List D)) = .ok ((F.zipIdx 0).map fun x => PyData.tuple [.int ((x.2 : Nat) : Int), pD x.1]) by simp [enuL_map], wp_ok]
          refine wp_for (fun k ρ => ∃ (K : List Pan) (x5 x6 x7 x8 x9 x10 x11 x12 x13 x14 x15 x16 x17 : Option D), ρ = [some (intsD ns), some (.int at_), some (.int most), some (.list (F.map pD)), some (.list (K.map pD)), x5, x6, x7, x8, x9, x10, x11, x12, x13, x14, x15, x16, x17] ∧ K.Sublist (F.take k)) _ _ 0 ?_ (fun i a ρ hi hI => ?_) fun ρ hI => ?_
          · exact ⟨[], _, _, _, _, _, _, _, _, _, _, _, _, _, rfl, by simp⟩
          · obtain ⟨K, x5, x6, x7, x8, x9, x10, x11, x12, x13, x14, x15, x16, x17, rfl, hK⟩ := hI
            have hlt : i < F.length := by
              have := (List.getElem?_eq_some_iff.mp hi).1
              simpa using this
            have ha : a = (F[i], i) := by
              have := (List.getElem?_eq_some_iff.mp hi).2
              simpa using this.symm
            subst ha
            obtain ⟨q, hq, hq2⟩ := drawnI ns hlen (at_ + 40 + i) 5 (by omega) (by omega)
            have hKl := hK.length_le
            simp at hKl
            have hs : F.take (0 + i + 1) = F.take (0 + i) ++ [F[i]] := by
              rw [Nat.zero_add, List.take_succ, List.getElem?_eq_getElem hlt]; rfl
            have k1 : (K ++ [F[i]]).Sublist (F.take (i + 1)) := by
              have := hK.append (List.Sublist.refl [F[i]])
              rw [← hs] at this
              simpa using this
            have k2 : K.Sublist (F.take (i + 1)) := (List.sublist_append_left K [F[i]]).trans k1
            by_cases h0 : 0 < q
            · simp [e13, hq, h0]
              exact ⟨by unfold big; omega, K ++ [F[i]], by simp, k1⟩
            · simp [e13, hq, h0]
              exact ⟨by unfold big; omega, K, rfl, k2⟩
          · obtain ⟨K, x5, x6, x7, x8, x9, x10, x11, x12, x13, x14, x15, x16, x17, rfl, hK⟩ := hI
            exact ⟨F, K, _, _, _, _, _, _, _, _, _, _, _, _, _, rfl, hF.sub (hK.trans (List.take_sublist _ _)), Nat.le_trans (hK.trans (List.take_sublist _ _)).length_le hFl⟩
        · clear hF hF0 hFl
          obtain ⟨F, K, x5, x6, x7, x8, x9, x10, x11, x12, x13, x14, x15, x16, x17, rfl, hK, hKl⟩ := h
          refine wp_cut (R := PgK ns at_ most) ?_ fun ρ1 h => ?_
          · obtain ⟨q, hq, hq2⟩ := drawnI ns hlen (at_ + 50) 4 (by omega) (by omega)
            obtain ⟨u, hu, hu2⟩ := drawnI ns hlen (at_ + 51) 4 (by omega) (by omega)
            by_cases h0 : q = 0
            · refine wp_if true (by simp [e13, hq, eqI, h0]) ?_
              rw [if_pos rfl]
              refine wp_cons (R := fun ρ => ρ = [some (intsD ns), some (.int at_), some (.int most), some (.list (F.map pD)), some (.list (List.map pD [⟨2, 0, 8, 2⟩, ⟨6, 2, 8, 8⟩, ⟨0, 6, 6, 8⟩, ⟨0, 0, 2, 6⟩, ⟨3, 3, 5, 5⟩])), x5, x6, x7, x8, x9, x10, x11, x12, x13, x14, x15, x16, x17]) ?_ fun ρ1 h => ?_
              · simp [pD]
              · subst h
                have hc := cut_to (List.map pD [⟨2, 0, 8, 2⟩, ⟨6, 2, 8, 8⟩, ⟨0, 6, 6, 8⟩, ⟨0, 0, 2, 6⟩, ⟨3, 3, 5, 5⟩]) (2 + u)
                rw [← List.map_take] at hc
                have hc' : cutD (List.map pD [⟨2, 0, 8, 2⟩, ⟨6, 2, 8, 8⟩, ⟨0, 6, 6, 8⟩, ⟨0, 0, 2, 6⟩, ⟨3, 3, 5, 5⟩]) none (some (2 + (u : Int))) = _ := hc
                generalize hL : ([⟨2, 0, 8, 2⟩, ⟨6, 2, 8, 8⟩, ⟨0, 6, 6, 8⟩, ⟨0, 0, 2, 6⟩, ⟨3, 3, 5, 5⟩] : List Pan) = L at *
                have hs : Sheet L := hL ▸ sheetA
                have hll : L.length = 5 := by rw [← hL]; rfl
                simp [-List.map_take, e13, hu, hc']
                exact ⟨F, L.take (2 + u), _, _, _, _, _, _, _, _, _, _, _, _, _, rfl, hs.sub (List.take_sublist _ _), by rw [List.length_take]; omega⟩
            · refine wp_if false (by simp [e13, hq, eqI]; omega) ?_
              exact ⟨F, K, _, _, _, _, _, _, _, _, _, _, _, _, _, rfl, hK, hKl⟩
          · clear hK hKl
            obtain ⟨F, K, x5, x6, x7, x8, x9, x10, x11, x12, x13, x14, x15, x16, x17, rfl, hK, hKl⟩ := h
            refine wp_cut (R := PgK ns at_ most) ?_ fun ρ1 h => ?_
            · obtain ⟨q, hq, hq2⟩ := drawnI ns hlen (at_ + 52) 4 (by omega) (by omega)
              obtain ⟨u, hu, hu2⟩ := drawnI ns hlen (at_ + 53) 3 (by omega) (by omega)
              by_cases h0 : q = 0
              · refine wp_if true (by simp [e13, hq, eqI, h0]) ?_
                rw [if_pos rfl]
                have hc := cut_to (List.map pD [⟨9, 0, 11, 2⟩, ⟨6, 2, 8, 4⟩, ⟨3, 4, 5, 6⟩, ⟨0, 6, 2, 8⟩]) (2 + u)
                rw [← List.map_take] at hc
                have hc' : cutD (List.map pD [⟨9, 0, 11, 2⟩, ⟨6, 2, 8, 4⟩, ⟨3, 4, 5, 6⟩, ⟨0, 6, 2, 8⟩]) none (some (2 + (u : Int))) = _ := hc
                have hL' : List.map pD [⟨9, 0, 11, 2⟩, ⟨6, 2, 8, 4⟩, ⟨3, 4, 5, 6⟩, ⟨0, 6, 2, 8⟩] = [.tuple [.int 9, .int 0, .int 11, .int 2], .tuple [.int 6, .int 2, .int 8, .int 4], .tuple [.int 3, .int 4, .int 5, .int 6], .tuple [.int 0, .int 6, .int 2, .int 8]] := rfl
                generalize hL : ([⟨9, 0, 11, 2⟩, ⟨6, 2, 8, 4⟩, ⟨3, 4, 5, 6⟩, ⟨0, 6, 2, 8⟩] : List Pan) = L at *
                have hs : Sheet L := hL ▸ sheetB
                have hll : L.length = 4 := by rw [← hL]; rfl
                simp [-List.map_take, -List.map_cons, e13, hu, ← hL', hc']
                exact ⟨F, L.take (2 + u), _, _, _, _, _, _, _, _, _, _, _, _, _, rfl, hs.sub (List.take_sublist _ _), by rw [List.length_take]; omega⟩
              · refine wp_if false (by simp [e13, hq, eqI]; omega) ?_
                exact ⟨F, K, _, _, _, _, _, _, _, _, _, _, _, _, _, rfl, hK, hKl⟩
            · clear hK hKl
              obtain ⟨F, K, x5, x6, x7, x8, x9, x10, x11, x12, x13, x14, x15, x16, x17, rfl, hK, hKl⟩ := h
              refine wp_cut (R := PgK ns at_ most) ?_ fun ρ1 h => ?_
              · obtain ⟨q, hq, hq2⟩ := drawnI ns hlen (at_ + 54) 2 (by omega) (by omega)
                have e1 : compL (setN 17) (fun _ => Rs.ok true) (bi ixD (vaR 17) fun _ => Rs.ok (PyData.int 3)) [some (intsD ns), some (.int at_), some (.int most), some (.list (F.map pD)), some (.list (K.map pD)), x5, x6, x7, x8, x9, x10, x11, x12, x13, x14, x15, x16, none] (K.map pD) = .ok (K.map fun p => PyData.int p.d) := by
                  refine compL_all _ fun p _ => ?_
                  simp [pD]
                have hlb : 1 + K.length ≤ big := by unfold big; omega
                refine wp_if (decide (K.length < most) && (decide (maxL 0 (K.map (·.d)) < 9) && decide (q = 0))) ?_ ?_
                · by_cases h1 : K.length < most
                  · by_cases h2 : maxL 0 (K.map (·.d)) < 9
                    · simp [e13, hq, eqI, e1, hlb, max_d, h1, h2]
                    · simp [e13, hq, eqI, e1, hlb, max_d, h1, h2]
                  · simp [h1]
                · cases hb : (decide (K.length < most) && (decide (maxL 0 (K.map (·.d)) < 9) && decide (q = 0))) with
                  | false =>
                    rw [if_neg (by decide)]
                    exact ⟨F, K, _, _, _, _, _, _, _, _, _, _, _, _, _, rfl, hK, hKl⟩
                  | true =>
                    rw [if_pos rfl]
                    simp at hb
                    have hmx := (maxL_spec (K.map (·.d)) 0).2.2
                    have hk9 : ∀ p ∈ K, p.d < 9 := fun p hp => by
                      have := hmx p.d (List.mem_map_of_mem hp)
                      omega
                    have e2 : appS 4 (tupA (consArg (fun _ => Rs.ok (PyData.int 0)) (consArg (fun _ => Rs.ok (PyData.int 9)) (consArg (fun _ => Rs.ok (PyData.int 12)) (consArg (fun _ => Rs.ok (PyData.int 12)) noArg))))) [some (intsD ns), some (.int at_), some (.int most), some (.list (F.map pD)), some (.list (K.map pD)), x5, x6, x7, x8, x9, x10, x11, x12, x13, x14, x15, x16, x17] = .ok (.nx, [some (intsD ns), some (.int at_), some (.int most), some (.list (F.map pD)), some (.list ((K ++ [(⟨0, 9, 12, 12⟩ : Pan)]).map pD)), x5, x6, x7, x8, x9, x10, x11, x12, x13, x14, x15, x16, x17]) := by
                      have hkb : K.length < big := by unfold big; omega
                      simp [appS, pD, hkb]
                    simp [-List.map_append, e2]
                    exact ⟨F, K ++ [⟨0, 9, 12, 12⟩], _, _, _, _, _, _, _, _, _, _, _, _, _, rfl, hK.add hk9, by simp; omega⟩
              · obtain ⟨F, K, x5, x6, x7, x8, x9, x10, x11, x12, x13, x14, x15, x16, x17, rfl, hK, hKl⟩ := h
                simp
                exact ⟨K, rfl, hK, hKl⟩
  obtain ⟨d, e, P, rfl, h⟩ := wp_iff.mp this
  exact ⟨P, e, h⟩
def tI (l : List Int) : D := .tuple (l.map PyData.int)
def bads : List D := [.none, .list [], .list [tI [0, 0, 1, 1]], .tuple [tI [0, 0, 0, 1]], .tuple [tI [0, 0, 21, 1]], .tuple [tI [0, 0, 2, 2], tI [1, 1, 3, 3]], .tuple [tI [0, 0, 1]], .tuple [.tuple [.int 0, .int 0, .int 1, .str "1"]], .tuple [.tuple [.bool true, .int 0, .int 2, .int 2]], tI [0, 0, 1, 1],
  .tuple ((List.range 9).map fun k : Nat => tI [(k : Int), 0, (k : Int) + 1, 1])]
theorem bad_page : ∀ b ∈ bads, d4 [b] = .ok (.bool false) := by
  intro b hb
  simp only [bads, List.mem_cons, List.not_mem_nil, or_false] at hb
  rcases hb with rfl | rfl | rfl | rfl | rfl | rfl | rfl | rfl | rfl | rfl | rfl <;> kernel_rfl
theorem notnum : ∀ v ∈ ([.none, .bool true, .str "0"] : List D), ∀ a b : Int, d0 [v, .int a, .int b] = .ok (.bool false) := by
  intro v hv a b
  simp only [List.mem_cons, List.not_mem_nil, or_false] at hv
  rcases hv with rfl | rfl | rfl <;> simp [d0, defD, s0, startD, seqS, isiD]
theorem v5x {v : D} (h : d4 [v] = .ok (.bool false)) : d5 [v] = .exc 0 := by
  have := v5 h
  rw [this, if_neg (by decide)]
theorem v8x {v a b : D} (h : d4 [v] = .ok (.bool false)) : d8 [v, a, b] = .exc 0 := by
  have e5 : tbl ds8 5 = d5 := rfl
  simp [d8, defD, s8, startD, seqS, e5, v5x h]
theorem v6x {v : D} {j : Int} (h : d0 [v, .int 0, .int j] = .ok (.bool false)) : d6 [v, .int 0, .int j] = .exc 1 := by
  have := v6 h
  rw [this, if_neg (by decide)]
theorem v8y {P : List Pan} {v b : D} (hP : okPage P = true) (h : d0 [v, .int 0, .int ((P.length : Int) - 1)] = .ok (.bool false)) : d8 [.tuple (P.map pD), v, b] = .exc 1 := by
  have e5 : tbl ds8 5 = d5 := rfl
  have e6 : tbl ds8 6 = d6 := rfl
  simp [d8, defD, s8, startD, seqS, e5, e6, v5ok hP, v6x h]
theorem v8z {P : List Pan} {v : D} (hP : okPage P = true) (h0 : 0 < P.length) (h : d0 [v, .int 0, .int ((P.length : Int) - 1)] = .ok (.bool false)) : d8 [.tuple (P.map pD), .int 0, v] = .exc 1 := by
  have e5 : tbl ds8 5 = d5 := rfl
  have e6 : tbl ds8 6 = d6 := rfl
  have h6 : d6 [.int 0, .int 0, .int ((P.length : Int) - 1)] = .ok .none := by
    have := v6 (v0 0 0 ((P.length : Int) - 1))
    rw [this, if_pos]
    simp [inR]; omega
  simp [d8, defD, s8, startD, seqS, e5, e6, v5ok hP, h6, v6x h]
instance encBool : Enc Bool := ⟨.bool, 0, sh_bool, fun a b => by
  show (a == b) = _
  cases a <;> cases b <;> rfl⟩
theorem neB (a b : Bool) : neD (.bool a) (.bool b) = .ok (.bool (!decide (a = b))) := neD_e (α := Bool) (by decide) a b
theorem mem_prs {P : List Pan} {i j : Nat} (hi : i < P.length) (hj : j < P.length) : (i, j) ∈ prs P ↔ befI P i j = true := by
  unfold prs row
  simp only [List.mem_flatMap, List.mem_range, List.mem_map, List.mem_filter, Prod.mk.injEq]
  constructor
  · rintro ⟨a, _, b, ⟨_, h⟩, rfl, rfl⟩
    exact h
  · intro h
    exact ⟨i, hi, j, ⟨hj, h⟩, rfl, rfl⟩
theorem page_e (P : List Pan) : (.tuple (P.map pD) : D) = Enc.e (Tu.mk P) := rfl
end K15
namespace K15
open PySem PySem.Spec Den
theorem st_page {P : List Pan} (h : okPage P = true) : Od.St (befI P) P.length := by
  unfold okPage at h
  simp only [Bool.and_eq_true, decide_eq_true_eq] at h
  obtain ⟨⟨_, h2⟩, h3⟩ := h
  have box : ∀ (i : Nat) (hi : i < P.length), P[i].a < P[i].c ∧ P[i].b < P[i].d := fun i hi => by
    have := List.all_eq_true.mp h2 P[i] (List.getElem_mem hi)
    unfold okP at this
    simp only [Bool.and_eq_true, decide_eq_true_eq] at this
    exact ⟨this.1.2, this.2⟩
  have ap := List.pairwise_iff_getElem.mp ((apart_iff P).mp h3)
  have lp : ∀ (i j : Nat) (hi : i < P.length) (hj : j < P.length), i ≠ j → lap P[i] P[j] = false := fun i j hi hj hne => by
    rcases Nat.lt_or_gt_of_ne hne with h | h
    · exact ap i j hi hj h
    · rw [lap_symm]; exact ap j i hj hi h
  have ge : ∀ {f : Pan → Int} (i : Nat) (hi : i < P.length), ((P[i]?).map f).getD 0 = f P[i] := fun i hi => by
    rw [List.getElem?_eq_getElem hi]; rfl
  refine Od.st_boxes (A := fun i => ((P[i]?).map (·.a)).getD 0) (B := fun i => ((P[i]?).map (·.b)).getD 0) (C := fun i => ((P[i]?).map (·.c)).getD 0) (D := fun i => ((P[i]?).map (·.d)).getD 0) (fun i hi => ?_) (fun i hi => ?_) (fun i j hi hj hne => ?_) fun i j hi hj hr => ?_
  · rw [ge i hi, ge i hi]; exact (box i hi).1
  · rw [ge i hi, ge i hi]; exact (box i hi).2
  · rw [ge i hi, ge i hi, ge i hi, ge i hi, ge j hj, ge j hj, ge j hj, ge j hj]
    exact lap_false.mp (lp i j hi hj hne)
  · rw [ge i hi, ge i hi, ge i hi, ge i hi, ge j hj, ge j hj, ge j hj, ge j hj]
    rw [befI_eq hi hj] at hr
    unfold bef shH shW at hr
    simp only [Bool.or_eq_true, Bool.and_eq_true, decide_eq_true_eq] at hr
    rcases hr with h | h
    · exact .inl ⟨h.1, h.2.1, h.2.2⟩
    · exact .inr ⟨h.1, h.2.1, h.2.2⟩
def sur (P : List Pan) (a b : Nat) : Bool := decide (a ≠ b) && (Od.rows (befI P) P.length).all fun r => decide (r.idxOf a < r.idxOf b)
theorem sur_iff {P : List Pan} (ok : okPage P = true) {a b : Nat} (ha : a < P.length) (hb : b < P.length) : sur P a b = true ↔ Od.Sure (befI P) P.length a b := by
  rw [Od.sure_iff (st_page ok) ha hb]
  unfold sur
  simp only [Bool.and_eq_true, decide_eq_true_eq, List.all_eq_true]
def sureL (P : List Pan) : List (Nat × Nat) := lexL P.length (sur P)
theorem pair_d (a b : Nat) : (PyData.tuple [.int (a : Int), .int (b : Int)]) = Enc.e (a, b) := rfl
theorem prs_mem {P : List Pan} {p : Nat × Nat} : p ∈ prs P ↔ p.1 < P.length ∧ p.2 < P.length ∧ befI P p.1 p.2 = true := lexL_mem (n := P.length) (q := befI P) (p := p)
theorem prs_nd {P : List Pan} (hP : P.length ≤ 8) : (prs P).Nodup := (lexL_srt (n := P.length) (by omega) (befI P)).imp fun h e => by subst e; omega
end K15
namespace K15
open PySem PySem.Spec Den
theorem list_e (l : List (Nat × Nat)) : (Enc.e l : D) = .list (l.map Enc.e) := rfl
theorem num_ok {P : List Pan} {k : Nat} (hk : k < P.length) : d6 [.int k, .int 0, .int ((P.length : Int) - 1)] = .ok .none := by
  have := v6 (v0 (k : Int) 0 ((P.length : Int) - 1))
  rw [this, if_pos]
  simp [inR]; omega
def opn (P : List Pan) (a b : Nat) : Bool := decide (a < b) && (!sur P a b && !sur P b a)
def openL (P : List Pan) : List (Nat × Nat) := lexL P.length (opn P)
theorem mem_sureL {P : List Pan} {a b : Nat} (ha : a < P.length) (hb : b < P.length) : (a, b) ∈ sureL P ↔ sur P a b = true := by
  unfold sureL
  rw [lexL_mem]
  exact ⟨fun h => h.2.2, fun h => ⟨ha, hb, h⟩⟩
def befN (P : List Pan) (x : Nat) : Nat := ((List.range P.length).filter fun p => sur P p x).length
def behN (P : List Pan) (x : Nat) : Nat := ((List.range P.length).filter fun p => sur P x p).length
theorem sureL_2 (P : List Pan) {x : Nat} (hx : x < P.length) : ((sureL P).filter fun p => decide (p.2 = x)).length = befN P x := by
  unfold sureL lexL befN
  rw [List.filter_flatMap, List.length_flatMap]
  have e : ∀ a, ((((List.range P.length).filter (sur P a)).map fun b => (a, b)).filter fun p => decide (p.2 = x)).length = if sur P a x = true then 1 else 0 := fun a => by
    rw [List.filter_map, List.length_map, List.filter_filter]
    have : ((List.range P.length).filter fun b => decide (b = x) && sur P a b) = if sur P a x = true then [x] else [] := by
      have e2 : ((List.range P.length).filter fun b => decide (b = x)) = [x] := by
        have : (fun b : Nat => decide (b = x)) = fun b => b == x := by
          funext b
          by_cases z : b = x <;> simp [z]
        rw [this, List.filter_beq, List.Nodup.count (List.nodup_range), if_pos (List.mem_range.mpr hx)]
        rfl
      have e3 : (fun b => decide (b = x) && sur P a b) = fun b => sur P a b && decide (b = x) := by funext b; rw [Bool.and_comm]
      rw [e3, ← List.filter_filter, e2]
      by_cases h : sur P a x = true <;> simp [h]
    rw [show ((fun p : Nat × Nat => decide (p.2 = x)) ∘ fun b => (a, b)) = fun b => decide (b = x) from rfl, this]
    by_cases h : sur P a x = true <;> simp [h]
  rw [List.map_congr_left fun a _ => e a]
  generalize List.range P.length = l
  induction l with
  | nil => rfl
  | cons a l ih =>
    rw [List.map_cons, List.sum_cons, ih]
    by_cases h : sur P a x = true <;> simp [h] <;> omega
theorem sureL_1 (P : List Pan) {x : Nat} (hx : x < P.length) : ((sureL P).filter fun p => decide (p.1 = x)).length = behN P x := by
  unfold sureL lexL behN
  rw [List.filter_flatMap, List.length_flatMap]
  have e : ∀ a, ((((List.range P.length).filter (sur P a)).map fun b => (a, b)).filter fun p => decide (p.1 = x)).length = if a = x then ((List.range P.length).filter (sur P x)).length else 0 := fun a => by
    rw [List.filter_map, List.length_map]
    by_cases h : a = x
    · subst h
      have z : ((fun p : Nat × Nat => decide (p.1 = a)) ∘ fun b : Nat => (a, b)) = fun _ => true := by
        funext b
        exact decide_eq_true rfl
      rw [if_pos rfl, z, List.filter_eq_self.mpr fun _ _ => rfl]
    · rw [if_neg h, List.filter_eq_nil_iff.mpr fun b _ => by simp [h]]
      rfl
  rw [List.map_congr_left fun a _ => e a]
  have hn : (List.range P.length).Nodup := List.nodup_range
  have hm := List.mem_range.mpr hx
  generalize ((List.range P.length).filter (sur P x)).length = w
  generalize List.range P.length = l at hn hm
  induction l with
  | nil => cases hm
  | cons a l ih =>
    rw [List.nodup_cons] at hn
    rw [List.map_cons, List.sum_cons]
    by_cases h : a = x
    · subst h
      have : (l.map fun b => if b = a then w else 0).sum = 0 := by
        have z : ∀ m : List Nat, a ∉ m → (m.map fun b => if b = a then w else 0).sum = 0 := fun m => by
          induction m with
          | nil => exact fun _ => rfl
          | cons b m ihm =>
            intro hm
            rw [List.map_cons, List.sum_cons, ihm fun z => hm (List.mem_cons_of_mem _ z), if_neg fun e => hm (by rw [e]; exact List.mem_cons_self)]
        exact z l hn.1
      rw [if_pos rfl, this]; rfl
    · rw [if_neg h, ih hn.2 ((List.mem_cons.mp hm).resolve_left fun e => h e.symm)]
      omega
end K15
namespace K15
open PySem PySem.Spec Den
def ndl (P : List Pan) (p : Nat × Nat) : Bool := (List.range P.length).any fun m => sur P p.1 m && sur P m p.2
def rowsD (P : List Pan) : D := .list ((Od.rows (befI P) P.length).map nT)
end K15
namespace K15
open PySem PySem.Spec Den
theorem rel_bef {P : List Pan} {a b : Nat} (ha : a < P.length) (hb : b < P.length) : Od.rel (prs P) a b = befI P a b := by
  unfold Od.rel
  rw [Bool.eq_iff_iff, decide_eq_true_eq]
  exact mem_prs ha hb
theorem w_next (l : List Nat) (M : List (Nat × Nat)) : d25 [nT l, .list (M.map Enc.e)] = .ok (.list (zL (Od.nx (Od.rel M) l))) := by
  refine Wp.eq (wp_def rfl ?_)
  simp only [s25, x_Ss_den_cons, x_Ss_den_nil]
  refine wp_cut0 (R := fun ρ => ρ = [some (nT l), some (.list (M.map Enc.e)), some (.list (zL ((M.filter fun p => decide (p.1 ∈ l)).map (·.2)))), none, none, none]) ?_ fun ρ1 h => ?_
  · have e1 := compL_later (ρ := [some (nT l), some (.list (M.map Enc.e)), none, none, none, none]) (l := l) (M := M) (i := 3) (j := 4) (by simp) (by simp) (by decide) rfl (by decide) (by decide)
    simp [startD, wp_noexc]
    refine Wp.of e1 ?_
    simp [zL]
  subst h
  have e1 := compL_next (ρ := [some (nT l), some (.list (M.map Enc.e)), some (.list (zL ((M.filter fun p => decide (p.1 ∈ l)).map (·.2)))), none, none, none]) (l := l) (i := 5) (k := 2) rfl (by simp) (by decide)
  rw [nx_later] at e1
  have s0 : seqD (nT l) = .ok (l.map fun k : Nat => PyData.int (k : Int)) := rfl
  simp [wp_noexc, s0]
  refine Wp.of e1 ?_
  rfl
theorem w_count {M : List (Nat × Nat)} {n : Nat} (hn : n ≤ 8) : ∀ (m : Nat) (l : List Nat) (t : List (List Nat × Nat)), l.Sublist (List.range n) → l.length < m → MemoC M n t →
    Wp (recM ds26 2 6 s26 m [nT l, .list (M.map Enc.e), .dict (kvC t)]) fun d => ∃ t', d = .tuple [.int ((Od.cnt (Od.rel M) l : Nat) : Int), .dict (kvC t')] ∧ MemoC M n t'
  | 0, l, t, _, h, _ => by omega
  | m + 1, l, t, hl, hlen, hm => by
    have IH := fun (l' : List Nat) (t' : List (List Nat × Nat)) (h1 : l'.Sublist (List.range n)) (h2 : l'.length < m) (h3 : MemoC M n t') => wp_iff.mp (w_count (M := M) hn m l' t' h1 h2 h3)
    have nd : l.Nodup := hl.nodup List.nodup_range
    show Wp (defM (tbl (ds26 ++ [recM ds26 2 6 s26 m])) 2 6 s26 _) _
    generalize hG : recM ds26 2 6 s26 m = G at *
    have eG : tbl (ds26 ++ [G]) 26 = G := rfl
    have eN : tbl (ds26 ++ [G]) 25 = d25 := rfl
    generalize tbl (ds26 ++ [G]) = ft at *
    refine wp_defM rfl ?_
    simp only [s26, x_Ss_den_cons, x_Ss_den_nil]
    rw [show startD 6 [nT l, .list (M.map Enc.e), .dict (kvC t)] = [some (nT l), some (.list (M.map Enc.e)), some (.dict (kvC t)), none, none, none] from rfl]
    have e0 := nT_eq l []
    rw [show nT [] = .tuple [] from rfl] at e0
    by_cases h0 : l = []
    · rw [wp_seq]
      refine wp_if true (by simp [e0, h0, blD] at e0 ⊢; simp [e0]) ?_
      rw [if_pos rfl]
      simp [h0, Od.cnt_nil]
      exact ⟨_, rfl, hm⟩
    · refine wp_cut0 (R := fun ρ => ρ = [some (nT l), some (.list (M.map Enc.e)), some (.dict (kvC t)), none, none, none]) ?_ fun ρ1 h => ?_
      · refine wp_if false (by simp [h0] at e0; simp [e0, blD]) (by simp)
      subst h
      refine wp_cut0 (R := fun ρ => ∃ t' x3 x4, ρ = [some (nT l), some (.list (M.map Enc.e)), some (.dict (kvC t')), x3, x4, none] ∧ MemoC M n t' ∧ l ∈ t'.map (·.1)) ?_ fun ρ1 h => ?_
      · have t1 := dinE_G nk_nT kOk_nT (ev := fun k : Nat => PyData.int (k : Int)) (neg := true) (fx := vaR 0) (a := l) (ρ := [some (nT l), some (.list (M.map Enc.e)), some (.dict (kvC t)), none, none, none]) (i := 2) (t := t) rfl rfl
        by_cases hk : l ∈ t.map (·.1)
        · refine wp_if false ?_ ?_
          · rw [tstE_eq, x_E_den_din, x_E_den_var, t1]
            simp [hk, blD]
          · rw [if_neg (by decide)]
            exact ⟨t, none, none, rfl, hm, hk⟩
        · refine wp_if true ?_ ?_
          · rw [tstE_eq, x_E_den_din, x_E_den_var, t1]
            simp [hk, blD]
          rw [if_pos rfl]
          simp only [x_Ss_den_cons, x_Ss_den_nil]
          refine wp_cut0 (R := fun ρ => ρ = [some (nT l), some (.list (M.map Enc.e)), some (.dict (kvC t)), some (.int ((0 : Nat) : Int)), none, none]) ?_ fun ρ1 h => ?_
          · simp
          subst h
          refine wp_cut0 (R := fun ρ => ∃ t' x4, ρ = [some (nT l), some (.list (M.map Enc.e)), some (.dict (kvC t')), some (.int ((Od.cnt (Od.rel M) l : Nat) : Int)), x4, none] ∧ MemoC M n t') ?_ fun ρ1 h => ?_
          · simp only [x_S_den_for, forS_eq, wp_bind]
            refine Wp.of (a := (Od.nx (Od.rel M) l).map fun k : Nat => PyData.int (k : Int)) (by
              have := w_next l M
              unfold zL at this
              simp [eN, this]) ?_
            rw [Od.cnt_eq nd h0]
            refine wp_forL (g := fun k : Nat => PyData.int (k : Int)) (Od.nx (Od.rel M) l) (fun pre _ ρ => ∃ t' x4, ρ = [some (nT l), some (.list (M.map Enc.e)), some (.dict (kvC t')), some (.int (((pre.map fun x => Od.cnt (Od.rel M) (Od.wo l x)).sum : Nat) : Int)), x4, none] ∧ MemoC M n t') _ ⟨t, none, rfl, hm⟩ (fun pre x r el ρ h => ?_) fun ρ h => h
            obtain ⟨t', x4, rfl, hm'⟩ := h
            have hx := (Od.nx_mem.mp (show x ∈ Od.nx (Od.rel M) l by rw [el]; simp)).1
            have hw := Od.wo_len nd hx
            obtain ⟨d, e1, t2, rfl, hm2⟩ := IH (Od.wo l x) t' ((Od.wo_sub l x).trans hl) (by omega) hm'
            have e2 := compL_wo (ρ := [some (nT l), some (.list (M.map Enc.e)), some (.dict (kvC t')), some (.int (((pre.map fun x => Od.cnt (Od.rel M) (Od.wo l x)).sum : Nat) : Int)), some (.int (x : Int)), none]) (s := 5) (k := 4) (x := x) (l := l) rfl (by simp) (by decide)
            rw [List.map_append, List.sum_append, List.map_cons, List.map_nil, List.sum_cons, List.sum_nil]
            generalize (pre.map fun x => Od.cnt (Od.rel M) (Od.wo l x)).sum = Z at *
            have s0 : seqD (nT l) = .ok (l.map fun k : Nat => PyData.int (k : Int)) := rfl
            have e3 : G [.tuple ((Od.wo l x).map fun i : Nat => PyData.int (i : Int)), .list (M.map Enc.e), .dict (kvC t')] = _ := e1
            simp only [tg1, setN_eq, wp_ok, List.set_cons_succ, List.set_cons_zero, x_Ss_den_cons, x_Ss_den_nil, wp_seq, x_S_den_setX, setXS_eq, x_EX_den_binR, bo1, binRX_eq, x_EX_den_mc, x_E_den_var, vaR_eq, List.getElem?_cons_succ, List.getElem?_cons_zero, Rs.ok_bind, eG]
            rw [mcX_eq (kvs := kvC t') rfl]
            simp [s0, Rs.noexc]
            rw [e2]
            simp [e3]
            exact ⟨t2, rfl, hm2⟩
          obtain ⟨t', x4, rfl, hm'⟩ := h
          obtain ⟨t2, e2, h2, h3⟩ := dsetS_M hm' hn hl (ρ := [some (nT l), some (.list (M.map Enc.e)), some (.dict (kvC t')), some (.int ((Od.cnt (Od.rel M) l : Nat) : Int)), x4, none]) (i := 2) (fx := vaR 0) (gx := vaR 3) rfl rfl rfl
          simp only [wp_seq, x_S_den_dset, x_E_den_var]
          rw [e2]
          simp
          exact ⟨t2, rfl, h2, by simpa using h3⟩
      obtain ⟨t', x3, x4, rfl, h2, h3⟩ := h
      have e3 := dgetE_G nk_nT kOk_nT (ev := fun k : Nat => PyData.int (k : Int)) h2 h3 (fx := vaR 0) (ρ := [some (nT l), some (.list (M.map Enc.e)), some (.dict (kvC t')), x3, x4, none]) (i := 2) rfl rfl
      simp only [wp_seq, x_S_den_ret, retS_eq, x_E_den_dget, x_E_den_var]
      rw [e3]
      exact ⟨_, rfl, t', rfl, h2⟩
theorem w_number {M : List (Nat × Nat)} {n : Nat} (hn : n ≤ 8) : d27 [.int (n : Int), .list (M.map Enc.e)] = .ok (.int ((Od.cnt (Od.rel M) (List.range n) : Nat) : Int)) := by
  obtain ⟨d, e1, t, rfl, _⟩ := wp_iff.mp (w_count (M := M) hn 12 (List.range n) [] (List.Sublist.refl _) (by rw [List.length_range]; omega) (Memo.nil _ _))
  have e15 : tbl ds27 26 = recM ds26 2 6 s26 12 := rfl
  have e0 : kvC [] = [] := rfl
  rw [e0] at e1
  have e2 : recM ds26 2 6 s26 12 [.tuple ((List.range n).map fun i : Nat => PyData.int (i : Int)), .list (M.map Enc.e), .dict []] = _ := e1
  have e3 := rng1_ok (f := vaR 0) (ρ := [some (.int (n : Int)), some (.list (M.map Enc.e))]) (n := n) rfl (by omega)
  refine Wp.eq (wp_def rfl ?_)
  simp only [s27, x_Ss_den_cons, x_Ss_den_nil]
  rw [show startD 2 [.int (n : Int), .list (M.map Enc.e)] = [some (.int (n : Int)), some (.list (M.map Enc.e))] from rfl]
  simp only [wp_seq, x_S_den_ret, retS_eq, x_E_den_mn, mnE_eq, consArg_eq, noArg_eq, x_E_den_trng1, tupI_eq, x_E_den_var, x_Es_den_cons, x_Es_den_nil, e15]
  rw [e3]
  simp [e2]
theorem cnt_rows (P : List Pan) : Od.cnt (Od.rel (prs P)) (List.range P.length) = (Od.rows (befI P) P.length).length := by
  unfold Od.cnt
  rw [Od.rows_suf, Od.suf_congr fun a ha b hb => rel_bef (List.mem_range.mp ha) (List.mem_range.mp hb)]
def nRows (P : List Pan) : Nat := (Od.rows (befI P) P.length).length
theorem w_numberP {P : List Pan} (hP : P.length ≤ 8) : d27 [.int (P.length : Int), .list ((prs P).map Enc.e)] = .ok (.int ((nRows P : Nat) : Int)) := by
  rw [w_number hP, cnt_rows]; rfl
theorem w_is_sure {P : List Pan} (ok : okPage P = true) : d29 [.tuple (P.map pD)] = .ok (.bool (decide (nRows P = 1))) := by
  have hP := okLen ok
  have e5 : tbl ds29 5 = d5 := rfl
  have e8 : tbl ds29 9 = d9 := rfl
  have e16 : tbl ds29 27 = d27 := rfl
  have wP := v9 hP
  rw [list_e] at wP
  have e1 := eqN (nRows P) 1
  refine Wp.eq (wp_def rfl ?_)
  simp [s29, startD, e5, e8, e16, v5ok ok, wP, w_numberP hP]
  exact Wp.of e1 rfl
theorem x_is_sure {v : D} (h : d4 [v] = .ok (.bool false)) : d29 [v] = .exc 0 := by
  have e5 : tbl ds29 5 = d5 := rfl
  simp [d29, defD, s29, startD, seqS, e5, v5x h]
end K15
namespace K15
open PySem PySem.Spec Den
theorem inR_nat (x n : Nat) : inR (x : Int) 0 ((n : Int) - 1) = decide (x < n) := by
  unfold inR
  by_cases h : x < n
  · rw [decide_eq_true h, decide_eq_true (show (0 : Int) ≤ x by omega), decide_eq_true (show (x : Int) ≤ (n : Int) - 1 by omega)]; rfl
  · rw [decide_eq_false h, decide_eq_false (show ¬ (x : Int) ≤ (n : Int) - 1 by omega), Bool.and_false]
theorem w_has {n : Nat} {l : List Nat} (hn : n ≤ 8) (hl : l.length < 64) : d21 [.int (n : Int), nT l] = .ok (.bool (Od.permB n l)) := by
  have e0 : tbl ds21 0 = d0 := rfl
  have e1 : compL (setN 2) (fun _ => Rs.ok true) (appE d0 (consArg (vaR 2) (consArg (fun _ => Rs.ok (PyData.int 0)) (consArg (bi subD (vaR 0) fun _ => Rs.ok (PyData.int 1)) noArg)))) [some (.int (n : Int)), some (nT l), none] (l.map fun i : Nat => PyData.int (i : Int)) = .ok (l.map fun x => PyData.bool (decide (x < n))) := by
    refine compL_all _ fun x _ => ?_
    have h := v0 (x : Int) 0 ((n : Int) - 1)
    rw [inR_nat] at h
    simp [h]
  have e2 := allD_map (fun x : Nat => decide (x < n)) l
  have s0 : seqD (nT l) = .ok (l.map fun k : Nat => PyData.int (k : Int)) := rfl
  have i0 : isiD .tuple (nT l) = true := rfl
  refine Wp.eq (wp_def rfl ?_)
  simp only [s21, x_Ss_den_cons, x_Ss_den_nil]
  rw [show startD 3 [.int (n : Int), nT l] = [some (.int (n : Int)), some (nT l), none] from rfl, wp_seq]
  unfold Od.permB
  refine wp_if (!(l.all fun x => decide (x < n))) ?_ ?_
  · simp [i0, blD, s0, e0, e1, Rs.noexc]
  · by_cases h : (l.all fun x => decide (x < n)) = true
    · rw [h, if_neg (by decide), Bool.true_and]
      have e3 : sortedA [nT l] = .ok (.list ((srtI (l.map fun x : Nat => (x : Int))).map PyData.int)) := by
        show (match intsO (l.map fun n : Nat => PyData.int (n : Int)) with | some ns => if ns.length < 64 then _ else _ | none => _) = _
        rw [intsO_nat]
        show (if _ then _ else _) = _
        rw [if_pos (by rw [List.length_map]; exact hl)]
      have e4 := rng1_ok (f := vaR 0) (ρ := [some (.int (n : Int)), some (nT l), none]) (n := n) rfl (by omega)
      have e5 := eqD_e (α := List Int) (by decide) (srtI (l.map fun x : Nat => (x : Int))) ((List.range n).map fun x : Nat => (x : Int))
      have e6 : (Enc.e ((List.range n).map fun x : Nat => (x : Int)) : D) = .list ((List.range n).map fun i : Nat => PyData.int (i : Int)) := by
        show PyData.list (((List.range n).map fun x : Nat => (x : Int)).map PyData.int) = _
        rw [List.map_map]; rfl
      rw [e6] at e5
      have e5' : eqD (.list ((srtI (l.map fun x : Nat => (x : Int))).map PyData.int)) (.list ((List.range n).map fun i : Nat => PyData.int (i : Int))) = _ := e5
      simp only [x_Ss_den_nil, nxS_eq, wp_ok, wp_seq, x_S_den_ret, retS_eq, x_E_den_cmp, co5, bi_eq, x_E_den_prim, pr8, appE_eq, consArg_eq, x_E_den_var, x_Es_den_nil, noArg_eq, x_E_den_lrng1, lstI_eq]
      rw [e4]
      simp [e3, e5']
    · rw [Bool.not_eq_true] at h
      rw [h, if_pos (by decide)]
      simp
theorem bad_has {v : D} (n : Nat) (h : isiD .tuple v = false) : d21 [.int (n : Int), v] = .ok (.bool false) := by
  refine Wp.eq (wp_def rfl ?_)
  simp [s21, startD, h, blD]
theorem bad_has2 (n m : Nat) : d21 [.int (n : Int), .tuple (List.replicate (m + 1) (.bool true))] = .ok (.bool false) := by
  have e0 : tbl ds21 0 = d0 := rfl
  have e1 : compL (setN 2) (fun _ => Rs.ok true) (appE d0 (consArg (vaR 2) (consArg (fun _ => Rs.ok (PyData.int 0)) (consArg (bi subD (vaR 0) fun _ => Rs.ok (PyData.int 1)) noArg)))) [some (.int (n : Int)), some (.tuple (List.replicate (m + 1) (.bool true))), none] ((List.replicate (m + 1) true).map PyData.bool) = .ok ((List.replicate (m + 1) true).map fun _ => PyData.bool false) := by
    refine compL_all _ fun x hx => ?_
    have hx := List.eq_of_mem_replicate hx
    subst hx
    have h := notnum (.bool true) (by simp) 0 ((n : Int) - 1)
    simp [h]
  rw [List.map_replicate] at e1
  have e2 := allD_map (fun _ : Bool => false) (List.replicate (m + 1) true)
  have e3 : ((List.replicate (m + 1) true).all fun _ => false) = false := by
    rw [List.replicate_succ]; rfl
  rw [e3] at e2
  have i0 : isiD .tuple (.tuple (List.replicate (m + 1) (.bool true))) = true := rfl
  refine Wp.eq (wp_def rfl ?_)
  simp only [s21, x_Ss_den_cons, x_Ss_den_nil]
  rw [show startD 3 [.int (n : Int), .tuple (List.replicate (m + 1) (.bool true))] = [some (.int (n : Int)), some (.tuple (List.replicate (m + 1) (.bool true))), none] from rfl, wp_seq]
  refine wp_if true ?_ ?_
  · simp only [tstE_eq, x_E_den_or, x_Es_orD_cons, x_Es_orD_nil, orE_eq, x_E_den_not, notE_eq, x_E_den_isi, isiE_eq, x_E_den_var, vaR_eq, List.getElem?_cons_succ, List.getElem?_cons_zero, Rs.ok_bind, i0, blD, x_E_den_prim, pr2, appE_eq, consArg_eq, noArg_eq, x_Es_den_nil, x_E_den_comp, compE_eq, x_I_den_seq, seqE_eq, seqD_t, tg1, x_Es_tst_nil, x_E_den_call, x_Es_den_cons, x_E_den_cst, cd3, x_E_den_bin, bo2, e0, List.map_cons, List.map_nil, wipeR_cons, wipeR_nil, List.set_cons_succ, List.set_cons_zero, Bool.not_true, Bool.false_eq_true, if_false]
    rw [e1]
    simp [Rs.noexc, e2] at e2 ⊢
    simp [e2]
  · rw [if_pos rfl]
    simp
theorem w_keeps {l : List Nat} {M : List (Nat × Nat)} (h : ∀ p ∈ M, p.1 ∈ l ∧ p.2 ∈ l) : d22 [nT l, .list (M.map Enc.e)] = .ok (.bool (M.all fun p => decide (l.idxOf p.1 < l.idxOf p.2))) := by
  have e1 : compL (setT [2, 3]) (fun _ => Rs.ok true) (bi ltD (idxE true (vaR 0) (vaR 2)) (idxE true (vaR 0) (vaR 3))) [some (nT l), some (.list (M.map Enc.e)), none, none] (M.map Enc.e) = .ok (M.map fun p => PyData.bool (decide (l.idxOf p.1 < l.idxOf p.2))) := by
    refine compL_all (g := fun p : Nat × Nat => Enc.e p) _ fun p hp => ?_
    obtain ⟨a, b⟩ := p
    obtain ⟨h1, h2⟩ := h _ hp
    show Wp (setT [2, 3] (.tuple [.int (a : Int), .int (b : Int)]) _) _
    simp only [setT_eq, setAll_cons, setAll_nil, wp_ok, List.set_cons_succ, List.set_cons_zero]
    rw [bi_eq, idxE_T (x := a) rfl rfl h1, Rs.ok_bind, idxE_T (x := b) rfl rfl h2, Rs.ok_bind, ltD_int]
    congr 2
    rw [decide_eq_decide]
    omega
  have e2 := allD_map (fun p : Nat × Nat => decide (l.idxOf p.1 < l.idxOf p.2)) M
  refine Wp.eq (wp_def rfl ?_)
  simp only [s22, x_Ss_den_cons, x_Ss_den_nil]
  rw [show startD 4 [nT l, .list (M.map Enc.e)] = [some (nT l), some (.list (M.map Enc.e)), none, none] from rfl]
  simp only [wp_seq, x_S_den_ret, retS_eq, x_E_den_prim, pr2, appE_eq, consArg_eq, noArg_eq, x_Es_den_nil, x_E_den_comp, compE_eq, x_I_den_seq, seqE_eq, x_E_den_var, vaR_eq, List.getElem?_cons_succ, List.getElem?_cons_zero, Rs.ok_bind, seqD_l, tg2, x_Es_tst_nil, x_E_den_cmp, co1, x_E_den_idx, List.map_cons, List.map_nil, wipeR_cons, wipeR_nil, List.set_cons_succ, List.set_cons_zero]
  rw [e1]
  simp [Rs.noexc, e2]
def fitB (P : List Pan) (l : List Nat) : Bool := decide (l ∈ Od.rows (befI P) P.length)
theorem w_fits {P : List Pan} {l : List Nat} (ok : okPage P = true) (hl : l.length < 64) : d23 [.tuple (P.map pD), nT l] = .ok (.bool (fitB P l)) := by
  have hP := okLen ok
  have e8 : tbl ds23 9 = d9 := rfl
  have e9 : tbl ds23 21 = d21 := rfl
  have e10 : tbl ds23 22 = d22 := rfl
  have wP := v9 hP
  rw [list_e] at wP
  have wh := w_has (n := P.length) hP hl
  refine Wp.eq (wp_def rfl ?_)
  by_cases h : Od.permB P.length l = true
  · have hp := Od.permB_iff.mp h
    have hk := w_keeps (l := l) (M := prs P) fun p hp' => by
      obtain ⟨h1, h2, _⟩ := prs_mem.mp hp'
      exact ⟨hp.mem_iff.mpr (List.mem_range.mpr h1), hp.mem_iff.mpr (List.mem_range.mpr h2)⟩
    have e : ((prs P).all fun p => decide (l.idxOf p.1 < l.idxOf p.2)) = fitB P l := by
      unfold fitB
      rw [Bool.eq_iff_iff, List.all_eq_true, decide_eq_true_eq, Od.mem_rows_iff (st_page ok) hp]
      constructor
      · intro h a b ha hb hr
        have := h (a, b) (prs_mem.mpr ⟨ha, hb, hr⟩)
        simpa using this
      · intro h p hp'
        obtain ⟨h1, h2, h3⟩ := prs_mem.mp hp'
        exact decide_eq_true (h p.1 p.2 h1 h2 h3)
    rw [e] at hk
    rw [h] at wh
    simp [s23, startD, e8, e9, e10, wh, wP, hk, blD]
  · have e : fitB P l = false := by
      unfold fitB
      rw [decide_eq_false_iff_not]
      intro z
      exact h (Od.permB_iff.mpr (Od.rows_perm z))
    rw [Bool.not_eq_true] at h
    rw [h] at wh
    simp [s23, startD, e9, wh, blD, e]
theorem bad_fits {P : List Pan} {v : D} (h : d21 [.int (P.length : Int), v] = .ok (.bool false)) : d23 [.tuple (P.map pD), v] = .ok (.bool false) := by
  have e9 : tbl ds23 21 = d21 := rfl
  refine Wp.eq (wp_def rfl ?_)
  simp [s23, startD, e9, h, blD]
theorem w_can_read {P : List Pan} {v : D} {b : Bool} (ok : okPage P = true) (h : d23 [.tuple (P.map pD), v] = .ok (.bool b)) : d24 [.tuple (P.map pD), v] = .ok (.bool b) := by
  have e5 : tbl ds24 5 = d5 := rfl
  have e9 : tbl ds24 23 = d23 := rfl
  refine Wp.eq (wp_def rfl ?_)
  simp [s24, startD, e5, e9, v5ok ok, h]
theorem x_can_read {v w : D} (h : d4 [v] = .ok (.bool false)) : d24 [v, w] = .exc 0 := by
  have e5 : tbl ds24 5 = d5 := rfl
  simp [d24, defD, s24, startD, seqS, e5, v5x h]
theorem x_first_order {v : D} (h : d4 [v] = .ok (.bool false)) : d28 [v] = .exc 0 := by
  have e5 : tbl ds28 5 = d5 := rfl
  simp [d28, defD, s28, startD, seqS, e5, v5x h]
end K15
namespace K15
open PySem PySem.Spec Den
theorem st_rel {P : List Pan} (ok : okPage P = true) : Od.St (Od.rel (prs P)) P.length := fun S hS => by
  obtain ⟨x, hx, sx, hp⟩ := st_page ok S hS
  exact ⟨x, hx, sx, fun p hp' sp hr => hp p hp' sp (by rw [← rel_bef hp' hx]; exact hr)⟩
theorem rows_rel (P : List Pan) : Od.rows (befI P) P.length = Od.suf (Od.rel (prs P)) (List.range P.length) := by
  rw [Od.rows_suf, Od.suf_congr fun a ha b hb => (rel_bef (List.mem_range.mp ha) (List.mem_range.mp hb)).symm]
theorem cl_call {M : List (Nat × Nat)} {n : Nat} (hn : n ≤ 8) {l : List Nat} (hl : l.Sublist (List.range n)) {t : List (List Nat × Nat)} (hm : MemoC M n t) : ∃ t', recM ds26 2 6 s26 12 [nT l, .list (M.map Enc.e), .dict (kvC t)] = .ok (.tuple [.int ((Od.cnt (Od.rel M) l : Nat) : Int), .dict (kvC t')]) ∧ MemoC M n t' := by
  have := hl.length_le
  rw [List.length_range] at this
  obtain ⟨d, e1, t', rfl, h⟩ := wp_iff.mp (w_count hn 12 l t hl (by omega) hm)
  exact ⟨t', e1, h⟩
theorem cat_nT {f : List Nat} {x : Nat} (h : f.length ≤ 100) : addD (nT f) (.tuple [.int (x : Int)]) = .ok (nT (f ++ [x])) := by
  unfold nT
  rw [addD_t, if_pos (by rw [List.length_map]; exact le_big6 (by simp; omega)), List.map_append]
  rfl
theorem w_first {P : List Pan} (ok : okPage P = true) : ∃ o, (Od.rows (befI P) P.length)[0]? = some o ∧ d28 [.tuple (P.map pD)] = .ok (nT o) := by
  have hP := okLen ok
  have st := st_rel ok
  have e5 : tbl ds28 5 = d5 := rfl
  have e8 : tbl ds28 9 = d9 := rfl
  have eN : tbl ds28 25 = d25 := rfl
  have wP := v9 hP
  rw [list_e] at wP
  rw [rows_rel]
  have nd0 : (List.range P.length).Nodup := List.nodup_range
  obtain ⟨o, ho⟩ : ∃ o, (Od.suf (Od.rel (prs P)) (List.range P.length))[0]? = some o := by
    have := Od.suf_ne st _ rfl nd0 fun x hx => List.mem_range.mp hx
    cases h : Od.suf (Od.rel (prs P)) (List.range P.length) with
    | nil => exact (this h).elim
    | cons a r => exact ⟨a, rfl⟩
  refine ⟨o, ho, ?_⟩
  generalize prs P = M at *
  generalize hn : P.length = n at *
  generalize hp : PyData.tuple (P.map pD) = pg at *
  refine Wp.eq (wp_def rfl ?_)
  simp only [s28, x_Ss_den_cons, x_Ss_den_nil]
  refine wp_cut0 (R := fun ρ => ρ = [some pg, none, none, none, none, none]) ?_ fun ρ1 h => ?_
  · have := v5ok ok
    rw [hp] at this
    simp [startD, e5, this]
  subst h
  refine wp_cut0 (R := fun ρ => ρ = [some pg, some (.list (M.map Enc.e)), some (nT (List.range n)), some (nT []), none, none]) ?_ fun ρ1 h => ?_
  · have e4 := rng1_ok (f := appE lenD (consArg (vaR 0) noArg)) (ρ := [some pg, none, none, none, none, none]) (n := n) (by rw [← hp]; simp [hn]) (by omega)
    simp only [x_S_den_par, asgS_eq, x_Es_den_cons, x_Es_den_nil, consArg_eq, noArg_eq, x_E_den_call, appE_eq, x_E_den_var, vaR_eq, List.getElem?_cons_succ, List.getElem?_cons_zero, Rs.ok_bind, e8, wP, x_E_den_trng1, tupI_eq, x_E_den_prim, pr1]
    rw [e4]
    simp [nT]
  subst h
  refine wp_cut0 (R := fun ρ => ∃ x4, ρ = [some pg, some (.list (M.map Enc.e)), some (nT []), some (nT o), x4, none]) ?_ fun ρ1 h => ?_
  · simp only [x_S_den_whl]
    refine wp_while (fun m ρ => ∃ l f x4, ρ = [some pg, some (.list (M.map Enc.e)), some (nT l), some (nT f), x4, none] ∧ m = l.length ∧ l.Sublist (List.range n) ∧ f.length + l.length = n ∧ ∀ t, (Od.suf (Od.rel M) l)[0]? = some t → o = f ++ t) n _ _ (by omega) ⟨List.range n, [], none, rfl, by simp, List.Sublist.refl _, by simp, fun t ht => by rw [ho] at ht; cases ht; rfl⟩ fun m ρ h => ?_
    obtain ⟨l, f, x4, rfl, rfl, hl, hlen, hh⟩ := h
    have nd : l.Nodup := hl.nodup nd0
    have e0 := nT_ne l []
    rw [show nT [] = .tuple [] from rfl] at e0
    refine Wp.of (a := !decide (l = [])) (by simp [e0, blD]) ?_
    by_cases h0 : l = []
    · subst h0
      have := hh [] rfl
      rw [List.append_nil] at this
      subst this
      exact ⟨_, rfl⟩
    · rw [if_pos (by simp [h0])]
      have hnx := Od.nx_ne st (fun x hx => List.mem_range.mp (hl.subset hx)) h0
      have wN := w_next l M
      obtain ⟨x, r, ex⟩ : ∃ x r, Od.nx (Od.rel M) l = x :: r := by
        cases h : Od.nx (Od.rel M) l with
        | nil => exact (hnx h).elim
        | cons a b => exact ⟨a, b, rfl⟩
      rw [ex] at wN
      have hx : x ∈ l := (Od.nx_mem.mp (show x ∈ Od.nx (Od.rel M) l by rw [ex]; simp)).1
      have hw := Od.wo_len nd hx
      have e2 := compL_wo (ρ := [some pg, some (.list (M.map Enc.e)), some (nT l), some (nT (f ++ [x])), some (.int (x : Int)), none]) (s := 5) (k := 4) (x := x) (l := l) rfl (by simp) (by decide)
      have s0 : seqD (nT l) = .ok (l.map fun k : Nat => PyData.int (k : Int)) := rfl
      simp only [x_Ss_den_cons, x_Ss_den_nil]
      refine wp_cut0 (R := fun ρ => ρ = [some pg, some (.list (M.map Enc.e)), some (nT l), some (nT f), some (.int (x : Int)), none]) ?_ fun ρ1 h => ?_
      · simp [eN, wN, zL]
      subst h
      refine wp_cut0 (R := fun ρ => ρ = [some pg, some (.list (M.map Enc.e)), some (nT l), some (nT (f ++ [x])), some (.int (x : Int)), none]) ?_ fun ρ1 h => ?_
      · have := cat_nT (f := f) (x := x) (by omega)
        simp [this]
      subst h
      simp [s0, Rs.noexc]
      rw [e2]
      refine ⟨(Od.wo l x).length, by omega, Od.wo l x, f ++ [x], ⟨rfl, rfl⟩, rfl, (Od.wo_sub l x).trans hl, by simp; omega, fun t ht => ?_⟩
      have := Od.at_suf nd h0 (pre := []) (x := x) (r := r) ex ht
      have := hh (x :: t) this
      simp [this]
  obtain ⟨x4, rfl⟩ := h
  simp
end K15
namespace K15
open PySem PySem.Spec Den
def lo (w : Nat) (p : Pan) : Int := if w = 0 then p.a else p.b
def hi (w : Nat) (p : Pan) : Int := if w = 0 then p.c else p.d
def loN (P : List Pan) (w n : Nat) : Int := match P[n]? with | some p => lo w p | none => 0
def hiN (P : List Pan) (w n : Nat) : Int := match P[n]? with | some p => hi w p | none => 0
theorem ixlo {w : Nat} (hw : w < 2) (p : Pan) : ixD (pD p) (.int (w : Int)) = .ok (.int (lo w p)) := by
  have : w = 0 ∨ w = 1 := by omega
  rcases this with rfl | rfl <;> simp [pD, lo]
theorem ixhi {w : Nat} (hw : w < 2) (p : Pan) : ixD (pD p) (.int ((w : Int) + 2)) = .ok (.int (hi w p)) := by
  have : w = 0 ∨ w = 1 := by omega
  rcases this with rfl | rfl <;> simp [pD, hi]
theorem loN_eq {P : List Pan} {w n : Nat} (h : n < P.length) : loN P w n = lo w P[n] := by
  unfold loN; rw [List.getElem?_eq_getElem h]
theorem hiN_eq {P : List Pan} {w n : Nat} (h : n < P.length) : hiN P w n = hi w P[n] := by
  unfold hiN; rw [List.getElem?_eq_getElem h]
def isCut (P : List Pan) (w : Nat) (N : List Nat) (t : Int) : Bool := (N.all fun n => decide (hiN P w n ≤ t) || decide (t ≤ loN P w n)) && N.any fun n => decide (hiN P w n ≤ t)
def los (P : List Pan) (w : Nat) (N : List Nat) : List Int := srtI (dedI (N.map (loN P w)))
def cuts (P : List Pan) (w : Nat) (N : List Nat) : List Int := (los P w N).filter (isCut P w N)
theorem c6 {P : List Pan} {w : Nat} {N : List Nat} (hw : w < 2) (hN : ∀ n ∈ N, n < P.length) (hl : N.length ≤ 8) : d10 [.tuple (P.map pD), nT N, .int w] = .ok (.list ((cuts P w N).map PyData.int)) := by
  refine Wp.eq (wp_def rfl ?_)
  unfold s10
  refine wp_cons (R := fun ρ => ρ = [some (.tuple (P.map pD)), some (nT N), some (.int w), some (.list []), none, none, none]) ?_ fun ρ1 h => ?_
  · simp [startD]
  subst h
  have e1 : compL (setN 6) (fun _ => Rs.ok true) (bi ixD (bi ixD (vaR 0) (vaR 6)) (vaR 2)) [some (.tuple (P.map pD)), some (nT N), some (.int w), some (.list []), none, none, none] (N.map fun n : Nat => PyData.int (n : Int)) = .ok (N.map fun n => PyData.int (loN P w n)) := by
    refine compL_all _ fun n hn => ?_
    have h := hN n hn
    simp [at_map h, ixlo hw, loN_eq h]
  have e2 : srtD (.list (N.map fun n => PyData.int (loN P w n))) = .ok (.list ((los P w N).map PyData.int)) := by
    have h1 : intsO (N.map fun n => PyData.int (loN P w n)) = some (N.map (loN P w)) := by
      have := ints_map (N.map (loN P w))
      rw [List.map_map] at this
      exact this
    unfold srtD
    dsimp only
    rw [h1]
    dsimp only
    rw [if_pos ⟨by rw [List.length_map]; omega, Nat.lt_of_le_of_lt (dedI_len _) (by rw [List.length_map]; omega)⟩]
    rfl
  have hlos : (los P w N).length ≤ 8 := by
    unfold los
    rw [(srtI_perm _).length_eq]
    have := dedI_len (N.map (loN P w))
    rw [List.length_map] at this
    omega
  have e0 : seqD (nT N) = .ok (N.map fun n : Nat => PyData.int (n : Int)) := rfl
  refine wp_cons (R := fun ρ => ∃ x4 x5 x6 : Option D, ρ = [some (.tuple (P.map pD)), some (nT N), some (.int w), some (.list ((cuts P w N).map PyData.int)), x4, x5, x6]) ?_ fun ρ1 h => ?_
  · simp only [x_S_den_for, forS_eq, wp_bind]
    rw [show (I.den (tbl ds10) _ _ : Rs (List D)) = .ok ((los P w N).map PyData.int) by simp [e0, e1, e2], wp_ok]
    refine wp_for (fun k ρ => ∃ x4 x5 x6 : Option D, ρ = [some (.tuple (P.map pD)), some (nT N), some (.int w), some (.list ((((los P w N).take k).filter (isCut P w N)).map PyData.int)), x4, x5, x6]) _ _ 0 ⟨none, none, none, by simp⟩ (fun i t ρ hi' hI => ?_) fun ρ hI => ?_
    · obtain ⟨x4, x5, x6, rfl⟩ := hI
      have hil := (List.getElem?_eq_some_iff.mp hi').1
      have ht : (los P w N).take (0 + i + 1) = (los P w N).take (0 + i) ++ [t] := by
        rw [Nat.zero_add, List.take_succ, hi']; rfl
      rw [ht, List.filter_append]
      have hF : (((los P w N).take (0 + i)).filter (isCut P w N)).length ≤ 8 := by
        refine Nat.le_trans (List.length_filter_le _ _) ?_
        simp; omega
      generalize ((los P w N).take (0 + i)).filter (isCut P w N) = F at *
      have hFb : F.length < big := by unfold big; omega
      have k1 : ∀ x5 : Option D, compL (setN 6) (fun _ => Rs.ok true) (orE (bi (ordD fun i j => decide (i ≤ j)) (bi ixD (bi ixD (vaR 0) (vaR 6)) (bi addD (vaR 2) fun _ => Rs.ok (PyData.int 2))) (vaR 4)) (bi (ordD fun i j => decide (j ≤ i)) (bi ixD (bi ixD (vaR 0) (vaR 6)) (vaR 2)) (vaR 4))) [some (.tuple (P.map pD)), some (nT N), some (.int w), some (.list (F.map PyData.int)), some (.int t), x5, none] (N.map fun n : Nat => PyData.int (n : Int)) = .ok (N.map fun n => PyData.bool (decide (hiN P w n ≤ t) || decide (t ≤ loN P w n))) := fun x5 => by
        refine compL_all _ fun n hn => ?_
        have h := hN n hn
        by_cases a1 : hi w P[n] ≤ t <;> simp [at_map h, ixlo hw, ixhi hw, loN_eq h, hiN_eq h, a1]
      have k2 : ∀ x5 : Option D, compL (setN 6) (fun _ => Rs.ok true) (bi (ordD fun i j => decide (i ≤ j)) (bi ixD (bi ixD (vaR 0) (vaR 6)) (bi addD (vaR 2) fun _ => Rs.ok (PyData.int 2))) (vaR 4)) [some (.tuple (P.map pD)), some (nT N), some (.int w), some (.list (F.map PyData.int)), some (.int t), x5, none] (N.map fun n : Nat => PyData.int (n : Int)) = .ok (N.map fun n => PyData.bool (decide (hiN P w n ≤ t))) := fun x5 => by
        refine compL_all _ fun n hn => ?_
        have h := hN n hn
        simp [at_map h, ixhi hw, hiN_eq h]
      simp only [tg1, setN_eq, wp_ok]
      refine wp_cons (R := fun ρ => ρ = [some (.tuple (P.map pD)), some (nT N), some (.int w), some (.list (F.map PyData.int)), some (.int t), some (.bool (N.all fun n => decide (hiN P w n ≤ t) || decide (t ≤ loN P w n))), x6]) ?_ fun ρ1 h => ?_
      · simp [e0, k1, -List.all_eq_true]
      subst h
      have hc : isCut P w N t = ((N.all fun n => decide (hiN P w n ≤ t) || decide (t ≤ loN P w n)) && N.any fun n => decide (hiN P w n ≤ t)) := rfl
      have hk : List.filter (isCut P w N) [t] = if isCut P w N t = true then [t] else [] := by
        by_cases hh : isCut P w N t = true <;> simp [hh]
      rw [hk]
      generalize isCut P w N t = gb at *
      have k2' := allD_map (fun n => decide (hiN P w n ≤ t)) N
      have k3 := anyD_map (fun n => decide (hiN P w n ≤ t)) N
      generalize (N.all fun n => decide (hiN P w n ≤ t) || decide (t ≤ loN P w n)) = b1 at *
      generalize (N.any fun n => decide (hiN P w n ≤ t)) = b2 at *
      refine wp_cut0 (R := fun ρ => ∃ x4 x5 x6 : Option D, ρ = [some (.tuple (P.map pD)), some (nT N), some (.int w), some (.list ((F ++ if gb = true then [t] else []).map PyData.int)), x4, x5, x6]) ?_ fun ρ1 h => h
      refine wp_if gb ?_ ?_
      · rw [hc]
        cases b1 <;> cases b2 <;> simp [e0, k2, k3]
      · cases gb with
        | false => exact ⟨some (.int t), some (.bool b1), x6, by simp⟩
        | true =>
          simp [appS, hFb]
    · obtain ⟨x4, x5, x6, rfl⟩ := hI
      refine ⟨x4, x5, x6, ?_⟩
      rw [Nat.zero_add, List.take_length]
      rfl
  obtain ⟨x4, x5, x6, rfl⟩ := h
  simp
def upto (P : List Pan) (w : Nat) (t : Int) (N : List Nat) : List Nat := N.filter fun n => decide (hiN P w n ≤ t)
def from_ (P : List Pan) (w : Nat) (t : Int) (N : List Nat) : List Nat := N.filter fun n => decide (t ≤ loN P w n)
def stepP (P : List Pan) (w : Nat) (s : List (List Nat) × List Nat) (t : Int) : List (List Nat) × List Nat := (s.1 ++ [upto P w t s.2], from_ P w t s.2)
def runP (P : List Pan) (w : Nat) (N : List Nat) (l : List Int) : List (List Nat) × List Nat := l.foldl (stepP P w) ([], N)
def partsP (P : List Pan) (w : Nat) (N : List Nat) : List (List Nat) := (runP P w N (cuts P w N)).1 ++ [(runP P w N (cuts P w N)).2]
theorem runP_snoc (P : List Pan) (w : Nat) (N : List Nat) (l : List Int) (t : Int) : runP P w N (l ++ [t]) = stepP P w (runP P w N l) t := by
  unfold runP
  rw [List.foldl_append]
  rfl
theorem from_sub (P : List Pan) (w : Nat) (t : Int) (N : List Nat) : (from_ P w t N).Sublist N := List.filter_sublist
theorem fold_sub (P : List Pan) (w : Nat) : ∀ (l : List Int) (s : List (List Nat) × List Nat), (l.foldl (stepP P w) s).2.Sublist s.2 ∧ (l.foldl (stepP P w) s).1.length = s.1.length + l.length
  | [], s => ⟨List.Sublist.refl _, rfl⟩
  | t :: l, s => by
    obtain ⟨h1, h2⟩ := fold_sub P w l (stepP P w s t)
    rw [List.foldl_cons]
    refine ⟨h1.trans (from_sub P w t s.2), ?_⟩
    rw [h2]
    simp [stepP]
    omega
theorem runP_sub (P : List Pan) (w : Nat) (N : List Nat) (l : List Int) : (runP P w N l).2.Sublist N ∧ (runP P w N l).1.length = l.length := by
  have := fold_sub P w l ([], N)
  simpa [runP] using this
theorem cuts_len {P : List Pan} {w : Nat} {N : List Nat} (hl : N.length ≤ 8) : (cuts P w N).length ≤ 8 := by
  unfold cuts los
  refine Nat.le_trans (List.length_filter_le _ _) ?_
  rw [(srtI_perm _).length_eq]
  have := dedI_len (N.map (loN P w))
  rw [List.length_map] at this
  omega
theorem c7 {P : List Pan} {w : Nat} {N : List Nat} (hw : w < 2) (hN : ∀ n ∈ N, n < P.length) (hl : N.length ≤ 8) : d11 [.tuple (P.map pD), nT N, .int w] = .ok (.list ((partsP P w N).map nT)) := by
  have e6 : tbl ds11 10 = d10 := rfl
  refine Wp.eq (wp_def rfl ?_)
  unfold s11
  refine wp_cons (R := fun ρ => ρ = [some (.tuple (P.map pD)), some (nT N), some (.int w), some (.list []), some (nT N), none, none]) ?_ fun ρ1 h => ?_
  · simp [startD]
  subst h
  have hcl := cuts_len (P := P) (w := w) hl
  refine wp_cons (R := fun ρ => ∃ x5 x6 : Option D, ρ = [some (.tuple (P.map pD)), some (nT N), some (.int w), some (.list ((runP P w N (cuts P w N)).1.map nT)), some (nT (runP P w N (cuts P w N)).2), x5, x6]) ?_ fun ρ1 h => ?_
  · simp only [x_S_den_for, forS_eq, wp_bind]
    rw [show (I.den (tbl ds11) _ _ : Rs (List D)) = .ok ((cuts P w N).map PyData.int) by simp [e6, c6 hw hN hl], wp_ok]
    refine wp_for (fun k ρ => ∃ x5 x6 : Option D, ρ = [some (.tuple (P.map pD)), some (nT N), some (.int w), some (.list ((runP P w N ((cuts P w N).take k)).1.map nT)), some (nT (runP P w N ((cuts P w N).take k)).2), x5, x6]) _ _ 0 ⟨none, none, by simp [runP]⟩ (fun i t ρ hi' hI => ?_) fun ρ hI => ?_
    · obtain ⟨x5, x6, rfl⟩ := hI
      have hil := (List.getElem?_eq_some_iff.mp hi').1
      have ht : (cuts P w N).take (0 + i + 1) = (cuts P w N).take (0 + i) ++ [t] := by
        rw [Nat.zero_add, List.take_succ, hi']; rfl
      rw [ht, runP_snoc]
      obtain ⟨q1, q2⟩ := runP_sub P w N ((cuts P w N).take (0 + i))
      rw [List.length_take] at q2
      generalize runP P w N ((cuts P w N).take (0 + i)) = st at *
      obtain ⟨F, R⟩ := st
      dsimp only at q1 q2 ⊢
      have hR : ∀ n ∈ R, n < P.length := fun n hn => hN n (q1.subset hn)
      have hFb : F.length < big := by unfold big; omega
      have e0 : seqD (nT R) = .ok (R.map fun n : Nat => PyData.int (n : Int)) := rfl
      have k1 : ∀ (x3 : Option D), compL (setN 6) (tstE (bi (ordD fun i j => decide (i ≤ j)) (bi ixD (bi ixD (vaR 0) (vaR 6)) (bi addD (vaR 2) fun _ => Rs.ok (PyData.int 2))) (vaR 5))) (vaR 6) [some (.tuple (P.map pD)), some (nT N), some (.int w), x3, some (nT R), some (.int t), none] (R.map fun n : Nat => PyData.int (n : Int)) = .ok ((upto P w t R).map fun n : Nat => PyData.int (n : Int)) := fun x3 => by
        refine compL_map _ fun n hn => ?_
        have h := hR n hn
        simp [at_map h, ixhi hw, hiN_eq h]
      have k2 : ∀ (x3 : Option D), compL (setN 6) (tstE (bi (ordD fun i j => decide (j ≤ i)) (bi ixD (bi ixD (vaR 0) (vaR 6)) (vaR 2)) (vaR 5))) (vaR 6) [some (.tuple (P.map pD)), some (nT N), some (.int w), x3, some (nT R), some (.int t), none] (R.map fun n : Nat => PyData.int (n : Int)) = .ok ((from_ P w t R).map fun n : Nat => PyData.int (n : Int)) := fun x3 => by
        refine compL_map _ fun n hn => ?_
        have h := hR n hn
        simp [at_map h, ixlo hw, loN_eq h]
      simp only [tg1, setN_eq, wp_ok]
      refine wp_cons (R := fun ρ => ρ = [some (.tuple (P.map pD)), some (nT N), some (.int w), some (.list ((F ++ [upto P w t R]).map nT)), some (nT R), some (.int t), x6]) ?_ fun ρ1 h => ?_
      · simp [appS, hFb, e0, k1]
        rfl
      subst h
      simp [e0, k2, stepP]
      rfl
    · obtain ⟨x5, x6, rfl⟩ := hI
      refine ⟨x5, x6, ?_⟩
      rw [Nat.zero_add, List.take_length]
  obtain ⟨x5, x6, rfl⟩ := h
  have q2 := (runP_sub P w N (cuts P w N)).2
  have hb : (runP P w N (cuts P w N)).1.length + 1 ≤ big := by unfold big; omega
  simp [hb, partsP]
def splitB (P : List Pan) (w : Nat) (H : List Nat) (t : Int) : Bool := (!decide (upto P w t H = [])) && ((!decide (from_ P w t H = [])) && decide ((upto P w t H).length + (from_ P w t H).length = H.length))
def stepL (P : List Pan) (w : Nat) (s : List (List Nat) × List Nat) (t : Int) : List (List Nat) × List Nat := if splitB P w s.2 t = true then (s.1 ++ [upto P w t s.2], from_ P w t s.2) else s
def lines (k : Nat) : List Int := (List.range k).map fun i : Nat => 1 + (i : Int)
def runL (P : List Pan) (w : Nat) (N : List Nat) (k : Nat) : List (List Nat) × List Nat := (lines k).foldl (stepL P w) ([], N)
def partsL (P : List Pan) (w : Nat) (N : List Nat) : List (List Nat) := (runL P w N 19).1 ++ [(runL P w N 19).2]
theorem runL_succ (P : List Pan) (w : Nat) (N : List Nat) (k : Nat) : runL P w N (k + 1) = stepL P w (runL P w N k) (1 + (k : Int)) := by
  unfold runL lines
  rw [List.range_succ, List.map_append, List.foldl_append]
  rfl
theorem runL_sub (P : List Pan) (w : Nat) (N : List Nat) : ∀ k, (runL P w N k).2.Sublist N ∧ (runL P w N k).1.length ≤ k
  | 0 => ⟨List.Sublist.refl _, Nat.le_refl _⟩
  | k + 1 => by
    obtain ⟨h1, h2⟩ := runL_sub P w N k
    rw [runL_succ]
    unfold stepL
    split
    · exact ⟨(from_sub P w _ _).trans h1, by simp; omega⟩
    · exact ⟨h1, by omega⟩
theorem nT_nil (N : List Nat) : neD (nT N) (.tuple []) = .ok (.bool (!decide (N = []))) := by
  have := neD_e (α := Tu Nat) (by decide) ⟨N⟩ ⟨[]⟩
  have e : decide ((⟨N⟩ : Tu Nat) = ⟨[]⟩) = decide (N = []) := by
    rw [decide_eq_decide]
    constructor
    · intro h; injection h
    · intro h; rw [h]
  rw [e] at this
  exact this
theorem two_filters {α : Type} {p q : α → Bool} : ∀ {l : List α}, (∀ x ∈ l, ¬ (p x = true ∧ q x = true)) → ((l.filter p).length + (l.filter q).length = l.length ↔ ∀ x ∈ l, p x = true ∨ q x = true)
  | [], _ => by simp
  | a :: l, h => by
    have ih := two_filters (l := l) fun x hx => h x (List.mem_cons_of_mem _ hx)
    have ha := h a List.mem_cons_self
    have h1 : (l.filter p).length + (l.filter q).length ≤ l.length := by
      have key : ∀ l : List α, (∀ x ∈ l, ¬ (p x = true ∧ q x = true)) → (l.filter p).length + (l.filter q).length ≤ l.length := fun l hl => by
        induction l with
        | nil => simp
        | cons b l ih2 =>
          have := ih2 (fun x hx => hl x (List.mem_cons_of_mem _ hx))
          have hb := hl b List.mem_cons_self
          by_cases hp : p b = true <;> by_cases hq : q b = true <;> simp [hp, hq] at hb ⊢ <;> omega
      exact key l fun x hx => h x (List.mem_cons_of_mem _ hx)
    by_cases hp : p a = true <;> by_cases hq : q a = true
    · exact absurd ⟨hp, hq⟩ ha
    · simp only [List.filter_cons_of_pos hp, List.filter_cons_of_neg (p := q) (by simpa using hq), List.length_cons, List.forall_mem_cons]
      constructor
      · intro e; exact ⟨.inl hp, ih.mp (by omega)⟩
      · rintro ⟨_, e⟩; have := ih.mpr e; omega
    · simp only [List.filter_cons_of_pos hq, List.filter_cons_of_neg (p := p) (by simpa using hp), List.length_cons, List.forall_mem_cons]
      constructor
      · intro e; exact ⟨.inr hq, ih.mp (by omega)⟩
      · rintro ⟨_, e⟩; have := ih.mpr e; omega
    · simp only [List.filter_cons_of_neg (p := p) (by simpa using hp), List.filter_cons_of_neg (p := q) (by simpa using hq), List.length_cons, List.forall_mem_cons]
      constructor
      · intro e; omega
      · rintro ⟨e, _⟩; exact absurd e (by simp [hp, hq])
section
variable {P : List Pan} {w : Nat} {N : List Nat}
theorem mem_upto {t : Int} {n : Nat} {R : List Nat} : n ∈ upto P w t R ↔ n ∈ R ∧ hiN P w n ≤ t := by unfold upto; simp
theorem mem_from {t : Int} {n : Nat} {R : List Nat} : n ∈ from_ P w t R ↔ n ∈ R ∧ t ≤ loN P w n := by unfold from_; simp
theorem split_iff {R : List Nat} {u : Int} (h : ∀ n ∈ R, loN P w n < hiN P w n) : splitB P w R u = true ↔ (∃ n ∈ R, hiN P w n ≤ u) ∧ (∃ n ∈ R, u ≤ loN P w n) ∧ ∀ n ∈ R, hiN P w n ≤ u ∨ u ≤ loN P w n := by
  unfold splitB
  have h2 := two_filters (p := fun n => decide (hiN P w n ≤ u)) (q := fun n => decide (u ≤ loN P w n)) (l := R) fun n hn ⟨a, b⟩ => by
    have := h n hn
    simp at a b
    omega
  simp only [Bool.and_eq_true, Bool.not_eq_true', decide_eq_false_iff_not, decide_eq_true_iff]
  have h3 : ¬ upto P w u R = [] ↔ ∃ n ∈ R, hiN P w n ≤ u := by
    rw [List.eq_nil_iff_forall_not_mem]
    simp [mem_upto]
  have h4 : ¬ from_ P w u R = [] ↔ ∃ n ∈ R, u ≤ loN P w n := by
    rw [List.eq_nil_iff_forall_not_mem]
    simp [mem_from]
  rw [h3, h4]
  refine and_congr_right fun _ => and_congr_right fun _ => ?_
  refine h2.trans ?_
  simp
theorem mem_cuts {x : Int} : x ∈ cuts P w N ↔ (∃ n ∈ N, loN P w n = x) ∧ (∀ n ∈ N, hiN P w n ≤ x ∨ x ≤ loN P w n) ∧ ∃ n ∈ N, hiN P w n ≤ x := by
  unfold cuts los isCut
  rw [List.mem_filter, (srtI_perm _).mem_iff, dedI_mem]
  simp
def stepC (P : List Pan) (w : Nat) (N : List Nat) (s : List (List Nat) × List Nat) (t : Int) : List (List Nat) × List Nat := if t ∈ cuts P w N then stepP P w s t else s
def runC (P : List Pan) (w : Nat) (N : List Nat) (k : Nat) : List (List Nat) × List Nat := (lines k).foldl (stepC P w N) ([], N)
theorem runC_succ (k : Nat) : runC P w N (k + 1) = stepC P w N (runC P w N k) (1 + (k : Int)) := by
  unfold runC lines
  rw [List.range_succ, List.map_append, List.foldl_append]
  rfl
theorem lines_lt (k : Nat) : (lines k).Pairwise (· < ·) := by
  unfold lines
  rw [List.pairwise_map]
  exact List.pairwise_lt_range.imp fun h => by omega
theorem cuts_lines (h0 : ∀ n ∈ N, 0 ≤ loN P w n ∧ loN P w n < hiN P w n ∧ hiN P w n ≤ 20) : cuts P w N = (lines 19).filter fun t => decide (t ∈ cuts P w N) := by
  refine lt_unique (fun k => ?_) ?_ ((lines_lt 19).filter _)
  · rw [List.mem_filter, decide_eq_true_iff]
    refine ⟨fun h => ⟨?_, h⟩, fun h => h.2⟩
    obtain ⟨⟨n, hn, e⟩, _, m, hm, e2⟩ := mem_cuts.mp h
    have h1 := h0 n hn
    have h2 := h0 m hm
    unfold lines
    refine List.mem_map.mpr ⟨(k - 1).toNat, List.mem_range.mpr (by omega), by omega⟩
  · unfold cuts los
    exact (srt_lt (dedI_nd _)).filter _
theorem fold_filter {α β : Type} (f : β → α → β) (p : α → Bool) : ∀ (l : List α) (s : β), (l.filter p).foldl f s = l.foldl (fun s t => if p t = true then f s t else s) s
  | [], s => rfl
  | a :: l, s => by
    by_cases h : p a = true
    · rw [List.filter_cons_of_pos h, List.foldl_cons, List.foldl_cons, if_pos h]
      exact fold_filter f p l _
    · rw [List.filter_cons_of_neg h, List.foldl_cons, if_neg h]
      exact fold_filter f p l s
theorem runP_runC (h0 : ∀ n ∈ N, 0 ≤ loN P w n ∧ loN P w n < hiN P w n ∧ hiN P w n ≤ 20) : runP P w N (cuts P w N) = runC P w N 19 := by
  unfold runP runC
  conv => lhs; rw [cuts_lines h0]
  rw [fold_filter]
  congr 1
  funext s t
  unfold stepC
  simp
end
section
variable {P : List Pan} {w : Nat} {N : List Nat}
def LS (P : List Pan) (w : Nat) (N : List Nat) (t : Int) (sL sP : List (List Nat) × List Nat) : Prop :=
  (∀ n ∈ sP.2, n ∈ N) ∧ (∀ n ∈ N, n ∈ sP.2 ∨ hiN P w n ≤ t) ∧
  ((sL = sP ∧ (sP.2 = N ∨ ∃ n ∈ sP.2, loN P w n ≤ t)) ∨
   (sL = (sP.1 ++ [upto P w t sP.2], from_ P w (t + 1) sP.2) ∧ (∃ n ∈ sP.2, hiN P w n ≤ t) ∧ (∃ n ∈ sP.2, t + 1 ≤ loN P w n) ∧ ∀ n ∈ sP.2, hiN P w n ≤ t ∨ t + 1 ≤ loN P w n))
theorem ls_step (h0 : ∀ n ∈ N, loN P w n < hiN P w n) {t : Int} {sL sP : List (List Nat) × List Nat} (h : LS P w N t sL sP) : LS P w N (t + 1) (stepL P w sL (t + 1)) (stepC P w N sP (t + 1)) := by
  obtain ⟨F, R⟩ := sP
  obtain ⟨hs, hc, h⟩ := h
  dsimp only at hs hc h
  have hR : ∀ n ∈ R, loN P w n < hiN P w n := fun n hn => h0 n (hs n hn)
  have back : ∀ n ∈ N, t + 1 ≤ loN P w n → n ∈ R := fun n hn h1 => by
    rcases hc n hn with h2 | h2
    · exact h2
    · have := h0 n hn; omega
  rcases h with ⟨rfl, h⟩ | ⟨rfl, hA, hB, hcl⟩
  · by_cases hsp : splitB P w R (t + 1) = true
    · have eL : stepL P w (F, R) (t + 1) = (F ++ [upto P w (t + 1) R], from_ P w (t + 1) R) := by
        unfold stepL
        rw [if_pos hsp]
      obtain ⟨s1, s2, s3⟩ := (split_iff hR).mp hsp
      by_cases hlo : ∃ n ∈ N, loN P w n = t + 1
      · have hcut : (t + 1) ∈ cuts P w N := mem_cuts.mpr ⟨hlo, fun n hn => by
          rcases hc n hn with h2 | h2
          · exact s3 n h2
          · exact .inl (by omega), by
          obtain ⟨n, hn, h2⟩ := s1
          exact ⟨n, hs n hn, h2⟩⟩
        have eC : stepC P w N (F, R) (t + 1) = (F ++ [upto P w (t + 1) R], from_ P w (t + 1) R) := by
          unfold stepC
          rw [if_pos hcut]
          rfl
        rw [eL, eC]
        refine ⟨fun n hn => hs n (mem_from.mp hn).1, fun n hn => ?_, .inl ⟨rfl, .inr ?_⟩⟩
        · rcases hc n hn with h2 | h2
          · rcases s3 n h2 with h3 | h3
            · exact .inr h3
            · exact .inl (mem_from.mpr ⟨h2, h3⟩)
          · exact .inr (by omega)
        · obtain ⟨n, hn, e⟩ := hlo
          exact ⟨n, mem_from.mpr ⟨back n hn (by omega), by omega⟩, by omega⟩
      · have hcut : ¬ (t + 1) ∈ cuts P w N := fun z => hlo (mem_cuts.mp z).1
        have eC : stepC P w N (F, R) (t + 1) = (F, R) := by
          unfold stepC
          rw [if_neg hcut]
        rw [eL, eC]
        have no : ∀ n ∈ R, loN P w n ≠ t + 1 := fun n hn e => hlo ⟨n, hs n hn, e⟩
        have ef : from_ P w (t + 1) R = from_ P w (t + 1 + 1) R := by
          unfold from_
          refine List.filter_congr fun n hn => ?_
          have := no n hn
          rw [decide_eq_decide]
          omega
        refine ⟨hs, fun n hn => (hc n hn).imp id fun h2 => by omega, .inr ⟨by rw [ef], s1, ?_, fun n hn => ?_⟩⟩
        · obtain ⟨n, hn, h2⟩ := s2
          have := no n hn
          exact ⟨n, hn, by omega⟩
        · have := no n hn
          rcases s3 n hn with h3 | h3
          · exact .inl h3
          · exact .inr (by omega)
    · have eL : stepL P w (F, R) (t + 1) = (F, R) := by
        unfold stepL
        rw [if_neg hsp]
      have hcut : ¬ (t + 1) ∈ cuts P w N := fun z => by
        obtain ⟨⟨n0, hn0, e0⟩, hcl, m, hm, hm2⟩ := mem_cuts.mp z
        have hn0R := back n0 hn0 (by omega)
        have none : ¬ ∃ n ∈ R, hiN P w n ≤ t + 1 := fun s1 => hsp ((split_iff hR).mpr ⟨s1, ⟨n0, hn0R, by omega⟩, fun n hn => hcl n (hs n hn)⟩)
        rcases h with h | ⟨n, hn, h2⟩
        · exact none ⟨m, by rw [h]; exact hm, hm2⟩
        · rcases hcl n (hs n hn) with h3 | h3
          · exact none ⟨n, hn, h3⟩
          · omega
      have eC : stepC P w N (F, R) (t + 1) = (F, R) := by
        unfold stepC
        rw [if_neg hcut]
      rw [eL, eC]
      refine ⟨hs, fun n hn => (hc n hn).imp id fun h2 => by omega, .inl ⟨rfl, h.imp id ?_⟩⟩
      rintro ⟨n, hn, h2⟩
      exact ⟨n, hn, by omega⟩
  · have hns : ¬ splitB P w (from_ P w (t + 1) R) (t + 1) = true := fun z => by
      obtain ⟨⟨n, hn, h2⟩, _⟩ := (split_iff fun n hn => hR n (mem_from.mp hn).1).mp z
      have h3 := mem_from.mp hn
      have := hR n h3.1
      omega
    have eL : stepL P w (F ++ [upto P w t R], from_ P w (t + 1) R) (t + 1) = (F ++ [upto P w t R], from_ P w (t + 1) R) := by
      unfold stepL
      rw [if_neg hns]
    have eu : upto P w (t + 1) R = upto P w t R := by
      unfold upto
      refine List.filter_congr fun n hn => ?_
      have h1 := hR n hn
      rw [decide_eq_decide]
      rcases hcl n hn with h3 | h3 <;> omega
    by_cases hlo : ∃ n ∈ N, loN P w n = t + 1
    · have hcut : (t + 1) ∈ cuts P w N := mem_cuts.mpr ⟨hlo, fun n hn => by
        rcases hc n hn with h2 | h2
        · rcases hcl n h2 with h3 | h3
          · exact .inl (by omega)
          · exact .inr h3
        · exact .inl (by omega), by
        obtain ⟨n, hn, h2⟩ := hA
        exact ⟨n, hs n hn, by omega⟩⟩
      have eC : stepC P w N (F, R) (t + 1) = (F ++ [upto P w t R], from_ P w (t + 1) R) := by
        unfold stepC
        rw [if_pos hcut]
        unfold stepP
        rw [eu]
      rw [eC]
      show LS P w N (t + 1) (stepL P w (F ++ [upto P w t R], from_ P w (t + 1) R) (t + 1)) _
      rw [eL]
      refine ⟨fun n hn => hs n (mem_from.mp hn).1, fun n hn => ?_, .inl ⟨rfl, .inr ?_⟩⟩
      · rcases hc n hn with h2 | h2
        · rcases hcl n h2 with h3 | h3
          · exact .inr (by omega)
          · exact .inl (mem_from.mpr ⟨h2, h3⟩)
        · exact .inr (by omega)
      · obtain ⟨n, hn, e⟩ := hlo
        exact ⟨n, mem_from.mpr ⟨back n hn (by omega), by omega⟩, by omega⟩
    · have hcut : ¬ (t + 1) ∈ cuts P w N := fun z => hlo (mem_cuts.mp z).1
      have eC : stepC P w N (F, R) (t + 1) = (F, R) := by
        unfold stepC
        rw [if_neg hcut]
      have no : ∀ n ∈ R, loN P w n ≠ t + 1 := fun n hn e => hlo ⟨n, hs n hn, e⟩
      have ef : from_ P w (t + 1) R = from_ P w (t + 1 + 1) R := by
        unfold from_
        refine List.filter_congr fun n hn => ?_
        have := no n hn
        rw [decide_eq_decide]
        omega
      rw [eC]
      show LS P w N (t + 1) (stepL P w (F ++ [upto P w t R], from_ P w (t + 1) R) (t + 1)) _
      rw [eL]
      refine ⟨hs, fun n hn => (hc n hn).imp id fun h2 => by omega, .inr ⟨?_, ?_, ?_, fun n hn => ?_⟩⟩
      · dsimp only
        rw [eu, ef]
      · obtain ⟨n, hn, h2⟩ := hA
        exact ⟨n, hn, by omega⟩
      · obtain ⟨n, hn, h2⟩ := hB
        have := no n hn
        exact ⟨n, hn, by omega⟩
      · have := no n hn
        rcases hcl n hn with h3 | h3
        · exact .inl (by omega)
        · exact .inr (by omega)
theorem ls_all (h0 : ∀ n ∈ N, 0 ≤ loN P w n ∧ loN P w n < hiN P w n ∧ hiN P w n ≤ 20) : ∀ k : Nat, LS P w N (k : Int) (runL P w N k) (runC P w N k)
  | 0 => ⟨fun n h => h, fun n h => .inl h, .inl ⟨rfl, .inl rfl⟩⟩
  | k + 1 => by
    have ih := ls_all h0 k
    rw [runL_succ, runC_succ]
    have := ls_step (fun n hn => (h0 n hn).2.1) ih
    rw [show (1 : Int) + (k : Int) = (k : Int) + 1 by omega]
    exact this
theorem parts_eq (h0 : ∀ n ∈ N, 0 ≤ loN P w n ∧ loN P w n < hiN P w n ∧ hiN P w n ≤ 20) : partsP P w N = partsL P w N := by
  unfold partsP partsL
  rw [runP_runC h0]
  obtain ⟨h1, h2, h3⟩ := ls_all h0 19
  rcases h3 with ⟨h3, _⟩ | ⟨_, _, ⟨n, hn, h4⟩, _⟩
  · rw [h3]
  · have := h0 n (h1 n hn)
    omega
end
section
variable {P : List Pan} {w : Nat} {N : List Nat}
theorem runL_short (k : Nat) : (∀ p ∈ (runL P w N k).1, p.Sublist N ∧ p.length < N.length) ∧ (runL P w N k).2.Sublist N ∧ ((runL P w N k).1 ≠ [] → (runL P w N k).2.length < N.length) := by
  induction k with
  | zero => exact ⟨fun p hp => by simp [runL, lines] at hp, List.Sublist.refl _, fun h => absurd rfl h⟩
  | succ k ih =>
    rw [runL_succ]
    generalize (1 + (k : Int)) = t
    generalize runL P w N k = st at *
    obtain ⟨F, H⟩ := st
    obtain ⟨h1, h2, h3⟩ := ih
    dsimp only at h1 h2 h3
    unfold stepL
    split
    · rename_i hs
      dsimp only at hs ⊢
      unfold splitB at hs
      simp only [Bool.and_eq_true, Bool.not_eq_true', decide_eq_false_iff_not, decide_eq_true_iff] at hs
      obtain ⟨ha, hb, hc⟩ := hs
      have la := List.length_pos_iff.mpr ha
      have lb := List.length_pos_iff.mpr hb
      have sa : (upto P w t H).Sublist N := (show (upto P w t H).Sublist H from List.filter_sublist).trans h2
      have sb : (from_ P w t H).Sublist N := (from_sub P w t H).trans h2
      have lH := h2.length_le
      refine ⟨fun p hp => ?_, sb, fun _ => by omega⟩
      rcases List.mem_append.mp hp with hp | hp
      · exact h1 p hp
      · rw [List.mem_singleton.mp hp]
        exact ⟨sa, by omega⟩
    · exact ⟨h1, h2, h3⟩
theorem parts_short {p : List Nat} (hp : p ∈ partsL P w N) : p.Sublist N ∧ ((partsL P w N).length ≠ 1 → p.length < N.length) := by
  obtain ⟨h1, h2, h3⟩ := runL_short (P := P) (w := w) (N := N) 19
  unfold partsL at hp ⊢
  rcases List.mem_append.mp hp with hp | hp
  · exact ⟨(h1 p hp).1, fun _ => (h1 p hp).2⟩
  · rw [List.mem_singleton.mp hp]
    refine ⟨h2, fun hl => h3 fun e => ?_⟩
    rw [e] at hl
    simp at hl
theorem parts_len : (partsL P w N).length ≤ 20 := by
  unfold partsL
  have := (runL_sub P w N 19).2
  simp
  omega
end
def chosen (P : List Pan) (w : Nat) (N : List Nat) : List (List Nat) := if (partsL P w N).length = 1 then partsL P (1 - w) N else partsL P w N
def goM (f : List Nat → List Nat × Option (List Nat)) : List (List Nat) → List Nat → List Nat × Option (List Nat)
  | [], acc => (acc, none)
  | p :: r, acc => match f p with
    | (_, some s) => ([], some s)
    | (o, none) => goM f r (acc ++ o)
def readM (P : List Pan) (w : Nat) : Nat → List Nat → List Nat × Option (List Nat)
  | 0, N => ([], none)
  | m + 1, N => if N.length < 2 then (N, none) else if (chosen P w N).length = 1 then ([], some N) else goM (readM P w m) (chosen P w N) []
def optD : Option (List Nat) → D
  | none => .none
  | some l => nT l
def resD (r : List Nat × Option (List Nat)) : D := .tuple [nT r.1, optD r.2]
theorem chosen_short {P : List Pan} {w : Nat} {N p : List Nat} (hp : p ∈ chosen P w N) : p.Sublist N ∧ ((chosen P w N).length ≠ 1 → p.length < N.length) := by
  unfold chosen at hp ⊢
  split at hp
  · rename_i h; rw [if_pos h]; exact parts_short hp
  · rename_i h; rw [if_neg h]; exact parts_short hp
theorem goM_len {f : List Nat → List Nat × Option (List Nat)} {b : Nat} : ∀ (l : List (List Nat)) (acc : List Nat), (∀ p ∈ l, (f p).1.length ≤ b) → (goM f l acc).1.length ≤ acc.length + l.length * b
  | [], acc, _ => by simp [goM]
  | p :: r, acc, h => by
    have hp := h p List.mem_cons_self
    unfold goM
    cases e : f p with
    | mk o s =>
      rw [e] at hp
      cases s with
      | some s => simp
      | none =>
        have := goM_len r (acc ++ o) fun q hq => h q (List.mem_cons_of_mem _ hq)
        dsimp only at hp ⊢
        rw [List.length_append] at this
        rw [List.length_cons, Nat.succ_mul]
        omega
theorem runL_sum (P : List Pan) (w : Nat) (N : List Nat) (k : Nat) : ((runL P w N k).1.map List.length).sum + (runL P w N k).2.length = N.length := by
  induction k with
  | zero => simp [runL, lines]
  | succ k ih =>
    rw [runL_succ]
    generalize (1 + (k : Int)) = t
    generalize runL P w N k = st at *
    obtain ⟨F, H⟩ := st
    dsimp only at ih
    unfold stepL
    split
    · rename_i hs
      unfold splitB at hs
      simp only [Bool.and_eq_true, Bool.not_eq_true', decide_eq_false_iff_not, decide_eq_true_iff] at hs
      obtain ⟨_, _, hc⟩ := hs
      dsimp only at hc ⊢
      rw [List.map_append, List.sum_append]
      simp
      omega
    · exact ih
theorem chosen_sum (P : List Pan) (w : Nat) (N : List Nat) : ((chosen P w N).map List.length).sum = N.length := by
  have key : ∀ w, ((partsL P w N).map List.length).sum = N.length := fun w => by
    have := runL_sum P w N 19
    unfold partsL
    rw [List.map_append, List.sum_append]
    simpa using this
  unfold chosen
  split <;> exact key _
theorem goM_sum {f : List Nat → List Nat × Option (List Nat)} : ∀ (l : List (List Nat)) (acc : List Nat), (∀ p ∈ l, (f p).1.length ≤ p.length) → (goM f l acc).1.length ≤ acc.length + (l.map List.length).sum
  | [], acc, _ => by simp [goM]
  | p :: r, acc, h => by
    have hp := h p List.mem_cons_self
    unfold goM
    cases e : f p with
    | mk o s =>
      rw [e] at hp
      cases s with
      | some s => simp
      | none =>
        have := goM_sum r (acc ++ o) fun q hq => h q (List.mem_cons_of_mem _ hq)
        dsimp only at hp ⊢
        rw [List.length_append] at this
        rw [List.map_cons, List.sum_cons]
        omega
theorem readM_len (P : List Pan) (w : Nat) : ∀ (m : Nat) (N : List Nat), (readM P w m N).1.length ≤ N.length
  | 0, N => by simp [readM]
  | m + 1, N => by
    unfold readM
    split
    · exact Nat.le_refl _
    · split
      · simp
      · have := goM_sum (f := readM P w m) (chosen P w N) [] fun p _ => readM_len P w m p
        rw [chosen_sum] at this
        simpa using this
def Good (P : List Pan) : Prop := ∀ w n, w < 2 → n < P.length → 0 ≤ loN P w n ∧ loN P w n < hiN P w n ∧ hiN P w n ≤ 20
theorem isn (o : Option (List Nat)) : isD false (optD o) .none = .ok (.bool (decide (o = none))) := by
  cases o <;> rfl
theorem isnn (o : Option (List Nat)) : isD true (optD o) .none = .ok (.bool (!decide (o = none))) := by
  cases o <;> rfl
theorem lenT (N : List Nat) : lenD [nT N] = .ok (.int (N.length : Nat)) := by unfold nT; simp
theorem r11 {P : List Pan} {w : Nat} (hP : Good P) (hw : w < 2) : ∀ (m : Nat) (N : List Nat), N.length < m → (∀ n ∈ N, n < P.length) → N.length ≤ 8 → recD ds15 3 8 s15 m [.tuple (P.map pD), nT N, .int w] = .ok (resD (readM P w m N))
  | 0, N, h, _, _ => by omega
  | m + 1, N, hm, hN, hl => by
    have ih := r11 hP hw m
    have e7 : tbl (ds15 ++ [recD ds15 3 8 s15 m]) 11 = d11 := rfl
    have e11 : tbl (ds15 ++ [recD ds15 3 8 s15 m]) 15 = recD ds15 3 8 s15 m := rfl
    have k1 := c7 hw hN hl
    have k2' := c7 (P := P) (w := 1 - w) (N := N) (by omega) hN hl
    rw [parts_eq fun n hn => hP w n hw (hN n hn)] at k1
    rw [parts_eq fun n hn => hP (1 - w) n (by omega) (hN n hn)] at k2'
    have k2 : d11 [.tuple (P.map pD), nT N, .int (1 - (w : Int))] = .ok (.list ((partsL P (1 - w) N).map nT)) := by
      rw [show (1 : Int) - (w : Int) = ((1 - w : Nat) : Int) by omega]
      exact k2'
    clear k2'
    show defD (tbl (ds15 ++ [recD ds15 3 8 s15 m])) 3 8 s15 _ = _
    have hC : chosen P w N = if (partsL P w N).length = 1 then partsL P (1 - w) N else partsL P w N := rfl
    have hsub := fun p (hp : p ∈ chosen P w N) => chosen_short hp
    have hsum := chosen_sum P w N
    have hrd : readM P w (m + 1) N = if N.length < 2 then (N, none) else if (chosen P w N).length = 1 then ([], some N) else goM (readM P w m) (chosen P w N) [] := rfl
    rw [hrd]
    clear hrd
    generalize chosen P w N = C at *
    generalize partsL P w N = A at *
    generalize partsL P (1 - w) N = B at *
    generalize hT : tbl (ds15 ++ [recD ds15 3 8 s15 m]) = T at *
    refine Wp.eq (wp_def rfl ?_)
    by_cases h2 : N.length < 2
    · have h2' : (N.length : Int) < 2 := by omega
      rw [if_pos h2]
      simp [s15, startD, lenT, h2', resD, optD]
    · have h2' : ¬ (N.length : Int) < 2 := by omega
      rw [if_neg h2]
      unfold s15
      refine wp_cons (R := fun ρ => ρ = [some (.tuple (P.map pD)), some (nT N), some (.int w), none, none, none, none, none]) ?_ fun ρ1 h => ?_
      · simp [startD, lenT, h2']
      subst h
      refine wp_cons (R := fun ρ => ρ = [some (.tuple (P.map pD)), some (nT N), some (.int w), some (.list (A.map nT)), none, none, none, none]) ?_ fun ρ1 h => ?_
      · simp [e7, k1]
      subst h
      refine wp_cons (R := fun ρ => ρ = [some (.tuple (P.map pD)), some (nT N), some (.int w), some (.list (C.map nT)), none, none, none, none]) ?_ fun ρ1 h => ?_
      · rw [hC]
        by_cases h3 : A.length = 1
        · simp [eqI, h3, e7, k2]
        · have h3' : ¬ (A.length : Int) = 1 := by omega
          simp [eqI, h3, h3']
      subst h
      by_cases h4 : C.length = 1
      · rw [if_pos h4]
        refine wp_cons (R := fun _ => False) ?_ fun ρ1 h => h.elim
        simp [eqI, h4, resD, optD]
        rfl
      · rw [if_neg h4]
        have h4' : ¬ (C.length : Int) = 1 := by omega
        refine wp_cons (R := fun ρ => ρ = [some (.tuple (P.map pD)), some (nT N), some (.int w), some (.list (C.map nT)), none, none, none, none]) ?_ fun ρ1 h => ?_
        · simp [eqI, h4']
        subst h
        refine wp_cons (R := fun ρ => ρ = [some (.tuple (P.map pD)), some (nT N), some (.int w), some (.list (C.map nT)), some (nT []), none, none, none]) ?_ fun ρ1 h => ?_
        · simp [nT]
        subst h
        have hlen : ∀ p ∈ C, p.length < m := fun p hp => by
          have := (hsub p hp).2 h4
          omega
        have hrl := readM_len P w m
        generalize hf : readM P w m = f at *
        refine wp_cons (R := fun ρ => ∃ (acc : List Nat) (x5 x6 x7 : Option D), ρ = [some (.tuple (P.map pD)), some (nT N), some (.int w), some (.list (C.map nT)), some (nT acc), x5, x6, x7] ∧ goM f C [] = (acc, none)) ?_ fun ρ1 h => ?_
        · simp only [x_S_den_for, forS_eq, wp_bind]
          rw [show (I.den T _ _ : Rs (List D)) = .ok (C.map nT) by simp, wp_ok]
          refine wp_for (fun k ρ => ∃ (acc : List Nat) (x5 x6 x7 : Option D), ρ = [some (.tuple (P.map pD)), some (nT N), some (.int w), some (.list (C.map nT)), some (nT acc), x5, x6, x7] ∧ goM f C [] = goM f (C.drop k) acc ∧ acc.length + ((C.drop k).map List.length).sum ≤ N.length) _ _ 0 ⟨[], none, none, none, rfl, rfl, by simp [hsum]⟩ (fun i p ρ hi hI => ?_) fun ρ hI => ?_
          · obtain ⟨acc, x5, x6, x7, rfl, hg, hb⟩ := hI
            obtain ⟨hil, he⟩ := List.getElem?_eq_some_iff.mp hi
            have hd : C.drop (0 + i) = p :: C.drop (i + 1) := by rw [Nat.zero_add, List.drop_eq_getElem_cons hil, he]
            rw [hd] at hg hb
            have hp : p ∈ C := he ▸ List.getElem_mem hil
            have hr := ih p (hlen p hp) (fun n hn => hN n ((hsub p hp).1.subset hn)) (by have := (hsub p hp).1.length_le; omega)
            have hpl := hrl p
            rw [List.map_cons, List.sum_cons] at hb
            have hstep : goM f (p :: C.drop (i + 1)) acc = (match f p with
              | (_, some s) => ([], some s)
              | (o, none) => goM f (C.drop (i + 1)) (acc ++ o)) := rfl
            rw [hstep] at hg
            clear hstep
            cases e : f p with
            | mk o s =>
              rw [e] at hg hr hpl
              dsimp only at hpl hg
              cases s with
              | some s =>
                have hr' : recD ds15 3 8 s15 m [.tuple (P.map pD), nT p, .int w] = .ok (.tuple [nT o, nT s]) := hr
                have hin : isD true (nT s) .none = .ok (.bool true) := rfl
                dsimp only at hg
                simp [e11, hr', hin, hg, resD, optD]
                rfl
              | none =>
                dsimp only at hg
                have hr' : recD ds15 3 8 s15 m [.tuple (P.map pD), nT p, .int w] = .ok (.tuple [nT o, .none]) := hr
                have hin : isD true .none .none = .ok (.bool false) := rfl
                have hab : addD (nT acc) (nT o) = .ok (nT (acc ++ o)) := by
                  unfold nT
                  have : acc.length + o.length ≤ big := by unfold big; omega
                  simp [this]
                simp [e11, hr', hin, hab]
                refine ⟨acc ++ o, rfl, ?_, ?_⟩
                · rw [hg]
                · simp at hb ⊢
                  omega
          · obtain ⟨acc, x5, x6, x7, rfl, hg, hb⟩ := hI
            have : C.drop (0 + C.length) = [] := List.drop_eq_nil_of_le (by omega)
            rw [this] at hg
            exact ⟨acc, x5, x6, x7, rfl, hg⟩
        obtain ⟨acc, x5, x6, x7, rfl, hg⟩ := h
        simp [hg, resD, optD]
def ordD' (r : List Nat × Option (List Nat)) : D := match r with
  | (o, none) => nT o
  | (_, some _) => .none
theorem r11w {P : List Pan} {w : Nat} (hP : Good P) (hw : w < 2) (hl : P.length ≤ 8) : d15 [.tuple (P.map pD), nT (List.range P.length), .int w] = .ok (resD (readM P w 12 (List.range P.length))) :=
  r11 hP hw 12 (List.range P.length) (by simp; omega) (fun n hn => by simpa using hn) (by simpa using hl)
theorem c12 {P : List Pan} {w : Nat} (hP : Good P) (hw : w < 2) (hl : P.length ≤ 8) : d16 [.tuple (P.map pD), .int w] = .ok (ordD' (readM P w 12 (List.range P.length))) := by
  have e11 : tbl ds16 15 = d15 := rfl
  have h := r11w hP hw hl
  have e0 : (PyData.tuple ((List.range P.length).map fun i : Nat => PyData.int (i : Int))) = nT (List.range P.length) := rfl
  generalize readM P w 12 (List.range P.length) = r at *
  obtain ⟨o, s⟩ := r
  refine Wp.eq (wp_def rfl ?_)
  have hb : (P.length : Int) ≤ 1000000 := by omega
  have in1 : isD false .none .none = .ok (.bool true) := rfl
  have in2 : ∀ s, isD false (nT s) .none = .ok (.bool false) := fun s => rfl
  cases s with
  | none =>
    have h' : d15 [.tuple (P.map pD), nT (List.range P.length), .int w] = .ok (.tuple [nT o, .none]) := h
    simp [s16, startD, e11, rng0_map, e0, h', hb, in1, ordD']
  | some s =>
    have h' : d15 [.tuple (P.map pD), nT (List.range P.length), .int w] = .ok (.tuple [nT o, nT s]) := h
    simp [s16, startD, e11, rng0_map, e0, h', hb, in2, ordD']
theorem c13 {P : List Pan} (hP : Good P) (ok : okPage P = true) : d17 [.tuple (P.map pD)] = .ok (ordD' (readM P 1 12 (List.range P.length))) := by
  have e5 : tbl ds17 5 = d5 := rfl
  have e12 : tbl ds17 16 = d16 := rfl
  have h := c12 hP (w := 1) (by omega) (okLen ok)
  have h' : d16 [.tuple (P.map pD), .int 1] = _ := h
  refine Wp.eq (wp_def rfl ?_)
  simp [s17, startD, e5, e12, v5ok ok, h']
theorem c14 {P : List Pan} (hP : Good P) (ok : okPage P = true) : d18 [.tuple (P.map pD)] = .ok (ordD' (readM P 0 12 (List.range P.length))) := by
  have e5 : tbl ds18 5 = d5 := rfl
  have e12 : tbl ds18 16 = d16 := rfl
  have h := c12 hP (w := 0) (by omega) (okLen ok)
  have h' : d16 [.tuple (P.map pD), .int 0] = _ := h
  refine Wp.eq (wp_def rfl ?_)
  simp [s18, startD, e5, e12, v5ok ok, h']
theorem c15 {P : List Pan} (hP : Good P) (ok : okPage P = true) : d19 [.tuple (P.map pD)] = .ok (optD (readM P 1 12 (List.range P.length)).2) := by
  have e5 : tbl ds19 5 = d5 := rfl
  have e11 : tbl ds19 15 = d15 := rfl
  have hl := okLen ok
  have h := r11w hP (w := 1) (by omega) hl
  have h' : d15 [.tuple (P.map pD), nT (List.range P.length), .int 1] = _ := h
  have e0 : (PyData.tuple ((List.range P.length).map fun i : Nat => PyData.int (i : Int))) = nT (List.range P.length) := rfl
  have hb : (P.length : Int) ≤ 1000000 := by omega
  generalize readM P 1 12 (List.range P.length) = r at *
  refine Wp.eq (wp_def rfl ?_)
  simp [s19, startD, e5, e11, v5ok ok, rng0_map, e0, h', hb, resD]
theorem c16 {P : List Pan} (hP : Good P) (ok : okPage P = true) : d20 [.tuple (P.map pD)] = .ok (.bool (decide ((readM P 1 12 (List.range P.length)).2 = none))) := by
  have e5 : tbl ds20 5 = d5 := rfl
  have e12 : tbl ds20 16 = d16 := rfl
  have h := c12 hP (w := 1) (by omega) (okLen ok)
  have h' : d16 [.tuple (P.map pD), .int 1] = _ := h
  generalize readM P 1 12 (List.range P.length) = r at *
  obtain ⟨o, s⟩ := r
  refine Wp.eq (wp_def rfl ?_)
  have in1 : isD true .none .none = .ok (.bool false) := rfl
  have in2 : ∀ s, isD true (nT s) .none = .ok (.bool true) := fun s => rfl
  cases s with
  | none => simp [s20, startD, e5, e12, v5ok ok, h', ordD', in2]
  | some s => simp [s20, startD, e5, e12, v5ok ok, h', ordD', in1]
def ascB : List Nat → Bool
  | a :: b :: r => decide (a < b) && ascB (b :: r)
  | _ => true
def prsN : List Nat → List (Nat × Nat)
  | a :: b :: r => (a, b) :: prsN (b :: r)
  | _ => []
theorem zip_prs : ∀ N : List Nat, zipL (N.map fun n : Nat => PyData.int (n : Int)) ((N.map fun n : Nat => PyData.int (n : Int)).drop 1) = (prsN N).map fun p => PyData.tuple [.int (p.1 : Int), .int (p.2 : Int)]
  | [] => rfl
  | [a] => rfl
  | a :: b :: r => by
    have ih := zip_prs (b :: r)
    simp only [List.map_cons, List.drop_succ_cons, List.drop_zero] at ih ⊢
    simp only [zipL, prsN, List.map_cons]
    rw [← ih]
theorem asc_prs : ∀ N : List Nat, ascB N = (prsN N).all fun p => decide (p.1 < p.2)
  | [] => rfl
  | [a] => rfl
  | a :: b :: r => by
    unfold ascB prsN
    rw [List.all_cons, asc_prs (b :: r)]
theorem nT_eq (N : List Nat) : eqD (nT N) (.tuple []) = .ok (.bool (decide (N = []))) := by
  have := eqD_e (α := Tu Nat) (by decide) ⟨N⟩ ⟨[]⟩
  have e : decide ((⟨N⟩ : Tu Nat) = ⟨[]⟩) = decide (N = []) := by
    rw [decide_eq_decide]
    constructor
    · intro h; injection h
    · intro h; rw [h]
  rw [e] at this
  exact this
theorem c8 {P : List Pan} (ok : okPage P = true) {N : List Nat} (h0 : N ≠ []) (hN : ∀ n ∈ N, n < P.length) (ha : ascB N = true) (hl : N.length ≤ 8) : d12 [.tuple (P.map pD), nT N] = .ok .none := by
  have e5 : tbl ds12 5 = d5 := rfl
  have e0 : tbl ds12 0 = d0 := rfl
  have h1 := nT_eq N
  rw [decide_eq_false h0] at h1
  have k1 : compL (setN 2) (fun _ => Rs.ok true) (appE d0 (consArg (vaR 2) (consArg (fun _ => Rs.ok (PyData.int 0)) (consArg (bi subD (appE lenD (consArg (vaR 0) noArg)) fun _ => Rs.ok (PyData.int 1)) noArg)))) [some (.tuple (P.map pD)), some (nT N), none, none] (N.map fun n : Nat => PyData.int (n : Int)) = .ok (N.map fun n => PyData.bool true) := by
    refine compL_all _ fun n hn => ?_
    have := hN n hn
    have h2 : (n : Int) ≤ (P.length : Int) - 1 := by omega
    simp [v0, inR, h2]
  have k2 := allD_map (fun _ : Nat => true) N
  have k3 : compL (setT [2, 3]) (fun _ => Rs.ok true) (bi ltD (vaR 2) (vaR 3)) [some (.tuple (P.map pD)), some (nT N), none, none] ((prsN N).map fun p => PyData.tuple [.int (p.1 : Int), .int (p.2 : Int)]) = .ok ((prsN N).map fun p => PyData.bool (decide (p.1 < p.2))) := by
    refine compL_all _ fun p _ => ?_
    simp
  have k4 := allD_map (fun p : Nat × Nat => decide (p.1 < p.2)) (prsN N)
  rw [← asc_prs, ha] at k4
  have k5 := zip_prs N
  have s0 : seqD (nT N) = .ok (N.map fun n : Nat => PyData.int (n : Int)) := rfl
  have i0 : isiD .tuple (nT N) = true := rfl
  have sl : slD (some 1) none (nT N) = .ok (.tuple ((N.map fun n : Nat => PyData.int (n : Int)).drop 1)) := by
    have := cut_from (N.map fun n : Nat => PyData.int (n : Int)) 1
    show Rs.ok (PyData.tuple (cutD _ (some 1) none)) = _
    rw [show (1 : Int) = ((1 : Nat) : Int) from rfl, this]
  refine Wp.eq (wp_def rfl ?_)
  unfold s12
  refine wp_cons (R := fun ρ => ρ = [some (.tuple (P.map pD)), some (nT N), none, none]) ?_ fun ρ1 h => ?_
  · simp [startD, e5, v5ok ok]
  subst h
  refine wp_cons (R := fun ρ => ρ = [some (.tuple (P.map pD)), some (nT N), none, none]) ?_ fun ρ1 h => ?_
  · refine wp_if false ?_ rfl
    simp at k2
    simp [i0, h1, s0, e0, k1, k2]
  subst h
  refine wp_cons (R := fun ρ => ρ = [some (.tuple (P.map pD)), some (nT N), none, none]) ?_ fun ρ1 h => ?_
  · refine wp_if false ?_ rfl
    have zd : zipD [nT N, .tuple ((N.map fun n : Nat => PyData.int (n : Int)).drop 1)] = .ok ((prsN N).map fun p => PyData.tuple [.int (p.1 : Int), .int (p.2 : Int)]) := by
      rw [← k5]
      have : (N.map fun n : Nat => PyData.int (n : Int)).length ≤ big := by rw [List.length_map]; unfold big; omega
      show (if _ then _ else _) = _
      rw [if_pos this]
    rw [List.drop_one] at sl zd
    simp [zipE, sl, zd, k3, k4]
  subst h
  rfl
theorem c9 {P : List Pan} (hP : Good P) (ok : okPage P = true) {N : List Nat} (h0 : N ≠ []) (hN : ∀ n ∈ N, n < P.length) (ha : ascB N = true) (hl : N.length ≤ 8) : d13 [.tuple (P.map pD), nT N] = .ok (.list ((partsL P 1 N).map nT)) := by
  have e8 : tbl ds13 12 = d12 := rfl
  have e7 : tbl ds13 11 = d11 := rfl
  have k := c7 (P := P) (w := 1) (by omega) hN hl
  rw [parts_eq fun n hn => hP 1 n (by omega) (hN n hn)] at k
  have k' : d11 [.tuple (P.map pD), nT N, .int 1] = _ := k
  refine Wp.eq (wp_def rfl ?_)
  simp [s13, startD, e8, e7, c8 ok h0 hN ha hl, k']
theorem c10 {P : List Pan} (hP : Good P) (ok : okPage P = true) {N : List Nat} (h0 : N ≠ []) (hN : ∀ n ∈ N, n < P.length) (ha : ascB N = true) (hl : N.length ≤ 8) : d14 [.tuple (P.map pD), nT N] = .ok (.list ((partsL P 0 N).map nT)) := by
  have e8 : tbl ds14 12 = d12 := rfl
  have e7 : tbl ds14 11 = d11 := rfl
  have k := c7 (P := P) (w := 0) (by omega) hN hl
  rw [parts_eq fun n hn => hP 0 n (by omega) (hN n hn)] at k
  have k' : d11 [.tuple (P.map pD), nT N, .int 0] = _ := k
  refine Wp.eq (wp_def rfl ?_)
  simp [s14, startD, e8, e7, c8 ok h0 hN ha hl, k']
theorem Good.of {P : List Pan} (h : Sheet P) : Good P := by
  intro w n hw hn
  rw [loN_eq hn, hiN_eq hn]
  have := h.box P[n] (List.getElem_mem hn)
  unfold lo hi
  have : w = 0 ∨ w = 1 := by omega
  rcases this with rfl | rfl <;> simp <;> omega
theorem optD_ne (o o' : Option (List Nat)) : neD (optD o) (optD o') = .ok (.bool (!decide (o = o'))) := by
  cases o with
  | none =>
    cases o' with
    | none => rfl
    | some b =>
      have : neD .none (nT b) = .ok (.bool true) := by
        unfold neD
        have h1 : SeqAt.shaped (nT b) = true := shaped_of (Enc.sh (Tu.mk b)) (by decide)
        rw [if_pos ⟨rfl, h1⟩]; rfl
      exact this
  | some a =>
    cases o' with
    | none =>
      have : neD (nT a) .none = .ok (.bool true) := by
        unfold neD
        have h1 : SeqAt.shaped (nT a) = true := shaped_of (Enc.sh (Tu.mk a)) (by decide)
        rw [if_pos ⟨h1, rfl⟩]; rfl
      exact this
    | some b =>
      have := neD_e (α := Tu Nat) (by decide) ⟨a⟩ ⟨b⟩
      have e : decide ((⟨a⟩ : Tu Nat) = ⟨b⟩) = decide (some a = some b) := by
        rw [decide_eq_decide]
        constructor
        · intro h; injection h with h; rw [h]
        · intro h; injection h with h; rw [h]
      rw [e] at this
      exact this
def ordO (r : List Nat × Option (List Nat)) : Option (List Nat) := if r.2 = none then some r.1 else none
theorem ordD_o (r : List Nat × Option (List Nat)) : ordD' r = optD (ordO r) := by
  obtain ⟨o, s⟩ := r
  cases s <;> rfl
theorem partsE_ne (A : List (List Nat)) : neD (.list (A.map nT)) (.list (A.map nT)) = .ok (.bool false) := by
  have := neD_e (α := List (Tu Nat)) (by decide) (A.map Tu.mk) (A.map Tu.mk)
  have e : (Enc.e (A.map Tu.mk) : D) = .list (A.map nT) := by
    show PyData.list ((A.map Tu.mk).map Enc.e) = _
    rw [List.map_map]; rfl
  rw [e] at this
  simpa using this
theorem asc_filter (p : Nat → Bool) (n : Nat) : ascB ((List.range n).filter p) = true := by
  have key : ∀ N : List Nat, N.Pairwise (· < ·) → ascB N = true := by
    intro N h
    induction N with
    | nil => rfl
    | cons a r ih =>
      cases r with
      | nil => rfl
      | cons b r =>
        have h1 := List.pairwise_cons.mp h
        unfold ascB
        rw [ih h1.2]
        simp [h1.1 b List.mem_cons_self]
  exact key _ (List.pairwise_lt_range.filter p)
end K15
namespace K15
open PySem PySem.Spec Den
section
variable {P : List Pan} {w : Nat}
def go (P : List Pan) (w : Nat) : List Nat → List Int → List (List Nat)
  | R, [] => [R]
  | R, t :: ts => upto P w t R :: go P w (from_ P w t R) ts
theorem run_go : ∀ (ts : List Int) (A : List (List Nat)) (R : List Nat), (ts.foldl (stepP P w) (A, R)).1 ++ [(ts.foldl (stepP P w) (A, R)).2] = A ++ go P w R ts
  | [], A, R => rfl
  | t :: ts, A, R => by
    rw [List.foldl_cons]
    have := run_go ts (A ++ [upto P w t R]) (from_ P w t R)
    refine Eq.trans this ?_
    rw [List.append_assoc]
    rfl
theorem parts_go (N : List Nat) : partsP P w N = go P w N (cuts P w N) := by
  have := run_go (P := P) (w := w) (cuts P w N) [] N
  rw [List.nil_append] at this
  exact this
theorem go_len : ∀ (ts : List Int) (R : List Nat), (go P w R ts).length = ts.length + 1
  | [], R => rfl
  | t :: ts, R => by show (go P w (from_ P w t R) ts).length + 1 = _; rw [go_len ts]; rfl
theorem cuts_lt (N : List Nat) : (cuts P w N).Pairwise (· < ·) := by
  unfold cuts los
  exact List.Pairwise.filter _ (srt_lt (dedI_nd _))
def Ct (P : List Pan) (w : Nat) (R : List Nat) (t : Int) : Prop := (∃ n ∈ R, loN P w n = t) ∧ (∀ n ∈ R, hiN P w n ≤ t ∨ t ≤ loN P w n) ∧ ∃ n ∈ R, hiN P w n ≤ t
structure Iv (P : List Pan) (w : Nat) (R : List Nat) (ts : List Int) : Prop where
  ne : R ≠ []
  lt : ∀ n ∈ R, loN P w n < hiN P w n
  asc : ts.Pairwise (· < ·)
  ct : ∀ t, t ∈ ts ↔ Ct P w R t
theorem Iv.of {N : List Nat} (h0 : N ≠ []) (hl : ∀ n ∈ N, loN P w n < hiN P w n) : Iv P w N (cuts P w N) := ⟨h0, hl, cuts_lt N, fun t => mem_cuts⟩
theorem Iv.next {R : List Nat} {t : Int} {ts : List Int} (h : Iv P w R (t :: ts)) : Iv P w (from_ P w t R) ts := by
  obtain ⟨ne, lt, asc, ct⟩ := h
  obtain ⟨a1, a2⟩ := List.pairwise_cons.mp asc
  obtain ⟨⟨n0, hn0, e0⟩, all0, ⟨m0, hm0, em0⟩⟩ := (ct t).mp List.mem_cons_self
  have hf : n0 ∈ from_ P w t R := mem_from.mpr ⟨hn0, by omega⟩
  refine ⟨List.ne_nil_of_mem hf, fun n hn => lt n (mem_from.mp hn).1, a2, fun u => ⟨fun hu => ?_, fun hu => ?_⟩⟩
  · obtain ⟨⟨n1, hn1, e1⟩, all1, _⟩ := (ct u).mp (List.mem_cons_of_mem _ hu)
    have := a1 u hu
    refine ⟨⟨n1, mem_from.mpr ⟨hn1, by omega⟩, e1⟩, fun n hn => all1 n (mem_from.mp hn).1, n0, hf, ?_⟩
    rcases all1 n0 hn0 with z | z
    · exact z
    · omega
  · obtain ⟨⟨n1, hn1, e1⟩, all1, ⟨m1, hm1, em1⟩⟩ := hu
    have b1 := mem_from.mp hn1
    have b2 := mem_from.mp hm1
    have l1 := lt m1 b2.1
    have : Ct P w R u := ⟨⟨n1, b1.1, e1⟩, fun n hn => by
      rcases all0 n hn with z | z
      · exact .inl (by omega)
      · exact all1 n (mem_from.mpr ⟨hn, z⟩), m1, b2.1, em1⟩
    rcases List.mem_cons.mp ((ct u).mpr this) with z | z
    · omega
    · exact z
theorem go_ne : ∀ (ts : List Int) (R : List Nat), Iv P w R ts → ∀ p ∈ go P w R ts, p ≠ [] ∧ p.Sublist R
  | [], R, h, p, hp => by
    rw [List.mem_singleton.mp hp]
    exact ⟨h.ne, List.Sublist.refl _⟩
  | t :: ts, R, h, p, hp => by
    rcases List.mem_cons.mp hp with rfl | hp
    · obtain ⟨_, _, ⟨m0, hm0, em0⟩⟩ := (h.ct t).mp List.mem_cons_self
      exact ⟨List.ne_nil_of_mem (mem_upto.mpr ⟨hm0, em0⟩), List.filter_sublist⟩
    · obtain ⟨z1, z2⟩ := go_ne ts _ h.next p hp
      exact ⟨z1, z2.trans List.filter_sublist⟩
theorem two_perm {t : Int} {R : List Nat} (hl : ∀ n ∈ R, loN P w n < hiN P w n) (h : ∀ n ∈ R, hiN P w n ≤ t ∨ t ≤ loN P w n) : (upto P w t R ++ from_ P w t R).Perm R := by
  have e : from_ P w t R = R.filter fun n => !decide (hiN P w n ≤ t) := by
    unfold from_
    refine List.filter_congr fun n hn => ?_
    have h1 := hl n hn
    rcases h n hn with z | z
    · rw [decide_eq_true z, decide_eq_false (by omega)]; rfl
    · rw [decide_eq_true z, decide_eq_false (by omega)]; rfl
  rw [e]
  exact List.filter_append_perm _ _
theorem go_perm : ∀ (ts : List Int) (R : List Nat), Iv P w R ts → (go P w R ts).flatten.Perm R
  | [], R, h => by simp [go]
  | t :: ts, R, h => by
    show (upto P w t R ++ (go P w (from_ P w t R) ts).flatten).Perm R
    exact ((go_perm ts _ h.next).append_left _).trans (two_perm h.lt ((h.ct t).mp List.mem_cons_self).2.1)
theorem go_apart : ∀ (ts : List Int) (R : List Nat), Iv P w R ts → (go P w R ts).Pairwise fun p q => ∀ b ∈ p, ∀ a ∈ q, hiN P w b ≤ loN P w a
  | [], R, h => List.pairwise_singleton _ _
  | t :: ts, R, h => by
    refine List.pairwise_cons.mpr ⟨fun q hq b hb a ha => ?_, go_apart ts _ h.next⟩
    have h1 := (go_ne ts _ h.next q hq).2.subset ha
    have h2 := (mem_from.mp h1).2
    have h3 := (mem_upto.mp hb).2
    omega
theorem go_noct : ∀ (ts : List Int) (R : List Nat), Iv P w R ts → ∀ p ∈ go P w R ts, ∀ u, ¬ Ct P w p u
  | [], R, h, p, hp, u, hu => by
    rw [List.mem_singleton.mp hp] at hu
    have := (h.ct u).mpr hu
    cases this
  | t :: ts, R, h, p, hp, u, hu => by
    rcases List.mem_cons.mp hp with rfl | hp
    · obtain ⟨⟨n1, hn1, e1⟩, all1, ⟨m1, hm1, em1⟩⟩ := hu
      have b1 := mem_upto.mp hn1
      have b2 := mem_upto.mp hm1
      have l1 := h.lt n1 b1.1
      have ct0 := (h.ct t).mp List.mem_cons_self
      have : Ct P w R u := ⟨⟨n1, b1.1, e1⟩, fun n hn => by
        rcases ct0.2.1 n hn with z | z
        · exact all1 n (mem_upto.mpr ⟨hn, z⟩)
        · exact .inr (by omega), m1, b2.1, em1⟩
      rcases List.mem_cons.mp ((h.ct u).mpr this) with z | z
      · omega
      · have := (List.pairwise_cons.mp h.asc).1 u z
        omega
    · exact go_noct ts _ h.next p hp u hu
theorem cuts_nil {R : List Nat} (h : ∀ u, ¬ Ct P w R u) : cuts P w R = [] := List.eq_nil_iff_forall_not_mem.mpr fun u hu => h u (mem_cuts.mp hu)
theorem parts_nil {R : List Nat} (h : cuts P w R = []) : partsP P w R = [R] := by rw [parts_go, h]; rfl
theorem len_one {R : List Nat} : (partsP P w R).length = 1 ↔ cuts P w R = [] := by
  rw [parts_go, go_len]
  constructor
  · intro h; exact List.length_eq_zero_iff.mp (by omega)
  · intro h; rw [h]; rfl
def Ln (P : List Pan) (w : Nat) (R : List Nat) (t : Int) : Prop := (∀ n ∈ R, hiN P w n ≤ t ∨ t ≤ loN P w n) ∧ (∃ n ∈ R, hiN P w n ≤ t) ∧ ∃ n ∈ R, t ≤ loN P w n
theorem min_mem : ∀ (l : List Nat) (f : Nat → Int), l ≠ [] → ∃ n ∈ l, ∀ m ∈ l, f n ≤ f m
  | [], f, h => (h rfl).elim
  | [a], f, _ => ⟨a, List.mem_cons_self, fun m hm => by rw [List.mem_singleton.mp hm]; exact Int.le_refl _⟩
  | a :: b :: r, f, _ => by
    obtain ⟨n, hn, h⟩ := min_mem (b :: r) f (by simp)
    by_cases c : f a ≤ f n
    · refine ⟨a, List.mem_cons_self, fun m hm => ?_⟩
      rcases List.mem_cons.mp hm with rfl | hm
      · exact Int.le_refl _
      · have := h m hm; omega
    · refine ⟨n, List.mem_cons_of_mem _ hn, fun m hm => ?_⟩
      rcases List.mem_cons.mp hm with rfl | hm
      · omega
      · exact h m hm
theorem line_ct {R : List Nat} {t : Int} (h : Ln P w R t) : ∃ u, Ct P w R u := by
  obtain ⟨h1, ⟨a, ha, ea⟩, ⟨b, hb, eb⟩⟩ := h
  obtain ⟨n, hn, hm⟩ := min_mem (from_ P w t R) (loN P w) (List.ne_nil_of_mem (mem_from.mpr ⟨hb, eb⟩))
  have b1 := mem_from.mp hn
  refine ⟨loN P w n, ⟨n, b1.1, rfl⟩, fun m hm' => ?_, a, ha, by omega⟩
  rcases h1 m hm' with z | z
  · exact .inl (by omega)
  · exact .inr (hm m (mem_from.mpr ⟨hm', z⟩))
theorem len_ne {R : List Nat} {t : Int} (h : Ln P w R t) : (partsP P w R).length ≠ 1 := fun e => by
  obtain ⟨u, hu⟩ := line_ct h
  have := mem_cuts.mpr hu
  rw [len_one.mp e] at this
  cases this
inductive Sp (P : List Pan) : List Nat → Prop
  | one (N : List Nat) (h : N.length < 2) : Sp P N
  | cut (N : List Nat) (w : Nat) (t : Int) (hw : w < 2) (h : ∀ n ∈ N, hiN P w n ≤ t ∨ t ≤ loN P w n) (a : Sp P (upto P w t N)) (b : Sp P (from_ P w t N)) : Sp P N
theorem Sp.sub {N : List Nat} (h : Sp P N) : ∀ {Q : List Nat}, Q.Sublist N → Sp P Q := by
  induction h with
  | one N h => exact fun s => .one _ (by have := s.length_le; omega)
  | cut N w t hw h _ _ iha ihb => exact fun s => .cut _ w t hw (fun n hn => h n (s.subset hn)) (iha (s.filter _)) (ihb (s.filter _))
theorem sp_go (hw : w < 2) : ∀ (ts : List Int) (R : List Nat), Iv P w R ts → (∀ p ∈ go P w R ts, Sp P p) → Sp P R
  | [], R, h, hs => hs R List.mem_cons_self
  | t :: ts, R, h, hs => .cut R w t hw ((h.ct t).mp List.mem_cons_self).2.1 (hs _ List.mem_cons_self) (sp_go hw ts _ h.next fun p hp => hs p (List.mem_cons_of_mem _ hp))
theorem Sp.line {N : List Nat} (h : Sp P N) : 2 ≤ N.length → ∃ w t, w < 2 ∧ Ln P w N t := by
  induction h with
  | one N h => intro h2; omega
  | cut N w t hw h a b iha ihb =>
    intro h2
    by_cases e1 : upto P w t N = []
    · have e : from_ P w t N = N := List.filter_eq_self.mpr fun n hn => by
        rcases h n hn with z | z
        · have : n ∈ upto P w t N := mem_upto.mpr ⟨hn, z⟩
          rw [e1] at this; cases this
        · exact decide_eq_true z
      rw [e] at ihb
      exact ihb h2
    by_cases e2 : from_ P w t N = []
    · have e : upto P w t N = N := List.filter_eq_self.mpr fun n hn => by
        rcases h n hn with z | z
        · exact decide_eq_true z
        · have : n ∈ from_ P w t N := mem_from.mpr ⟨hn, z⟩
          rw [e2] at this; cases this
      rw [e] at iha
      exact iha h2
    obtain ⟨n, hn⟩ := List.exists_mem_of_ne_nil _ e1
    obtain ⟨m, hm⟩ := List.exists_mem_of_ne_nil _ e2
    exact ⟨w, t, hw, h, ⟨n, mem_upto.mp hn⟩, ⟨m, mem_from.mp hm⟩⟩
end
end K15
namespace K15
open PySem PySem.Spec Den
section
variable {P : List Pan} {w : Nat}
theorem Good.at (hP : Good P) (hw : w < 2) {N : List Nat} (hN : ∀ n ∈ N, n < P.length) : ∀ n ∈ N, 0 ≤ loN P w n ∧ loN P w n < hiN P w n ∧ hiN P w n ≤ 20 := fun n hn => hP w n hw (hN n hn)
theorem pl_eq (hP : Good P) (hw : w < 2) {N : List Nat} (hN : ∀ n ∈ N, n < P.length) : partsL P w N = go P w N (cuts P w N) := by
  rw [← parts_eq (hP.at hw hN), parts_go]
theorem iv (hP : Good P) (hw : w < 2) {N : List Nat} (h0 : N ≠ []) (hN : ∀ n ∈ N, n < P.length) : Iv P w N (cuts P w N) := .of h0 fun n hn => (hP.at hw hN n hn).2.1
theorem pl_len (hP : Good P) (hw : w < 2) {N : List Nat} (hN : ∀ n ∈ N, n < P.length) : (partsL P w N).length = 1 ↔ cuts P w N = [] := by
  rw [← parts_eq (hP.at hw hN), len_one]
theorem pl_one (hP : Good P) (hw : w < 2) {N : List Nat} (hN : ∀ n ∈ N, n < P.length) (h : cuts P w N = []) : partsL P w N = [N] := by
  rw [← parts_eq (hP.at hw hN), parts_nil h]
theorem pl_ne (hP : Good P) (hw : w < 2) {N : List Nat} (h0 : N ≠ []) (hN : ∀ n ∈ N, n < P.length) {p : List Nat} (hp : p ∈ partsL P w N) : p ≠ [] ∧ p.Sublist N := by
  rw [pl_eq hP hw hN] at hp
  exact go_ne _ _ (iv hP hw h0 hN) p hp
theorem pl_part (hP : Good P) (hw : w < 2) {N : List Nat} (h0 : N ≠ []) (hN : ∀ n ∈ N, n < P.length) {p : List Nat} (hp : p ∈ partsL P w N) : partsL P w p = [p] := by
  have hs := (pl_ne hP hw h0 hN hp).2
  rw [pl_eq hP hw hN] at hp
  exact pl_one hP hw (fun n hn => hN n (hs.subset hn)) (cuts_nil (go_noct _ _ (iv hP hw h0 hN) p hp))
theorem pl_perm (hP : Good P) (hw : w < 2) {N : List Nat} (h0 : N ≠ []) (hN : ∀ n ∈ N, n < P.length) : (partsL P w N).flatten.Perm N := by
  rw [pl_eq hP hw hN]
  exact go_perm _ _ (iv hP hw h0 hN)
theorem pl_apart (hP : Good P) (hw : w < 2) {N : List Nat} (h0 : N ≠ []) (hN : ∀ n ∈ N, n < P.length) : (partsL P w N).Pairwise fun p q => ∀ b ∈ p, ∀ a ∈ q, hiN P w b ≤ loN P w a := by
  rw [pl_eq hP hw hN]
  exact go_apart _ _ (iv hP hw h0 hN)
theorem apart_bef (hP : Good P) (hw : w < 2) {a b : Nat} (ha : a < P.length) (hb : b < P.length) (h : hiN P w b ≤ loN P w a) : befI P a b = false := by
  rw [befI_eq ha hb]
  have a0 := hP 0 a (by omega) ha
  have a1 := hP 1 a (by omega) ha
  have b0 := hP 0 b (by omega) hb
  have b1 := hP 1 b (by omega) hb
  rw [loN_eq ha] at h
  rw [hiN_eq hb] at h
  rw [loN_eq ha, hiN_eq ha] at a0 a1
  rw [loN_eq hb, hiN_eq hb] at b0 b1
  generalize P[a] = p at *
  generalize P[b] = q at *
  simp only [lo, hi] at *
  unfold bef shH shW
  have hw2 : w = 0 ∨ w = 1 := by omega
  rcases hw2 with rfl | rfl
  · simp only [if_true, Bool.or_eq_false_iff, Bool.and_eq_false_iff, decide_eq_false_iff_not] at *
    omega
  · simp only [if_true, Bool.or_eq_false_iff, Bool.and_eq_false_iff, decide_eq_false_iff_not] at *
    simp at *
    omega
theorem ch_dir (N : List Nat) (hw : w < 2) : ∃ v, v < 2 ∧ chosen P w N = partsL P v N := by
  unfold chosen
  split
  · exact ⟨1 - w, by omega, rfl⟩
  · exact ⟨w, hw, rfl⟩
theorem ch_one {N : List Nat} : (chosen P w N).length = 1 ↔ (partsL P w N).length = 1 ∧ (partsL P (1 - w) N).length = 1 := by
  unfold chosen
  split
  · rename_i h; exact ⟨fun z => ⟨h, z⟩, fun z => z.2⟩
  · rename_i h; exact ⟨fun z => (h z).elim, fun z => (h z.1).elim⟩
theorem goM_none {f : List Nat → List Nat × Option (List Nat)} : ∀ (l : List (List Nat)) (acc : List Nat), (goM f l acc).2 = none ↔ ∀ p ∈ l, (f p).2 = none
  | [], acc => by simp [goM]
  | p :: r, acc => by
    rw [List.forall_mem_cons]
    unfold goM
    cases h : f p with
    | mk o s =>
      cases s with
      | some s => simp
      | none => simp only [true_and]; exact goM_none r _
theorem goM_val {f : List Nat → List Nat × Option (List Nat)} : ∀ (l : List (List Nat)) (acc : List Nat), (∀ p ∈ l, (f p).2 = none) → (goM f l acc).1 = acc ++ (l.map fun p => (f p).1).flatten
  | [], acc, _ => by simp [goM]
  | p :: r, acc, h => by
    have h1 := h p List.mem_cons_self
    unfold goM
    cases hf : f p with
    | mk o s =>
      rw [hf] at h1
      have h1 : s = none := h1
      subst h1
      dsimp only
      rw [goM_val r _ fun q hq => h q (List.mem_cons_of_mem _ hq), List.map_cons, List.flatten_cons, hf, List.append_assoc]
theorem goM_some {f : List Nat → List Nat × Option (List Nat)} : ∀ (l : List (List Nat)) (acc s : List Nat), (goM f l acc).2 = some s → ∃ p ∈ l, (f p).2 = some s
  | [], acc, s, h => by simp [goM] at h
  | p :: r, acc, s, h => by
    unfold goM at h
    cases hf : f p with
    | mk o q =>
      rw [hf] at h
      cases q with
      | some q =>
        exact ⟨p, List.mem_cons_self, by rw [hf]; exact h⟩
      | none =>
        obtain ⟨p', h1, h2⟩ := goM_some r _ s h
        exact ⟨p', List.mem_cons_of_mem _ h1, h2⟩
theorem sp_read (hP : Good P) (hw : w < 2) : ∀ (m : Nat) (N : List Nat), (∀ n ∈ N, n < P.length) → N.length < m → ((readM P w m N).2 = none ↔ Sp P N)
  | 0, N, _, h => by omega
  | m + 1, N, hN, hm => by
    unfold readM
    by_cases h2 : N.length < 2
    · rw [if_pos h2]; exact ⟨fun _ => .one _ h2, fun _ => rfl⟩
    rw [if_neg h2]
    have h0 : N ≠ [] := fun e => by rw [e] at h2; simp at h2
    by_cases hc : (chosen P w N).length = 1
    · rw [if_pos hc]
      refine ⟨fun z => (by cases z), fun z => ?_⟩
      obtain ⟨v, t, hv, hl⟩ := z.line (by omega)
      obtain ⟨c1, c2⟩ := ch_one.mp hc
      have := len_ne hl
      rw [parts_eq (hP.at hv hN)] at this
      have hv2 : v = w ∨ v = 1 - w := by omega
      rcases hv2 with rfl | rfl
      · exact (this c1).elim
      · exact (this c2).elim
    · rw [if_neg hc, goM_none]
      have sh : ∀ p ∈ chosen P w N, (∀ n ∈ p, n < P.length) ∧ p.length < m ∧ p.Sublist N := fun p hp => by
        obtain ⟨s1, s2⟩ := chosen_short hp
        have := s2 hc
        exact ⟨fun n hn => hN n (s1.subset hn), by omega, s1⟩
      constructor
      · intro h
        obtain ⟨v, hv, ev⟩ := ch_dir (P := P) N hw
        have key : ∀ p ∈ chosen P w N, Sp P p := fun p hp => (sp_read hP hw m p (sh p hp).1 (sh p hp).2.1).mp (h p hp)
        rw [ev, pl_eq hP hv hN] at key
        exact sp_go hv _ _ (iv hP hv h0 hN) key
      · intro h p hp
        exact (sp_read hP hw m p (sh p hp).1 (sh p hp).2.1).mpr (h.sub (sh p hp).2.2)
theorem short_pw {α : Type} {R : α → α → Prop} : ∀ N : List α, N.length < 2 → N.Pairwise R
  | [], _ => .nil
  | [a], _ => List.pairwise_singleton _ _
  | _ :: _ :: _, h => by rw [List.length_cons, List.length_cons] at h; omega
theorem read_row (hP : Good P) (hw : w < 2) : ∀ (m : Nat) (N : List Nat), (∀ n ∈ N, n < P.length) → N.length < m → (readM P w m N).2 = none → (readM P w m N).1.Perm N ∧ (readM P w m N).1.Pairwise fun x y => befI P y x = false
  | 0, N, _, h, _ => by omega
  | m + 1, N, hN, hm, h => by
    unfold readM at h ⊢
    by_cases h2 : N.length < 2
    · rw [if_pos h2]
      exact ⟨List.Perm.refl _, short_pw N h2⟩
    rw [if_neg h2] at h ⊢
    have h0 : N ≠ [] := fun e => by rw [e] at h2; simp at h2
    by_cases hc : (chosen P w N).length = 1
    · rw [if_pos hc] at h; cases h
    rw [if_neg hc] at h ⊢
    rw [goM_none] at h
    rw [goM_val _ _ h, List.nil_append]
    have sh : ∀ p ∈ chosen P w N, (readM P w m p).1.Perm p ∧ (readM P w m p).1.Pairwise fun x y => befI P y x = false := fun p hp => by
      obtain ⟨s1, s2⟩ := chosen_short hp
      have := s2 hc
      exact read_row hP hw m p (fun n hn => hN n (s1.subset hn)) (by omega) (h p hp)
    obtain ⟨v, hv, ev⟩ := ch_dir (P := P) N hw
    have ap := pl_apart hP hv h0 hN
    have pe := pl_perm hP hv h0 hN
    have su : ∀ p ∈ partsL P v N, ∀ n ∈ p, n < P.length := fun p hp n hn => hN n ((pl_ne hP hv h0 hN hp).2.subset hn)
    rw [ev] at sh ⊢
    generalize partsL P v N = L at *
    refine ⟨?_, ?_⟩
    · refine List.Perm.trans ?_ pe
      clear ap pe su ev hc h
      induction L with
      | nil => exact List.Perm.refl _
      | cons p r ih =>
        rw [List.map_cons, List.flatten_cons, List.flatten_cons]
        exact (sh p List.mem_cons_self).1.append (ih fun q hq => sh q (List.mem_cons_of_mem _ hq))
    · rw [List.pairwise_flatten]
      refine ⟨fun l hl => ?_, ?_⟩
      · obtain ⟨p, hp, rfl⟩ := List.mem_map.mp hl
        exact (sh p hp).2
      · rw [List.pairwise_map]
        refine List.Pairwise.imp_of_mem ?_ ap
        intro p q hp hq hpq x hx y hy
        have hx := (sh p hp).1.mem_iff.mp hx
        have hy := (sh q hq).1.mem_iff.mp hy
        exact apart_bef hP hv (su q hq y hy) (su p hp x hx) (hpq x hx y hy)
theorem read_stuck (hP : Good P) (hw : w < 2) : ∀ (m : Nat) (N Q : List Nat), (∀ n ∈ N, n < P.length) → N.length < m → (readM P w m N).2 = some Q → Q.Sublist N ∧ 2 ≤ Q.length ∧ cuts P w Q = [] ∧ cuts P (1 - w) Q = []
  | 0, N, Q, _, h, _ => by omega
  | m + 1, N, Q, hN, hm, h => by
    unfold readM at h
    by_cases h2 : N.length < 2
    · rw [if_pos h2] at h; cases h
    rw [if_neg h2] at h
    by_cases hc : (chosen P w N).length = 1
    · rw [if_pos hc] at h
      cases h
      obtain ⟨c1, c2⟩ := ch_one.mp hc
      exact ⟨List.Sublist.refl _, by omega, (pl_len hP hw hN).mp c1, (pl_len hP (by omega) hN).mp c2⟩
    rw [if_neg hc] at h
    obtain ⟨p, hp, hs⟩ := goM_some _ _ _ h
    obtain ⟨s1, s2⟩ := chosen_short hp
    have := s2 hc
    obtain ⟨q1, q2, q3, q4⟩ := read_stuck hP hw m p Q (fun n hn => hN n (s1.subset hn)) (by omega) hs
    exact ⟨q1.trans s1, q2, q3, q4⟩
end
end K15
namespace K15
open PySem PySem.Spec Den
section
variable {P : List Pan}
theorem no_line {w : Nat} {Q : List Nat} (h : cuts P w Q = []) (t : Int) : ¬ Ln P w Q t := fun z => by
  obtain ⟨u, hu⟩ := line_ct z
  have := mem_cuts.mpr hu
  rw [h] at this; cases this
def Sx (P : List Pan) (w a b : Nat) : Prop := hiN P w a ≤ loN P w b ∨ hiN P w b ≤ loN P w a
theorem Sx.symm {w a b : Nat} (h : Sx P w a b) : Sx P w b a := h.elim .inr .inl
theorem sep (hS : Sheet P) {a b : Nat} (ha : a < P.length) (hb : b < P.length) (hne : a ≠ b) : Sx P 0 a b ∨ Sx P 1 a b := by
  have key : ∀ {a b : Nat}, (ha : a < P.length) → (hb : b < P.length) → a < b → Sx P 0 a b ∨ Sx P 1 a b := fun {a b} ha hb hlt => by
    have := List.pairwise_iff_getElem.mp hS.ap a b ha hb hlt
    unfold Sx
    rw [loN_eq ha, loN_eq ha, loN_eq hb, loN_eq hb, hiN_eq ha, hiN_eq ha, hiN_eq hb, hiN_eq hb]
    generalize P[a] = p at *
    generalize P[b] = q at *
    unfold lap shW shH at this
    simp only [lo, hi]
    simp at this ⊢
    by_cases h1 : p.a < q.c
    · by_cases h2 : q.a < p.c
      · have := this h1 h2
        by_cases h3 : p.b < q.d
        · have := this h3
          omega
        · omega
      · omega
    · omega
  rcases Nat.lt_or_gt_of_ne hne with h | h
  · exact key ha hb h
  · rcases key hb ha h with z | z
    · exact .inl z.symm
    · exact .inr z.symm
theorem star {w x y z : Nat} {Q : List Nat} (hl : loN P w x < hiN P w x) (hx : x ∈ Q) (hy : y ∈ Q) (hz : z ∈ Q) (all : ∀ n ∈ Q, n = x ∨ n = y ∨ n = z) (h1 : Sx P w x y) (h2 : Sx P w x z) : ∃ t, Ln P w Q t := by
  rcases h1 with h1 | h1 <;> rcases h2 with h2 | h2
  · refine ⟨hiN P w x, fun n hn => ?_, ⟨x, hx, Int.le_refl _⟩, ⟨y, hy, h1⟩⟩
    rcases all n hn with rfl | rfl | rfl
    · exact .inl (Int.le_refl _)
    · exact .inr h1
    · exact .inr h2
  · refine ⟨loN P w x, fun n hn => ?_, ⟨z, hz, h2⟩, ⟨x, hx, Int.le_refl _⟩⟩
    rcases all n hn with rfl | rfl | rfl
    · exact .inr (Int.le_refl _)
    · exact .inr (by omega)
    · exact .inl h2
  · refine ⟨loN P w x, fun n hn => ?_, ⟨y, hy, h1⟩, ⟨x, hx, Int.le_refl _⟩⟩
    rcases all n hn with rfl | rfl | rfl
    · exact .inr (Int.le_refl _)
    · exact .inl h1
    · exact .inr (by omega)
  · refine ⟨loN P w x, fun n hn => ?_, ⟨y, hy, h1⟩, ⟨x, hx, Int.le_refl _⟩⟩
    rcases all n hn with rfl | rfl | rfl
    · exact .inr (Int.le_refl _)
    · exact .inl h1
    · exact .inl h2
theorem four (hS : Sheet P) {Q : List Nat} (hQ : ∀ n ∈ Q, n < P.length) (nd : Q.Nodup) (h2 : 2 ≤ Q.length) (c0 : cuts P 0 Q = []) (c1 : cuts P 1 Q = []) : 4 ≤ Q.length := by
  have hP := Good.of hS
  have n0 := no_line c0
  have n1 := no_line c1
  have lt : ∀ w n, w < 2 → n ∈ Q → loN P w n < hiN P w n := fun w n hw hn => (hP w n hw (hQ n hn)).2.1
  match Q, h2, nd, hQ, n0, n1, lt with
  | [a, b], _, nd, hQ, n0, n1, lt =>
    exfalso
    have ne : a ≠ b := fun e => by simp [e] at nd
    have go : ∀ w, w < 2 → Sx P w a b → ∃ t, Ln P w [a, b] t := fun w hw h => star (x := a) (y := b) (z := b) (lt w a hw (by simp)) (by simp) (by simp) (by simp) (by simp) h h
    rcases sep hS (hQ a (by simp)) (hQ b (by simp)) ne with h | h
    · obtain ⟨t, ht⟩ := go 0 (by omega) h; exact n0 t ht
    · obtain ⟨t, ht⟩ := go 1 (by omega) h; exact n1 t ht
  | [a, b, c], _, nd, hQ, n0, n1, lt =>
    exfalso
    simp only [List.nodup_cons, List.mem_cons, List.not_mem_nil, or_false, not_or] at nd
    obtain ⟨⟨e1, e2⟩, e3, _⟩ := nd
    have gA : ∀ w, w < 2 → Sx P w a b → Sx P w a c → ∃ t, Ln P w [a, b, c] t := fun w hw h h' => star (lt w a hw (by simp)) (by simp) (by simp) (by simp) (by simp) h h'
    have gB : ∀ w, w < 2 → Sx P w a b → Sx P w b c → ∃ t, Ln P w [a, b, c] t := fun w hw h h' => star (x := b) (y := a) (z := c) (lt w b hw (by simp)) (by simp) (by simp) (by simp) (fun n hn => by simp at hn; rcases hn with h | h | h <;> simp [h]) h.symm h'
    have gC : ∀ w, w < 2 → Sx P w a c → Sx P w b c → ∃ t, Ln P w [a, b, c] t := fun w hw h h' => star (x := c) (y := a) (z := b) (lt w c hw (by simp)) (by simp) (by simp) (by simp) (fun n hn => by simp at hn; rcases hn with h | h | h <;> simp [h]) h.symm h'.symm
    have f0 : ¬ ∃ t, Ln P 0 [a, b, c] t := fun ⟨t, h⟩ => n0 t h
    have f1 : ¬ ∃ t, Ln P 1 [a, b, c] t := fun ⟨t, h⟩ => n1 t h
    rcases sep hS (hQ a (by simp)) (hQ b (by simp)) e1 with hab | hab <;> rcases sep hS (hQ a (by simp)) (hQ c (by simp)) e2 with hac | hac <;> rcases sep hS (hQ b (by simp)) (hQ c (by simp)) e3 with hbc | hbc
    · exact f0 (gA 0 (by omega) hab hac)
    · exact f0 (gA 0 (by omega) hab hac)
    · exact f0 (gB 0 (by omega) hab hbc)
    · exact f1 (gC 1 (by omega) hac hbc)
    · exact f0 (gC 0 (by omega) hac hbc)
    · exact f1 (gB 1 (by omega) hab hbc)
    · exact f1 (gA 1 (by omega) hab hac)
    · exact f1 (gA 1 (by omega) hab hac)
  | _ :: _ :: _ :: _ :: r, _, _, _, _, _, _ => simp
theorem fm_map {α β : Type} {f : α → Option β} {g : α → β} : ∀ l : List α, (∀ x ∈ l, f x = some (g x)) → l.filterMap f = l.map g
  | [], _ => rfl
  | x :: r, h => by
    rw [List.filterMap_cons, h x List.mem_cons_self, List.map_cons, fm_map r fun y hy => h y (List.mem_cons_of_mem _ hy)]
def pick (P : List Pan) (Q : List Nat) : List Pan := Q.filterMap fun n => P[n]?
theorem pick_map {Q : List Nat} (hQ : ∀ n ∈ Q, n < P.length) : pick P Q = Q.map fun n => P.getD n ⟨0, 0, 0, 0⟩ := by
  refine fm_map _ fun n hn => ?_
  have := hQ n hn
  simp [List.getD_eq_getElem?_getD, List.getElem?_eq_getElem this]
theorem pick_at {Q : List Nat} (hQ : ∀ n ∈ Q, n < P.length) {i : Nat} (hi : i < Q.length) : (pick P Q)[i]? = P[Q[i]]? := by
  have := hQ _ (List.getElem_mem hi)
  rw [pick_map hQ, List.getElem?_map, List.getElem?_eq_getElem hi, List.getElem?_eq_getElem this]
  simp [List.getD_eq_getElem?_getD, List.getElem?_eq_getElem this]
theorem pick_len {Q : List Nat} (hQ : ∀ n ∈ Q, n < P.length) : (pick P Q).length = Q.length := by rw [pick_map hQ, List.length_map]
theorem pick_sub {Q : List Nat} (hs : Q.Sublist (List.range P.length)) : (pick P Q).Sublist P := by
  have h1 : ((List.range P.length).filterMap fun n => P[n]?) = P := by
    have : ∀ n ∈ List.range P.length, P[n]? = some (P.getD n ⟨0, 0, 0, 0⟩) := fun n hn => by
      have := List.mem_range.mp hn
      simp [List.getD_eq_getElem?_getD, List.getElem?_eq_getElem this]
    rw [fm_map _ this]
    refine List.ext_getElem (by simp) fun i h1 h2 => ?_
    simp [List.getD_eq_getElem?_getD, List.getElem?_eq_getElem h2]
  have := hs.filterMap (fun n => P[n]?)
  rw [h1] at this
  exact this
theorem pick_lo {Q : List Nat} (hQ : ∀ n ∈ Q, n < P.length) {w i : Nat} (hi : i < Q.length) : loN (pick P Q) w i = loN P w Q[i] ∧ hiN (pick P Q) w i = hiN P w Q[i] := by
  unfold loN hiN
  rw [pick_at hQ hi]
  exact ⟨rfl, rfl⟩
theorem pick_cuts {Q : List Nat} (hQ : ∀ n ∈ Q, n < P.length) {w : Nat} (h : cuts P w Q = []) : cuts (pick P Q) w (List.range Q.length) = [] := by
  refine cuts_nil fun u hu => ?_
  obtain ⟨⟨i, hi, e1⟩, all, ⟨j, hj, e2⟩⟩ := hu
  have hi := List.mem_range.mp hi
  have hj := List.mem_range.mp hj
  have : Ct P w Q u := by
    refine ⟨⟨Q[i], List.getElem_mem hi, by rw [← (pick_lo hQ hi).1]; exact e1⟩, fun n hn => ?_, Q[j], List.getElem_mem hj, by rw [← (pick_lo hQ hj).2]; exact e2⟩
    obtain ⟨k, hk, rfl⟩ := List.mem_iff_getElem.mp hn
    have := all k (List.mem_range.mpr hk)
    rw [(pick_lo hQ hk).1, (pick_lo hQ hk).2] at this
    exact this
  have := mem_cuts.mpr this
  rw [h] at this; cases this
theorem pick_read {Q : List Nat} (hS : Sheet (pick P Q)) (hQ : ∀ n ∈ Q, n < P.length) (h2 : 2 ≤ Q.length) (c0 : cuts P 0 Q = []) (c1 : cuts P 1 Q = []) (m : Nat) : readM (pick P Q) 1 (m + 1) (List.range Q.length) = ([], some (List.range Q.length)) := by
  have hP := Good.of hS
  have hr : ∀ n ∈ List.range Q.length, n < (pick P Q).length := fun n hn => by rw [pick_len hQ]; exact List.mem_range.mp hn
  unfold readM
  rw [if_neg (by rw [List.length_range]; omega), if_pos]
  rw [ch_one]
  exact ⟨(pl_len hP (by omega) hr).mpr (pick_cuts hQ c1), (pl_len hP (by omega) hr).mpr (pick_cuts hQ c0)⟩
def tp (p : Pan) : Pan := ⟨p.b, p.a, p.d, p.c⟩
def turn (P : List Pan) : List Pan := P.map tp
theorem turn_sheet (h : Sheet P) : Sheet (turn P) := by
  refine ⟨fun q hq => ?_, ?_⟩
  · obtain ⟨p, hp, rfl⟩ := List.mem_map.mp hq
    have := h.box p hp
    simp only [tp]
    omega
  · refine List.pairwise_map.mpr (h.ap.imp ?_)
    intro p q hpq
    unfold lap shW shH at hpq ⊢
    simp only [tp]
    rw [Bool.and_comm]
    exact hpq
theorem turn_lo {w : Nat} (hw : w < 2) : loN (turn P) w = loN P (1 - w) ∧ hiN (turn P) w = hiN P (1 - w) := by
  have hw2 : w = 0 ∨ w = 1 := by omega
  refine ⟨funext fun n => ?_, funext fun n => ?_⟩
  · unfold loN turn
    rw [List.getElem?_map]
    cases P[n]? with
    | none => rfl
    | some p => rcases hw2 with rfl | rfl <;> rfl
  · unfold hiN turn
    rw [List.getElem?_map]
    cases P[n]? with
    | none => rfl
    | some p => rcases hw2 with rfl | rfl <;> rfl
theorem turn_parts {w : Nat} (hw : w < 2) (N : List Nat) : partsL (turn P) w N = partsL P (1 - w) N := by
  obtain ⟨h1, h2⟩ := turn_lo (P := P) hw
  have e1 : upto (turn P) w = upto P (1 - w) := by funext t N; unfold upto; rw [h2]
  have e2 : from_ (turn P) w = from_ P (1 - w) := by funext t N; unfold from_; rw [h1]
  have e3 : splitB (turn P) w = splitB P (1 - w) := by funext t N; unfold splitB; rw [e1, e2]
  have e4 : stepL (turn P) w = stepL P (1 - w) := by funext s t; unfold stepL; rw [e1, e2, e3]
  unfold partsL runL
  rw [e4]
theorem turn_read {w : Nat} (hw : w < 2) : ∀ (m : Nat) (N : List Nat), readM (turn P) w m N = readM P (1 - w) m N
  | 0, N => rfl
  | m + 1, N => by
    have e1 : chosen (turn P) w N = chosen P (1 - w) N := by
      unfold chosen
      rw [turn_parts hw, turn_parts (by omega)]
    have e2 : readM (turn P) w m = readM P (1 - w) m := funext fun N => turn_read hw m N
    unfold readM
    rw [e1, e2]
end
end K15
namespace K15
open PySem PySem.Spec Den
theorem asc_of : ∀ N : List Nat, N.Pairwise (· < ·) → ascB N = true := by
  intro N h
  rw [asc_prs, List.all_eq_true]
  induction N with
  | nil => intro p hp; simp [prsN] at hp
  | cons a r ih =>
    obtain ⟨h1, h2⟩ := List.pairwise_cons.mp h
    intro p hp
    cases r with
    | nil => simp [prsN] at hp
    | cons b s =>
      rcases List.mem_cons.mp (show p ∈ (a, b) :: prsN (b :: s) from hp) with rfl | hp
      · exact decide_eq_true (h1 b List.mem_cons_self)
      · exact ih h2 p hp
theorem asc_sub {n : Nat} {Q : List Nat} (h : Q.Sublist (List.range n)) : ascB Q = true := asc_of Q (List.pairwise_lt_range.sublist h)
def cuB (P : List Pan) : Bool := decide ((readM P 1 12 (List.range P.length)).2 = none)
theorem cu_iff {P : List Pan} (hP : Good P) (hl : P.length ≤ 8) : (readM P 0 12 (List.range P.length)).2 = none ↔ (readM P 1 12 (List.range P.length)).2 = none := by
  have hr : ∀ n ∈ List.range P.length, n < P.length := fun n hn => List.mem_range.mp hn
  rw [sp_read hP (by omega) 12 _ hr (by rw [List.length_range]; omega), sp_read hP (by omega) 12 _ hr (by rw [List.length_range]; omega)]
theorem befI_irr (P : List Pan) (hP : Good P) : ∀ a, a < P.length → befI P a a = false := fun a ha => by
  rw [befI_eq ha ha]
  have a0 := hP 0 a (by omega) ha
  have a1 := hP 1 a (by omega) ha
  rw [loN_eq ha, hiN_eq ha] at a0 a1
  generalize P[a] = p at *
  simp only [lo, hi] at *
  simp at a0 a1
  unfold bef shH shW
  simp
  omega
theorem read_rows {P : List Pan} (hP : Good P) (hl : P.length ≤ 8) {w : Nat} (hw : w < 2) (h : (readM P w 12 (List.range P.length)).2 = none) : (readM P w 12 (List.range P.length)).1 ∈ Od.rows (befI P) P.length := by
  obtain ⟨h1, h2⟩ := read_row hP hw 12 (List.range P.length) (fun n hn => List.mem_range.mp hn) (by rw [List.length_range]; omega) h
  exact (Od.pw_rows (befI_irr P hP) h1).mpr h2
theorem w_stuckL {P : List Pan} (hS : Sheet P) (hl : P.length ≤ 8) : d32 [.tuple (P.map pD)] = .ok (.bool true) := by
  have ok := hS.page hl
  have hP := Good.of hS
  have e19 : tbl ds32 19 = d19 := rfl
  have e13 : tbl ds32 13 = d13 := rfl
  have e14 : tbl ds32 14 = d14 := rfl
  have e20 : tbl ds32 20 = d20 := rfl
  have w15 := c15 hP ok
  have w16 := c16 hP ok
  have hr : ∀ n ∈ List.range P.length, n < P.length := fun n hn => List.mem_range.mp hn
  have lenP : lenD [.tuple (P.map pD)] = .ok (.int (P.length : Int)) := by simp
  refine Wp.eq (wp_def rfl ?_)
  simp only [s32, x_Ss_den_cons, x_Ss_den_nil]
  cases hq : (readM P 1 12 (List.range P.length)).2 with
  | none =>
    rw [hq] at w15 w16
    have w15 : d19 [.tuple (P.map pD)] = .ok .none := w15
    have w16 : d20 [.tuple (P.map pD)] = .ok (.bool true) := w16
    generalize PyData.tuple (P.map pD) = pg at *
    refine wp_cut0 (R := fun ρ => ρ = [some pg, some .none, none, none]) ?_ fun ρ1 h => ?_
    · simp [startD, e19, w15]
    subst h
    have i1 : isD true .none .none = .ok (.bool false) := rfl
    refine wp_skip (by simp [i1, blD]) ?_
    have i2 : isD false (.bool true) (.bool true) = .ok (.bool true) := rfl
    by_cases h3 : 3 < P.length
    · simp [lenP, blD]
      exact fun hh => absurd hh (by omega)
    · simp [lenP, h3, blD, e20, w16, i2]
  | some Q =>
    rw [hq] at w15
    have w15 : d19 [.tuple (P.map pD)] = .ok (nT Q) := w15
    obtain ⟨q1, q2, q3, q4⟩ := read_stuck hP (by omega) 12 (List.range P.length) Q hr (by rw [List.length_range]; omega) hq
    have q4 : cuts P 0 Q = [] := q4
    have hQ : ∀ n ∈ Q, n < P.length := fun n hn => hr n (q1.subset hn)
    have hlen : Q.length ≤ P.length := by have := q1.length_le; rw [List.length_range] at this; exact this
    have h4 := four hS hQ (List.nodup_range.sublist q1) q2 q4 q3
    have h0 : Q ≠ [] := fun e => by rw [e] at h4; simp at h4
    have hasc := asc_sub q1
    have w9 := c9 hP ok h0 hQ hasc (by omega)
    have w10 := c10 hP ok h0 hQ hasc (by omega)
    rw [pl_one hP (by omega) hQ q3] at w9
    rw [pl_one hP (by omega) hQ q4] at w10
    have ne1 := partsE_ne [Q]
    have hS2 := hS.sub (pick_sub q1)
    have hl2 : (pick P Q).length = Q.length := pick_len hQ
    have ok2 := hS2.page (by omega)
    have v15 := c15 (Good.of hS2) ok2
    have v16 := c16 (Good.of hS2) ok2
    rw [hl2, pick_read hS2 hQ q2 q4 q3 11] at v15 v16
    have v15 : d19 [.tuple ((pick P Q).map pD)] = .ok (nT (List.range Q.length)) := v15
    have v16 : d20 [.tuple ((pick P Q).map pD)] = .ok (.bool false) := v16
    have lenS : lenD [.tuple ((pick P Q).map pD)] = .ok (.int (Q.length : Int)) := by simp [hl2]
    have lenQ : lenD [nT Q] = .ok (.int (Q.length : Int)) := by unfold nT; simp
    have neR := nT_ne (List.range Q.length) (List.range Q.length)
    have atm : ∀ n, n < P.length → ixD (.tuple (P.map pD)) (.int (n : Int)) = .ok (pD (P.getD n ⟨0, 0, 0, 0⟩)) := fun n hn => by
      rw [ixD_t, at_map hn, List.getD_eq_getElem?_getD, List.getElem?_eq_getElem hn]; rfl
    have hpm := pick_map hQ
    have e1 : ∀ (pg : D), pg = .tuple (P.map pD) → compL (setN 3) (fun _ => Rs.ok true) (bi ixD (vaR 0) (vaR 3)) [some pg, some (nT Q), none, none] (Q.map fun n : Nat => PyData.int (n : Int)) = .ok ((pick P Q).map pD) := fun pg hpg => by
      rw [hpm, List.map_map]
      refine compL_all _ fun n hn => ?_
      have := atm n (hQ n hn)
      rw [← hpg] at this
      simp [this]
    generalize hsm : PyData.tuple ((pick P Q).map pD) = sm at *
    generalize hpg : PyData.tuple (P.map pD) = pg at *
    have e1 := e1 pg rfl
    refine wp_cut0 (R := fun ρ => ρ = [some pg, some (nT Q), none, none]) ?_ fun ρ1 h => ?_
    · simp [startD, e19, w15]
    subst h
    have i1 : isD true (nT Q) .none = .ok (.bool true) := rfl
    refine wp_cut0 (R := fun ρ => ρ = [some pg, some (nT Q), some sm, none]) ?_ fun ρ1 h => ?_
    · refine wp_if true (by simp [i1, blD]) ?_
      rw [if_pos rfl]
      simp only [x_Ss_den_cons, x_Ss_den_nil]
      have lt4 : ltD (.int (Q.length : Int)) (.int 4) = .ok (.bool false) := by rw [ltD_int, decide_eq_false (by omega)]
      have w9 : d13 [pg, nT Q] = .ok (.list [nT Q]) := w9
      have w10 : d14 [pg, nT Q] = .ok (.list [nT Q]) := w10
      have ne1 : neD (.list [nT Q]) (.list [nT Q]) = .ok (.bool false) := ne1
      have s0 : seqD (nT Q) = .ok (Q.map fun n : Nat => PyData.int (n : Int)) := rfl
      refine wp_skip ?_ ?_
      · simp [lenQ, lt4, e13, w9, ne1, blD, -ltD_int]
      refine wp_skip ?_ ?_
      · simp [e14, w10, ne1, blD]
      refine wp_cut0 (R := fun ρ => ρ = [some pg, some (nT Q), some sm, none]) ?_ fun ρ1 h => ?_
      · simp [s0, Rs.noexc]
        rw [e1]
        simp [tupleD, hsm]
      subst h
      refine wp_skip ?_ ?_
      · rw [decide_eq_true rfl] at neR
        have neR : neD (nT (List.range Q.length)) (nT (List.range Q.length)) = .ok (.bool false) := neR
        have hb : -(1000000 : Int) ≤ (Q.length : Int) ∧ (Q.length : Int) ≤ 1000000 := by omega
        have hrr : rngD 0 Q.length = (List.range Q.length).map fun i : Nat => PyData.int (i : Int) := rng0_map _
        have hnT : PyData.tuple ((List.range Q.length).map fun i : Nat => PyData.int (i : Int)) = nT (List.range Q.length) := rfl
        simp [e20, v16, e19, v15, lenS, blD, tupI, hb, hrr, hnT, neR]
      rfl
    subst h
    simp [lenP, blD]
    exact fun hh => absurd hh (by omega)
end K15
namespace K15
open PySem PySem.Spec Den
def loopF : Ss := (.cons (.set 7 "_law_parts" ⟨213, 12, 213, 22⟩ (.callv 33 6 "_law_way" ⟨213, 25, 213, 33⟩ (.var 1 "_law_page_here" ⟨213, 34, 213, 48⟩) (.cons (.var 2 "_law_whole" ⟨213, 50, 213, 60⟩) .nil) ⟨213, 25, 213, 61⟩) ⟨213, 12, 213, 61⟩)
    (.cons (.set 8 "_law_held" ⟨214, 12, 214, 21⟩ (.lst .nil ⟨214, 24, 214, 26⟩) ⟨214, 12, 214, 26⟩)
    (.cons (.for (.nm 9 "_law_part" ⟨215, 16, 215, 25⟩) (.seq (.var 7 "_law_parts" ⟨215, 29, 215, 39⟩)) (.cons (.set 8 "_law_held" ⟨216, 16, 216, 25⟩ (.bin .add (.var 8 "_law_held" ⟨216, 28, 216, 37⟩) (.prim .list ⟨216, 40, 216, 44⟩ (.var 9 "_law_part" ⟨216, 45, 216, 54⟩) .nil ⟨216, 40, 216, 55⟩) ⟨216, 28, 216, 55⟩) ⟨216, 16, 216, 55⟩)
    (.cons (.iff (.or (.cmp .eq (.var 9 "_law_part" ⟨217, 19, 217, 28⟩) (.tup .nil 0 ⟨217, 32, 217, 34⟩) ⟨217, 19, 217, 34⟩) (.cons (.cmp .ne (.callv 33 6 "_law_way" ⟨217, 38, 217, 46⟩ (.var 1 "_law_page_here" ⟨217, 47, 217, 61⟩) (.cons (.var 9 "_law_part" ⟨217, 63, 217, 72⟩) .nil) ⟨217, 38, 217, 73⟩) (.lst (.cons (.var 9 "_law_part" ⟨217, 78, 217, 87⟩) .nil) ⟨217, 77, 217, 88⟩) ⟨217, 38, 217, 88⟩) .nil) ⟨217, 19, 217, 88⟩) (.cons (.ret (.cst (.bl false) 0 ⟨218, 27, 218, 32⟩) ⟨218, 20, 218, 32⟩)
    .nil) .nil ⟨217, 16, 218, 32⟩)
    .nil)) ⟨215, 12, 218, 32⟩)
    (.cons (.iff (.cmp .ne (.prim .sorted ⟨219, 15, 219, 21⟩ (.var 8 "_law_held" ⟨219, 22, 219, 31⟩) .nil ⟨219, 15, 219, 32⟩) (.prim .list ⟨219, 36, 219, 40⟩ (.var 2 "_law_whole" ⟨219, 41, 219, 51⟩) .nil ⟨219, 36, 219, 52⟩) ⟨219, 15, 219, 52⟩) (.cons (.ret (.cst (.bl false) 0 ⟨220, 23, 220, 28⟩) ⟨220, 16, 220, 28⟩)
    .nil) .nil ⟨219, 12, 220, 28⟩)
    (.cons (.for (.tp [(10, "_law_one", ⟨221, 16, 221, 24⟩), (11, "_law_other", ⟨221, 26, 221, 36⟩)] 0 ⟨221, 16, 221, 36⟩) (.zip (.var 7 "_law_parts" ⟨221, 44, 221, 54⟩) (.slo (.var 7 "_law_parts" ⟨221, 56, 221, 66⟩) (.cst (.int 1) 0 ⟨221, 67, 221, 68⟩) ⟨221, 67, 221, 69⟩ ⟨221, 56, 221, 70⟩) ⟨221, 40, 221, 43⟩ ⟨221, 40, 221, 71⟩) (.cons (.iff (.cmp .ne (.comp (.var 17 "_law_a" ⟨222, 20, 222, 26⟩) (.nm 17 "_law_a" ⟨222, 31, 222, 37⟩) (.seq (.var 11 "_law_other" ⟨222, 41, 222, 51⟩)) (.cons (.cmp .ne (.comp (.var 18 "_law_b" ⟨222, 56, 222, 62⟩) (.nm 18 "_law_b" ⟨222, 67, 222, 73⟩) (.seq (.var 10 "_law_one" ⟨222, 77, 222, 85⟩)) (.cons (.call 8 "is_before" ⟨222, 89, 222, 98⟩ (.var 1 "_law_page_here" ⟨222, 99, 222, 113⟩) (.cons (.var 17 "_law_a" ⟨222, 115, 222, 121⟩) (.cons (.var 18 "_law_b" ⟨222, 123, 222, 129⟩) .nil)) ⟨222, 89, 222, 130⟩) .nil) ⟨.function, [(".0", .local), ("_law_b", .local), ("is_before", .globalImplicit), ("_law_a", .free), ("_law_page_here", .free)], false, false, []⟩ [("_law_b", 18)] ⟨222, 55, 222, 131⟩) (.lst .nil ⟨222, 135, 222, 137⟩) ⟨222, 55, 222, 137⟩) .nil) ⟨.function, [(".0", .local), ("_law_a", .cell), ("_law_one", .free), ("_law_page_here", .free)], false, false, []⟩ [("_law_a", 17)] ⟨222, 19, 222, 138⟩) (.lst .nil ⟨222, 142, 222, 144⟩) ⟨222, 19, 222, 144⟩) (.cons (.ret (.cst (.bl false) 0 ⟨223, 27, 223, 32⟩) ⟨223, 20, 223, 32⟩)
    .nil) .nil ⟨222, 16, 223, 32⟩)
    .nil) ⟨221, 12, 223, 32⟩)
    .nil)))))
theorem wp_forF {i : Nat} {b : DS} {bs : List DS} {ρ : Ro} {Q : Fl × Ro → Prop} (hi : i < ρ.length) (h : Wp (b (ρ.set i none)) fun p => match p with
    | (.nx, ρ2) => Wp (forFL i bs ρ2) Q
    | (.ct, ρ2) => Wp (forFL i bs ρ2) Q
    | (.bk, ρ2) => Q (.nx, ρ2)
    | (.rt d, ρ2) => Q (.rt d, ρ2)) : Wp (forFL i (b :: bs) ρ) Q := by
  show Wp (if i < ρ.length then (b (ρ.set i none) >>= fun r => match r with
    | (.nx, ρ2) => forFL i bs ρ2
    | (.ct, ρ2) => forFL i bs ρ2
    | (.bk, ρ2) => .ok (.nx, ρ2)
    | (.rt d, ρ2) => .ok (.rt d, ρ2)) else .stuck) Q
  rw [if_pos hi, wp_bind]
  refine h.imp fun p hp => ?_
  obtain ⟨fl, ρ2⟩ := p
  cases fl <;> exact hp
theorem zip_map2 : ∀ A B : List (List Nat), zipL (A.map nT) (B.map nT) = (A.zip B).map fun p => PyData.tuple [nT p.1, nT p.2]
  | [], _ => by simp [zipL]
  | _ :: _, [] => by simp [zipL]
  | a :: A, b :: B => by
    show PyData.tuple [nT a, nT b] :: zipL (A.map nT) (B.map nT) = _
    rw [zip_map2 A B]
    rfl
theorem eq_nT (N M : List Nat) : eqD (nT N) (nT M) = .ok (.bool (decide (N = M))) := by
  have := eqD_e (α := Tu Nat) (by decide) ⟨N⟩ ⟨M⟩
  have e : ∀ L : List Nat, (Enc.e (⟨L⟩ : Tu Nat) : D) = nT L := fun L => rfl
  rw [e, e] at this
  rw [this]
  congr 2
  simp
theorem w_loop {P : List Pan} (hP : Good P) (ok : okPage P = true) {w : Nat} (hw : w < 2) {wf : List D → Rs D} (hwf : ∀ N : List Nat, N ≠ [] → (∀ n ∈ N, n < P.length) → ascB N = true → N.length ≤ 8 → wf [.tuple (P.map pD), nT N] = .ok (.list ((partsL P w N).map nT)))
    {T : Tb} (h33 : T 33 = wf) (h8 : T 8 = d8) (h0 : P.length ≠ 0) (x0 x3 x4 x5 x7 x8 x9 x10 x11 x12 x13 x14 x15 x16 x17 x18 : Option D) :
    Wp (loopF.den T [x0, some (.tuple (P.map pD)), some (nT (List.range P.length)), x3, x4, x5, none, x7, x8, x9, x10, x11, x12, x13, x14, x15, x16, x17, x18]) fun p => ∃ y7 y8 y9 y10 y11 y17 y18, p = (.nx, [x0, some (.tuple (P.map pD)), some (nT (List.range P.length)), x3, x4, x5, none, y7, y8, y9, y10, y11, x12, x13, x14, x15, x16, y17, y18]) := by
  have hl := okLen ok
  have hr : ∀ n ∈ List.range P.length, n < P.length := fun n hn => List.mem_range.mp hn
  have hne : List.range P.length ≠ [] := fun e => h0 (by have := congrArg List.length e; simpa using this)
  have whole := hwf (List.range P.length) hne hr (asc_sub (List.Sublist.refl _)) (by rw [List.length_range]; omega)
  have pne := fun p hp => pl_ne (p := p) hP hw hne hr hp
  have ppart := fun p hp => pl_part (p := p) hP hw hne hr hp
  have pperm := pl_perm hP hw hne hr
  have papart := pl_apart hP hw hne hr
  have plen := parts_len (P := P) (w := w) (N := List.range P.length)
  have pf : ∀ p ∈ partsL P w (List.range P.length), wf [.tuple (P.map pD), nT p] = .ok (.list [nT p]) := fun p hp => by
    obtain ⟨a1, a2⟩ := pne p hp
    have al := a2.length_le
    rw [List.length_range] at al
    have := hwf p a1 (fun n hn => hr n (a2.subset hn)) (asc_sub a2) (by omega)
    rw [ppart p hp] at this
    exact this
  have pin : ∀ p ∈ partsL P w (List.range P.length), ∀ n ∈ p, n < P.length := fun p hp n hn => hr n ((pne p hp).2.subset hn)
  have isb : ∀ a b : Nat, a < P.length → b < P.length → hiN P w b ≤ loN P w a → d8 [.tuple (P.map pD), .int (a : Int), .int (b : Int)] = .ok (.bool false) := fun a b ha hb h => by
    have := v8 ok ha hb
    rw [← befI_eq ha hb, apart_bef hP hw ha hb h] at this
    exact this
  generalize hL : partsL P w (List.range P.length) = L at *
  generalize PyData.tuple (P.map pD) = pg at *
  unfold loopF
  simp only [x_Ss_den_cons, x_Ss_den_nil]
  refine wp_cut0 (R := fun ρ => ρ = [x0, some pg, some (nT (List.range P.length)), x3, x4, x5, none, some (.list (L.map nT)), x8, x9, x10, x11, x12, x13, x14, x15, x16, x17, x18]) ?_ fun ρ1 h => ?_
  · simp [h33, whole]
  subst h
  refine wp_cut0 (R := fun ρ => ρ = [x0, some pg, some (nT (List.range P.length)), x3, x4, x5, none, some (.list (L.map nT)), some (.list []), x9, x10, x11, x12, x13, x14, x15, x16, x17, x18]) ?_ fun ρ1 h => ?_
  · simp
  subst h
  have flen : L.flatten.length = P.length := by rw [pperm.length_eq, List.length_range]
  refine wp_cut0 (R := fun ρ => ∃ y9, ρ = [x0, some pg, some (nT (List.range P.length)), x3, x4, x5, none, some (.list (L.map nT)), some (.list (L.flatten.map fun n : Nat => PyData.int (n : Int))), y9, x10, x11, x12, x13, x14, x15, x16, x17, x18]) ?_ fun ρ1 h => ?_
  · simp only [x_S_den_for, forS_eq, wp_bind, x_I_den_seq]
    refine Wp.of (a := L.map nT) (by simp) ?_
    refine wp_forL (g := nT) L (fun pre _ ρ => ∃ y9, ρ = [x0, some pg, some (nT (List.range P.length)), x3, x4, x5, none, some (.list (L.map nT)), some (.list (pre.flatten.map fun n : Nat => PyData.int (n : Int))), y9, x10, x11, x12, x13, x14, x15, x16, x17, x18]) _ ⟨_, rfl⟩ (fun pre p rest ex ρ h => ?_) fun ρ h => h
    obtain ⟨y9, rfl⟩ := h
    have hp : p ∈ L := by rw [ex]; simp
    have w1 := pf p hp
    have hbig : pre.flatten.length + p.length ≤ 8 := by
      rw [ex, List.flatten_append, List.length_append, List.flatten_cons, List.length_append] at flen
      omega
    have q1 := eq_nT p []
    rw [decide_eq_false (pne p hp).1] at q1
    have q1 : eqD (nT p) (.tuple []) = .ok (.bool false) := q1
    have q2 : neD (.list [nT p]) (.list [nT p]) = .ok (.bool false) := partsE_ne [p]
    have ad : addD (.list (pre.flatten.map fun n : Nat => PyData.int (n : Int))) (.list (p.map fun n : Nat => PyData.int (n : Int))) = .ok (.list ((pre ++ [p]).flatten.map fun n : Nat => PyData.int (n : Int))) := by
      rw [addD_l, if_pos (le_big6 (by rw [List.length_map, List.length_map]; omega)), List.flatten_append, List.map_append]
      simp
    have ls : listD [nT p] = .ok (.list (p.map fun n : Nat => PyData.int (n : Int))) := rfl
    simp only [tg1, setN_eq, wp_ok, List.set_cons_succ, List.set_cons_zero, x_Ss_den_cons, x_Ss_den_nil]
    generalize (pre ++ [p]).flatten.map (fun n : Nat => PyData.int (n : Int)) = L2 at *
    generalize pre.flatten.map (fun n : Nat => PyData.int (n : Int)) = L1 at *
    refine wp_cut0 (R := fun ρ => ρ = [x0, some pg, some (nT (List.range P.length)), x3, x4, x5, none, some (.list (L.map nT)), some (.list L2), some (nT p), x10, x11, x12, x13, x14, x15, x16, x17, x18]) ?_ fun ρ1 h => ?_
    · simp [ls, ad, -addD_l]
    subst h
    refine wp_skip ?_ ?_
    · simp [q1, h33, w1, q2, blD]
    exact ⟨_, rfl⟩
  obtain ⟨y9, rfl⟩ := h
  have st : sortedA [.list (L.flatten.map fun n : Nat => PyData.int (n : Int))] = .ok (.list ((List.range P.length).map fun n : Nat => PyData.int (n : Int))) := by
    show (match intsO (L.flatten.map fun n : Nat => PyData.int (n : Int)) with | some ns => if ns.length < 64 then _ else _ | none => _) = _
    rw [intsO_nat]
    show (if _ then _ else _) = _
    rw [if_pos (by rw [List.length_map]; omega)]
    have e : srtI (L.flatten.map fun x : Nat => (x : Int)) = (List.range P.length).map fun x : Nat => (x : Int) := by
      have nd : (L.flatten.map fun x : Nat => (x : Int)).Nodup := by
        have nd := pperm.nodup_iff.mpr (List.nodup_range (n := P.length))
        exact List.pairwise_map.mpr (List.Pairwise.imp (fun h e => h (by omega)) nd)
      have p1 := (srtI_perm (L.flatten.map fun x : Nat => (x : Int))).trans (pperm.map fun x : Nat => (x : Int))
      exact p1.eq_of_pairwise (fun a b _ _ h1 h2 => by omega) (srt_lt nd) (List.pairwise_map.mpr (List.pairwise_lt_range.imp fun h => by omega))
    rw [e, List.map_map]
    rfl
  refine wp_skip ?_ ?_
  · have ls : listD [nT (List.range P.length)] = .ok (.list ((List.range P.length).map fun n : Nat => PyData.int (n : Int))) := rfl
    have q := neD_e (α := List Nat) (by decide) (List.range P.length) (List.range P.length)
    rw [decide_eq_true rfl] at q
    have q : neD (.list ((List.range P.length).map fun n : Nat => PyData.int (n : Int))) (.list ((List.range P.length).map fun n : Nat => PyData.int (n : Int))) = .ok (.bool false) := q
    generalize (List.range P.length).map (fun n : Nat => PyData.int (n : Int)) = RL at *
    generalize L.flatten.map (fun n : Nat => PyData.int (n : Int)) = L3 at *
    simp [st, ls, q, blD]
  simp only [wp_seq, x_S_den_for, forS_eq, wp_bind]
  have zd : zipD [.list (L.map nT), .list ((L.map nT).drop 1)] = .ok ((L.zip (L.drop 1)).map fun p => PyData.tuple [nT p.1, nT p.2]) := by
    show (if _ then _ else _) = _
    rw [if_pos (le_big6 (by rw [List.length_map]; omega)), ← List.map_drop, zip_map2]
  have sl : slD (some 1) none (.list (L.map nT)) = .ok (.list ((L.map nT).drop 1)) := by
    have := cut_from (L.map nT) 1
    show Rs.ok (PyData.list (cutD _ (some 1) none)) = _
    rw [show (1 : Int) = ((1 : Nat) : Int) from rfl, this]
  refine Wp.of (a := (L.zip (L.drop 1)).map fun p => PyData.tuple [nT p.1, nT p.2]) (by
    generalize PyData.list (L.map nT) = A at *
    generalize PyData.list ((L.map nT).drop 1) = B at *
    simp [zipE, sl, zd]) ?_
  have zm : ∀ pq ∈ L.zip (L.drop 1), pq.1 ∈ L ∧ pq.2 ∈ L ∧ ∀ b ∈ pq.1, ∀ a ∈ pq.2, hiN P w b ≤ loN P w a := fun pq hpq => by
    obtain ⟨i, hi, e⟩ := List.mem_iff_getElem.mp hpq
    rw [List.length_zip, List.length_drop] at hi
    rw [List.getElem_zip, List.getElem_drop] at e
    subst e
    refine ⟨List.getElem_mem _, List.getElem_mem _, ?_⟩
    exact List.pairwise_iff_getElem.mp papart i (1 + i) (by omega) (by omega) (by omega)
  refine wp_forL (g := fun p : List Nat × List Nat => PyData.tuple [nT p.1, nT p.2]) (L.zip (L.drop 1)) (fun _ _ ρ => ∃ y10 y11, ρ = [x0, some pg, some (nT (List.range P.length)), x3, x4, x5, none, some (.list (L.map nT)), some (.list (L.flatten.map fun n : Nat => PyData.int (n : Int))), y9, y10, y11, x12, x13, x14, x15, x16, x17, x18]) _ ⟨_, _, rfl⟩ (fun pre p rest ex ρ h => ?_) fun ρ h => ?_
  · obtain ⟨y10, y11, rfl⟩ := h
    obtain ⟨m1, m2, hap⟩ := zm p (by rw [ex]; simp)
    obtain ⟨p, q⟩ := p
    have i1 := pin p m1
    have i2 := pin q m2
    have hap : ∀ b ∈ p, ∀ a ∈ q, hiN P w b ≤ loN P w a := hap
    refine Wp.of (a := [x0, some pg, some (nT (List.range P.length)), x3, x4, x5, none, some (.list (L.map nT)), some (.list (L.flatten.map fun n : Nat => PyData.int (n : Int))), y9, some (nT p), some (nT q), x12, x13, x14, x15, x16, x17, x18]) (by simp) ?_
    generalize PyData.list (L.map nT) = A at *
    generalize PyData.list (L.flatten.map fun n : Nat => PyData.int (n : Int)) = B at *
    have s0 : ∀ N : List Nat, seqD (nT N) = .ok (N.map fun n : Nat => PyData.int (n : Int)) := fun N => rfl
    have n0 : neD (.list []) (.list []) = .ok (.bool false) := neD_e (α := List Int) (by decide) [] []
    have inner : ∀ a ∈ q, ∀ y17 y18 : Option D, compL (setN 18) (tstE (appE d8 (consArg (vaR 1) (consArg (vaR 17) (consArg (vaR 18) noArg))))) (vaR 18) [x0, some pg, some (nT (List.range P.length)), x3, x4, x5, none, some A, some B, y9, some (nT p), some (nT q), x12, x13, x14, x15, x16, some (.int (a : Int)), y18] (p.map fun n : Nat => PyData.int (n : Int)) = .ok [] := fun a ha y17 y18 => by
      have := compL_map (st := setN 18) (t := tstE (appE d8 (consArg (vaR 1) (consArg (vaR 17) (consArg (vaR 18) noArg))))) (f := vaR 18) (g := fun n : Nat => PyData.int (n : Int)) (p := fun _ => false) (h := fun n : Nat => PyData.int (n : Int)) (ρ := [x0, some pg, some (nT (List.range P.length)), x3, x4, x5, none, some A, some B, y9, some (nT p), some (nT q), x12, x13, x14, x15, x16, some (.int (a : Int)), y18]) p fun b hb => by
        have := isb a b (i2 a ha) (i1 b hb) (hap b hb a ha)
        simp [this, blD]
      rw [this, List.filter_eq_nil_iff.mpr (by simp)]
      rfl
    have outer : compL (setN 17) (tstE (bi neD (compE [18] (seqE (vaR 10)) (setN 18) (tstE (appE d8 (consArg (vaR 1) (consArg (vaR 17) (consArg (vaR 18) noArg))))) (vaR 18)) (lstA noArg))) (vaR 17) [x0, some pg, some (nT (List.range P.length)), x3, x4, x5, none, some A, some B, y9, some (nT p), some (nT q), x12, x13, x14, x15, x16, none, x18] (q.map fun n : Nat => PyData.int (n : Int)) = .ok [] := by
      have := compL_map (st := setN 17) (t := tstE (bi neD (compE [18] (seqE (vaR 10)) (setN 18) (tstE (appE d8 (consArg (vaR 1) (consArg (vaR 17) (consArg (vaR 18) noArg))))) (vaR 18)) (lstA noArg))) (f := vaR 17) (g := fun n : Nat => PyData.int (n : Int)) (p := fun _ => false) (h := fun n : Nat => PyData.int (n : Int)) (ρ := [x0, some pg, some (nT (List.range P.length)), x3, x4, x5, none, some A, some B, y9, some (nT p), some (nT q), x12, x13, x14, x15, x16, none, x18]) q fun a ha => by
        have := inner a ha none none
        simp [s0, this, Rs.noexc, n0, blD]
      rw [this, List.filter_eq_nil_iff.mpr (by simp)]
      rfl
    simp only [x_Ss_den_cons, x_Ss_den_nil]
    refine wp_skip ?_ ?_
    · simp [s0, h8, Rs.noexc]
      simp [outer, n0, blD]
    exact ⟨_, _, rfl⟩
  · obtain ⟨y10, y11, rfl⟩ := h
    exact ⟨_, _, _, _, _, _, _, rfl⟩
end K15
namespace K15
open PySem PySem.Spec Den
theorem math (ns : List Int) (hlen : ns.length ≤ 63) : dLaw [.list (ns.map PyData.int)] = .ok (.bool true) := by
  obtain ⟨P, hPg, hS, hl⟩ := v14 ns hlen 10 8 (by decide) (by decide)
  have hPg' : d31 [intsD ns, .int 10, .int 8] = _ := hPg
  have ok := hS.page hl
  have hP := Good.of hS
  have e31 : tbl ds33 31 = d31 := rfl
  have e17 : tbl ds33 17 = d17 := rfl
  have e18 : tbl ds33 18 = d18 := rfl
  have e19 : tbl ds33 19 = d19 := rfl
  have e20 : tbl ds33 20 = d20 := rfl
  have e24 : tbl ds33 24 = d24 := rfl
  have e28 : tbl ds33 28 = d28 := rfl
  have e29 : tbl ds33 29 = d29 := rfl
  have e13 : tbl ds33 13 = d13 := rfl
  have e14 : tbl ds33 14 = d14 := rfl
  have e32 : tbl ds33 32 = d32 := rfl
  have w13 := c13 hP ok
  have w14 := c14 hP ok
  have w15 := c15 hP ok
  have w16 := c16 hP ok
  have wst := w_stuckL hS hl
  have hS2 := turn_sheet hS
  have hl2 : (turn P).length = P.length := by unfold turn; simp
  have ok2 := hS2.page (by omega)
  have hP2 := Good.of hS2
  have t13 := c13 hP2 ok2
  have t14 := c14 hP2 ok2
  rw [hl2, turn_read (by omega)] at t13
  rw [hl2, turn_read (by omega)] at t14
  have t13 : d17 [.tuple ((turn P).map pD)] = .ok (ordD' (readM P 0 12 (List.range P.length))) := t13
  have t14 : d18 [.tuple ((turn P).map pD)] = .ok (ordD' (readM P 1 12 (List.range P.length))) := t14
  rw [ordD_o] at w13 w14 t13 t14
  have hcu := cu_iff hP hl
  have r1 := read_rows hP hl (w := 1) (by omega)
  have r0 := read_rows hP hl (w := 0) (by omega)
  obtain ⟨cu, hcuE⟩ : ∃ cu : Bool, decide ((readM P 1 12 (List.range P.length)).2 = none) = cu := ⟨_, rfl⟩
  have a1 : decide (ordO (readM P 1 12 (List.range P.length)) = none) = !cu := by
    unfold ordO
    by_cases h : (readM P 1 12 (List.range P.length)).2 = none
    · rw [if_pos h, ← hcuE, decide_eq_true h]; rfl
    · rw [if_neg h, ← hcuE, decide_eq_false h]; rfl
  have a0 : decide (ordO (readM P 0 12 (List.range P.length)) = none) = !cu := by
    unfold ordO
    by_cases h : (readM P 1 12 (List.range P.length)).2 = none
    · rw [if_pos (hcu.mpr h), ← hcuE, decide_eq_true h]; rfl
    · rw [if_neg (fun z => h (hcu.mp z)), ← hcuE, decide_eq_false h]; rfl
  have b1 : cu = true → ∃ r, ordO (readM P 1 12 (List.range P.length)) = some r ∧ r ∈ Od.rows (befI P) P.length := fun hc => by
    rw [← hcuE, decide_eq_true_eq] at hc
    unfold ordO
    rw [if_pos hc]
    exact ⟨_, rfl, r1 hc⟩
  have b0 : cu = true → ∃ r, ordO (readM P 0 12 (List.range P.length)) = some r ∧ r ∈ Od.rows (befI P) P.length := fun hc => by
    rw [← hcuE, decide_eq_true_eq] at hc
    unfold ordO
    rw [if_pos (hcu.mpr hc)]
    exact ⟨_, rfl, r0 (hcu.mpr hc)⟩
  rw [hcuE] at w16
  have is19 := isnn (readM P 1 12 (List.range P.length)).2
  rw [hcuE] at is19
  have is1 := isn (ordO (readM P 1 12 (List.range P.length)))
  have is0 := isn (ordO (readM P 0 12 (List.range P.length)))
  have in1 := isnn (ordO (readM P 1 12 (List.range P.length)))
  rw [a1] at is1 in1
  rw [a0] at is0
  rw [Bool.not_not] at in1
  have nb : ∀ b : Bool, neD (.bool b) (.bool b) = .ok (.bool false) := fun b => by rw [neB, decide_eq_true rfl]; rfl
  have d1 : isD true (.bool true) (.bool true) = .ok (.bool false) := rfl
  have wcr : ∀ r, r ∈ Od.rows (befI P) P.length → d24 [.tuple (P.map pD), nT r] = .ok (.bool true) := fun r hr => by
    have h := w_fits (l := r) ok (by have := (Od.mem_rows.mp hr).2; omega)
    rw [show fitB P r = true from decide_eq_true hr] at h
    exact w_can_read ok h
  have n11 := optD_ne (ordO (readM P 1 12 (List.range P.length))) (ordO (readM P 1 12 (List.range P.length)))
  have n00 := optD_ne (ordO (readM P 0 12 (List.range P.length))) (ordO (readM P 0 12 (List.range P.length)))
  rw [decide_eq_true rfl] at n11 n00
  have wsu := w_is_sure ok
  obtain ⟨o, ho, wf⟩ := w_first ok
  have c1 : cu = true → d24 [.tuple (P.map pD), optD (ordO (readM P 1 12 (List.range P.length)))] = .ok (.bool true) := fun hc => by
    obtain ⟨r, e, hr⟩ := b1 hc
    rw [e]; exact wcr r hr
  have c0 : cu = true → d24 [.tuple (P.map pD), optD (ordO (readM P 0 12 (List.range P.length)))] = .ok (.bool true) := fun hc => by
    obtain ⟨r, e, hr⟩ := b0 hc
    rw [e]; exact wcr r hr
  have one : nRows P = 1 → ∀ r, r ∈ Od.rows (befI P) P.length → r = o := fun h1 r hr => by
    have h1 : (Od.rows (befI P) P.length).length = 1 := h1
    obtain ⟨a, e⟩ := List.length_eq_one_iff.mp h1
    rw [e] at hr ho
    have h2 := List.mem_singleton.mp hr
    simp at ho
    rw [h2, ho]
  have s1 : cu = true → nRows P = 1 → neD (optD (ordO (readM P 1 12 (List.range P.length)))) (nT o) = .ok (.bool false) ∧ neD (optD (ordO (readM P 0 12 (List.range P.length)))) (optD (ordO (readM P 1 12 (List.range P.length)))) = .ok (.bool false) := fun hc h1 => by
    obtain ⟨r, e, hr⟩ := b1 hc
    obtain ⟨q, f, hq⟩ := b0 hc
    rw [e, f, one h1 r hr, one h1 q hq]
    have := nT_ne o o
    rw [decide_eq_true rfl] at this
    exact ⟨this, this⟩
  have p13 : ∀ N : List Nat, N ≠ [] → (∀ n ∈ N, n < P.length) → ascB N = true → N.length ≤ 8 → d13 [.tuple (P.map pD), nT N] = .ok (.list ((partsL P 1 N).map nT)) := fun N h0 hN ha hl => c9 hP ok h0 hN ha hl
  have p14 : ∀ N : List Nat, N ≠ [] → (∀ n ∈ N, n < P.length) → ascB N = true → N.length ≤ 8 → d14 [.tuple (P.map pD), nT N] = .ok (.list ((partsL P 0 N).map nT)) := fun N h0 hN ha hl => c10 hP ok h0 hN ha hl
  have hr : ∀ n ∈ List.range P.length, n < P.length := fun n hn => List.mem_range.mp hn
  have hasc : ascB (List.range P.length) = true := asc_sub (List.Sublist.refl _)
  have q14 : List.range P.length ≠ [] → d14 [.tuple ((turn P).map pD), nT (List.range P.length)] = .ok (.list ((partsL P 1 (List.range P.length)).map nT)) := fun h0 => by
    have := c10 hP2 ok2 (N := List.range P.length) h0 (fun n hn => by rw [hl2]; exact hr n hn) hasc (by rw [List.length_range]; omega)
    rw [turn_parts (by omega)] at this
    exact this
  have pne := partsE_ne (partsL P 1 (List.range P.length))
  have lenP : lenD [.tuple (P.map pD)] = .ok (.int (P.length : Int)) := by simp
  have turnC : ∀ x1 x2 x3 x4 : Option D, compL (setT [13, 14, 15, 16]) (fun _ => Rs.ok true) (tupA (consArg (vaR 14) (consArg (vaR 13) (consArg (vaR 16) (consArg (vaR 15) noArg))))) [some (intsD ns), x1, x2, x3, x4, none, none, none, none, none, none, none, none, none, none, none, none, none, none] (P.map pD) = .ok ((turn P).map pD) := fun x1 x2 x3 x4 => by
    unfold turn
    rw [List.map_map]
    refine compL_all _ fun p hp => ?_
    simp [pD, tp]
  have seqP : seqD (.tuple (P.map pD)) = .ok (P.map pD) := rfl
  have loop1 := fun (x0 x3 x4 x5 x7 x8 x9 x10 x11 x12 x13 x14 x15 x16 x17 x18 : Option D) (h0 : P.length ≠ 0) => w_loop hP ok (w := 1) (by omega) p13 (T := tbX (tbl ds33) 33 13) rfl rfl h0 x0 x3 x4 x5 x7 x8 x9 x10 x11 x12 x13 x14 x15 x16 x17 x18
  have loop0 := fun (x0 x3 x4 x5 x7 x8 x9 x10 x11 x12 x13 x14 x15 x16 x17 x18 : Option D) (h0 : P.length ≠ 0) => w_loop hP ok (w := 0) (by omega) p14 (T := tbX (tbl ds33) 33 14) rfl rfl h0 x0 x3 x4 x5 x7 x8 x9 x10 x11 x12 x13 x14 x15 x16 x17 x18
  generalize optD (ordO (readM P 1 12 (List.range P.length))) = A at *
  generalize optD (ordO (readM P 0 12 (List.range P.length))) = B at *
  generalize optD (readM P 1 12 (List.range P.length)).2 = S at *
  generalize htn : PyData.tuple ((turn P).map pD) = tn at *
  have p13r := fun h0 => p13 (List.range P.length) h0 hr hasc (by rw [List.length_range]; omega)
  clear p13 p14 hPg r1 r0 a1 a0 b1 b0 wcr one
  generalize hpg : PyData.tuple (P.map pD) = pg at *
  refine Wp.eq (wp_def rfl ?_)
  simp only [s33, x_Ss_den_cons, x_Ss_den_nil]
  refine wp_cut0 (R := fun ρ => ρ = [some (intsD ns), some pg, none, none, none, none, none, none, none, none, none, none, none, none, none, none, none, none, none]) ?_ fun ρ1 h => ?_
  · simp [startD, e31]
    rw [show PyData.list (ns.map PyData.int) = intsD ns from rfl, hPg']
    simp
  subst h
  have hb : -(1000000 : Int) ≤ (P.length : Int) ∧ (P.length : Int) ≤ 1000000 := by omega
  have hrr : rngD 0 P.length = (List.range P.length).map fun i : Nat => PyData.int (i : Int) := rng0_map _
  have hnT : PyData.tuple ((List.range P.length).map fun i : Nat => PyData.int (i : Int)) = nT (List.range P.length) := rfl
  refine wp_cut0 (R := fun ρ => ρ = [some (intsD ns), some pg, some (nT (List.range P.length)), none, none, none, none, none, none, none, none, none, none, none, none, none, none, none, none]) ?_ fun ρ1 h => ?_
  · simp [lenP, tupI, hb, hrr, hnT]
  subst h
  refine wp_cut0 (R := fun ρ => ρ = [some (intsD ns), some pg, some (nT (List.range P.length)), some A, some B, none, none, none, none, none, none, none, none, none, none, none, none, none, none]) ?_ fun ρ1 h => ?_
  · simp [e17, w13, e18, w14]
  subst h
  refine wp_skip ?_ ?_
  · have := nb (!cu)
    simp [is1, is0, e20, w16, this, blD]
  refine wp_skip ?_ ?_
  · have := nb (!cu)
    simp [is1, e19, w15, is19, this, blD]
  refine wp_skip ?_ ?_
  · cases cu with
    | false => simp [in1, blD]
    | true => simp [in1, e24, c1 rfl, d1, blD]
  refine wp_skip ?_ ?_
  · cases cu with
    | false => simp [in1, blD]
    | true => simp [in1, e24, c0 rfl, d1, blD]
  refine wp_skip ?_ ?_
  · cases cu with
    | false => simp [in1, blD]
    | true =>
      by_cases h1 : nRows P = 1
      · rw [decide_eq_true h1] at wsu
        obtain ⟨z1, z2⟩ := s1 rfl h1
        simp [in1, e29, wsu, e28, wf, z1, z2, blD]
      · rw [decide_eq_false h1] at wsu
        simp [in1, e29, wsu, blD]
  refine wp_cut0 (R := fun ρ => ρ = [some (intsD ns), some pg, some (nT (List.range P.length)), some A, some B, some tn, none, none, none, none, none, none, none, none, none, none, none, none, none]) ?_ fun ρ1 h => ?_
  · simp [seqP, Rs.noexc]
    rw [turnC]
    simp [tupleD, htn]
  subst h
  have n11 : neD A A = .ok (.bool false) := n11
  have n00 : neD B B = .ok (.bool false) := n00
  refine wp_skip ?_ ?_
  · simp [e17, t13, n00, e18, t14, n11, blD]
  have nw := nT_ne (List.range P.length) []
  have nw : neD (nT (List.range P.length)) (.tuple []) = .ok (.bool (!decide (List.range P.length = []))) := nw
  refine wp_cut0 (R := fun ρ => ∃ y7 y8 y9 y10 y11 y12 y17 y18, ρ = [some (intsD ns), some pg, some (nT (List.range P.length)), some A, some B, some tn, none, y7, y8, y9, y10, y11, y12, none, none, none, none, y17, y18]) ?_ fun ρ1 h => ?_
  · by_cases h0 : List.range P.length = []
    · rw [decide_eq_true h0] at nw
      refine wp_if false (by simp [nw, blD]) ?_
      rw [if_neg (by decide)]
      exact ⟨_, _, _, _, _, _, _, _, rfl⟩
    rw [decide_eq_false h0] at nw
    have hl0 : P.length ≠ 0 := fun e => h0 (by rw [e]; rfl)
    refine wp_if true (by simp [nw, blD]) ?_
    rw [if_pos rfl]
    simp only [x_Ss_den_cons, x_Ss_den_nil]
    refine wp_cut0 (R := fun ρ => ∃ y7 y8 y9 y10 y11 y17 y18, ρ = [some (intsD ns), some pg, some (nT (List.range P.length)), some A, some B, some tn, none, y7, y8, y9, y10, y11, none, none, none, none, none, y17, y18]) ?_ fun ρ1 h => ?_
    · rw [x_S_den_forF]
      refine wp_forF (by simp) ?_
      refine (loop1 (some (intsD ns)) (some A) (some B) (some tn) none none none none none none none none none none none none hl0).imp fun p hp => ?_
      obtain ⟨y7, y8, y9, y10, y11, y17, y18, rfl⟩ := hp
      refine wp_forF (by simp) ?_
      refine (loop0 (some (intsD ns)) (some A) (some B) (some tn) y7 y8 y9 y10 y11 none none none none none y17 y18 hl0).imp fun p hp => ?_
      obtain ⟨z7, z8, z9, z10, z11, z17, z18, rfl⟩ := hp
      exact ⟨_, _, _, _, _, _, _, rfl⟩
    obtain ⟨y7, y8, y9, y10, y11, y17, y18, rfl⟩ := h
    have q14 := q14 h0
    have p13r := p13r h0
    generalize hTP : PyData.list ((partsL P 1 (List.range P.length)).map nT) = TP at *
    refine wp_cut0 (R := fun ρ => ρ = [some (intsD ns), some pg, some (nT (List.range P.length)), some A, some B, some tn, none, y7, y8, y9, y10, y11, some TP, none, none, none, none, y17, y18]) ?_ fun ρ1 h => ?_
    · simp [e14, q14]
    subst h
    refine wp_skip ?_ ?_
    · simp [e13, p13r, pne, blD]
    exact ⟨_, _, _, _, _, _, _, _, rfl⟩
  obtain ⟨y7, y8, y9, y10, y11, y12, y17, y18, rfl⟩ := h
  simp [e32, wst]
end K15
namespace K15
open PySem PySem.Spec PyProof.Rows L2 Den
theorem run (w : World) : HandSHeadRun.RunEq R (PySem.W.view R.prog [place]) hk ob 2600 loose w := by
  intro os
  kernel_rfl
end K15
open PySem PySem.W PySem.Calls PyProof.Rows
theorem PySem.Challenge.cw_panelorder_k15_whole_cutting_holds : PySem.Challenge.rw_panelorder_k15_whole_cutting.Holds := by
  w_on; o_law
  refine HandSHeadRun.head_any (r := OpenLaw.row PySem.Challenge.rw_panelorder_k15_whole_cutting) (q := view (OpenLaw.row PySem.Challenge.rw_panelorder_k15_whole_cutting).prog [K15.place]) (H := K15.hk) (ob := K15.ob) (M := 2600) (loose := K15.loose) (d := HandSHeadRun.topDef (OpenLaw.row PySem.Challenge.rw_panelorder_k15_whole_cutting).prog K15.place) (kwd := []) K15.ob_eq
    (by kernel_rfl) (fun s => by kernel_rfl) K15.run (by kernel_rfl) (by kernel_rfl) (by kernel_rfl) (by rfl) (by first | assumption | decide +kernel) (by decide +kernel) ⟨rfl, rfl, rfl, rfl, rfl, by decide +kernel⟩ ?hw ?hc
  case hw => w_witness2
  case hc =>
    refine Den.walk_ofQ (l := PySem.Challenge.rw_panelorder_k15_whole_cutting) (n := 63) (k := K15.K0) (x := "_law_script") (CX := fun w => L2.CX (PySem.Challenge.rw_panelorder_k15_whole_cutting).prog w) rfl (by decide) (by kernel_rfl) ⟨rfl, by decide, by decide⟩ ?F (fun w H s e s' h => Den.cx_no H s e s' h)
    intro w mg fa h Y G hmg0
    obtain ⟨K, KX, c, cx⟩ := Y
    have hmg : mg ("law" : PySem.Str) = some (.ref fa) := by
      have e : (HandSHeadRun.topDef (OpenLaw.row PySem.Challenge.rw_panelorder_k15_whole_cutting).prog K15.place).name = ("law" : PySem.Str) := by kernel_rfl
      rw [← e]
      exact hmg0
    have M := Den.mods_of KX G c cx rfl
    obtain ⟨fd, F⟩ := c.def_ 33 (d := K15.D33) rfl
    have e := hmg.symm.trans (He.glo_ok KX G (c.fact 33 (f := .glo "law") rfl))
    cases e
    have b := L2.FunD.bindsA (ps := ["_law_script"]) F fun _ _ _ _ _ _ us hl => match us, hl with | [_], _ => rfl
    refine ⟨K, fd, Den.spD K (Den.clE K K15.exs) 1 K15.dLaw, KX, fun s v => b s [v] rfl, fun H a ns hl hb hS => Den.law_pre (K15.math ns hl) hS, fun base _ _ => ?_⟩
    exact Den.def_ok (S := K15.g33) F K15.sc33 K15.py33 K15.ok33 rfl rfl rfl rfl rfl M (K15.all33 KX G c M).at_
