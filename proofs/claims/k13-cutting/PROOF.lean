import PyProof.Rows.All
import HandS.ForMost
import HandS.ForExc
import HandS.TupAny
import HandS.Deep
import HandS.Style
import HandS.Zip
import HandS.Conv
import HandS.IsInst
import HandS.Wide
import HandS.Flow
import HandS.TupMul
import KE.GoesMore
import HandS.ExcIs
import HandS.SetFor
import HandS.Strs
import HandS.Defaults
import HandS.Head0
import HandS.Head1
import HandS.Head2
import HandS.HeadEnd
import HandS.HeadHook1
import HandS.HeadHook2
import HandS.EndBits
import PySem.Challenge.RW_panelorder_k13_cutting
set_option Elab.async false
set_option linter.all false
set_option maxRecDepth 100000
set_option maxHeartbeats 8000000
namespace Den
open PySem PySem.Spec PyProof.Rows L2
abbrev D := PyData
inductive Rs (α : Type) where
  | ok (a : α) | exc (c : Nat) | stuck
def Rs.bind {α β : Type} (r : Rs α) (f : α → Rs β) : Rs β :=
  match r with
  | .ok a => f a
  | .exc c => .exc c
  | .stuck => .stuck
instance : Monad Rs where
  pure := .ok
  bind := Rs.bind
@[simp] theorem Rs.ok_bind {α β : Type} (a : α) (f : α → Rs β) : (Rs.ok a >>= f) = f a := rfl
@[simp] theorem Rs.exc_bind {α β : Type} (c : Nat) (f : α → Rs β) : (Rs.exc c >>= f) = .exc c := rfl
@[simp] theorem Rs.stuck_bind {α β : Type} (f : α → Rs β) : ((Rs.stuck : Rs α) >>= f) = .stuck := rfl
@[simp] theorem Rs.pure_eq {α : Type} (a : α) : (pure a : Rs α) = .ok a := rfl
def Rs.noexc {α : Type} : Rs α → Rs α
  | .ok a => .ok a
  | _ => .stuck
@[simp] theorem Rs.noexc_ok {α : Type} (a : α) : (Rs.ok a).noexc = .ok a := rfl
mutual
def At (K : W.Frag) (H : Hp) (O : Addr → Prop) : D → V → Prop
  | .none, v => v = .non
  | .bool b, v => v = .bl b
  | .int i, v => v = .int i
  | .str x, v => v = .str x
  | .list ds, v => ∃ a vs, v = .ref a ∧ SqL K H a vs ∧ ¬ O a ∧ AtL K H O ds vs
  | .tuple ds, v => ∃ a vs, v = .ref a ∧ SqT K H a vs ∧ ¬ O a ∧ AtL K H O ds vs
  | .dict _, _ => False
def AtL (K : W.Frag) (H : Hp) (O : Addr → Prop) : List D → List V → Prop
  | [], vs => vs = []
  | d :: ds, vs => ∃ v r, vs = v :: r ∧ At K H O d v ∧ AtL K H O ds r
end
def Kp (O : Addr → Prop) (H H' : Hp) : Prop := ∀ b o, H b = some o → ¬ O b → H' b = some o
def KF (K : W.Frag) (H : Hp) : Prop := ∀ b o, K.lookup b = some o → H b = none
theorem Kp.of_same {O : Addr → Prop} {H H' : Hp} (s : Same H H') : Kp O H H' := fun b o e _ => s b o e
theorem sqL_kp {K : W.Frag} {O : Addr → Prop} {H H' : Hp} {a : Addr} {vs : List V} (k : Kp O H H') (n : ¬ O a) (h : SqL K H a vs) : SqL K H' a vs := by
  rcases h with (h | ⟨o, h⟩) | h
  · exact .inl (.inl (k _ _ h n))
  · exact .inl (.inr ⟨o, k _ _ h n⟩)
  · exact .inr h
theorem sqT_kp {K : W.Frag} {O : Addr → Prop} {H H' : Hp} {a : Addr} {vs : List V} (k : Kp O H H') (n : ¬ O a) (h : SqT K H a vs) : SqT K H' a vs := by
  rcases h with (h | ⟨o, h⟩) | h
  · exact .inl (.inl (k _ _ h n))
  · exact .inl (.inr ⟨o, k _ _ h n⟩)
  · exact .inr h
mutual
theorem At.keep {K : W.Frag} {O : Addr → Prop} {H H' : Hp} (k : Kp O H H') : ∀ {d : D} {v : V}, At K H O d v → At K H' O d v
  | .none, _, h => h
  | .bool _, _, h => h
  | .int _, _, h => h
  | .str _, _, h => h
  | .list _, _, h => by
    obtain ⟨a, vs, e, h1, h2, h3⟩ := h
    exact ⟨a, vs, e, sqL_kp k h2 h1, h2, AtL.keep k h3⟩
  | .tuple _, _, h => by
    obtain ⟨a, vs, e, h1, h2, h3⟩ := h
    exact ⟨a, vs, e, sqT_kp k h2 h1, h2, AtL.keep k h3⟩
  | .dict _, _, h => h.elim
theorem AtL.keep {K : W.Frag} {O : Addr → Prop} {H H' : Hp} (k : Kp O H H') : ∀ {ds : List D} {vs : List V}, AtL K H O ds vs → AtL K H' O ds vs
  | [], _, h => h
  | _ :: _, _, h => by
    obtain ⟨v, r, e, h1, h2⟩ := h
    exact ⟨v, r, e, At.keep k h1, AtL.keep k h2⟩
end
mutual
theorem At.less {K : W.Frag} {O O' : Addr → Prop} {H : Hp} (k : ∀ a, O' a → O a) : ∀ {d : D} {v : V}, At K H O d v → At K H O' d v
  | .none, _, h => h
  | .bool _, _, h => h
  | .int _, _, h => h
  | .str _, _, h => h
  | .list _, _, h => by
    obtain ⟨a, vs, e, h1, h2, h3⟩ := h
    exact ⟨a, vs, e, h1, fun z => h2 (k a z), AtL.less k h3⟩
  | .tuple _, _, h => by
    obtain ⟨a, vs, e, h1, h2, h3⟩ := h
    exact ⟨a, vs, e, h1, fun z => h2 (k a z), AtL.less k h3⟩
  | .dict _, _, h => h.elim
theorem AtL.less {K : W.Frag} {O O' : Addr → Prop} {H : Hp} (k : ∀ a, O' a → O a) : ∀ {ds : List D} {vs : List V}, AtL K H O ds vs → AtL K H O' ds vs
  | [], _, h => h
  | _ :: _, _, h => by
    obtain ⟨v, r, e, h1, h2⟩ := h
    exact ⟨v, r, e, At.less k h1, AtL.less k h2⟩
end
theorem sqL_there {K : W.Frag} {H : Hp} {a p : Addr} {vs : List V} (n : H p = none) (nk : K.lookup p = none) (h : SqL K H a vs) : a ≠ p := by
  rintro rfl
  rcases h with (h | ⟨o, h⟩) | ⟨o, _, _, h, _⟩
  · rw [n] at h; cases h
  · rw [n] at h; cases h
  · rw [nk] at h; cases h
theorem sqT_there {K : W.Frag} {H : Hp} {a p : Addr} {vs : List V} (n : H p = none) (nk : K.lookup p = none) (h : SqT K H a vs) : a ≠ p := by
  rintro rfl
  rcases h with (h | ⟨o, h⟩) | ⟨o, _, _, h, _⟩
  · rw [n] at h; cases h
  · rw [n] at h; cases h
  · rw [nk] at h; cases h
mutual
theorem At.grow {K : W.Frag} {O : Addr → Prop} {H : Hp} {p : Addr} (n : H p = none) (nk : K.lookup p = none) : ∀ {d : D} {v : V}, At K H O d v → At K H (fun a => O a ∨ a = p) d v
  | .none, _, h => h
  | .bool _, _, h => h
  | .int _, _, h => h
  | .str _, _, h => h
  | .list _, _, h => by
    obtain ⟨a, vs, e, h1, h2, h3⟩ := h
    exact ⟨a, vs, e, h1, fun z => z.elim h2 (sqL_there n nk h1), AtL.grow n nk h3⟩
  | .tuple _, _, h => by
    obtain ⟨a, vs, e, h1, h2, h3⟩ := h
    exact ⟨a, vs, e, h1, fun z => z.elim h2 (sqT_there n nk h1), AtL.grow n nk h3⟩
  | .dict _, _, h => h.elim
theorem AtL.grow {K : W.Frag} {O : Addr → Prop} {H : Hp} {p : Addr} (n : H p = none) (nk : K.lookup p = none) : ∀ {ds : List D} {vs : List V}, AtL K H O ds vs → AtL K H (fun a => O a ∨ a = p) ds vs
  | [], _, h => h
  | _ :: _, _, h => by
    obtain ⟨v, r, e, h1, h2⟩ := h
    exact ⟨v, r, e, At.grow n nk h1, AtL.grow n nk h2⟩
end
section
variable {K : W.Frag} {O : Addr → Prop} {H H' : Hp}
theorem AtL.length : ∀ {ds : List D} {vs : List V}, AtL K H O ds vs → vs.length = ds.length
  | [], _, h => by cases h; rfl
  | _ :: _, _, h => by
    obtain ⟨v, r, rfl, _, h2⟩ := h
    simp [AtL.length h2]
theorem AtL.append : ∀ {ds es : List D} {vs us : List V}, AtL K H O ds vs → AtL K H O es us → AtL K H O (ds ++ es) (vs ++ us)
  | [], _, _, _, h, g => by cases h; exact g
  | _ :: _, _, _, _, h, g => by
    obtain ⟨v, r, rfl, h1, h2⟩ := h
    exact ⟨v, _, rfl, h1, AtL.append h2 g⟩
theorem AtL.get : ∀ {ds : List D} {vs : List V} {i : Nat} {d : D}, AtL K H O ds vs → ds[i]? = some d → ∃ v, vs[i]? = some v ∧ At K H O d v
  | [], _, _, _, _, e => by simp at e
  | _ :: _, _, 0, _, h, e => by
    obtain ⟨v, r, rfl, h1, _⟩ := h
    simp at e; subst e
    exact ⟨v, rfl, h1⟩
  | _ :: _, _, i + 1, d, h, e => by
    obtain ⟨v, r, rfl, _, h2⟩ := h
    obtain ⟨u, e1, e2⟩ := AtL.get (i := i) h2 (by simpa using e)
    exact ⟨u, by simpa using e1, e2⟩
theorem AtL.get' : ∀ {ds : List D} {vs : List V} {i : Nat} {v : V}, AtL K H O ds vs → vs[i]? = some v → ∃ d, ds[i]? = some d ∧ At K H O d v
  | [], _, _, _, h, e => by cases h; simp at e
  | d :: _, _, 0, _, h, e => by
    obtain ⟨v, r, rfl, h1, _⟩ := h
    simp at e; subst e
    exact ⟨d, rfl, h1⟩
  | _ :: _, _, i + 1, v, h, e => by
    obtain ⟨w, r, rfl, _, h2⟩ := h
    obtain ⟨u, e1, e2⟩ := AtL.get' (i := i) h2 (by simpa using e)
    exact ⟨u, by simpa using e1, e2⟩
theorem AtL.take : ∀ {ds : List D} {vs : List V} (n : Nat), AtL K H O ds vs → AtL K H O (ds.take n) (vs.take n)
  | [], _, n, h => by cases h; simp [AtL]
  | _ :: _, _, 0, _ => by simp [AtL]
  | _ :: _, _, n + 1, h => by
    obtain ⟨v, r, rfl, h1, h2⟩ := h
    exact ⟨v, _, rfl, h1, AtL.take n h2⟩
theorem AtL.drop : ∀ {ds : List D} {vs : List V} (n : Nat), AtL K H O ds vs → AtL K H O (ds.drop n) (vs.drop n)
  | [], _, n, h => by cases h; simp [AtL]
  | _ :: _, _, 0, h => h
  | _ :: _, _, n + 1, h => by
    obtain ⟨v, r, rfl, _, h2⟩ := h
    exact AtL.drop n h2
theorem AtL.one {d : D} {v : V} (h : At K H O d v) : AtL K H O [d] [v] := ⟨v, [], rfl, h, rfl⟩
theorem AtL.reverse : ∀ {ds : List D} {vs : List V}, AtL K H O ds vs → AtL K H O ds.reverse vs.reverse
  | [], _, h => by cases h; simp [AtL]
  | _ :: _, _, h => by
    obtain ⟨v, r, rfl, h1, h2⟩ := h
    rw [List.reverse_cons, List.reverse_cons]
    exact (AtL.reverse h2).append (.one h1)
theorem At.same {d : D} {v : V} (s : Same H H') (h : At K H O d v) : At K H' O d v := h.keep (.of_same s)
theorem AtL.same {ds : List D} {vs : List V} (s : Same H H') (h : AtL K H O ds vs) : AtL K H' O ds vs := h.keep (.of_same s)
mutual
theorem At.dp : ∀ {d : D} {v : V}, At K H O d v → Dp K H v d
  | .none, _, h => by cases h; exact .non
  | .bool _, _, h => by cases h; exact .bl _
  | .int _, _, h => by cases h; exact .int _
  | .str _, _, h => by cases h; exact .str _
  | .list _, _, h => by
    obtain ⟨a, vs, rfl, h1, _, h3⟩ := h
    exact .lst h1 (AtL.dp h3)
  | .tuple _, _, h => by
    obtain ⟨a, vs, rfl, h1, _, h3⟩ := h
    exact .tup h1 (AtL.dp h3)
  | .dict _, _, h => h.elim
theorem AtL.dp : ∀ {ds : List D} {vs : List V}, AtL K H O ds vs → DpAll K H vs ds
  | [], _, h => by cases h; exact .nil
  | _ :: _, _, h => by
    obtain ⟨v, r, rfl, h1, h2⟩ := h
    exact .cons (At.dp h1) (AtL.dp h2)
end
theorem atL_ints : ∀ {ns : List Int} {vs : List V}, AtL K H O (ns.map PyData.int) vs → vs = ns.map V.int
  | [], _, h => h
  | n :: ns, _, h => by
    obtain ⟨v, r, rfl, h1, h2⟩ := h
    cases h1
    rw [atL_ints h2]; rfl
theorem atL_of_ints : ∀ (ns : List Int), AtL K H O (ns.map PyData.int) (ns.map V.int)
  | [] => rfl
  | n :: ns => ⟨_, _, rfl, rfl, atL_of_ints ns⟩
theorem atL_bls : ∀ {ns : List Bool} {vs : List V}, AtL K H O (ns.map PyData.bool) vs → vs = ns.map V.bl
  | [], _, h => h
  | n :: ns, _, h => by
    obtain ⟨v, r, rfl, h1, h2⟩ := h
    cases h1
    rw [atL_bls h2]; rfl
theorem atL_strs : ∀ {ns : List Str} {vs : List V}, AtL K H O (ns.map PyData.str) vs → vs = ns.map V.str
  | [], _, h => h
  | n :: ns, _, h => by
    obtain ⟨v, r, rfl, h1, h2⟩ := h
    cases h1
    rw [atL_strs h2]; rfl
end
def AtC (K : W.Frag) (H : Hp) (O : Addr → Prop) : D → V → Prop
  | .list ds, v => ∃ a vs, v = .ref a ∧ SqL K H a vs ∧ AtL K H O ds vs
  | d, v => At K H O d v
theorem At.c {K : W.Frag} {H : Hp} {O : Addr → Prop} : ∀ {d : D} {v : V}, At K H O d v → AtC K H O d v
  | .none, _, h => h
  | .bool _, _, h => h
  | .int _, _, h => h
  | .str _, _, h => h
  | .list _, _, h => by
    obtain ⟨a, vs, e, h1, _, h3⟩ := h
    exact ⟨a, vs, e, h1, h3⟩
  | .tuple _, _, h => h
  | .dict _, _, h => h.elim
theorem AtC.same {K : W.Frag} {H H' : Hp} {O : Addr → Prop} (s : Same H H') : ∀ {d : D} {v : V}, AtC K H O d v → AtC K H' O d v
  | .none, _, h => h
  | .bool _, _, h => h
  | .int _, _, h => h
  | .str _, _, h => h
  | .list _, _, h => by
    obtain ⟨a, vs, e, h1, h3⟩ := h
    exact ⟨a, vs, e, s.seq h1, h3.same s⟩
  | .tuple _, _, h => At.same s h
  | .dict _, _, h => h.elim
theorem AtC.dp {K : W.Frag} {H : Hp} {O : Addr → Prop} : ∀ {d : D} {v : V}, AtC K H O d v → Dp K H v d
  | .none, _, h => At.dp (O := O) (d := .none) h
  | .bool _, _, h => At.dp (O := O) (d := .bool _) h
  | .int _, _, h => At.dp (O := O) (d := .int _) h
  | .str _, _, h => At.dp (O := O) (d := .str _) h
  | .list _, _, h => by
    obtain ⟨a, vs, rfl, h1, h3⟩ := h
    exact .lst h1 (AtL.dp h3)
  | .tuple _, _, h => At.dp (d := .tuple _) h
  | .dict _, _, h => h.elim
abbrev Ro := List (Option D)
structure Gc where
  K : W.Frag
  O0 : Addr → Prop
  H0 : Hp
  own : Nat → Bool
  E : XK
  cl : Nat → Value
structure Rep (G : Gc) (O : Addr → Prop) (σ : L2.St) (H : Hp) (ρ : Ro) : Prop where
  base : Same G.H0 H
  sub : ∀ a, G.O0 a → O a
  trk : ∀ a, O a → ∃ o, H a = some o
  fre : ∀ a, O a → ¬ G.O0 a → G.H0 a = none
  len : ρ.length = σ.length
  slot : ∀ i d, ρ[i]? = some (some d) → G.own i = false → ∃ v, σ[i]? = some (some v) ∧ At G.K H O d v
  owns : ∀ i d, ρ[i]? = some (some d) → G.own i = true → ∃ a ds vs, d = .list ds ∧ σ[i]? = some (some (.ref a)) ∧ H a = some (.lst vs) ∧ AtL G.K H O ds vs ∧ O a ∧ ¬ G.O0 a
  dist : ∀ i j d e a, i ≠ j → G.own i = true → G.own j = true → ρ[i]? = some (some d) → ρ[j]? = some (some e) → σ[i]? = some (some (.ref a)) → σ[j]? = some (some (.ref a)) → False
theorem Rep.same {G : Gc} {O : Addr → Prop} {σ : L2.St} {H H' : Hp} {ρ : Ro} (R : Rep G O σ H ρ) (s : Same H H') : Rep G O σ H' ρ :=
  ⟨R.base.trans s, R.sub, fun a h => let ⟨o, e⟩ := R.trk a h; ⟨o, s _ _ e⟩, R.fre, R.len, fun i d e n => let ⟨v, e1, h⟩ := R.slot i d e n; ⟨v, e1, h.same s⟩,
    fun i d e n => let ⟨a, ds, vs, e1, e2, e3, h, h1, h2⟩ := R.owns i d e n; ⟨a, ds, vs, e1, e2, s _ _ e3, h.same s, h1, h2⟩, R.dist⟩
theorem Rep.var {G : Gc} {O : Addr → Prop} {σ : L2.St} {H : Hp} {ρ : Ro} (R : Rep G O σ H ρ) {i : Nat} {d : D} (e : ρ[i]? = some (some d)) : ∃ v, σ[i]? = some (some v) ∧ AtC G.K H O d v := by
  cases hw : G.own i with
  | false =>
    obtain ⟨v, e1, h⟩ := R.slot i d e hw
    exact ⟨v, e1, h.c⟩
  | true =>
    obtain ⟨a, ds, vs, rfl, e1, e2, h, _, _⟩ := R.owns i d e hw
    exact ⟨.ref a, e1, a, vs, rfl, .of e2, h⟩
abbrev DE := Ro → Rs D
def Post {α : Type} (G : Gc) (H : Hp) (r : Rs α) (Q : α → Prop) : Prop :=
  match r with
  | .ok a => Q a
  | .exc c => ∀ H', Same G.H0 H' → G.E (G.cl c) none H'
  | .stuck => False
theorem Post.bind {α β : Type} {G : Gc} {H : Hp} {r : Rs α} {f : α → Rs β} {Q : β → Prop} (h : Post G H (r >>= f) Q) : Post G H r fun a => Post G H (f a) Q := by
  cases r with
  | ok a => exact h
  | exc c => exact h
  | stuck => exact h
theorem Post.imp {α : Type} {G : Gc} {H H' : Hp} {r : Rs α} {Q Q' : α → Prop} (h : Post G H r Q) (k : ∀ a, r = .ok a → Q a → Q' a) : Post G H' r Q' := by
  cases r with
  | ok a => exact k a rfl h
  | exc c => exact h
  | stuck => exact h
def tS (G : Gc) (f : DE) : TE := fun σ H Q => KF G.K H → ∃ O ρ, Rep G O σ H ρ ∧ Post G H (f ρ) fun d => ∀ v H', Same H H' → KF G.K H' → At G.K H' O d v → Q v H'
def tW (G : Gc) (f : DE) : TE := fun σ H Q => KF G.K H → ∃ O ρ, Rep G O σ H ρ ∧ Post G H (f ρ) fun d => ∀ v H', Same H H' → KF G.K H' → AtC G.K H' O d v → Q v H'
def tF (G : Gc) (f : DE) : TE := fun σ H Q => KF G.K H → ∃ O ρ, Rep G O σ H ρ ∧ Post G H (f ρ) fun d => ∀ p ds vs H', d = .list ds → Same H H' → KF G.K H' → H p = none → H' p = some (.lst vs) → AtL G.K H' (fun a => O a ∨ a = p) ds vs → Q (.ref p) H'
def tTst (G : Gc) (f : Ro → Rs Bool) : TT := fun σ H Q => KF G.K H → ∃ O ρ, Rep G O σ H ρ ∧ Post G H (f ρ) fun b => ∀ H', Same H H' → KF G.K H' → Q b H'
def tArg (G : Gc) (f : Ro → Rs (List D)) : TA := fun σ H Q => KF G.K H → ∃ O ρ, Rep G O σ H ρ ∧ Post G H (f ρ) fun ds => ∀ vs H', Same H H' → KF G.K H' → AtL G.K H' O ds vs → Q vs H'
def AtCL (K : W.Frag) (H : Hp) (O : Addr → Prop) : List D → List V → Prop
  | [], vs => vs = []
  | d :: ds, vs => ∃ v r, vs = v :: r ∧ AtC K H O d v ∧ AtCL K H O ds r
theorem AtCL.same {K : W.Frag} {H H' : Hp} {O : Addr → Prop} (s : Same H H') : ∀ {ds : List D} {vs : List V}, AtCL K H O ds vs → AtCL K H' O ds vs
  | [], _, h => h
  | _ :: _, _, h => by
    obtain ⟨v, r, e, h1, h2⟩ := h
    exact ⟨v, r, e, h1.same s, AtCL.same s h2⟩
def tArgW (G : Gc) (f : Ro → Rs (List D)) : TA := fun σ H Q => KF G.K H → ∃ O ρ, Rep G O σ H ρ ∧ Post G H (f ρ) fun ds => ∀ vs H', Same H H' → KF G.K H' → AtCL G.K H' O ds vs → Q vs H'
section
variable {X : Cx} {G : Gc} {e : Expr} {f : DE}
theorem kf_inv {pins : List (Addr × Obj)} {σ : L2.St} {H : Hp} {s : Shared} (I : Inv X pins σ H s) : KF X.K H := fun b o e => (I.bs b o (I.mod.kin b o e)).2
theorem pe_imp {t t' : TE} (h : PE X e t) (hi : ∀ σ H Q, KF X.K H → t' σ H Q → t σ H fun v H' => KF X.K H' → Q v H') : PE X e t' :=
  ⟨fun pins s σ H Q I h' => thn (h.run pins s σ H _ I (hi σ H Q (kf_inv I) h')) fun u s1 ⟨v, H1, I1, r, q⟩ => ⟨v, H1, I1, r, q (kf_inv I1)⟩⟩
theorem pt_imp {t t' : TT} (h : PT X e t) (hi : ∀ σ H Q, KF X.K H → t' σ H Q → t σ H fun v H' => KF X.K H' → Q v H') : PT X e t' :=
  ⟨fun pins s σ H Q I h' => thn (h.run pins s σ H _ I (hi σ H Q (kf_inv I) h')) fun u s1 ⟨H1, I1, q⟩ => ⟨H1, I1, q (kf_inv I1)⟩⟩
theorem pa_imp {es : List Expr} {t t' : TA} (h : PA X es t) (hi : ∀ σ H Q, KF X.K H → t' σ H Q → t σ H fun v H' => KF X.K H' → Q v H') : PA X es t' :=
  ⟨fun pos pins s σ H Q I h' => thn (h.run pos pins s σ H _ I (hi σ H Q (kf_inv I) h')) fun u s1 ⟨v, H1, I1, r, q⟩ => ⟨v, H1, I1, r, q (kf_inv I1)⟩⟩
theorem ps_imp {st : Stmt} {t t' : TS} (h : PS X st t) (hi : ∀ D σ H, KF X.K H → t' D σ H → t D σ H) : PS X st t' :=
  ⟨fun pins s σ H D I h' => h.run pins s σ H D I (hi D σ H (kf_inv I) h')⟩
theorem pss_imp {st : List Stmt} {t t' : TS} (h : PSs X st t) (hi : ∀ D σ H, KF X.K H → t' D σ H → t D σ H) : PSs X st t' :=
  ⟨fun pins s σ H D I h' => h.run pins s σ H D I (hi D σ H (kf_inv I) h')⟩
theorem strong_weak (h : PE X e (tS G f)) : PE X e (tW G f) := pe_imp h fun σ H Q _ w k => by
  obtain ⟨O, ρ, R, p⟩ := w k
  exact ⟨O, ρ, R, p.imp fun d _ q v H' s k' a => fun _ => q v H' s k' a.c⟩
theorem fresh_strong (hK : X.K = G.K) (h : PE X e (tF G f)) (hl : ∀ ρ d, f ρ = .ok d → ∃ ds, d = .list ds) : PE X e (tS G f) := pe_imp h fun σ H Q _ w k => by
  obtain ⟨O, ρ, R, p⟩ := w k
  refine ⟨O, ρ, R, p.imp fun d e q p' ds vs H' e1 s k' n a b => fun _ => q (.ref p') H' s k' ?_⟩
  subst e1
  refine ⟨p', vs, rfl, .of a, fun z => ?_, b.less fun _ z => .inl z⟩
  obtain ⟨o, e2⟩ := R.trk _ z
  rw [n] at e2; cases e2
theorem test_of (hv : PE X e (tW G f)) (he : ∀ whole, isTrue e X.env whole = (do let v ← whole; standAt e.pos; holding [v] (truthy v))) : PT X e (tTst G fun ρ => do match ← f ρ with | .bool b => .ok b | _ => .stuck) := by
  refine pt_imp (pt_val hv he) fun σ H Q _ w k => ?_
  obtain ⟨O, ρ, R, p⟩ := w k
  refine ⟨O, ρ, R, p.bind.imp fun d _ q v H' s k' a => ?_⟩
  cases d with
  | bool b =>
    cases a
    exact ⟨b, rfl, fun _ => q H' s k'⟩
  | _ => exact q.elim
end
end Den
namespace Den
open PySem PySem.Spec PyProof.Rows L2
abbrev big : Nat := 1000000
theorem big_line {n : Nat} (h : n ≤ big) : n ≤ sizeLine := by rw [sizeLine_eq]; unfold big at h; omega
theorem big_lt {n : Nat} (h : n < big) : n < sizeLine := by rw [sizeLine_eq]; unfold big at h; omega
section
variable {X : Cx} {G : Gc} {a b c e : Expr} {f g h : DE} {pos : Pos}
abbrev PostV (G : Gc) (O : Addr → Prop) (H : Hp) (r : Rs D) (Q : VK) : Prop := Post G H r fun d => ∀ v H', Same H H' → KF G.K H' → At G.K H' O d v → Q v H'
theorem same_upd {H : Hp} {p : Addr} {o : HO} (h : H p = none) : Same H (upd H p o) := fun b x e => by
  rw [upd_ne (ne_of_none e h)]
  exact e
abbrev Trk (O : Addr → Prop) (H : Hp) : Prop := ∀ a, O a → ∃ o, H a = some o
theorem Trk.not {O : Addr → Prop} {H : Hp} {p : Addr} (t : Trk O H) (n : H p = none) : ¬ O p := fun z => by
  obtain ⟨o, e⟩ := t p z
  rw [n] at e; cases e
theorem new_list {K : W.Frag} {O : Addr → Prop} {H : Hp} {p : Addr} {ds : List D} {vs : List V} (t : Trk O H) (n : H p = none) (l : AtL K H O ds vs) : At K (upd H p (.lst vs)) O (.list ds) (.ref p) :=
  ⟨p, vs, rfl, .of upd_same, t.not n, l.same (same_upd n)⟩
theorem new_tup {K : W.Frag} {O : Addr → Prop} {H : Hp} {p : Addr} {ds : List D} {vs : List V} (t : Trk O H) (n : H p = none) (l : AtL K H O ds vs) : At K (upd H p (.tup vs)) O (.tuple ds) (.ref p) :=
  ⟨p, vs, rfl, .of upd_same, t.not n, l.same (same_upd n)⟩
theorem Trk.same {O : Addr → Prop} {H H' : Hp} (t : Trk O H) (s : Same H H') : Trk O H' := fun a h => let ⟨o, e⟩ := t a h; ⟨o, s _ _ e⟩
def Says (G : Gc) (r : R2) (F : D → D → Rs D) : Prop := ∀ (O : Addr → Prop) (H : Hp) (x y : V) (dx dy : D) (Q : VK), KF G.K H → Trk O H → AtC G.K H O dx x → AtC G.K H O dy y →
  PostV G O H (F dx dy) Q → r x y H fun v H' => KF G.K H' → Q v H'
theorem two (hK : X.K = G.K) {r : R2} {F : D → D → Rs D} (s : Says G r F) {t : TE} (h : PE X e (tOp r (tW G f) (tW G g))) : PE X e (tS G fun ρ => do let x ← f ρ; let y ← g ρ; F x y) := by
  refine pe_imp h fun σ H Q kf w => fun k0 => ?_
  obtain ⟨O, ρ, R, p⟩ := w k0
  refine ⟨O, ρ, R, p.bind.imp fun dx _ q x H1 s1 k1 ax => fun _ => ?_⟩
  refine ⟨O, ρ, R.same s1, q.bind.imp fun dy _ q2 y H2 s2 k2 ay => ?_⟩
  have R2 := R.same (s1.trans s2)
  rw [hK]
  exact s O H2 x y dx dy Q k2 R2.trk (ax.same s2) ay (q2.imp fun d _ q3 v H' s3 k3 a3 => q3 v H' (s1.trans (s2.trans s3)) k3 a3)
theorem d_bin (hK : X.K = G.K) {op : Operator} {r : R2} {F : D → D → Rs D} (ho : OpR X (binaryOp op) r) (s : Says G r F) (ha : PE X a (tW G f)) (hb : PE X b (tW G g)) : PE X (.BinOp a op b pos) (tS G fun ρ => do let x ← f ρ; let y ← g ρ; F x y) :=
  two hK s (t := fun _ _ _ => True) (pe_op ho ha hb)
theorem d_cmp (hK : X.K = G.K) {op : CmpOp} {r : R2} {F : D → D → Rs D} (ho : OpR X (compareOp op) r) (s : Says G r F) (hm : behindInMarks op b = false) (ha : PE X a (tW G f)) (hb : PE X b (tW G g)) : PE X (.Compare a [op] [b] pos) (tS G fun ρ => do let x ← f ρ; let y ← g ρ; F x y) :=
  two hK s (t := fun _ _ _ => True) (pe_cmpR ho ha hb hm)
theorem d_ix (hK : X.K = G.K) {r : R2} {F : D → D → Rs D} (hr : IxR X r) (s : Says G r F) (hs : PlainIx b) (ha : PE X a (tW G f)) (hb : PE X b (tW G g)) : PE X (.Subscript a b pos) (tS G fun ρ => do let x ← f ρ; let y ← g ρ; F x y) :=
  two hK s (t := fun _ _ _ => True) (pe_ix hr ha hb hs)
theorem post_sc {G : Gc} {O : Addr → Prop} {H : Hp} {d : D} {v : V} {Q : VK} (k : KF G.K H) (p : PostV G O H (.ok d) Q) (a : At G.K H O d v) : KF G.K H → Q v H := fun _ => p v H (Same.refl H) k a
def rCatS (K : W.Frag) : R2 := fun x y H Q => ∃ l b xs zs, x = .ref l ∧ y = .ref b ∧ SqL K H l xs ∧ SqL K H b zs ∧ xs.length + zs.length ≤ sizeLine ∧ ∀ p, H p = none → Q (.ref p) (upd H p (.lst (xs ++ zs)))
theorem op_catL : OpR X (binaryOp .Add) (rCatS X.K) := by
  intro pins s σ H x y v u Q I rx ry h
  obtain ⟨l, b, xs, zs, rfl, rfl, hx, hy, hz, q⟩ := h
  cases rx
  cases ry
  obtain ⟨its, r, p, _⟩ := I.list hx
  obtain ⟨its2, r2, p2, _⟩ := I.list hy
  have e1 := r.length
  have e2 := r2.length
  obtain ⟨⟨cls, dd, data, sl⟩, ho, hc, n, hd⟩ := p.isList
  obtain ⟨⟨cls2, dd2, data2, sl2⟩, ho2, hc2, n2, hd2⟩ := p2.isList
  simp only at hc hd hc2 hd2
  subst hc hd hc2 hd2
  refine concat_meets ⟨_, ho, rfl⟩ ⟨_, ho2, rfl⟩ noFill_list_add seq_list_add PySem.F.slot_list_add PySem.F.entry_list_add (PySem.F.args_list_add_2 _ _) (list_addW l b its.toArray its2.toArray n n2 dd dd2 sl sl2 (by rw [List.size_toArray, List.size_toArray]; omega)) ⟨ho, ho2, ?_⟩
  have ea : its.toArray ++ its2.toArray = (its ++ its2).toArray := by simp
  rw [ea]
  exact ⟨.ref _, _, I.lnew (t' := s.toks) (r.append r2) (by rw [List.length_append]; omega), rfl, q _ I.fresh⟩
def addD : D → D → Rs D
  | .int i, .int j => .ok (.int (i + j))
  | .int i, .bool j => .ok (.int (i + (if j then 1 else 0)))
  | .list xs, .list ys => if xs.length + ys.length ≤ big then .ok (.list (xs ++ ys)) else .stuck
  | .tuple xs, .tuple ys => if xs.length + ys.length ≤ big then .ok (.tuple (xs ++ ys)) else .stuck
  | .str x, .str y => if x.length + y.length ≤ big then .ok (.str (x ++ y)) else .stuck
  | _, _ => .stuck
def rAddD (K : W.Frag) : R2 := fun x y H Q => (((rI0 fun i j => .int (i + j)) x y H Q ∨ (∃ i k, x = .int i ∧ y = .bl k ∧ Q (.int (i + b2i k)) H)) ∨ rCatS K x y H Q) ∨ (rCatA K x y H Q ∨ (∃ i j, x = .str i ∧ y = .str j ∧ i.length + j.length ≤ sizeLine ∧ Q (.str (i ++ j)) H))
theorem op_addD : OpR X (binaryOp .Add) (rAddD X.K) := ((op_add.or op_add_ib).or op_catL).or (op_catA.or op_add_str)
theorem says_add : Says G (rAddD G.K) addD := by
  intro O H x y dx dy Q k t ax ay p
  unfold addD at p
  split at p
  · cases ax; cases ay
    exact .inl (.inl (.inl ⟨_, _, rfl, rfl, post_sc k p rfl⟩))
  · cases ax; cases ay
    exact .inl (.inl (.inr ⟨_, _, rfl, rfl, post_sc k p rfl⟩))
  · obtain ⟨a, vs, rfl, h1, h2⟩ := ax
    obtain ⟨b, us, rfl, h3, h4⟩ := ay
    split at p
    · rename_i hz
      refine .inl (.inr ⟨a, b, vs, us, rfl, rfl, h1, h3, by rw [h2.length, h4.length]; exact big_line hz, fun q hq k' => ?_⟩)
      exact p _ _ (same_upd hq) k' (new_list t hq (h2.append h4))
    · exact p.elim
  · obtain ⟨a, vs, rfl, h1, n1, h2⟩ := ax
    obtain ⟨b, us, rfl, h3, n3, h4⟩ := ay
    split at p
    · rename_i hz
      refine .inr (.inl ⟨a, b, vs, us, rfl, rfl, h1, h3, by rw [h2.length, h4.length]; exact big_line hz, fun e k' => ?_, fun _ e k' => ?_, fun _ _ q hq k' => ?_⟩)
      · subst e
        have e' := h2.length
        rename_i xs ys
        have : xs = [] := List.eq_nil_of_length_eq_zero (by simpa using e'.symm)
        subst this
        exact p _ _ (Same.refl _) k' ⟨b, us, rfl, h3, n3, h4⟩
      · subst e
        have e' := h4.length
        rename_i xs ys _
        have : ys = [] := List.eq_nil_of_length_eq_zero (by simpa using e'.symm)
        subst this
        rw [List.append_nil] at p
        exact p _ _ (Same.refl _) k' ⟨a, vs, rfl, h1, n1, h2⟩
      · exact p _ _ (same_upd hq) k' (new_tup t hq (h2.append h4))
    · exact p.elim
  · cases ax; cases ay
    split at p
    · rename_i hz
      exact .inr (.inr ⟨_, _, rfl, rfl, big_line hz, post_sc k p rfl⟩)
    · exact p.elim
  · exact p.elim
def subD : D → D → Rs D
  | .int i, .int j => .ok (.int (i - j))
  | _, _ => .stuck
theorem says_sub : Says G (rI0 fun i j => .int (i - j)) subD := by
  intro O H x y dx dy Q k t ax ay p
  unfold subD at p
  split at p
  · cases ax; cases ay
    exact ⟨_, _, rfl, rfl, post_sc k p rfl⟩
  · exact p.elim
def mulD : D → D → Rs D
  | .int i, .int j => if (-(2 ^ 64) < i ∧ i < 2 ^ 64) ∨ (-(2 ^ 64) < j ∧ j < 2 ^ 64) then .ok (.int (i * j)) else .stuck
  | _, _ => .stuck
theorem says_mul : Says G (rI CMul fun i j => .int (i * j)) mulD := by
  intro O H x y dx dy Q k t ax ay p
  unfold mulD at p
  split at p
  · cases ax; cases ay
    split at p
    · rename_i hc
      exact ⟨_, _, rfl, rfl, hc, post_sc k p rfl⟩
    · exact p.elim
  · exact p.elim
def divD : D → D → Rs D
  | .int i, .int j => if 0 < j ∧ j < 2 ^ 64 then .ok (.int (i / j)) else .stuck
  | _, _ => .stuck
theorem says_div : Says G (rI CDivW fun i j => .int (i / j)) divD := by
  intro O H x y dx dy Q k t ax ay p
  unfold divD at p
  split at p
  · cases ax; cases ay
    split at p
    · rename_i hc
      exact ⟨_, _, rfl, rfl, wide_div (b := 64) hc.1 (by omega) (by decide) (by decide), post_sc k p rfl⟩
    · exact p.elim
  · exact p.elim
def modD : D → D → Rs D
  | .int i, .int j => if 0 < j then .ok (.int (i % j)) else .stuck
  | _, _ => .stuck
theorem says_mod : Says G (rI (fun _ j => 0 < j) fun i j => .int (i % j)) modD := by
  intro O H x y dx dy Q k t ax ay p
  unfold modD at p
  split at p
  · cases ax; cases ay
    split at p
    · rename_i hc
      exact ⟨_, _, rfl, rfl, hc, post_sc k p rfl⟩
    · exact p.elim
  · exact p.elim
def powD : D → D → Rs D
  | .int i, .int j => if 0 ≤ j ∧ j ≤ 64 ∧ i.natAbs < 2 ^ 64 then .ok (.int (i ^ j.toNat)) else .stuck
  | _, _ => .stuck
theorem says_pow : Says G (rI CPow fun i j => .int (i ^ j.toNat)) powD := by
  intro O H x y dx dy Q k t ax ay p
  unfold powD at p
  split at p
  · cases ax; cases ay
    split at p
    · rename_i hc
      exact ⟨_, _, rfl, rfl, ⟨hc.1, by omega, hc.2.2⟩, post_sc k p rfl⟩
    · exact p.elim
  · exact p.elim
def eqD (dx dy : D) : Rs D := if SeqAt.shaped dx = true ∧ SeqAt.shaped dy = true then .ok (.bool (PyData.eqv dx dy)) else .stuck
def neD (dx dy : D) : Rs D := if SeqAt.shaped dx = true ∧ SeqAt.shaped dy = true then .ok (.bool (!PyData.eqv dx dy)) else .stuck
theorem says_eq : Says G (rEqD G.K) eqD := by
  intro O H x y dx dy Q k t ax ay p
  unfold eqD at p
  split at p
  · rename_i hc
    exact ⟨dx, dy, ax.dp, ay.dp, hc.1, hc.2, post_sc k p rfl⟩
  · exact p.elim
theorem says_ne : Says G (rNeD G.K) neD := by
  intro O H x y dx dy Q k t ax ay p
  unfold neD at p
  split at p
  · rename_i hc
    exact ⟨dx, dy, ax.dp, ay.dp, hc.1, hc.2, post_sc k p rfl⟩
  · exact p.elim
def ordD (q : Int → Int → Bool) : D → D → Rs D
  | .int i, .int j => .ok (.bool (q i j))
  | _, _ => .stuck
theorem says_ord (q : Int → Int → Bool) : Says G (rI0 fun i j => .bl (q i j)) (ordD q) := by
  intro O H x y dx dy Q k t ax ay p
  unfold ordD at p
  split at p
  · cases ax; cases ay
    exact ⟨_, _, rfl, rfl, post_sc k p rfl⟩
  · exact p.elim
def inL (dx : D) (ds : List D) : Bool := ds.any fun z => PyData.eqv z dx
def strIn (i j : Str) : Bool := !(Builtin.Str.occurrences j i 0 j.length 1).isEmpty
def inD (neg : Bool) : D → D → Rs D
  | dx, .list ds => if SeqAt.shaped dx = true ∧ SeqAt.shaped (.list ds) = true then .ok (.bool (if neg then !inL dx ds else inL dx ds)) else .stuck
  | dx, .tuple ds => if SeqAt.shaped dx = true ∧ SeqAt.shaped (.tuple ds) = true then .ok (.bool (if neg then !inL dx ds else inL dx ds)) else .stuck
  | .str i, .str j => .ok (.bool (if neg then !strIn i j else strIn i j))
  | _, _ => .stuck
end
end Den
namespace Den
open PySem PySem.Spec PyProof.Rows L2
section
variable {X : Cx} {G : Gc} {a b c e : Expr} {f g h : DE} {pos : Pos}
def rInT (K : W.Frag) (neg : Bool) : R2 := fun x y H Q => ∃ d ds, Dp K H x d ∧ Dp K H y (.tuple ds) ∧ SeqAt.shaped d = true ∧ SeqAt.shaped (.tuple ds) = true ∧ Q (.bl (if neg then !inL d ds else inL d ds)) H
theorem op_inT (hu : X.A.units + 65 < cLine) : OpR X (compareOp .In) (rInT X.K false) := by
  intro pins s σ H x y v u Q I rx ry h
  obtain ⟨d, ds, hd, he, sd, se, q⟩ := h
  obtain ⟨as, r1⟩ := Dp.reads I d x v hd rx
  obtain ⟨bs, r2⟩ := Dp.reads I (.tuple ds) y u he ry
  exact SeqAt.in_tuple_reads r2 r1 (SeqAt.canLay_of_shaped se) (SeqAt.canLay_of_shaped sd) (room_in_shaped sd hu) ⟨.bl _, H, I, rfl, q⟩
theorem op_notInT (hu : X.A.units + 65 < cLine) : OpR X (compareOp .NotIn) (rInT X.K true) := by
  intro pins s σ H x y v u Q I rx ry h
  obtain ⟨d, ds, hd, he, sd, se, q⟩ := h
  obtain ⟨as, r1⟩ := Dp.reads I d x v hd rx
  obtain ⟨bs, r2⟩ := Dp.reads I (.tuple ds) y u he ry
  exact SeqAt.notIn_tuple_reads r2 r1 (SeqAt.canLay_of_shaped se) (SeqAt.canLay_of_shaped sd) (room_in_shaped sd hu) ⟨.bl _, H, I, rfl, q⟩
def rInA (K : W.Frag) : R2 := fun x y H Q => (rInD K x y H Q ∨ rInT K false x y H Q) ∨ (∃ i j, x = .str i ∧ y = .str j ∧ Q (.bl (!(Builtin.Str.occurrences j i 0 j.length 1).isEmpty)) H)
def rNotInA (K : W.Frag) : R2 := fun x y H Q => (rNotInD K x y H Q ∨ rInT K true x y H Q) ∨ (∃ i j, x = .str i ∧ y = .str j ∧ Q (.bl (!(!(Builtin.Str.occurrences j i 0 j.length 1).isEmpty))) H)
theorem op_inA (hu : X.A.units + 65 < cLine) : OpR X (compareOp .In) (rInA X.K) := ((op_inD hu).or (op_inT hu)).or op_in_str
theorem op_notInA (hu : X.A.units + 65 < cLine) : OpR X (compareOp .NotIn) (rNotInA X.K) := ((op_notInD hu).or (op_notInT hu)).or op_notin_str
theorem says_in : Says G (rInA G.K) (inD false) := by
  intro O H x y dx dy Q k t ax ay p
  unfold inD at p
  split at p
  · split at p
    · rename_i hc
      exact .inl (.inl ⟨_, _, ax.dp, ay.dp, hc.1, hc.2, post_sc k p rfl⟩)
    · exact p.elim
  · split at p
    · rename_i hc
      exact .inl (.inr ⟨_, _, ax.dp, ay.dp, hc.1, hc.2, post_sc k p rfl⟩)
    · exact p.elim
  · cases ax; cases ay
    exact .inr ⟨_, _, rfl, rfl, post_sc k p rfl⟩
  · exact p.elim
theorem says_notIn : Says G (rNotInA G.K) (inD true) := by
  intro O H x y dx dy Q k t ax ay p
  unfold inD at p
  split at p
  · split at p
    · rename_i hc
      exact .inl (.inl ⟨_, _, ax.dp, ay.dp, hc.1, hc.2, post_sc k p rfl⟩)
    · exact p.elim
  · split at p
    · rename_i hc
      exact .inl (.inr ⟨_, _, ax.dp, ay.dp, hc.1, hc.2, post_sc k p rfl⟩)
    · exact p.elim
  · cases ax; cases ay
    exact .inr ⟨_, _, rfl, rfl, post_sc k p rfl⟩
  · exact p.elim
def isD (neg : Bool) : D → D → Rs D
  | .none, .none => .ok (.bool !neg)
  | _, .none => .ok (.bool neg)
  | .bool i, .bool j => .ok (.bool (if neg then !decide (i = j) else decide (i = j)))
  | _, _ => .stuck
def rIsA : R2 := fun x y H Q => (y = .non ∧ Q (.bl (decide (x = .non))) H) ∨ rIsB x y H Q
def rNotA : R2 := fun x y H Q => (y = .non ∧ Q (.bl (!decide (x = .non))) H) ∨ rNotB x y H Q
theorem op_isA : OpR X (compareOp .Is) rIsA := op_isN.or op_isBl
theorem op_notA : OpR X (compareOp .IsNot) rNotA := op_notN.or op_notBl
theorem ne_non {K : W.Frag} {H : Hp} {O : Addr → Prop} : ∀ {d : D} {x : V}, AtC K H O d x → (d ≠ .none) → decide (x = V.non) = false
  | .none, _, _, n => absurd rfl n
  | .bool _, _, h, _ => by cases h; rfl
  | .int _, _, h, _ => by cases h; rfl
  | .str _, _, h, _ => by cases h; rfl
  | .list _, _, h, _ => by obtain ⟨_, _, rfl, _⟩ := h; rfl
  | .tuple _, _, h, _ => by obtain ⟨_, _, rfl, _⟩ := h; rfl
  | .dict _, _, h, _ => h.elim
theorem says_is : Says G rIsA (isD false) := by
  intro O H x y dx dy Q k t ax ay p
  unfold isD at p
  split at p
  · cases ax; cases ay
    exact .inl ⟨rfl, post_sc k p rfl⟩
  · rename_i hn
    cases ay
    refine .inl ⟨rfl, ?_⟩
    rw [ne_non ax hn]
    exact post_sc k p rfl
  · cases ax; cases ay
    exact .inr ⟨_, _, rfl, rfl, post_sc k p rfl⟩
  · exact p.elim
theorem says_notIs : Says G rNotA (isD true) := by
  intro O H x y dx dy Q k t ax ay p
  unfold isD at p
  split at p
  · cases ax; cases ay
    exact .inl ⟨rfl, post_sc k p rfl⟩
  · rename_i hn
    cases ay
    refine .inl ⟨rfl, ?_⟩
    rw [ne_non ax hn]
    exact post_sc k p rfl
  · cases ax; cases ay
    exact .inr ⟨_, _, rfl, rfl, post_sc k p rfl⟩
  · exact p.elim
def ixD : D → D → Rs D
  | .list ds, .int i => match atI ds i with | some d => .ok d | none => .stuck
  | .tuple ds, .int i => match atI ds i with | some d => .ok d | none => .stuck
  | _, _ => .stuck
theorem atI_atL {K : W.Frag} {H : Hp} {O : Addr → Prop} {ds : List D} {vs : List V} {i : Int} {d : D} (h : AtL K H O ds vs) (e : atI ds i = some d) : ∃ v, atI vs i = some v ∧ At K H O d v := by
  unfold atI at e ⊢
  rw [h.length]
  cases q : ixN ds.length i with
  | none => rw [q] at e; cases e
  | some j =>
    rw [q] at e
    obtain ⟨v, e1, e2⟩ := h.get (show ds[j]? = some d from e)
    exact ⟨v, e1, e2⟩
def rIxLT (K : W.Frag) : R2 := fun x y H Q => rIxL K x y H Q ∨ rIxT K x y H Q
theorem ix_LT : IxR X (rIxLT X.K) := ix_list.or ix_tup
theorem says_ix : Says G (rIxLT G.K) ixD := by
  intro O H x y dx dy Q k t ax ay p
  unfold ixD at p
  split at p
  · obtain ⟨a, vs, rfl, h1, h2⟩ := ax
    cases ay
    split at p
    · rename_i e
      obtain ⟨v, e1, e2⟩ := atI_atL h2 e
      exact .inl ⟨a, vs, _, v, rfl, rfl, h1, e1, post_sc k p e2⟩
    · exact p.elim
  · obtain ⟨a, vs, rfl, h1, n1, h2⟩ := ax
    cases ay
    split at p
    · rename_i e
      obtain ⟨v, e1, e2⟩ := atI_atL h2 e
      exact .inr ⟨a, vs, _, v, rfl, rfl, h1, e1, post_sc k p e2⟩
    · exact p.elim
  · exact p.elim
def cutD (ds : List D) (lo hi : Option Int) : List D := (ds.drop (HT.sIx ds.length 0 lo)).take (HT.sIx ds.length ds.length hi - HT.sIx ds.length 0 lo)
def slD (lo hi : Option Int) : D → Rs D
  | .list ds => .ok (.list (cutD ds lo hi))
  | .tuple ds => .ok (.tuple (cutD ds lo hi))
  | _ => .stuck
theorem atL_cut {K : W.Frag} {H : Hp} {O : Addr → Prop} {ds : List D} {vs : List V} (h : AtL K H O ds vs) (lo hi : Option Int) : AtL K H O (cutD ds lo hi) (cutV vs lo hi) := by
  unfold cutD cutV
  rw [h.length]
  exact (h.drop _).take _
def rSlLT (K : W.Frag) : V → Option Int → Option Int → Hp → VK → Prop := fun x lo hi H Q => rSlL K x lo hi H Q ∨ rSlA K x lo hi H Q
theorem sl_LT : SlR X (rSlLT X.K) := sl_list.or sl_tupA
theorem cut_whole {ds : List D} {lo hi : Option Int} (h : HT.sIx ds.length 0 lo = 0 ∧ HT.sIx ds.length ds.length hi = ds.length) : cutD ds lo hi = ds := by
  unfold cutD
  rw [h.1, h.2]
  simp
theorem says_sl {O : Addr → Prop} {H : Hp} {x : V} {dx : D} {lo hi : Option Int} {Q : VK} (k : KF G.K H) (t : Trk O H) (ax : AtC G.K H O dx x) (p : PostV G O H (slD lo hi dx) Q) : rSlLT G.K x lo hi H fun v H' => KF G.K H' → Q v H' := by
  unfold slD at p
  split at p
  · obtain ⟨a, vs, rfl, h1, h2⟩ := ax
    exact .inl ⟨a, vs, rfl, h1, fun q hq k' => p _ _ (same_upd hq) k' (new_list t hq (atL_cut h2 lo hi))⟩
  · obtain ⟨a, vs, rfl, h1, n1, h2⟩ := ax
    have hl := h2.length
    refine .inr ⟨a, vs, rfl, h1, fun w k' => ?_, fun _ q hq k' => p _ _ (same_upd hq) k' (new_tup t hq (atL_cut h2 lo hi))⟩
    rw [hl] at w
    rw [cut_whole w] at p
    exact p _ _ (Same.refl _) k' ⟨a, vs, rfl, h1, n1, h2⟩
  · exact p.elim
def intD : D → Rs Int
  | .int i => .ok i
  | _ => .stuck
@[simp] theorem intD_int (i : Int) : intD (.int i) = .ok i := rfl
theorem d_slLo (hK : X.K = G.K) {p2 : Pos} (ha : PE X a (tW G f)) (hl : PE X b (tW G g)) : PE X (.Subscript a (.Slice (some b) none none p2) pos) (tS G fun ρ => do let x ← f ρ; let l ← g ρ; let i ← intD l; slD (some i) none x) := by
  refine pe_imp (pe_slice sl_LT ha (po_some hl) po_none) fun σ H Q kf w => fun k0 => ?_
  obtain ⟨O, ρ, R, p⟩ := w k0
  refine ⟨O, ρ, R, p.bind.imp fun dx _ q x H1 s1 k1 ax => fun k1' => ?_⟩
  refine ⟨O, ρ, R.same s1, q.bind.imp fun dl _ q2 l H2 s2 k2 al => ?_⟩
  cases dl with
  | int i =>
    cases al
    refine ⟨i, rfl, ?_⟩
    rw [hK]
    have R2 := R.same (s1.trans s2)
    exact says_sl (G := G) k2 R2.trk (ax.same s2) (Post.imp q2 fun d _ q3 v H' s3 k3 a3 => q3 v H' (s1.trans (s2.trans s3)) k3 a3)
  | _ => exact q2.elim
theorem d_slHi (hK : X.K = G.K) {p2 : Pos} (ha : PE X a (tW G f)) (hl : PE X b (tW G g)) : PE X (.Subscript a (.Slice none (some b) none p2) pos) (tS G fun ρ => do let x ← f ρ; let l ← g ρ; let i ← intD l; slD none (some i) x) := by
  refine pe_imp (pe_slice sl_LT ha po_none (po_some hl)) fun σ H Q kf w => fun k0 => ?_
  obtain ⟨O, ρ, R, p⟩ := w k0
  refine ⟨O, ρ, R, p.bind.imp fun dx _ q x H1 s1 k1 ax => fun k1' => ?_⟩
  refine ⟨O, ρ, R.same s1, q.bind.imp fun dl _ q2 l H2 s2 k2 al => ?_⟩
  cases dl with
  | int i =>
    cases al
    refine ⟨i, rfl, ?_⟩
    rw [hK]
    have R2 := R.same (s1.trans s2)
    exact says_sl (G := G) k2 R2.trk (ax.same s2) (Post.imp q2 fun d _ q3 v H' s3 k3 a3 => q3 v H' (s1.trans (s2.trans s3)) k3 a3)
  | _ => exact q2.elim
theorem d_slLH (hK : X.K = G.K) {p2 : Pos} (ha : PE X a (tW G f)) (hl : PE X b (tW G g)) (hh : PE X c (tW G h)) : PE X (.Subscript a (.Slice (some b) (some c) none p2) pos) (tS G fun ρ => do let x ← f ρ; let l ← g ρ; let i ← intD l; let u ← h ρ; let j ← intD u; slD (some i) (some j) x) := by
  refine pe_imp (pe_slice sl_LT ha (po_some hl) (po_some hh)) fun σ H Q kf w => fun k0 => ?_
  obtain ⟨O, ρ, R, p⟩ := w k0
  refine ⟨O, ρ, R, p.bind.imp fun dx _ q x H1 s1 k1 ax => fun k1' => ?_⟩
  refine ⟨O, ρ, R.same s1, q.bind.imp fun dl _ q2 l H2 s2 k2 al => ?_⟩
  cases dl with
  | int i =>
    cases al
    refine ⟨i, rfl, fun k2' => ⟨O, ρ, R.same (s1.trans s2), (show Post G H (h ρ >>= fun u => intD u >>= fun j => slD (some i) (some j) dx) _ from q2).bind.imp fun du _ q3 u H3 s3 k3 au => ?_⟩⟩
    cases du with
    | int j =>
      cases au
      refine ⟨j, rfl, ?_⟩
      rw [hK]
      have R2 := R.same (s1.trans (s2.trans s3))
      exact says_sl (G := G) k3 R2.trk (ax.same (s2.trans s3)) (Post.imp q3 fun d _ q4 v H' s4 k4 a4 => q4 v H' (s1.trans (s2.trans (s3.trans s4))) k4 a4)
    | _ => exact q3.elim
  | _ => exact q2.elim
end
end Den
namespace Den
open PySem PySem.Spec PyProof.Rows L2
section
variable {X : Cx} {G : Gc} {a b c e : Expr} {f g h : DE} {pos : Pos}
structure Ctx (X : Cx) (G : Gc) (L : Nat) (bl : List Str) : Prop where
  K : X.K = G.K
  pass : Passes (L2.CX X.prog X.w) X G.E
  room : Room L X.A
  calm : X.calm = true
  nd : X.N.Nodup
  blt : ∀ x ∈ bl, X.mg x = none
variable {L : Nat} {bl : List Str}
theorem Ctx.kf (C : Ctx X G L bl) {H : Hp} (k : KF X.K H) : KF G.K H := C.K ▸ k
theorem Ctx.hu (C : Ctx X G L bl) : X.A.units + 65 < cLine := by have := C.room.un; omega
theorem Ctx.hu0 (C : Ctx X G L bl) : X.A.units + 64 < cLine := by have := C.room.un; omega
theorem kf_no {K : W.Frag} {H : Hp} {p : Addr} {o : HO} (k : KF K H) (e : H p = some o) : K.lookup p = none := by
  cases q : K.lookup p with
  | none => rfl
  | some u => rw [k p u q] at e; cases e
def vaR (i : Nat) (ρ : Ro) : Rs D := match ρ[i]? with | some (some d) => .ok d | _ => .stuck
theorem d_var (C : Ctx X G L bl) {i : Nat} {x : Str} (hN : X.N[i]? = some x) (hv : Vis X.env.scope x) (hw : G.own i = false) (hd : (x == ("__debug__" : Str)) = false) (hcd : (x == ("__classdict__" : Str)) = false) : PE X (.Name x pos) (tS G (vaR i)) := by
  refine pe_imp (pe_var hN hv hd hcd) fun σ H Q kf w => ?_
  have k := C.kf kf
  obtain ⟨O, ρ, R, p⟩ := w k
  unfold vaR at p
  split at p
  · rename_i d e
    obtain ⟨v, e1, h1⟩ := R.slot i d e hw
    exact ⟨v, e1, fun _ => p v H (Same.refl H) k h1⟩
  · exact p.elim
theorem d_varW (C : Ctx X G L bl) {i : Nat} {x : Str} (hN : X.N[i]? = some x) (hv : Vis X.env.scope x) (hd : (x == ("__debug__" : Str)) = false) (hcd : (x == ("__classdict__" : Str)) = false) : PE X (.Name x pos) (tW G (vaR i)) := by
  refine pe_imp (pe_var hN hv hd hcd) fun σ H Q kf w => ?_
  have k := C.kf kf
  obtain ⟨O, ρ, R, p⟩ := w k
  unfold vaR at p
  split at p
  · rename_i d e
    obtain ⟨v, e1, h1⟩ := R.var e
    exact ⟨v, e1, fun _ => p v H (Same.refl H) k h1⟩
  · exact p.elim
theorem d_cst (C : Ctx X G L bl) {d : D} {v : V} (he : PE X e (tC v)) (hd : ∀ (K : W.Frag) (H : Hp) (O : Addr → Prop), At K H O d v) : PE X e (tS G fun _ => .ok d) := by
  refine pe_imp he fun σ H Q kf w => ?_
  have k := C.kf kf
  obtain ⟨O, ρ, R, p⟩ := w k
  exact fun _ => p v H (Same.refl H) k (hd _ _ _)
def noArg : Ro → Rs (List D) := fun _ => .ok []
def consArg (f : DE) (fs : Ro → Rs (List D)) : Ro → Rs (List D) := fun ρ => do let d ← f ρ; let ds ← fs ρ; pure (d :: ds)
theorem a_nil (C : Ctx X G L bl) : PA X [] (tArg G noArg) := by
  refine pa_imp pa_nil fun σ H Q kf w => ?_
  have k := C.kf kf
  obtain ⟨O, ρ, R, p⟩ := w k
  exact fun _ => p [] H (Same.refl H) k rfl
theorem a_cons (C : Ctx X G L bl) {es : List Expr} {fs : Ro → Rs (List D)} (ha : PE X e (tS G f)) (hs : PA X es (tArg G fs)) (hst : starEach (e :: es) X.env = (false, eval e X.env) :: starEach es X.env) : PA X (e :: es) (tArg G (consArg f fs)) := by
  refine pa_imp (pa_cons ha hs hst) fun σ H Q kf w => fun k => ?_
  obtain ⟨O, ρ, R, p⟩ := w k
  refine ⟨O, ρ, R, p.bind.imp fun d _ q v H1 s1 k1 a1 => fun _ => ?_⟩
  refine ⟨O, ρ, R.same s1, q.bind.imp fun ds _ q2 vs H2 s2 k2 a2 => fun _ => ?_⟩
  exact q2 (v :: vs) H2 (s1.trans s2) k2 ⟨v, vs, rfl, a1.same s2, a2⟩
theorem a_nilW (C : Ctx X G L bl) : PA X [] (tArgW G noArg) := by
  refine pa_imp pa_nil fun σ H Q kf w => ?_
  have k := C.kf kf
  obtain ⟨O, ρ, R, p⟩ := w k
  exact fun _ => p [] H (Same.refl H) k rfl
theorem a_consW (C : Ctx X G L bl) {es : List Expr} {fs : Ro → Rs (List D)} (ha : PE X e (tW G f)) (hs : PA X es (tArgW G fs)) (hst : starEach (e :: es) X.env = (false, eval e X.env) :: starEach es X.env) : PA X (e :: es) (tArgW G (consArg f fs)) := by
  refine pa_imp (pa_cons ha hs hst) fun σ H Q kf w => fun k => ?_
  obtain ⟨O, ρ, R, p⟩ := w k
  refine ⟨O, ρ, R, p.bind.imp fun d _ q v H1 s1 k1 a1 => fun _ => ?_⟩
  refine ⟨O, ρ, R.same s1, q.bind.imp fun ds _ q2 vs H2 s2 k2 a2 => fun _ => ?_⟩
  exact q2 (v :: vs) H2 (s1.trans s2) k2 ⟨v, vs, rfl, a1.same s2, a2⟩
def tupA (fs : Ro → Rs (List D)) : DE := fun ρ => do let ds ← fs ρ; pure (.tuple ds)
def lstA (fs : Ro → Rs (List D)) : DE := fun ρ => do let ds ← fs ρ; pure (.list ds)
theorem d_tup (C : Ctx X G L bl) {es : List Expr} {k : Nat} {fs : Ro → Rs (List D)} (hl : ∀ ρ ds, fs ρ = .ok ds → ds.length ≤ big) (ha : PA X es (tArg G fs)) : PE X (.Tuple es k pos) (tS G (tupA fs)) := by
  refine pe_imp (pe_tup ha) fun σ H Q kf w => fun k => ?_
  obtain ⟨O, ρ, R, p⟩ := w k
  refine ⟨O, ρ, R, p.bind.imp fun ds e q vs H1 s1 k1 a1 => ?_⟩
  refine ⟨by rw [a1.length]; exact big_line (hl ρ ds e), fun n hn k' => ?_⟩
  exact q _ _ (s1.trans (same_upd hn)) (C.kf k') (new_tup (R.same s1).trk hn a1)
theorem d_lst (C : Ctx X G L bl) {es : List Expr} {fs : Ro → Rs (List D)} (hl : ∀ ρ ds, fs ρ = .ok ds → ds.length ≤ big) (ha : PA X es (tArg G fs)) : PE X (.List es pos) (tF G (lstA fs)) := by
  refine pe_imp (pe_lst ha) fun σ H Q kf w => fun k => ?_
  obtain ⟨O, ρ, R, p⟩ := w k
  refine ⟨O, ρ, R, p.bind.imp fun ds e q vs H1 s1 k1 a1 => ?_⟩
  refine ⟨by rw [a1.length]; exact big_line (hl ρ ds e), fun n hn k' => ?_⟩
  exact q n ds vs _ rfl (s1.trans (same_upd hn)) (C.kf k') (s1.free hn) upd_same ((a1.grow hn (kf_no (C.kf k') upd_same)).same (same_upd hn))
def addL (x y : D) : Rs D := match x, y with
  | .list _, .list _ => addD x y
  | _, _ => .stuck
theorem f_add (C : Ctx X G L bl) (ha : PE X a (tW G f)) (hb : PE X b (tW G g)) : PE X (.BinOp a .Add b pos) (tF G fun ρ => do let x ← f ρ; let y ← g ρ; addL x y) := by
  refine pe_imp (pe_op op_catL ha hb) fun σ H Q kf w => fun k => ?_
  obtain ⟨O, ρ, R, p⟩ := w k
  refine ⟨O, ρ, R, p.bind.imp fun dx _ q x H1 s1 k1 ax => fun _ => ?_⟩
  refine ⟨O, ρ, R.same s1, q.bind.imp fun dy _ q2 y H2 s2 k2 ay => ?_⟩
  unfold addL at q2
  split at q2
  · unfold addD at q2
    simp only at q2
    split at q2
    · rename_i hz
      have ax' := ax.same s2
      obtain ⟨l, vs, rfl, h1, h2⟩ := ax'
      obtain ⟨l2, us, rfl, h3, h4⟩ := ay
      rw [C.K]
      refine ⟨l, l2, vs, us, rfl, rfl, h1, h3, by rw [h2.length, h4.length]; exact big_line hz, fun n hn k' => ?_⟩
      exact q2 n _ _ _ rfl (s1.trans (s2.trans (same_upd hn))) k' (s1.free (s2.free hn)) upd_same (((h2.append h4).grow hn (kf_no k' upd_same)).same (same_upd hn))
    · exact q2.elim
  · exact q2.elim
def negD : D → Rs D | .int i => .ok (.int (-i)) | _ => .stuck
theorem d_neg (C : Ctx X G L bl) (ha : PE X a (tW G f)) : PE X (.UnaryOp .USub a pos) (tS G fun ρ => do let x ← f ρ; negD x) := by
  refine pe_imp (pe_un un_neg ha) fun σ H Q kf w => fun k => ?_
  obtain ⟨O, ρ, R, p⟩ := w k
  refine ⟨O, ρ, R, p.bind.imp fun dx _ q x H1 s1 k1 ax => ?_⟩
  unfold negD at q
  split at q
  · cases ax
    exact ⟨_, rfl, fun _ => q _ H1 s1 k1 rfl⟩
  · exact q.elim
def blD : D → Rs Bool | .bool b => .ok b | _ => .stuck
@[simp] theorem blD_bool (b : Bool) : blD (.bool b) = .ok b := rfl
def notE (f : DE) : DE := fun ρ => do let x ← f ρ; let b ← blD x; pure (.bool !b)
theorem d_not (C : Ctx X G L bl) (ha : PE X a (tW G f)) : PE X (.UnaryOp .Not a pos) (tS G (notE f)) := by
  refine pe_imp (pe_not ha) fun σ H Q kf w => fun k => ?_
  obtain ⟨O, ρ, R, p⟩ := w k
  refine ⟨O, ρ, R, p.bind.imp fun dx _ q x H1 s1 k1 ax => ?_⟩
  cases dx with
  | bool b => cases ax; exact ⟨b, rfl, fun _ => q _ H1 s1 k1 rfl⟩
  | _ => exact q.elim
def andE (f g : DE) : DE := fun ρ => do let x ← f ρ; let b ← blD x; if b then g ρ else pure (.bool false)
def orE (f g : DE) : DE := fun ρ => do let x ← f ρ; let b ← blD x; if b then pure (.bool true) else g ρ
theorem d_and (C : Ctx X G L bl) {rest : List Expr} (ha : PE X a (tW G f)) (hb : PE X (.BoolOp .And (b :: rest) pos) (tS G g)) : PE X (.BoolOp .And (a :: b :: rest) pos) (tS G (andE f g)) := by
  refine pe_imp (pe_and ha hb) fun σ H Q kf w => fun k => ?_
  obtain ⟨O, ρ, R, p⟩ := w k
  refine ⟨O, ρ, R, p.bind.imp fun dx _ q x H1 s1 k1 ax => ?_⟩
  cases dx with
  | bool b =>
    cases ax
    refine ⟨b, rfl, ?_⟩
    cases b with
    | true => exact fun _ => ⟨O, ρ, R.same s1, Post.imp (H := H) (r := g ρ) q fun d _ q2 v H' s2 k2 a2 => fun _ => q2 v H' (s1.trans s2) k2 a2⟩
    | false => exact fun _ => q _ H1 s1 k1 rfl
  | _ => exact q.elim
theorem d_or (C : Ctx X G L bl) {rest : List Expr} (ha : PE X a (tW G f)) (hb : PE X (.BoolOp .Or (b :: rest) pos) (tS G g)) : PE X (.BoolOp .Or (a :: b :: rest) pos) (tS G (orE f g)) := by
  refine pe_imp (pe_or ha hb) fun σ H Q kf w => fun k => ?_
  obtain ⟨O, ρ, R, p⟩ := w k
  refine ⟨O, ρ, R, p.bind.imp fun dx _ q x H1 s1 k1 ax => ?_⟩
  cases dx with
  | bool b =>
    cases ax
    refine ⟨b, rfl, ?_⟩
    cases b with
    | false => exact fun _ => ⟨O, ρ, R.same s1, Post.imp (H := H) (r := g ρ) q fun d _ q2 v H' s2 k2 a2 => fun _ => q2 v H' (s1.trans s2) k2 a2⟩
    | true => exact fun _ => q _ H1 s1 k1 rfl
  | _ => exact q.elim
theorem d_one {op} (ha : PE X a (tS G f)) : PE X (.BoolOp op [a] pos) (tS G f) := pe_one ha
def tstE (f : DE) : Ro → Rs Bool := fun ρ => do let x ← f ρ; blD x
theorem t_val (ha : PE X a (tW G f)) (he : ∀ whole, isTrue a X.env whole = (do let v ← whole; standAt a.pos; holding [v] (truthy v))) : PT X a (tTst G (tstE f)) := by
  refine pt_imp (pt_val ha he) fun σ H Q _ w k => ?_
  obtain ⟨O, ρ, R, p⟩ := w k
  refine ⟨O, ρ, R, p.bind.imp fun d _ q v H' s k' a => ?_⟩
  cases d with
  | bool b =>
    cases a
    exact ⟨b, rfl, fun _ => q H' s k'⟩
  | _ => exact q.elim
theorem pt_cmpK {op : CmpOp} {r : R2} {ta tb : TE} (ho : OpR X (compareOp op) r) (ha : PE X a ta) (hb : PE X b tb) (hm : behindInMarks op b = false) :
    PT X (.Compare a [op] [b] pos) (fun σ H Q => tOp r ta tb σ H fun z H3 => KF X.K H3 → ∃ k, z = .bl k ∧ Q k H3) := by
  refine ⟨fun pins s σ H Q I h => ?_⟩
  refine wpAny_isTrue_Compare1 (thn (ha.run pins s σ H _ I h) fun v s1 ⟨x, H1, I1, r1, q1⟩ => thn (hb.run pins s1 σ H1 _ I1 q1) fun u s2 ⟨y, H2, I2, r2, q2⟩ =>
    thn (ho pins s2 σ H2 x y v u _ I2 r1 r2 q2) fun c s3 ⟨z, H3, I3, r3, q0⟩ => ?_) hm
  obtain ⟨k, e, q3⟩ := q0 (kf_inv I3)
  subst e
  cases r3
  exact wpAny_truthy_bool ⟨H3, I3, q3⟩
theorem t_cmp (C : Ctx X G L bl) {op : CmpOp} {r : R2} {F : D → D → Rs D} (ho : OpR X (compareOp op) r) (s : Says G r F) (hm : behindInMarks op b = false) (ha : PE X a (tW G f)) (hb : PE X b (tW G g)) : PT X (.Compare a [op] [b] pos) (tTst G (tstE fun ρ => do let x ← f ρ; let y ← g ρ; F x y)) := by
  refine pt_imp (pt_cmpK ho ha hb hm) fun σ H Q kf w => fun k0 => ?_
  obtain ⟨O, ρ, R, p⟩ := w k0
  refine ⟨O, ρ, R, p.bind.bind.imp fun dx _ q x H1 s1 k1 ax => fun _ => ?_⟩
  refine ⟨O, ρ, R.same s1, q.bind.imp fun dy _ q2 y H2 s2 k2 ay => ?_⟩
  have R2 := R.same (s1.trans s2)
  rw [C.K]
  exact s O H2 x y dx dy (fun v H' => ∃ k, v = .bl k ∧ (KF G.K H' → Q k H')) k2 R2.trk (ax.same s2) ay (Post.imp q2 fun d _ q3 v H' s3 k3 a3 => by
    cases d with
    | bool b => cases a3; exact ⟨b, rfl, fun _ => q3 H' (s1.trans (s2.trans s3)) k3⟩
    | _ => exact q3.elim)
def tChainK (K : W.Frag) (r r' : R2) (ta tb tc : TE) : TE := fun σ H Q => ta σ H fun x H1 => tb σ H1 fun y H2 => r x y H2 fun z H3 => KF K H3 → ∃ k, z = .bl k ∧
  (if k = true then tc σ H3 fun w' H4 => r' y w' H4 Q else Q (.bl false) H3)
theorem pe_chainK {op op' : CmpOp} {r r' : R2} {ta tb tc : TE} (ho : OpR X (compareOp op) r) (ho' : OpR X (compareOp op') r') (ha : PE X a ta) (hb : PE X b tb) (hc : PE X c tc)
    (hm : lastMarks [op, op'] [b, c] = false) : PE X (.Compare a [op, op'] [b, c] pos) (tChainK X.K r r' ta tb tc) := by
  refine ⟨fun pins s σ H Q I h => ?_⟩
  refine Compare_chain (thn (ha.run pins s σ H _ I h) fun v s1 ⟨x, H1, I1, r1, q1⟩ => chain_link (thn (hb.run pins s1 σ H1 _ I1 q1) fun u s2 ⟨y, H2, I2, r2, q2⟩ =>
    thn (ho pins s2 σ H2 x y v u _ I2 r1 r2 q2) fun d s3 ⟨z, H3, I3, r3, q0⟩ => ?_)) hm
  obtain ⟨k, e, q3⟩ := q0 (kf_inv I3)
  subst e
  cases r3
  refine wpAny_truthy_bool ?_
  cases k with
  | false => exact ite_ff ⟨.bl false, H3, I3, rfl, q3⟩
  | true => exact ite_tt (chain_last (thn (hc.run pins s3 σ H3 _ I3 q3) fun w' s4 ⟨z', H4, I4, r4, q4⟩ => ho' pins s4 σ H4 y z' u w' Q I4 r2 r4 q4))
theorem pt_chainK {op op' : CmpOp} {r r' : R2} {ta tb tc : TE} (ho : OpR X (compareOp op) r) (ho' : OpR X (compareOp op') r') (ha : PE X a ta) (hb : PE X b tb) (hc : PE X c tc)
    (hm : lastMarks [op, op'] [b, c] = false) : PT X (.Compare a [op, op'] [b, c] pos) (fun σ H Q => tChainK X.K r r' ta tb tc σ H fun z H3 => KF X.K H3 → ∃ k, z = .bl k ∧ Q k H3) := by
  refine ⟨fun pins s σ H Q I h => ?_⟩
  refine isTrue_chain (thn (ha.run pins s σ H _ I h) fun v s1 ⟨x, H1, I1, r1, q1⟩ => test_link (thn (hb.run pins s1 σ H1 _ I1 q1) fun u s2 ⟨y, H2, I2, r2, q2⟩ =>
    thn (ho pins s2 σ H2 x y v u _ I2 r1 r2 q2) fun d s3 ⟨z, H3, I3, r3, q0⟩ => ?_)) hm
  obtain ⟨k, e, q3⟩ := q0 (kf_inv I3)
  subst e
  cases r3
  refine wpAny_truthy_bool ?_
  cases k with
  | false =>
    rw [if_neg Bool.false_ne_true] at q3
    obtain ⟨k', e', q'⟩ := q3 (kf_inv I3)
    cases e'
    exact ite_ff ⟨H3, I3, q'⟩
  | true =>
    refine ite_tt (test_last (thn (hc.run pins s3 σ H3 _ I3 q3) fun w' s4 ⟨z', H4, I4, r4, q4⟩ => thn (ho' pins s4 σ H4 y z' u w' _ I4 r2 r4 q4) fun d' s5 ⟨z2, H5, I5, r5, q50⟩ => ?_))
    obtain ⟨k2, e2, q5⟩ := q50 (kf_inv I5)
    subst e2
    cases r5
    exact wpAny_truthy_bool ⟨H5, I5, q5⟩
def chnE (F F' : D → D → Rs D) (f g h : DE) : DE := fun ρ => do
  let x ← f ρ
  let y ← g ρ
  let r ← F x y
  let t ← blD r
  if t then (do let z ← h ρ; F' y z) else pure (.bool false)
theorem chain_core (C : Ctx X G L bl) {r r' : R2} {F F' : D → D → Rs D} (s : Says G r F) (s' : Says G r' F') {σ : L2.St} {H : Hp} {Q : VK} (w : tS G (chnE F F' f g h) σ H Q) : tChainK X.K r r' (tW G f) (tW G g) (tW G h) σ H fun v H' => KF X.K H' → Q v H' := fun k0 => by
  obtain ⟨O, ρ, R, p⟩ := w k0
  refine ⟨O, ρ, R, p.bind.imp fun dx _ q x H1 s1 k1 ax => fun _ => ?_⟩
  refine ⟨O, ρ, R.same s1, q.bind.imp fun dy _ q2 y H2 s2 k2 ay => ?_⟩
  have R2 := R.same (s1.trans s2)
  rw [C.K]
  refine s O H2 x y dx dy _ k2 R2.trk (ax.same s2) ay (q2.bind.imp fun d _ q3 v H' s3 k3 a3 => ?_)
  cases d with
  | bool b =>
    cases a3
    refine ⟨b, rfl, ?_⟩
    cases b with
    | false => exact fun _ => q3 _ H' (s1.trans (s2.trans s3)) k3 rfl
    | true =>
      refine fun _ => ⟨O, ρ, R2.same s3, (show Post G H (h ρ >>= fun z => F' dy z) _ from q3).bind.imp fun dz _ q4 z H4 s4 k4 az => ?_⟩
      exact s' O H4 y z dy dz Q k4 (R2.same (s3.trans s4)).trk (ay.same (s3.trans s4)) az (Post.imp q4 fun d _ q5 v H5 s5 k5 a5 => q5 v H5 (s1.trans (s2.trans (s3.trans (s4.trans s5)))) k5 a5)
  | _ => exact q3.elim
theorem d_chain (C : Ctx X G L bl) {op op' : CmpOp} {r r' : R2} {F F' : D → D → Rs D} (ho : OpR X (compareOp op) r) (ho' : OpR X (compareOp op') r') (s : Says G r F) (s' : Says G r' F') (hm : lastMarks [op, op'] [b, c] = false)
    (ha : PE X a (tW G f)) (hb : PE X b (tW G g)) (hc : PE X c (tW G h)) : PE X (.Compare a [op, op'] [b, c] pos) (tS G (chnE F F' f g h)) :=
  pe_imp (pe_chainK ho ho' ha hb hc hm) fun σ H Q kf w => chain_core C s s' w
theorem t_chain (C : Ctx X G L bl) {op op' : CmpOp} {r r' : R2} {F F' : D → D → Rs D} (ho : OpR X (compareOp op) r) (ho' : OpR X (compareOp op') r') (s : Says G r F) (s' : Says G r' F') (hm : lastMarks [op, op'] [b, c] = false)
    (ha : PE X a (tW G f)) (hb : PE X b (tW G g)) (hc : PE X c (tW G h)) : PT X (.Compare a [op, op'] [b, c] pos) (tTst G (tstE (chnE F F' f g h))) := by
  refine pt_imp (pt_chainK ho ho' ha hb hc hm) fun σ H Q kf w => ?_
  have w' : tS G (chnE F F' f g h) σ H fun z H3 => ∃ k, z = .bl k ∧ (KF X.K H3 → Q k H3) := fun k => by
    obtain ⟨O, ρ, R, p⟩ := w k
    refine ⟨O, ρ, R, p.bind.imp fun d _ q v H' s1 k1 a1 => ?_⟩
    cases d with
    | bool b => cases a1; exact ⟨b, rfl, fun _ => q H' s1 k1⟩
    | _ => exact q.elim
  exact chain_core C s s' w'
theorem t_not (C : Ctx X G L bl) (ha : PT X a (tTst G (tstE f))) : PT X (.UnaryOp .Not a pos) (tTst G (tstE (notE f))) := by
  refine pt_imp (pt_not ha) fun σ H Q kf w => fun k => ?_
  obtain ⟨O, ρ, R, p⟩ := w k
  refine ⟨O, ρ, R, ?_⟩
  have p1 : Post G H (f ρ >>= fun x => blD x >>= fun b => Rs.ok (!b)) fun b => ∀ H', Same H H' → KF G.K H' → Q b H' := by
    have e : tstE (notE f) ρ = (f ρ >>= fun x => blD x >>= fun b => Rs.ok (!b)) := by
      unfold tstE notE
      cases f ρ with
      | ok x => cases x <;> rfl
      | exc c => rfl
      | stuck => rfl
    rw [← e]; exact p
  have p2 := p1
  unfold tstE
  cases hf : f ρ with
  | ok x =>
    rw [hf] at p2
    cases x with
    | bool b => exact fun H' s1 k1 => fun _ => p2 H' s1 k1
    | _ => exact p2.elim
  | exc c => rw [hf] at p2; exact p2
  | stuck => rw [hf] at p2; exact p2
theorem t_and1 {op} (ha : PT X a (tTst G (tstE f))) : PW X (.BoolOp op [a] pos) (tTst G (tstE f)) := by
  cases op with
  | And => exact pw_and1 ha
  | Or => exact pw_or1 ha
theorem t_and (C : Ctx X G L bl) {rest : List Expr} (ha : PT X a (tTst G (tstE f))) (hb : PW X (.BoolOp .And (b :: rest) pos) (tTst G (tstE g))) : PW X (.BoolOp .And (a :: b :: rest) pos) (tTst G (tstE (andE f g))) := by
  have hi := pw_and ha hb
  refine ⟨fun whole pins s σ H Q I w => hi.run whole pins s σ H Q I fun k => ?_⟩
  obtain ⟨O, ρ, R, p⟩ := w k
  refine ⟨O, ρ, R, ?_⟩
  unfold tstE andE at p
  unfold tstE
  cases hf : f ρ with
  | ok x =>
    rw [hf] at p
    cases x with
    | bool b =>
      cases b with
      | true => exact fun H' s1 k1 => (if_pos rfl).mpr fun _ => ⟨O, ρ, R.same s1, Post.imp (H := H) (r := (g ρ >>= fun x => blD x)) p fun b' _ q H2 s2 k2 => q H2 (s1.trans s2) k2⟩
      | false => exact fun H' s1 k1 => (if_neg Bool.false_ne_true).mpr (p H' s1 k1)
    | _ => exact p.elim
  | exc c => rw [hf] at p; exact p
  | stuck => rw [hf] at p; exact p
theorem t_or (C : Ctx X G L bl) {rest : List Expr} (ha : PT X a (tTst G (tstE f))) (hb : PW X (.BoolOp .Or (b :: rest) pos) (tTst G (tstE g))) : PW X (.BoolOp .Or (a :: b :: rest) pos) (tTst G (tstE (orE f g))) := by
  have hi := pw_or ha hb
  refine ⟨fun whole pins s σ H Q I w => hi.run whole pins s σ H Q I fun k => ?_⟩
  obtain ⟨O, ρ, R, p⟩ := w k
  refine ⟨O, ρ, R, ?_⟩
  unfold tstE orE at p
  unfold tstE
  cases hf : f ρ with
  | ok x =>
    rw [hf] at p
    cases x with
    | bool b =>
      cases b with
      | false => exact fun H' s1 k1 => (if_neg Bool.false_ne_true).mpr fun _ => ⟨O, ρ, R.same s1, Post.imp (H := H) (r := (g ρ >>= fun x => blD x)) p fun b' _ q H2 s2 k2 => q H2 (s1.trans s2) k2⟩
      | true => exact fun H' s1 k1 => (if_pos rfl).mpr (p H' s1 k1)
    | _ => exact p.elim
  | exc c => rw [hf] at p; exact p
  | stuck => rw [hf] at p; exact p
def iteE (t f g : DE) : DE := fun ρ => do let x ← t ρ; let b ← blD x; if b then f ρ else g ρ
theorem d_ite (C : Ctx X G L bl) {t : DE} (hc : PT X c (tTst G (tstE t))) (ha : PE X a (tS G f)) (hb : PE X b (tS G g)) : PE X (.IfExp c a b pos) (tS G (iteE t f g)) := by
  refine pe_imp (pe_ifExp hc ha hb) fun σ H Q kf w => fun k => ?_
  obtain ⟨O, ρ, R, p⟩ := w k
  refine ⟨O, ρ, R, ?_⟩
  unfold iteE at p
  unfold tstE
  cases hf : t ρ with
  | ok x =>
    rw [hf] at p
    cases x with
    | bool b =>
      cases b with
      | true => exact fun H' s1 k1 => (if_pos rfl).mpr fun _ => ⟨O, ρ, R.same s1, Post.imp (H := H) (r := f ρ) p fun d _ q v H2 s2 k2 a2 => fun _ => q v H2 (s1.trans s2) k2 a2⟩
      | false => exact fun H' s1 k1 => (if_neg Bool.false_ne_true).mpr fun _ => ⟨O, ρ, R.same s1, Post.imp (H := H) (r := g ρ) p fun d _ q v H2 s2 k2 a2 => fun _ => q v H2 (s1.trans s2) k2 a2⟩
    | _ => exact p.elim
  | exc c => rw [hf] at p; exact p
  | stuck => rw [hf] at p; exact p
end
end Den
namespace Den
open PySem PySem.Spec PyProof.Rows L2
section
variable {G : Gc} {O : Addr → Prop} {σ : L2.St} {H : Hp} {ρ : Ro}
theorem set_at {α : Type} {l : List α} {i j : Nat} {x y : α} (h : (l.set i x)[j]? = some y) : (i = j ∧ x = y ∧ i < l.length) ∨ (i ≠ j ∧ l[j]? = some y) := by
  by_cases e : i = j
  · subst e
    by_cases hl : i < l.length
    · rw [List.getElem?_set_self hl] at h
      exact .inl ⟨rfl, Option.some.inj h, hl⟩
    · rw [List.getElem?_eq_none (by simpa using hl)] at h; cases h
  · rw [List.getElem?_set_ne e] at h
    exact .inr ⟨e, h⟩
theorem Rep.set {i : Nat} {d : D} {v : V} (R : Rep G O σ H ρ) (a : At G.K H O d v) (hw : G.own i = false) : Rep G O (σ.set i (some v)) H (ρ.set i (some d)) := by
  refine ⟨R.base, R.sub, R.trk, R.fre, by rw [List.length_set, List.length_set]; exact R.len, fun j e hj nj => ?_, fun j e hj nj => ?_, fun j k e e' b hjk nj nk hj hk h1 h2 => ?_⟩
  · rcases set_at hj with ⟨rfl, e1, hl⟩ | ⟨ne, hj'⟩
    · cases e1
      exact ⟨v, List.getElem?_set_self (by rw [← R.len]; exact hl), a⟩
    · obtain ⟨u, e1, h1⟩ := R.slot j e hj' nj
      exact ⟨u, by rw [List.getElem?_set_ne ne]; exact e1, h1⟩
  · have ne : i ≠ j := fun z => by subst z; rw [hw] at nj; cases nj
    rw [List.getElem?_set_ne ne] at hj
    obtain ⟨b, ds, vs, e0, e1, r⟩ := R.owns j e hj nj
    exact ⟨b, ds, vs, e0, by rw [List.getElem?_set_ne ne]; exact e1, r⟩
  · have n1 : i ≠ j := fun z => by subst z; rw [hw] at nj; cases nj
    have n2 : i ≠ k := fun z => by subst z; rw [hw] at nk; cases nk
    rw [List.getElem?_set_ne n1] at hj h1
    rw [List.getElem?_set_ne n2] at hk h2
    exact R.dist j k e e' b hjk nj nk hj hk h1 h2
theorem Rep.drop {i : Nat} (R : Rep G O σ H ρ) : Rep G O (σ.set i none) H (ρ.set i none) := by
  refine ⟨R.base, R.sub, R.trk, R.fre, by rw [List.length_set, List.length_set]; exact R.len, fun j e hj nj => ?_, fun j e hj nj => ?_, fun j k e e' b hjk nj nk hj hk h1 h2 => ?_⟩
  · rcases set_at hj with ⟨rfl, e1, hl⟩ | ⟨ne, hj'⟩
    · cases e1
    · obtain ⟨u, e1, h1⟩ := R.slot j e hj' nj
      exact ⟨u, by rw [List.getElem?_set_ne ne]; exact e1, h1⟩
  · rcases set_at hj with ⟨rfl, e1, hl⟩ | ⟨ne, hj'⟩
    · cases e1
    · obtain ⟨b, ds, vs, e0, e1, r⟩ := R.owns j e hj' nj
      exact ⟨b, ds, vs, e0, by rw [List.getElem?_set_ne ne]; exact e1, r⟩
  · rcases set_at hj with ⟨_, e1, _⟩ | ⟨n1, hj'⟩
    · cases e1
    rcases set_at hk with ⟨_, e1, _⟩ | ⟨n2, hk'⟩
    · cases e1
    rw [List.getElem?_set_ne n1] at h1
    rw [List.getElem?_set_ne n2] at h2
    exact R.dist j k e e' b hjk nj nk hj' hk' h1 h2
theorem Rep.forget {i : Nat} (R : Rep G O σ H ρ) : Rep G O σ H (ρ.set i none) := by
  refine ⟨R.base, R.sub, R.trk, R.fre, by rw [List.length_set]; exact R.len, fun j e hj nj => ?_, fun j e hj nj => ?_, fun j k e e' b hjk nj nk hj hk h1 h2 => ?_⟩
  · rcases set_at hj with ⟨rfl, e1, hl⟩ | ⟨ne, hj'⟩
    · cases e1
    · exact R.slot j e hj' nj
  · rcases set_at hj with ⟨rfl, e1, hl⟩ | ⟨ne, hj'⟩
    · cases e1
    · exact R.owns j e hj' nj
  · rcases set_at hj with ⟨_, e1, _⟩ | ⟨n1, hj'⟩
    · cases e1
    rcases set_at hk with ⟨_, e1, _⟩ | ⟨n2, hk'⟩
    · cases e1
    exact R.dist j k e e' b hjk nj nk hj' hk' h1 h2
def wipeR (ρ : Ro) : List Nat → Ro
  | [] => ρ
  | v :: vs => (wipeR ρ vs).set v none
theorem Rep.wipe (R : Rep G O σ H ρ) : ∀ vs : List Nat, Rep G O (L2.wipe σ vs) H (wipeR ρ vs)
  | [] => R
  | v :: vs => (R.wipe vs).drop
theorem wipe_get {σ : L2.St} : ∀ {vs : List Nat} {j : Nat}, (L2.wipe σ vs)[j]? = if j ∈ vs then (if j < σ.length then some none else none) else σ[j]?
  | [], j => by simp [L2.wipe]
  | v :: vs, j => by
    unfold L2.wipe
    by_cases e : v = j
    · subst e
      rw [if_pos List.mem_cons_self]
      by_cases hl : v < σ.length
      · rw [if_pos hl, List.getElem?_set_self (by rw [wipe_length]; exact hl)]
      · rw [if_neg hl, List.getElem?_eq_none (by rw [List.length_set, wipe_length]; omega)]
    · rw [List.getElem?_set_ne e, wipe_get (vs := vs) (j := j)]
      by_cases h : j ∈ vs
      · rw [if_pos h, if_pos (List.mem_cons_of_mem _ h)]
      · rw [if_neg h, if_neg (fun z => (List.mem_cons.mp z).elim (fun q => e q.symm) h)]
theorem wipe_eq {σ σ' : L2.St} {vs : List Nat} (hl : σ'.length = σ.length) (h : ∀ j, j ∉ vs → σ'[j]? = σ[j]?) : L2.wipe σ' vs = L2.wipe σ vs := by
  apply List.ext_getElem?
  intro j
  rw [wipe_get, wipe_get, hl]
  by_cases hj : j ∈ vs
  · rw [if_pos hj, if_pos hj]
  · rw [if_neg hj, if_neg hj]; exact h j hj
end
theorem wipe_wipe {σ : L2.St} {vs : List Nat} : L2.wipe (L2.wipe σ vs) vs = L2.wipe σ vs := wipe_eq (wipe_length _ _) fun j hj => by rw [wipe_get, if_neg hj]
abbrev Gc.noE (G : Gc) : Gc := { G with E := fun _ _ _ => False }
theorem Rep.noE {G : Gc} {O : Addr → Prop} {σ : L2.St} {H : Hp} {ρ : Ro} (R : Rep G O σ H ρ) : Rep G.noE O σ H ρ := ⟨R.base, R.sub, R.trk, R.fre, R.len, R.slot, R.owns, R.dist⟩
abbrev STg := D → Ro → Rs Ro
def tTg (G : Gc) (vs : List Nat) (st : STg) : TG := fun v σ H Q => KF G.K H → ∃ O ρ d ρ', Rep G O σ H ρ ∧ At G.K H O d v ∧ st d ρ = .ok ρ' ∧ ∀ σ', Rep G O σ' H ρ' → L2.wipe σ' vs = L2.wipe σ vs → Q σ' H
theorem pg_imp {X : Cx} {tg : Expr} {t t' : TG} (h : PG X tg t) (hi : ∀ v σ H Q, KF X.K H → t' v σ H Q → t v σ H Q) : PG X tg t' := ⟨fun pins s σ H v u Q I r w => h.run pins s σ H v u Q I r (hi v σ H Q (kf_inv I) w)⟩
def setN (i : Nat) : STg := fun d ρ => .ok (ρ.set i (some d))
def setAll : List Nat → List D → Ro → Rs Ro
  | [], [], ρ => .ok ρ
  | i :: is, d :: ds, ρ => setAll is ds (ρ.set i (some d))
  | _, _, _ => .stuck
def setT (is : List Nat) : STg := fun d ρ => match d with
  | .tuple ds => setAll is ds ρ
  | _ => .stuck
section
variable {X : Cx} {G : Gc} {pos : Pos}
theorem g_name {vs : List Nat} {i : Nat} {x : Str} (hK : X.K = G.K) (hN : X.N.Nodup) (hi : X.N[i]? = some x) (hx : Loc X.env.scope x) (hf : X.fn x = true ∨ X.env.scope.names.lookup x = some .local) (hw : G.own i = false) (hv : i ∈ vs) : PG X (.Name x pos) (tTg G vs (setN i)) := by
  refine pg_imp (pg_name hN hi hx hf) fun v σ H Q kf w => ?_
  obtain ⟨O, ρ, d, ρ', R, a, e, q⟩ := w (hK ▸ kf)
  cases e
  refine q _ (R.set a hw) (wipe_eq (by simp) fun j hj => ?_)
  rw [List.getElem?_set_ne (by rintro rfl; exact hj hv)]
def tTgs (G : Gc) (vs : List Nat) (is : List Nat) : TGs := fun us σ H Q => KF G.K H → ∃ O ρ ds ρ', Rep G O σ H ρ ∧ AtL G.K H O ds us ∧ setAll is ds ρ = .ok ρ' ∧ ∀ σ', Rep G O σ' H ρ' → L2.wipe σ' vs = L2.wipe σ vs → Q σ' H
theorem gs_nil {vs : List Nat} (hK : X.K = G.K) : PGs X [] (tTgs G vs []) := ⟨fun pins s σ H us uv Q I r w => by
  obtain ⟨O, ρ, ds, ρ', R, a, e, q⟩ := w (hK ▸ kf_inv I)
  cases ds with
  | nil =>
    cases a
    cases e
    exact (pgs_nil (X := X)).run pins s σ H [] uv Q I r ⟨rfl, q σ R rfl⟩
  | cons _ _ => cases e⟩
theorem gs_cons {vs : List Nat} {i : Nat} {is : List Nat} {x : Str} {p : Pos} {es : List Expr} (hK : X.K = G.K) (hN : X.N.Nodup) (hi : X.N[i]? = some x) (hx : Loc X.env.scope x) (hf : X.fn x = true ∨ X.env.scope.names.lookup x = some .local) (hw : G.own i = false) (hv : i ∈ vs)
    (h : PGs X es (tTgs G vs is)) : PGs X (.Name x p :: es) (tTgs G vs (i :: is)) := ⟨fun pins s σ H us uv Q I r w => by
  have k := hK ▸ kf_inv I
  obtain ⟨O, ρ, ds, ρ', R, a, e, q⟩ := w k
  cases ds with
  | nil => cases e
  | cons d ds =>
    obtain ⟨v, ur, rfl, a1, a2⟩ := a
    refine (pgs_cons (pg_name (pos := p) hN hi hx hf) h rfl).run pins s σ H (v :: ur) uv Q I r ⟨v, ur, rfl, fun _ => ?_⟩
    refine ⟨O, _, ds, ρ', R.set a1 hw, a2, e, fun σ' R' hw' => q σ' R' (hw'.trans (wipe_eq (by simp) fun j hj => ?_))⟩
    rw [List.getElem?_set_ne (by rintro rfl; exact hj hv)]⟩
theorem setAll_len : ∀ (is : List Nat) (ds : List D) (ρ ρ' : Ro), setAll is ds ρ = .ok ρ' → ds.length = is.length := by
  intro is
  induction is with
  | nil => intro ds ρ ρ' h; cases ds with
    | nil => rfl
    | cons _ _ => cases h
  | cons i is ih => intro ds ρ ρ' h; cases ds with
    | nil => cases h
    | cons d ds => rw [List.length_cons, List.length_cons, ih ds _ ρ' h]
theorem g_tup {vs : List Nat} {is : List Nat} {es : List Expr} {k : Nat} (hK : X.K = G.K) (hc : X.calm = true) (h : PGs X es (tTgs G vs is)) (hn : (assignEach es X.env).length = is.length) (hst : (assignEach es X.env).findIdx? (·.1) = none) : PG X (.Tuple es k pos) (tTg G vs (setT is)) := by
  refine pg_imp (pg_tup (n := is.length) hc h hn hst) fun v σ H Q kf w => ?_
  obtain ⟨O, ρ, d, ρ', R, a, e, q⟩ := w (hK ▸ kf)
  cases d with
  | tuple ds =>
    obtain ⟨p, us, rfl, h1, n1, h2⟩ := a
    rw [hK]
    exact ⟨p, us, rfl, h1, by rw [h2.length]; exact setAll_len _ _ _ _ e, fun _ => ⟨O, ρ, ds, ρ', R, h2, e, q⟩⟩
  | _ => cases e
end
structure Walk (K : W.Frag) (M O : Addr → Prop) (J : It) (H0 : Hp) (ds : List D) : Prop where
  len : ds.length ≤ sizeLine
  go : ∀ i d H, ds[i]? = some d → Kp M H0 H → J.go i H ∧ ∀ x H', J.yld i H x H' → Same H H' ∧ ∀ O', (∀ a, O' a → O a ∨ (H0 a = none ∧ K.lookup a = none)) → Trk O' H → At K H' O' d x
  stop : ∀ H, Kp M H0 H → J.stop ds.length H
mutual
theorem At.move {K : W.Frag} {M O O' : Addr → Prop} {H H' : Hp} (hm : ∀ a, M a → O a) (k : Kp M H H') (g : ∀ a, O' a → O a ∨ (H a = none ∧ K.lookup a = none)) : ∀ {d : D} {v : V}, At K H O d v → At K H' O' d v
  | .none, _, h => h
  | .bool _, _, h => h
  | .int _, _, h => h
  | .str _, _, h => h
  | .list _, _, h => by
    obtain ⟨a, vs, e, h1, h2, h3⟩ := h
    exact ⟨a, vs, e, sqL_kp k (fun z => h2 (hm a z)) h1, fun z => (g a z).elim h2 fun q => sqL_there q.1 q.2 h1 rfl, AtL.move hm k g h3⟩
  | .tuple _, _, h => by
    obtain ⟨a, vs, e, h1, h2, h3⟩ := h
    exact ⟨a, vs, e, sqT_kp k (fun z => h2 (hm a z)) h1, fun z => (g a z).elim h2 fun q => sqT_there q.1 q.2 h1 rfl, AtL.move hm k g h3⟩
  | .dict _, _, h => h.elim
theorem AtL.move {K : W.Frag} {M O O' : Addr → Prop} {H H' : Hp} (hm : ∀ a, M a → O a) (k : Kp M H H') (g : ∀ a, O' a → O a ∨ (H a = none ∧ K.lookup a = none)) : ∀ {ds : List D} {vs : List V}, AtL K H O ds vs → AtL K H' O' ds vs
  | [], _, h => h
  | _ :: _, _, h => by
    obtain ⟨v, r, e, h1, h2⟩ := h
    exact ⟨v, r, e, At.move hm k g h1, AtL.move hm k g h2⟩
end
theorem walk_list {K : W.Frag} {M O : Addr → Prop} {H : Hp} {a : Addr} {ds : List D} {vs : List V} (hm : ∀ a, M a → O a) (hz : vs.length ≤ sizeLine) (h1 : SqL K H a vs) (n : ¬ M a) (h2 : AtL K H O ds vs) : Walk K M O (Itl K a) H ds where
  len := by rw [← h2.length]; exact hz
  go := fun i d H' e k => by
    obtain ⟨v, e1, a1⟩ := h2.get e
    have q := sqL_kp k n h1
    refine ⟨⟨vs, v, q, e1⟩, fun x H'' y => ?_⟩
    obtain ⟨rfl, y2⟩ := y
    have := y2 vs q
    rw [e1] at this; cases this
    exact ⟨Same.refl _, fun O' g t => a1.move hm k g⟩
  stop := fun H' k => ⟨vs, sqL_kp k n h1, by rw [h2.length]; exact Nat.le_refl _⟩
theorem walk_tup {K : W.Frag} {M O : Addr → Prop} {H : Hp} {a : Addr} {ds : List D} {vs : List V} (hm : ∀ a, M a → O a) (hz : vs.length ≤ sizeLine) (h1 : SqT K H a vs) (n : ¬ M a) (h2 : AtL K H O ds vs) : Walk K M O (Itt K a) H ds where
  len := by rw [← h2.length]; exact hz
  go := fun i d H' e k => by
    obtain ⟨v, e1, a1⟩ := h2.get e
    have q := sqT_kp k n h1
    refine ⟨⟨vs, v, q, e1⟩, fun x H'' y => ?_⟩
    obtain ⟨rfl, y2⟩ := y
    have := y2 vs q
    rw [e1] at this; cases this
    exact ⟨Same.refl _, fun O' g t => a1.move hm k g⟩
  stop := fun H' k => ⟨vs, sqT_kp k n h1, by rw [h2.length]; exact Nat.le_refl _⟩
def rngD (lo : Int) (n : Nat) : List D := (List.range n).map fun i : Nat => PyData.int (lo + (i : Int))
theorem rngD_length (lo : Int) (n : Nat) : (rngD lo n).length = n := by unfold rngD; simp
theorem walk_rng {K : W.Frag} {M O : Addr → Prop} {H : Hp} {lo : Int} {n : Nat} (hz : n ≤ sizeLine) : Walk K M O (Itr lo n) H (rngD lo n) where
  len := by rw [rngD_length]; exact hz
  go := fun i d H' e k => by
    unfold rngD at e
    rw [List.getElem?_map] at e
    by_cases hi : i < n
    · rw [List.getElem?_range hi] at e
      cases e
      refine ⟨hi, fun x H'' y => ?_⟩
      obtain ⟨rfl, rfl⟩ := y
      exact ⟨Same.refl _, fun _ _ _ => rfl⟩
    · rw [List.getElem?_eq_none (by simpa using hi)] at e; cases e
  stop := fun H' k => by rw [rngD_length]; exact Nat.le_refl n
abbrev mk (wk : Bool) (O : Addr → Prop) : Addr → Prop := if wk = true then fun _ => False else O
theorem mk_le {wk : Bool} {O : Addr → Prop} : ∀ a, mk wk O a → O a := by
  cases wk with
  | true => exact fun _ h => h.elim
  | false => exact fun _ h => h
abbrev DI := Ro → Rs (List D)
def tIt (G : Gc) (wk : Bool) (f : DI) : TI := fun σ H R => KF G.K H → ∃ O ρ, Rep G O σ H ρ ∧ Post G H (f ρ) fun ds => ∀ J H', Same H H' → KF G.K H' → Walk G.K (mk wk O) O J H' ds → R J H'
section
variable {X : Cx} {G : Gc} {L : Nat} {bl : List Str} {tg e a b : Expr} {f g : DE} {pos : Pos}
theorem pi_imp {iter : Expr} {t t' : TI} (h : PI X tg iter t) (hi : ∀ σ H R, KF X.K H → t' σ H R → t σ H fun J H' => KF X.K H' → R J H') : PI X tg iter t' :=
  ⟨fun pins s σ H R I w => thn (h.run pins s σ H _ I (hi σ H R (kf_inv I) w)) fun v s1 h1 => thn h1 fun itv s2 h2 => by
    obtain ⟨it, fp, tn, J, H', e, I2, T, st, ff, q⟩ := h2
    exact ⟨it, fp, tn, J, H', e, I2, T, st, ff, q (kf_inv I2)⟩⟩
theorem pi_or {iter : Expr} {t t' : TI} (h : PI X tg iter t) (h' : PI X tg iter t') : PI X tg iter (fun σ H R => t σ H R ∨ t' σ H R) :=
  ⟨fun pins s σ H R I w => w.elim (h.run pins s σ H R I) (h'.run pins s σ H R I)⟩
theorem pi_listB {l : Expr} {tl : TE} (hl : PE X l tl) : PI X tg l (fun σ H R => tl σ H fun x H1 => ∃ a xs, x = .ref a ∧ SqL X.K H1 a xs ∧ (xs.length ≤ sizeLine → R (Itl X.K a) H1)) := by
  refine ⟨fun pins s σ H R I h => ?_⟩
  refine thn (hl.run pins s σ H _ I h) fun v s1 ⟨x, H1, I1, r1, q1⟩ => ?_
  obtain ⟨a, xs, e, hq, q⟩ := q1
  subst e
  cases r1
  obtain ⟨its, rv, p, hz⟩ := I1.list hq
  refine wpAny_pyIter_list p.isList ?_
  refine ⟨s1.heap.objs.size, [s1.heap.objs.size], _, _, H1, rfl, I1.kept (t' := s1.toks) fun b o e => Heap.get?_push_of_some _ e, turn_list a _, ⟨_, Heap.get?_push_size _ rfl, rfl, rfl⟩, fun b hb => ?_, q hz⟩
  have e : b = s1.heap.objs.size := by simpa using hb
  subst e
  exact I1.fpOk (Nat.le_refl _) (I1.hok.fresh (Nat.le_refl _))
theorem pi_tupB {l : Expr} {tl : TE} (hl : PE X l tl) : PI X tg l (fun σ H R => tl σ H fun x H1 => ∃ a xs, x = .ref a ∧ SqT X.K H1 a xs ∧ (xs.length ≤ sizeLine → R (Itt X.K a) H1)) := by
  refine ⟨fun pins s σ H R I h => ?_⟩
  refine thn (hl.run pins s σ H _ I h) fun v s1 ⟨x, H1, I1, r1, q1⟩ => ?_
  obtain ⟨a, xs, e, hq, q⟩ := q1
  subst e
  cases r1
  obtain ⟨its, rv, p, hz⟩ := I1.tuple hq
  refine wpAny_pyIter_tuple (show s1.heap.IsTuple a its.toArray from p) ?_
  refine ⟨s1.heap.objs.size, [s1.heap.objs.size], _, _, H1, rfl, I1.kept (t' := s1.toks) fun b o e => Heap.get?_push_of_some _ e, turn_tuple a _, ⟨_, Heap.get?_push_size _ rfl, rfl, rfl⟩, fun b hb => ?_, q hz⟩
  have e : b = s1.heap.objs.size := by simpa using hb
  subst e
  exact I1.fpOk (Nat.le_refl _) (I1.hok.fresh (Nat.le_refl _))
def seqD : D → Rs (List D)
  | .list ds => .ok ds
  | .tuple ds => .ok ds
  | _ => .stuck
def seqE (f : DE) : DI := fun ρ => do let d ← f ρ; seqD d
theorem i_seqW (C : Ctx X G L bl) (ha : PE X a (tW G f)) : PI X tg a (tIt G true (seqE f)) := by
  refine pi_imp (pi_or (pi_listB ha) (pi_tupB ha)) fun σ H R kf w => ?_
  have k0 := C.kf kf
  obtain ⟨O, ρ, R0, p⟩ := w k0
  have p' := p.bind
  cases hf : f ρ with
  | ok d =>
    rw [hf] at p'
    cases d with
    | list ds =>
      refine .inl fun k => ⟨O, ρ, R0, ?_⟩
      rw [hf]
      intro v H' s1 k1 a1
      obtain ⟨a, vs, rfl, h1, h2⟩ := a1
      rw [C.K]
      exact ⟨a, vs, rfl, h1, fun hz _ => p' _ _ s1 k1 (walk_list mk_le hz h1 (fun z => z) h2)⟩
    | tuple ds =>
      refine .inr fun k => ⟨O, ρ, R0, ?_⟩
      rw [hf]
      intro v H' s1 k1 a1
      obtain ⟨a, vs, rfl, h1, n1, h2⟩ := a1
      rw [C.K]
      exact ⟨a, vs, rfl, h1, fun hz _ => p' _ _ s1 k1 (walk_tup mk_le hz h1 (fun z => z) h2)⟩
    | _ => exact p'.elim
  | exc c =>
    rw [hf] at p'
    exact .inl fun k => ⟨O, ρ, R0, by rw [hf]; exact p'⟩
  | stuck => rw [hf] at p'; exact p'.elim
theorem i_seqS (C : Ctx X G L bl) (ha : PE X a (tS G f)) : PI X tg a (tIt G false (seqE f)) := by
  refine pi_imp (pi_or (pi_listB ha) (pi_tupB ha)) fun σ H R kf w => ?_
  have k0 := C.kf kf
  obtain ⟨O, ρ, R0, p⟩ := w k0
  have p' := p.bind
  cases hf : f ρ with
  | ok d =>
    rw [hf] at p'
    cases d with
    | list ds =>
      refine .inl fun k => ⟨O, ρ, R0, ?_⟩
      rw [hf]
      intro v H' s1 k1 a1
      obtain ⟨a, vs, rfl, h1, n1, h2⟩ := a1
      rw [C.K]
      exact ⟨a, vs, rfl, h1, fun hz _ => p' _ _ s1 k1 (walk_list mk_le hz h1 n1 h2)⟩
    | tuple ds =>
      refine .inr fun k => ⟨O, ρ, R0, ?_⟩
      rw [hf]
      intro v H' s1 k1 a1
      obtain ⟨a, vs, rfl, h1, n1, h2⟩ := a1
      rw [C.K]
      exact ⟨a, vs, rfl, h1, fun hz _ => p' _ _ s1 k1 (walk_tup mk_le hz h1 n1 h2)⟩
    | _ => exact p'.elim
  | exc c =>
    rw [hf] at p'
    exact .inl fun k => ⟨O, ρ, R0, by rw [hf]; exact p'⟩
  | stuck => rw [hf] at p'; exact p'.elim
def rng1 (f : DE) : DI := fun ρ => do let d ← f ρ; let j ← intD d; if -(big : Int) ≤ j ∧ j ≤ big then .ok (rngD 0 j.toNat) else .stuck
def rng2 (f g : DE) : DI := fun ρ => do let d ← f ρ; let d' ← g ρ; let i ← intD d; let j ← intD d'; if (-(big : Int) ≤ i ∧ i ≤ big) ∧ (-(big : Int) ≤ j ∧ j ≤ big) then .ok (rngD i (j - i).toNat) else .stuck
theorem two_big {i j : Int} (hi : -(big : Int) ≤ i) (hj : j ≤ big) : (j - i).toNat ≤ sizeLine := by rw [sizeLine_eq]; unfold big at *; omega
theorem i_rng1 (C : Ctx X G L bl) {wk : Bool} {p : Pos} (hg : Gl X "range") (hm : X.mg "range" = none) (ha : PA X [a] (tArgW G (consArg f noArg))) (hs : starEach [a] X.env = [(false, eval a X.env)]) : PI X tg (.Call (.Name "range" p) [a] [] pos) (tIt G wk (rng1 f)) := by
  refine pi_imp (pi_range1 hg hm ha hs) fun σ H R kf w => fun k => ?_
  obtain ⟨O, ρ, R0, q⟩ := w k
  refine ⟨O, ρ, R0, ?_⟩
  have q' := q.bind
  unfold consArg noArg
  cases hf : f ρ with
  | ok d =>
    rw [hf] at q'
    cases d with
    | int j =>
      have q2 : Post G H (if -(big : Int) ≤ j ∧ j ≤ big then Rs.ok (rngD 0 j.toNat) else Rs.stuck) _ := q'
      split at q2
      · rename_i hj
        intro vs H1 s1 k1 a1
        obtain ⟨v, r, rfl, a2, a3⟩ := a1
        cases a2; cases a3
        exact ⟨j, rfl, by unfold big at hj; omega, by unfold big at hj; omega, fun _ => q2 _ _ s1 k1 (walk_rng (by have := two_big (i := 0) (j := j) (by unfold big; omega) hj.2; simpa using this))⟩
      · exact q2.elim
    | _ => exact q'.elim
  | exc c => rw [hf] at q'; exact q'
  | stuck => rw [hf] at q'; exact q'.elim
theorem i_rng2 (C : Ctx X G L bl) {wk : Bool} {p : Pos} (hg : Gl X "range") (hm : X.mg "range" = none) (ha : PA X [a, b] (tArgW G (consArg f (consArg g noArg)))) (hs : starEach [a, b] X.env = [(false, eval a X.env), (false, eval b X.env)]) (hs2 : starEach [b] X.env = [(false, eval b X.env)]) : PI X tg (.Call (.Name "range" p) [a, b] [] pos) (tIt G wk (rng2 f g)) := by
  refine pi_imp (pi_range2 hg hm ha hs hs2) fun σ H R kf w => fun k => ?_
  obtain ⟨O, ρ, R0, q⟩ := w k
  refine ⟨O, ρ, R0, ?_⟩
  have q' := q.bind
  unfold consArg noArg
  cases hf : f ρ with
  | ok d =>
    rw [hf] at q'
    have q3 := Post.bind (G := G) (H := H) (r := g ρ) q'
    cases hg' : g ρ with
    | ok d' =>
      rw [hg'] at q3
      have q4 : Post G H (intD d >>= fun i => intD d' >>= fun j => if (-(big : Int) ≤ i ∧ i ≤ big) ∧ (-(big : Int) ≤ j ∧ j ≤ big) then Rs.ok (rngD i (j - i).toNat) else Rs.stuck) _ := q3
      cases d with
      | int i =>
        cases d' with
        | int j =>
          have q2 : Post G H (if (-(big : Int) ≤ i ∧ i ≤ big) ∧ (-(big : Int) ≤ j ∧ j ≤ big) then Rs.ok (rngD i (j - i).toNat) else Rs.stuck) _ := q4
          split at q2
          · rename_i hj
            intro vs H1 s1 k1 a1
            obtain ⟨v, r, rfl, a2, v', r', rfl, a3, a4⟩ := a1
            cases a2; cases a3; cases a4
            exact ⟨i, j, rfl, ⟨by unfold big at hj; omega, by unfold big at hj; omega, by unfold big at hj; omega, by unfold big at hj; omega⟩, fun _ => q2 _ _ s1 k1 (walk_rng (two_big hj.1.1 hj.2.2))⟩
          · exact q2.elim
        | _ => exact q4.elim
      | _ => exact q4.elim
    | exc c => rw [hg'] at q3; exact q3
    | stuck => rw [hg'] at q3; exact q3.elim
  | exc c => rw [hf] at q'; exact q'
  | stuck => rw [hf] at q'; exact q'.elim
end
def compL (st : STg) (ft : Ro → Rs Bool) (fe : DE) (ρ : Ro) : List D → Rs (List D)
  | [] => .ok []
  | d :: ds => do
    let ρ1 ← st d ρ
    let b ← ft ρ1
    if b then (do let y ← fe ρ1; let r ← compL st ft fe ρ ds; pure (y :: r)) else compL st ft fe ρ ds
def compE (vs : List Nat) (fi : DI) (st : STg) (ft : Ro → Rs Bool) (fe : DE) : DE := fun ρ => do
  let ds ← fi ρ
  let r ← (compL st ft fe (wipeR ρ vs) ds).noexc
  pure (.list r)
theorem Rep.plus {G : Gc} {O : Addr → Prop} {σ : L2.St} {H : Hp} {ρ : Ro} {p : Addr} {o : HO} (R : Rep G O σ H ρ) (n : H p = none) (nk : G.K.lookup p = none) : Rep G (fun a => O a ∨ a = p) σ (upd H p o) ρ := by
  have s := same_upd (o := o) n
  have R' := R.same s
  refine ⟨R'.base, fun a h => .inl (R.sub a h), fun a h => ?_, fun a h hn => ?_, R.len, fun i d e nw => ?_, fun i d e nw => ?_, R.dist⟩
  · rcases h with h | h
    · exact R'.trk a h
    · exact ⟨o, by rw [h]; exact upd_same⟩
  · rcases h with h | h
    · exact R.fre a h hn
    · rw [h]; exact R.base.free n
  · obtain ⟨v, e1, h1⟩ := R.slot i d e nw
    exact ⟨v, e1, (h1.grow n nk).same s⟩
  · obtain ⟨a, ds, vs, e0, e1, e2, h1, h2, h3⟩ := R.owns i d e nw
    exact ⟨a, ds, vs, e0, e1, s _ _ e2, (h1.grow n nk).same s, .inl h2, h3⟩
section
variable {X : Cx} {G : Gc} {L : Nat} {bl : List Str} {tg iter elt : Expr} {ifs : List Expr} {fi : DI} {st : STg} {ft : Ro → Rs Bool} {fe : DE} {pos : Pos} {scope : Scope} {own : List (Str × Nat)}
theorem comp_core (C : Ctx X G L bl) {vs : List Nat} {σ : L2.St} {H : Hp} {Q : VK} (w : tF G (compE vs fi st ft fe) σ H Q) : tLc (tIt G true fi) (tTg G.noE vs st) (tTst G.noE ft) (tS G.noE fe) vs σ H fun v H' => KF X.K H' → Q v H' := fun k => by
  obtain ⟨O, ρ, R, p⟩ := w k
  refine ⟨O, ρ, R, p.bind.imp fun ds _ q J H1 s1 k1 wk => ?_⟩
  intro Dd hD
  have q' := q.bind
  cases hc : compL st ft fe (wipeR ρ vs) ds with
  | exc c => rw [hc] at q'; exact q'.elim
  | stuck => rw [hc] at q'; exact q'.elim
  | ok rs =>
    rw [hc] at q'
    have R1 := R.same s1
    refine ⟨fun i m H5 => m = ds.length - i ∧ i ≤ ds.length ∧ Same H1 H5 ∧ ∃ us rs1 rs2, H5 Dd = some (.lst us) ∧ AtL G.K H5 (fun a => O a ∨ a = Dd) rs1 us ∧ rs1.length ≤ i ∧ compL st ft fe (wipeR ρ vs) (ds.drop i) = .ok rs2 ∧ rs = rs1 ++ rs2,
      ⟨ds.length, by simp, Nat.zero_le _, same_upd hD, [], [], rs, upd_same, rfl, Nat.le_refl _, by simpa using hc, rfl⟩, ?_⟩
    rintro i m H5 ⟨rfl, hi, s5, us, rs1, rs2, e5, a5, l5, c5, er⟩
    by_cases hlt : i < ds.length
    · have hd : ds[i]? = some ds[i] := List.getElem?_eq_getElem hlt
      obtain ⟨go, y⟩ := wk.go i ds[i] H5 hd (.of_same s5)
      refine .inr ⟨go, fun H6 => Same H1 H6 ∧ ∃ us rs1 rs2, H6 Dd = some (.lst us) ∧ AtL G.K H6 (fun a => O a ∨ a = Dd) rs1 us ∧ rs1.length ≤ i + 1 ∧ compL st ft fe (wipeR ρ vs) (ds.drop (i + 1)) = .ok rs2 ∧ rs = rs1 ++ rs2, fun H6 ⟨s6, us, rs1, rs2, r⟩ => ⟨ds.length - (i + 1), by omega, rfl, hlt, s6, us, rs1, rs2, r⟩, fun x H6 hy k6 => ?_⟩
      obtain ⟨s6, a6⟩ := y x H6 hy
      have nk : G.K.lookup Dd = none := kf_no (H := H6) k6 (s6 _ _ e5)
      rw [List.drop_eq_getElem_cons hlt] at c5
      have c6 : (st ds[i] (wipeR ρ vs) >>= fun ρ1 => ft ρ1 >>= fun b => if b = true then (fe ρ1 >>= fun y => compL st ft fe (wipeR ρ vs) (ds.drop (i + 1)) >>= fun r => Rs.ok (y :: r)) else compL st ft fe (wipeR ρ vs) (ds.drop (i + 1))) = .ok rs2 := c5
      cases hst : st ds[i] (wipeR ρ vs) with
      | exc c => rw [hst] at c6; cases c6
      | stuck => rw [hst] at c6; cases c6
      | ok ρ1 =>
        rw [hst] at c6
        have R6 : Rep G (fun a => O a ∨ a = Dd) (L2.wipe σ vs) H6 (wipeR ρ vs) := by
          have Ra : Rep G (fun a => O a ∨ a = Dd) σ (upd H1 Dd (.lst [])) ρ := R1.plus hD nk
          have Rb : Rep G (fun a => O a ∨ a = Dd) σ H6 ρ := by
            have R0 := R1.same (s5.trans s6)
            refine ⟨R0.base, Ra.sub, fun a h => ?_, Ra.fre, R0.len, fun j d e nw => ?_, fun j d e nw => ?_, R0.dist⟩
            · rcases h with h | h
              · exact R0.trk a h
              · exact ⟨_, by rw [h]; exact s6 _ _ e5⟩
            · obtain ⟨v, e1, h1⟩ := R1.slot j d e nw
              exact ⟨v, e1, (h1.grow hD nk).same (s5.trans s6)⟩
            · obtain ⟨a, es, vs', e0, e1, e2, h1, h2, h3⟩ := R1.owns j d e nw
              exact ⟨a, es, vs', e0, e1, (s5.trans s6) _ _ e2, (h1.grow hD nk).same (s5.trans s6), .inl h2, h3⟩
          exact Rb.wipe vs
        have a7 : At G.K H6 (fun a => O a ∨ a = Dd) ds[i] x := a6 _ (fun a z => z.imp id fun z => by rw [z]; exact ⟨hD, nk⟩) (fun a z => by
          rcases z with z | z
          · exact (R1.same s5).trk a z
          · exact ⟨_, by rw [z]; exact e5⟩)
        refine ⟨_, wipeR ρ vs, ds[i], ρ1, R6.noE, a7, hst, fun σ' R' hw' => ⟨hw'.trans wipe_wipe, fun k7 => ⟨_, ρ1, R', ?_⟩⟩⟩
        have c7 : (ft ρ1 >>= fun b => if b = true then (fe ρ1 >>= fun y => compL st ft fe (wipeR ρ vs) (ds.drop (i + 1)) >>= fun r => Rs.ok (y :: r)) else compL st ft fe (wipeR ρ vs) (ds.drop (i + 1))) = .ok rs2 := c6
        cases hft : ft ρ1 with
        | exc c => rw [hft] at c7; cases c7
        | stuck => rw [hft] at c7; cases c7
        | ok b =>
          rw [hft] at c7
          intro H7 s7 k7
          have s17 : Same H1 H7 := s5.trans (s6.trans s7)
          cases b with
          | false =>
            have c8 : compL st ft fe (wipeR ρ vs) (ds.drop (i + 1)) = .ok rs2 := c7
            exact (if_neg Bool.false_ne_true).mpr ⟨s17, us, rs1, rs2, (s6.trans s7) _ _ e5, a5.same (s6.trans s7), by omega, c8, er⟩
          | true =>
            have c8 : (fe ρ1 >>= fun y => compL st ft fe (wipeR ρ vs) (ds.drop (i + 1)) >>= fun r => Rs.ok (y :: r)) = .ok rs2 := c7
            refine (if_pos rfl).mpr fun k8 => ⟨_, ρ1, R'.same s7, ?_⟩
            cases hfe : fe ρ1 with
            | exc c => rw [hfe] at c8; cases c8
            | stuck => rw [hfe] at c8; cases c8
            | ok y =>
              rw [hfe] at c8
              intro v H8 s8 k9 a8
              have c9 : (compL st ft fe (wipeR ρ vs) (ds.drop (i + 1)) >>= fun r => Rs.ok (y :: r)) = .ok rs2 := c8
              cases hcl : compL st ft fe (wipeR ρ vs) (ds.drop (i + 1)) with
              | exc c => rw [hcl] at c9; cases c9
              | stuck => rw [hcl] at c9; cases c9
              | ok rs3 =>
                rw [hcl] at c9
                cases c9
                have e8 : H8 Dd = some (.lst us) := (s6.trans (s7.trans s8)) _ _ e5
                have kp : Kp (fun a => O a ∨ a = Dd) H8 (upd H8 Dd (.lst (us ++ [v]))) := fun b o eb nb => by
                  rw [upd_ne fun z => nb (.inr z)]; exact eb
                have hl5 := a5.length
                have hlen := wk.len
                refine ⟨us, e8, by omega, fun b o eb => ?_, us ++ [v], rs1 ++ [y], rs3, upd_same, AtL.keep kp ((a5.same (s6.trans (s7.trans s8))).append (.one a8)), by simp; omega, rfl, by rw [er]; simp⟩
                rw [upd_ne (ne_of_none eb hD)]
                exact (s17.trans s8) _ _ eb
    · have e : i = ds.length := by omega
      subst e
      have hs' := wk.stop H5 (.of_same s5)
      refine .inl ⟨hs', fun k5 => ?_⟩
      have c6 : rs2 = [] := by
        rw [List.drop_length] at c5
        have : Rs.ok ([] : List D) = Rs.ok rs2 := c5
        cases this; rfl
      subst c6
      rw [List.append_nil] at er
      subst er
      exact q' Dd rs us H5 rfl (s1.trans s5) (C.kf k5) (s1.free hD) e5 a5
theorem d_comp (C : Ctx X G L bl) (hi : PI X tg iter (tIt G true fi)) (ok : BlkOk X.N X.env.scope scope own)
    (hg : ∀ (s : Shared) (H : Hp) (Cc : Addr) (cl : List (Str × Addr)) (fp : List Addr), PG (X.blk s H scope (compEnvC scope cl Cc X.env) fp) tg (tTg G.noE (own.map (·.2)) st))
    (ht : ∀ (s : Shared) (H : Hp) (Cc : Addr) (cl : List (Str × Addr)) (fp : List Addr), PTs (X.blk s H scope (compEnvC scope cl Cc X.env) fp) ifs (tTst G.noE ft))
    (he : ∀ (s : Shared) (H : Hp) (Cc : Addr) (cl : List (Str × Addr)) (fp : List Addr), PE (X.blk s H scope (compEnvC scope cl Cc X.env) fp) elt (tS G.noE fe))
    (hs : ∀ x, foldedSetIterable iter X.env x = pure x) : PE X (.ListComp elt [⟨tg, iter, ifs, 0⟩] scope pos) (tF G (compE (own.map (·.2)) fi st ft fe)) :=
  pe_imp (pe_lc C.calm C.nd hi ok hg ht he hs) fun σ H Q kf w => comp_core C w
end
end Den
namespace Den
open PySem PySem.Spec PyProof.Rows L2
def compL2 (st : STg) (fi1 : DI) (st1 : STg) (ft1 : Ro → Rs Bool) (fe : DE) (vs1 : List Nat) (ρ : Ro) : List D → Rs (List D)
  | [] => .ok []
  | d :: ds => do
    let ρ1 ← st d ρ
    let ds1 ← fi1 ρ1
    let r1 ← compL st1 ft1 fe (wipeR ρ1 vs1) ds1
    let r ← compL2 st fi1 st1 ft1 fe vs1 ρ ds
    pure (r1 ++ r)
def compE2 (vs : List Nat) (fi : DI) (st : STg) (fi1 : DI) (st1 : STg) (ft1 : Ro → Rs Bool) (fe : DE) (vs1 : List Nat) : DE := fun ρ => do
  let ds ← fi ρ
  let r ← (compL2 st fi1 st1 ft1 fe vs1 (wipeR ρ vs) ds).noexc
  if r.length ≤ big then pure (.list r) else .stuck
section
variable {X : Cx} {G : Gc} {L : Nat} {bl : List Str} {tg iter tg1 iter1 elt e : Expr} {ifs : List Expr} {fi fi1 : DI} {st st1 : STg} {ft1 : Ro → Rs Bool} {fe f : DE} {pos : Pos} {scope : Scope} {own : List (Str × Nat)} {vs1 : List Nat}
theorem p_nil (hK : X.K = G.K) : PTs X [] (tTst G fun _ => .ok true) := ⟨fun pins s σ H Q I w => by
  have k := hK ▸ kf_inv I
  obtain ⟨O, ρ, R, q⟩ := w k
  exact pts_nil.run pins s σ H Q I (q H (Same.refl H) k)⟩
theorem p_one (ht : PT X e (tTst G (tstE f))) : PTs X [e] (tTst G (tstE f)) := pts_one ht
abbrev _root_.Den.Gc.wO (G : Gc) (O0 : Addr → Prop) : Gc := { G with E := fun _ _ _ => False, O0 := O0 }
theorem Rep.wO {O : Addr → Prop} {σ : L2.St} {H : Hp} {ρ : Ro} {O0 : Addr → Prop} (R : Rep G O σ H ρ) (h1 : ∀ a, O0 a → O a) (h0 : ∀ a, G.O0 a → O0 a) (h2 : ∀ i d a, ρ[i]? = some (some d) → G.own i = true → σ[i]? = some (some (.ref a)) → ¬ O0 a) : Rep (G.wO O0) O σ H ρ :=
  ⟨R.base, h1, R.trk, fun a h n => R.fre a h fun z => n (h0 a z), R.len, R.slot, fun i d e nw => let ⟨a, ds, vs, e0, e1, e2, q1, q2, _⟩ := R.owns i d e nw; ⟨a, ds, vs, e0, e1, e2, q1, q2, h2 i d a e nw e1⟩, R.dist⟩
theorem comp2_core (C : Ctx X G L bl) {vs : List Nat} {σ : L2.St} {H : Hp} {Q : VK} (w : tF G (compE2 vs fi st fi1 st1 ft1 fe vs1) σ H Q) : tLc2 (tIt G true fi) (fun v σ H Q => ∃ O0, tTg (G.wO O0) vs st v σ H Q) tYes (fun σ H R => ∃ O0, tIt (G.wO O0) false fi1 σ H R) (fun v σ H Q => ∃ O0, tTg (G.wO O0) vs1 st1 v σ H Q) (fun σ H Q => ∃ O0, tTst (G.wO O0) ft1 σ H Q) (fun σ H Q => ∃ O0, tS (G.wO O0) fe σ H Q) vs vs1 σ H fun v H' => KF X.K H' → Q v H' := fun k => by
  obtain ⟨O, ρ, R, p⟩ := w k
  refine ⟨O, ρ, R, p.bind.imp fun ds _ q J H1 s1 k1 wk => ?_⟩
  intro Dd hD
  have q0 := q.bind
  cases hc : compL2 st fi1 st1 ft1 fe vs1 (wipeR ρ vs) ds with
  | exc c => rw [hc] at q0; exact q0.elim
  | stuck => rw [hc] at q0; exact q0.elim
  | ok rs =>
    rw [hc] at q0
    have q1 : Post G H (if rs.length ≤ big then Rs.ok (PyData.list rs) else .stuck) _ := q0
    by_cases hbig : rs.length ≤ big
    case neg => rw [if_neg hbig] at q1; exact q1.elim
    rw [if_pos hbig] at q1
    have hline := big_line hbig
    have R1 := R.same s1
    refine ⟨fun i m H5 => m = ds.length - i ∧ i ≤ ds.length ∧ Same H1 H5 ∧ ∃ us rs1 rs2, H5 Dd = some (.lst us) ∧ AtL G.K H5 (fun a => O a ∨ a = Dd) rs1 us ∧ compL2 st fi1 st1 ft1 fe vs1 (wipeR ρ vs) (ds.drop i) = .ok rs2 ∧ rs = rs1 ++ rs2,
      ⟨ds.length, by simp, Nat.zero_le _, same_upd hD, [], [], rs, upd_same, rfl, by simpa using hc, rfl⟩, ?_⟩
    rintro i m H5 ⟨rfl, hi, s5, us, rs1, rs2, e5, a5, c5, er⟩
    by_cases hlt : i < ds.length
    · have hd : ds[i]? = some ds[i] := List.getElem?_eq_getElem hlt
      obtain ⟨go, y⟩ := wk.go i ds[i] H5 hd (.of_same s5)
      refine .inr ⟨go, fun H6 => Same H1 H6 ∧ ∃ us rs1 rs2, H6 Dd = some (.lst us) ∧ AtL G.K H6 (fun a => O a ∨ a = Dd) rs1 us ∧ compL2 st fi1 st1 ft1 fe vs1 (wipeR ρ vs) (ds.drop (i + 1)) = .ok rs2 ∧ rs = rs1 ++ rs2, fun H6 ⟨s6, us, rs1, rs2, r⟩ => ⟨ds.length - (i + 1), by omega, rfl, hlt, s6, us, rs1, rs2, r⟩, fun x H6 hy => ⟨fun a => G.O0 a ∨ a = Dd, fun k6 => ?_⟩⟩
      obtain ⟨s6, a6⟩ := y x H6 hy
      have nk : G.K.lookup Dd = none := kf_no (H := H6) k6 (s6 _ _ e5)
      rw [List.drop_eq_getElem_cons hlt] at c5
      have c6 : (st ds[i] (wipeR ρ vs) >>= fun ρ1 => fi1 ρ1 >>= fun ds1 => compL st1 ft1 fe (wipeR ρ1 vs1) ds1 >>= fun r1 => compL2 st fi1 st1 ft1 fe vs1 (wipeR ρ vs) (ds.drop (i + 1)) >>= fun r => Rs.ok (r1 ++ r)) = .ok rs2 := c5
      cases hst : st ds[i] (wipeR ρ vs) with
      | exc c => rw [hst] at c6; cases c6
      | stuck => rw [hst] at c6; cases c6
      | ok ρ1 =>
        rw [hst] at c6
        have Rb : Rep G (fun a => O a ∨ a = Dd) σ H6 ρ := by
          have Ra : Rep G (fun a => O a ∨ a = Dd) σ (upd H1 Dd (.lst [])) ρ := R1.plus hD nk
          have R0 := R1.same (s5.trans s6)
          refine ⟨R0.base, Ra.sub, fun a h => ?_, Ra.fre, R0.len, fun j d e nw => ?_, fun j d e nw => ?_, R0.dist⟩
          · rcases h with h | h
            · exact R0.trk a h
            · exact ⟨_, by rw [h]; exact s6 _ _ e5⟩
          · obtain ⟨v, e1, h1⟩ := R1.slot j d e nw
            exact ⟨v, e1, (h1.grow hD nk).same (s5.trans s6)⟩
          · obtain ⟨a, es, vs', e0, e1, e2, h1, h2, h3⟩ := R1.owns j d e nw
            exact ⟨a, es, vs', e0, e1, (s5.trans s6) _ _ e2, (h1.grow hD nk).same (s5.trans s6), .inl h2, h3⟩
        have Rc : Rep (G.wO fun a => G.O0 a ∨ a = Dd) (fun a => O a ∨ a = Dd) σ H6 ρ := Rb.wO (fun a z => z.imp (R.sub a) id) (fun a z => .inl z) fun j d a e nw e1 z => by
          obtain ⟨a', es, vs', _, e1', e2, _, _, h3⟩ := R1.owns j d e nw
          rw [e1] at e1'; cases e1'
          rcases z with z | z
          · exact h3 z
          · rw [z, hD] at e2; cases e2
        have R6 := Rc.wipe vs
        have a7 : At G.K H6 (fun a => O a ∨ a = Dd) ds[i] x := a6 _ (fun a z => z.imp id fun z => by rw [z]; exact ⟨hD, nk⟩) (fun a z => by
          rcases z with z | z
          · exact (R1.same s5).trk a z
          · exact ⟨_, by rw [z]; exact e5⟩)
        refine ⟨_, wipeR ρ vs, ds[i], ρ1, R6, a7, hst, fun σ' R' hw' => ⟨hw'.trans wipe_wipe, ?_⟩⟩
        unfold tYes
        simp only [if_true]
        refine ⟨fun a => G.O0 a ∨ a = Dd, fun k7 => ⟨_, ρ1, R', ?_⟩⟩
        have c7 : (fi1 ρ1 >>= fun ds1 => compL st1 ft1 fe (wipeR ρ1 vs1) ds1 >>= fun r1 => compL2 st fi1 st1 ft1 fe vs1 (wipeR ρ vs) (ds.drop (i + 1)) >>= fun r => Rs.ok (r1 ++ r)) = .ok rs2 := c6
        cases hfi : fi1 ρ1 with
        | exc c => rw [hfi] at c7; cases c7
        | stuck => rw [hfi] at c7; cases c7
        | ok ds1 =>
          rw [hfi] at c7
          intro J1 H7 s7 k7 wk1
          have c8 : (compL st1 ft1 fe (wipeR ρ1 vs1) ds1 >>= fun r1 => compL2 st fi1 st1 ft1 fe vs1 (wipeR ρ vs) (ds.drop (i + 1)) >>= fun r => Rs.ok (r1 ++ r)) = .ok rs2 := c7
          cases hcl : compL st1 ft1 fe (wipeR ρ1 vs1) ds1 with
          | exc c => rw [hcl] at c8; cases c8
          | stuck => rw [hcl] at c8; cases c8
          | ok r1 =>
            rw [hcl] at c8
            have c9 : (compL2 st fi1 st1 ft1 fe vs1 (wipeR ρ vs) (ds.drop (i + 1)) >>= fun r => Rs.ok (r1 ++ r)) = .ok rs2 := c8
            cases hcl2 : compL2 st fi1 st1 ft1 fe vs1 (wipeR ρ vs) (ds.drop (i + 1)) with
            | exc c => rw [hcl2] at c9; cases c9
            | stuck => rw [hcl2] at c9; cases c9
            | ok r2 =>
              rw [hcl2] at c9
              cases c9
              have e7 : H7 Dd = some (.lst us) := (s6.trans s7) _ _ e5
              have s17 : Same H1 H7 := s5.trans (s6.trans s7)
              have R7 := R'.same s7
              refine ⟨fun j k H8 => k = ds1.length - j ∧ j ≤ ds1.length ∧ (∀ b o, H7 b = some o → b ≠ Dd → H8 b = some o) ∧ ∃ us q1 q2, H8 Dd = some (.lst us) ∧ AtL G.K H8 (fun a => O a ∨ a = Dd) (rs1 ++ q1) us ∧ compL st1 ft1 fe (wipeR ρ1 vs1) (ds1.drop j) = .ok q2 ∧ r1 = q1 ++ q2,
                ⟨ds1.length, by simp, Nat.zero_le _, fun b o e _ => e, us, [], r1, e7, by rw [List.append_nil]; exact a5.same (s6.trans s7), by simpa using hcl, rfl⟩, ?_⟩
              rintro j k8 H8 ⟨rfl, hj, b8, us8, q1', q2, e8, a8, c8', er1⟩
              have sH : Same H1 H8 := fun b o eb => b8 b o (s17 _ _ eb) (ne_of_none eb hD)
              have kp : Kp (fun a => O a ∨ a = Dd) H7 H8 := fun b o eb nb => b8 b o eb fun z => nb (.inr z)
              have R8 : Rep (G.wO fun a => G.O0 a ∨ a = Dd) (fun a => O a ∨ a = Dd) σ' H8 ρ1 := by
                refine ⟨R.base.trans (s1.trans sH), R7.sub, fun a h => ?_, R7.fre, R7.len, fun j d e nw => ?_, fun j d e nw => ?_, R7.dist⟩
                · by_cases ha : a = Dd
                  · exact ⟨_, by rw [ha]; exact e8⟩
                  · obtain ⟨o, eo⟩ := R7.trk a h
                    exact ⟨o, b8 _ _ eo ha⟩
                · obtain ⟨v, e1, h1⟩ := R7.slot j d e nw
                  exact ⟨v, e1, h1.keep kp⟩
                · obtain ⟨a, es, vs', e0, e1, e2, h1, h2, h3⟩ := R7.owns j d e nw
                  exact ⟨a, es, vs', e0, e1, b8 _ _ e2 (fun z => h3 (.inr z)), h1.keep kp, h2, h3⟩
              by_cases hjl : j < ds1.length
              · have hd1 : ds1[j]? = some ds1[j] := List.getElem?_eq_getElem hjl
                obtain ⟨go1, y1⟩ := wk1.go j ds1[j] H8 hd1 kp
                refine .inr ⟨go1, fun H9 => (∀ b o, H7 b = some o → b ≠ Dd → H9 b = some o) ∧ ∃ us q1 q2, H9 Dd = some (.lst us) ∧ AtL G.K H9 (fun a => O a ∨ a = Dd) (rs1 ++ q1) us ∧ compL st1 ft1 fe (wipeR ρ1 vs1) (ds1.drop (j + 1)) = .ok q2 ∧ r1 = q1 ++ q2, fun H9 ⟨b9, us, q1, q2, r⟩ => ⟨ds1.length - (j + 1), by omega, rfl, hjl, b9, us, q1, q2, r⟩, fun x1 H9 hy1 => ⟨fun a => G.O0 a ∨ a = Dd, fun k9 => ?_⟩⟩
                obtain ⟨s9, a9⟩ := y1 x1 H9 hy1
                rw [List.drop_eq_getElem_cons hjl] at c8'
                have d6 : (st1 ds1[j] (wipeR ρ1 vs1) >>= fun ρ2 => ft1 ρ2 >>= fun b => if b = true then (fe ρ2 >>= fun y => compL st1 ft1 fe (wipeR ρ1 vs1) (ds1.drop (j + 1)) >>= fun r => Rs.ok (y :: r)) else compL st1 ft1 fe (wipeR ρ1 vs1) (ds1.drop (j + 1))) = .ok q2 := c8'
                cases hst1 : st1 ds1[j] (wipeR ρ1 vs1) with
                | exc c => rw [hst1] at d6; cases d6
                | stuck => rw [hst1] at d6; cases d6
                | ok ρ2 =>
                  rw [hst1] at d6
                  refine ⟨_, wipeR ρ1 vs1, ds1[j], ρ2, (R8.same s9).wipe vs1, a9 _ (fun a z => .inl z) R8.trk, hst1, fun σ2 R2 hw2 => ⟨hw2.trans wipe_wipe, fun a => G.O0 a ∨ a = Dd, fun kA => ⟨_, ρ2, R2, ?_⟩⟩⟩
                  have d7 : (ft1 ρ2 >>= fun b => if b = true then (fe ρ2 >>= fun y => compL st1 ft1 fe (wipeR ρ1 vs1) (ds1.drop (j + 1)) >>= fun r => Rs.ok (y :: r)) else compL st1 ft1 fe (wipeR ρ1 vs1) (ds1.drop (j + 1))) = .ok q2 := d6
                  cases hft : ft1 ρ2 with
                  | exc c => rw [hft] at d7; cases d7
                  | stuck => rw [hft] at d7; cases d7
                  | ok b =>
                    rw [hft] at d7
                    intro HA sA kA'
                    cases b with
                    | false =>
                      have d8 : compL st1 ft1 fe (wipeR ρ1 vs1) (ds1.drop (j + 1)) = .ok q2 := d7
                      rw [if_neg Bool.false_ne_true]
                      exact ⟨fun b o eb nb => (s9.trans sA) _ _ (b8 b o eb nb), us8, q1', q2, (s9.trans sA) _ _ e8, a8.same (s9.trans sA), d8, er1⟩
                    | true =>
                      have d8 : (fe ρ2 >>= fun y => compL st1 ft1 fe (wipeR ρ1 vs1) (ds1.drop (j + 1)) >>= fun r => Rs.ok (y :: r)) = .ok q2 := d7
                      rw [if_pos rfl]
                      refine ⟨fun a => G.O0 a ∨ a = Dd, fun kB => ⟨_, ρ2, R2.same sA, ?_⟩⟩
                      cases hfe : fe ρ2 with
                      | exc c => rw [hfe] at d8; cases d8
                      | stuck => rw [hfe] at d8; cases d8
                      | ok y' =>
                        rw [hfe] at d8
                        intro v HB sB kB' aB
                        have d9 : (compL st1 ft1 fe (wipeR ρ1 vs1) (ds1.drop (j + 1)) >>= fun r => Rs.ok (y' :: r)) = .ok q2 := d8
                        cases hcq : compL st1 ft1 fe (wipeR ρ1 vs1) (ds1.drop (j + 1)) with
                        | exc c => rw [hcq] at d9; cases d9
                        | stuck => rw [hcq] at d9; cases d9
                        | ok q3 =>
                          rw [hcq] at d9
                          cases d9
                          have eB : HB Dd = some (.lst us8) := (s9.trans (sA.trans sB)) _ _ e8
                          have kp2 : Kp (fun a => O a ∨ a = Dd) HB (upd HB Dd (.lst (us8 ++ [v]))) := fun b o eb nb => by
                            rw [upd_ne fun z => nb (.inr z)]; exact eb
                          have hl8 := a8.length
                          refine ⟨us8, eB, ?_, fun b o eb nb => ?_, us8 ++ [v], q1' ++ [y'], q3, upd_same, ?_, rfl, by rw [er1]; simp⟩
                          · rw [hl8]
                            have : rs.length = (rs1 ++ (r1 ++ r2)).length := by rw [er]
                            rw [er1] at this
                            simp only [List.length_append, List.length_cons] at this ⊢
                            omega
                          · rw [upd_ne nb]
                            exact (s9.trans (sA.trans sB)) _ _ (b8 b o eb nb)
                          · rw [← List.append_assoc]
                            exact AtL.keep kp2 ((a8.same (s9.trans (sA.trans sB))).append (.one aB))
              · have ej : j = ds1.length := by omega
                subst ej
                refine .inl ⟨wk1.stop H8 kp, sH, us8, rs1 ++ r1, r2, e8, ?_, rfl, by rw [er]; simp⟩
                rw [List.drop_length] at c8'
                have : Rs.ok ([] : List D) = Rs.ok q2 := c8'
                cases this
                rw [List.append_nil] at er1
                rw [er1]
                exact a8
    · have e : i = ds.length := by omega
      subst e
      have hs' := wk.stop H5 (.of_same s5)
      refine .inl ⟨hs', fun k5 => ?_⟩
      have c6 : rs2 = [] := by
        rw [List.drop_length] at c5
        have : Rs.ok ([] : List D) = Rs.ok rs2 := c5
        cases this; rfl
      subst c6
      rw [List.append_nil] at er
      subst er
      exact q1 Dd rs us H5 rfl (s1.trans s5) (C.kf k5) (s1.free hD) e5 a5
theorem d_comp2 (C : Ctx X G L bl) (hi : PI X tg iter (tIt G true fi)) (ok : BlkOk X.N X.env.scope scope own) (hv : ∀ i ∈ vs1, i ∈ own.map (·.2))
    (hg : ∀ (O0 : Addr → Prop) (s : Shared) (H : Hp) (Cc : Addr) (cl : List (Str × Addr)) (fp : List Addr), PG (X.blk s H scope (compEnvC scope cl Cc X.env) fp) tg (tTg (G.wO O0) (own.map (·.2)) st))
    (hi1 : ∀ (O0 : Addr → Prop) (s : Shared) (H : Hp) (Cc : Addr) (cl : List (Str × Addr)) (fp : List Addr), PI (X.blk s H scope (compEnvC scope cl Cc X.env) fp) tg1 iter1 (tIt (G.wO O0) false fi1))
    (hg1 : ∀ (O0 : Addr → Prop) (s : Shared) (H : Hp) (Cc : Addr) (cl : List (Str × Addr)) (fp : List Addr), PG (X.blk s H scope (compEnvC scope cl Cc X.env) fp) tg1 (tTg (G.wO O0) vs1 st1))
    (ht1 : ∀ (O0 : Addr → Prop) (s : Shared) (H : Hp) (Cc : Addr) (cl : List (Str × Addr)) (fp : List Addr), PTs (X.blk s H scope (compEnvC scope cl Cc X.env) fp) ifs (tTst (G.wO O0) ft1))
    (he : ∀ (O0 : Addr → Prop) (s : Shared) (H : Hp) (Cc : Addr) (cl : List (Str × Addr)) (fp : List Addr), PE (X.blk s H scope (compEnvC scope cl Cc X.env) fp) elt (tS (G.wO O0) fe))
    (hs : ∀ x, foldedSetIterable iter X.env x = pure x) (hs1 : ∀ env x, foldedSetIterable iter1 env x = pure x) : PE X (.ListComp elt [⟨tg, iter, [], 0⟩, ⟨tg1, iter1, ifs, 0⟩] scope pos) (tF G (compE2 (own.map (·.2)) fi st fi1 st1 ft1 fe vs1)) := by
  have hgE : ∀ (s : Shared) (H : Hp) (Cc : Addr) (cl : List (Str × Addr)) (fp : List Addr), PG (X.blk s H scope (compEnvC scope cl Cc X.env) fp) tg (fun v σ H Q => ∃ O0, tTg (G.wO O0) (own.map (·.2)) st v σ H Q) :=
    fun s H Cc cl fp => ⟨fun pins s' σ H' v u Q I r ⟨O0, w⟩ => (hg O0 s H Cc cl fp).run pins s' σ H' v u Q I r w⟩
  have hgE1 : ∀ (s : Shared) (H : Hp) (Cc : Addr) (cl : List (Str × Addr)) (fp : List Addr), PG (X.blk s H scope (compEnvC scope cl Cc X.env) fp) tg1 (fun v σ H Q => ∃ O0, tTg (G.wO O0) vs1 st1 v σ H Q) :=
    fun s H Cc cl fp => ⟨fun pins s' σ H' v u Q I r ⟨O0, w⟩ => (hg1 O0 s H Cc cl fp).run pins s' σ H' v u Q I r w⟩
  have hiE1 : ∀ (s : Shared) (H : Hp) (Cc : Addr) (cl : List (Str × Addr)) (fp : List Addr), PI (X.blk s H scope (compEnvC scope cl Cc X.env) fp) tg1 iter1 (fun σ H R => ∃ O0, tIt (G.wO O0) false fi1 σ H R) :=
    fun s H Cc cl fp => ⟨fun pins s' σ H' R I ⟨O0, w⟩ => (hi1 O0 s H Cc cl fp).run pins s' σ H' R I w⟩
  have htE1 : ∀ (s : Shared) (H : Hp) (Cc : Addr) (cl : List (Str × Addr)) (fp : List Addr), PTs (X.blk s H scope (compEnvC scope cl Cc X.env) fp) ifs (fun σ H Q => ∃ O0, tTst (G.wO O0) ft1 σ H Q) :=
    fun s H Cc cl fp => ⟨fun pins s' σ H' R I ⟨O0, w⟩ => (ht1 O0 s H Cc cl fp).run pins s' σ H' R I w⟩
  have heE : ∀ (s : Shared) (H : Hp) (Cc : Addr) (cl : List (Str × Addr)) (fp : List Addr), PE (X.blk s H scope (compEnvC scope cl Cc X.env) fp) elt (fun σ H Q => ∃ O0, tS (G.wO O0) fe σ H Q) :=
    fun s H Cc cl fp => ⟨fun pins s' σ H' R I ⟨O0, w⟩ => (he O0 s H Cc cl fp).run pins s' σ H' R I w⟩
  exact pe_imp (pe_lc2 (tt := tYes) C.calm C.nd hi ok hv hgE (fun _ _ _ _ _ => pts_nil) hiE1 hgE1 htE1 heE hs hs1) fun σ H Q kf w => comp2_core C w
end
end Den
namespace Den
open PySem PySem.Spec PyProof.Rows L2
def spD (K : W.Frag) (cl : Nat → Value) (n : Nat) (g : List D → Rs D) : Sp := fun vs H Q E => vs.length = n ∧ ∃ ds O0, (∀ a, O0 a → ∃ o, H a = some o) ∧ AtL K H O0 ds vs ∧
  match g ds with
  | .ok d => ∀ v H', Same H H' → KF K H' → At K H' O0 d v → Q v H'
  | .exc c => ∀ H', Same H H' → E (cl c) none H'
  | .stuck => False
structure FnD (X : Cx) (cl : Nat → Value) (L : Nat) (x : Str) (n : Nat) (g : List D → Rs D) : Prop where
  ex : ∃ f fd ps, FnOk X.prog X.w X.K X.mg X.base (L2.CX X.prog X.w) L f fd ps (spD X.K cl n g) ∧ ps.length = n ∧ X.mg x = some (.ref f) ∧ W.keepIn X.K (.ref f) = true ∧ Binds X.K fd ps []
section
variable {X : Cx} {G : Gc} {L : Nat} {bl : List Str} {e : Expr} {es : List Expr} {fs : Ro → Rs (List D)} {F : List D → Rs D} {pos p : Pos} {x : Str} {bid T : String}
def appE (F : List D → Rs D) (fs : Ro → Rs (List D)) : DE := fun ρ => do let ds ← fs ρ; F ds
theorem d_call (C : Ctx X G L bl) {n : Nat} (hF : FnD X G.cl L x n F) (hg : Gl X x) (hn : (e :: es).length = n) (hdb : (x == ("__debug__" : Str)) = false) (ha : PA X (e :: es) (tArg G fs)) (hl : ∀ ρ ds, fs ρ = .ok ds → ds.length = n)
    (he : starEach (e :: es) X.env = (false, eval e X.env) :: starEach es X.env) (hpl : (backTo pos (starEach es X.env)).any (·.1) = false) : PE X (.Call (.Name x p) (e :: es) [] pos) (tS G (appE F fs)) := by
  obtain ⟨f, fd, ps, hf, hps, hm, hk, hb⟩ := hF.ex
  refine pe_imp (pe_call hf C.room hg hm hk hb .nil C.pass ha hdb he hpl) fun σ H Q kf w => fun k => ?_
  obtain ⟨O, ρ, R, q⟩ := w k
  refine ⟨O, ρ, R, q.bind.imp fun ds e q vs H1 s1 k1 a1 => ?_⟩
  show spD X.K G.cl n F (vs ++ []) H1 _ G.E
  rw [List.append_nil]
  refine ⟨by rw [a1.length]; exact hl ρ ds e, ds, O, fun a h => (R.same s1).trk a h, C.K ▸ a1, ?_⟩
  cases hF : F ds with
  | ok d => rw [hF] at q; exact fun v H' s2 k2 a2 => fun _ => q v H' (s1.trans s2) (C.K ▸ k2) (C.K ▸ a2)
  | exc c => rw [hF] at q; exact fun H' s2 => q H' ((R.base.trans s1).trans s2)
  | stuck => rw [hF] at q; exact q.elim
def SaysL (G : Gc) (r : List V → Hp → VK → Prop) (F : List D → Rs D) : Prop := ∀ (O : Addr → Prop) (H : Hp) (vs : List V) (ds : List D) (Q : VK), KF G.K H → Trk O H → AtCL G.K H O ds vs →
  PostV G O H (F ds) Q → r vs H fun v H' => KF G.K H' → Q v H'
theorem d_blt (C : Ctx X G L bl) {r : List V → Hp → VK → Prop} (hc : CallR X (.builtin bid) r) (s : SaysL G r F) (hg : Gl X x) (hm : x ∈ bl) (hv : bootBuiltins x = some (.builtin bid)) (hn : x ≠ "__name__") (hdb : (x == ("__debug__" : Str)) = false) (ha : PA X (e :: es) (tArgW G fs))
    (he : starEach (e :: es) X.env = (false, eval e X.env) :: starEach es X.env) (hpl : (backTo pos (starEach es X.env)).any (·.1) = false) : PE X (.Call (.Name x p) (e :: es) [] pos) (tS G (appE F fs)) := by
  refine pe_imp (pe_callB hc hg (C.blt x hm) hv ha hn hdb he hpl) fun σ H Q kf w => fun k => ?_
  obtain ⟨O, ρ, R, q⟩ := w k
  refine ⟨O, ρ, R, q.bind.imp fun ds e q vs H1 s1 k1 a1 => ?_⟩
  rw [C.K]
  exact s O H1 vs ds Q k1 (R.same s1).trk a1 (Post.imp q fun d _ q2 v H' s2 k2 a2 => q2 v H' (s1.trans s2) k2 a2)
theorem d_bty (C : Ctx X G L bl) {r : List V → Hp → VK → Prop} (hc : CallR X (.type T) r) (s : SaysL G r F) (hg : Gl X x) (hm : x ∈ bl) (hv : bootBuiltins x = some (.type T)) (hn : x ≠ "__name__") (hdb : (x == ("__debug__" : Str)) = false) (ha : PA X (e :: es) (tArgW G fs))
    (he : starEach (e :: es) X.env = (false, eval e X.env) :: starEach es X.env) (hpl : (backTo pos (starEach es X.env)).any (·.1) = false) : PE X (.Call (.Name x p) (e :: es) [] pos) (tS G (appE F fs)) := by
  refine pe_imp (pe_callTy hc hg (C.blt x hm) hv ha hn hdb he hpl) fun σ H Q kf w => fun k => ?_
  obtain ⟨O, ρ, R, q⟩ := w k
  refine ⟨O, ρ, R, q.bind.imp fun ds e q vs H1 s1 k1 a1 => ?_⟩
  rw [C.K]
  exact s O H1 vs ds Q k1 (R.same s1).trk a1 (Post.imp q fun d _ q2 v H' s2 k2 a2 => q2 v H' (s1.trans s2) k2 a2)
def lenD : List D → Rs D
  | [.list ds] => .ok (.int ds.length)
  | [.tuple ds] => .ok (.int ds.length)
  | [.str x] => if x.length ≤ big then .ok (.int x.length) else .stuck
  | _ => .stuck
theorem says_len : SaysL G (fun xs H Q => ∃ x n, xs = [x] ∧ LenV G.K x H n ∧ Q (.int n) H) lenD := by
  intro O H vs ds Q k t a p
  unfold lenD at p
  split at p
  · obtain ⟨v, r, rfl, a1, a2⟩ := a
    cases a2
    obtain ⟨b, us, rfl, h1, h2⟩ := a1
    refine ⟨_, us.length, rfl, .inl ⟨us, h1, rfl⟩, ?_⟩
    rw [h2.length]
    exact post_sc k p rfl
  · obtain ⟨v, r, rfl, a1, a2⟩ := a
    cases a2
    obtain ⟨b, us, rfl, h1, _, h2⟩ := a1
    refine ⟨_, us.length, rfl, .inr ⟨us, h1, rfl⟩, ?_⟩
    rw [h2.length]
    exact post_sc k p rfl
  · obtain ⟨v, r, rfl, a1, a2⟩ := a
    cases a2
    cases a1
    split at p
    · rename_i hz
      exact ⟨_, _, rfl, ⟨big_line hz, rfl⟩, post_sc k p rfl⟩
    · exact p.elim
  · exact p.elim
def blsO : List D → Option (List Bool)
  | [] => some []
  | .bool b :: r => (blsO r).map (b :: ·)
  | _ => none
theorem bls_eq : ∀ {ds : List D} {bs : List Bool}, blsO ds = some bs → ds = bs.map PyData.bool
  | [], _, h => by cases h; rfl
  | d :: r, bs, h => by
    cases d with
    | bool b =>
      obtain ⟨cs, h1, rfl⟩ := Option.map_eq_some_iff.mp (show (blsO r).map (b :: ·) = some bs from h)
      rw [bls_eq h1]; rfl
    | _ => cases h
@[simp] theorem bls_map (bs : List Bool) : blsO (bs.map PyData.bool) = some bs := by
  induction bs with
  | nil => rfl
  | cons b bs ih => show (blsO (bs.map PyData.bool)).map (b :: ·) = _; rw [ih]; rfl
def allD : List D → Rs D
  | [.list ds] => match blsO ds with | some bs => .ok (.bool (bs.all id)) | none => .stuck
  | _ => .stuck
def anyD : List D → Rs D
  | [.list ds] => match blsO ds with | some bs => .ok (.bool (bs.any id)) | none => .stuck
  | _ => .stuck
theorem says_all : SaysL G (rAll G.K) allD := by
  intro O H vs ds Q k t a p
  unfold allD at p
  split at p
  · obtain ⟨v, r, rfl, a1, a2⟩ := a
    cases a2
    obtain ⟨b, us, rfl, h1, h2⟩ := a1
    split at p
    · rename_i hb
      rw [bls_eq hb] at h2
      rw [atL_bls h2] at h1
      exact ⟨b, _, rfl, h1, post_sc k p rfl⟩
    · exact p.elim
  · exact p.elim
theorem says_any : SaysL G (rAny G.K) anyD := by
  intro O H vs ds Q k t a p
  unfold anyD at p
  split at p
  · obtain ⟨v, r, rfl, a1, a2⟩ := a
    cases a2
    obtain ⟨b, us, rfl, h1, h2⟩ := a1
    split at p
    · rename_i hb
      rw [bls_eq hb] at h2
      rw [atL_bls h2] at h1
      exact ⟨b, _, rfl, h1, post_sc k p rfl⟩
    · exact p.elim
  · exact p.elim
def intsO : List D → Option (List Int)
  | [] => some []
  | .int b :: r => (intsO r).map (b :: ·)
  | _ => none
theorem ints_eq : ∀ {ds : List D} {bs : List Int}, intsO ds = some bs → ds = bs.map PyData.int
  | [], _, h => by cases h; rfl
  | d :: r, bs, h => by
    cases d with
    | int b =>
      obtain ⟨cs, h1, rfl⟩ := Option.map_eq_some_iff.mp (show (intsO r).map (b :: ·) = some bs from h)
      rw [ints_eq h1]; rfl
    | _ => cases h
@[simp] theorem ints_map (bs : List Int) : intsO (bs.map PyData.int) = some bs := by
  induction bs with
  | nil => rfl
  | cons b bs ih => show (intsO (bs.map PyData.int)).map (b :: ·) = _; rw [ih]; rfl
def maxL : Int → List Int → Int
  | m, [] => m
  | m, x :: r => maxL (if x > m then x else m) r
def minL : Int → List Int → Int
  | m, [] => m
  | m, x :: r => minL (if x < m then x else m) r
theorem maxL_spec : ∀ (r : List Int) (m : Int), (maxL m r = m ∨ maxL m r ∈ r) ∧ m ≤ maxL m r ∧ ∀ y ∈ r, y ≤ maxL m r
  | [], m => ⟨.inl rfl, Int.le_refl _, fun _ h => by cases h⟩
  | x :: r, m => by
    obtain ⟨h1, h2, h3⟩ := maxL_spec r (if x > m then x else m)
    refine ⟨?_, ?_, fun y hy => ?_⟩
    · rcases h1 with h1 | h1
      · by_cases hx : x > m
        · rw [if_pos hx] at h1; exact .inr (by show maxL _ r ∈ _; rw [if_pos hx, h1]; exact List.mem_cons_self)
        · rw [if_neg hx] at h1; exact .inl (by show maxL _ r = _; rw [if_neg hx, h1])
      · exact .inr (List.mem_cons_of_mem _ h1)
    · show m ≤ maxL _ r
      by_cases hx : x > m
      · rw [if_pos hx] at h2 ⊢; omega
      · rw [if_neg hx] at h2 ⊢; omega
    · show y ≤ maxL _ r
      rcases List.mem_cons.mp hy with rfl | hy
      · by_cases hx : y > m
        · rw [if_pos hx] at h2 ⊢; omega
        · rw [if_neg hx] at h2 ⊢; omega
      · exact h3 y hy
theorem minL_spec : ∀ (r : List Int) (m : Int), (minL m r = m ∨ minL m r ∈ r) ∧ minL m r ≤ m ∧ ∀ y ∈ r, minL m r ≤ y
  | [], m => ⟨.inl rfl, Int.le_refl _, fun _ h => by cases h⟩
  | x :: r, m => by
    obtain ⟨h1, h2, h3⟩ := minL_spec r (if x < m then x else m)
    refine ⟨?_, ?_, fun y hy => ?_⟩
    · rcases h1 with h1 | h1
      · by_cases hx : x < m
        · rw [if_pos hx] at h1; exact .inr (by show minL _ r ∈ _; rw [if_pos hx, h1]; exact List.mem_cons_self)
        · rw [if_neg hx] at h1; exact .inl (by show minL _ r = _; rw [if_neg hx, h1])
      · exact .inr (List.mem_cons_of_mem _ h1)
    · show minL _ r ≤ m
      by_cases hx : x < m
      · rw [if_pos hx] at h2 ⊢; omega
      · rw [if_neg hx] at h2 ⊢; omega
    · show minL _ r ≤ y
      rcases List.mem_cons.mp hy with rfl | hy
      · by_cases hx : y < m
        · rw [if_pos hx] at h2 ⊢; omega
        · rw [if_neg hx] at h2 ⊢; omega
      · exact h3 y hy
def maxD : List D → Rs D
  | [.list ds] => match intsO ds with | some (m :: r) => .ok (.int (maxL m r)) | _ => .stuck
  | [.int i, .int j] => .ok (.int (if j > i then j else i))
  | _ => .stuck
def minD : List D → Rs D
  | [.list ds] => match intsO ds with | some (m :: r) => .ok (.int (minL m r)) | _ => .stuck
  | [.int i, .int j] => .ok (.int (if j < i then j else i))
  | _ => .stuck
def rMaxA (K : W.Frag) : List V → Hp → VK → Prop := fun vs H Q => rMax K vs H Q ∨ ∃ i j, vs = [.int i, .int j] ∧ Q (.int (if j > i then j else i)) H
def rMinA (K : W.Frag) : List V → Hp → VK → Prop := fun vs H Q => rMin K vs H Q ∨ ∃ i j, vs = [.int i, .int j] ∧ Q (.int (if j < i then j else i)) H
theorem cr_maxA (hc : X.calm = true) : CallR X (.builtin "max") (rMaxA X.K) := (cr_max hc).or (call_max2 hc)
theorem cr_minA (hc : X.calm = true) : CallR X (.builtin "min") (rMinA X.K) := (cr_min hc).or (call_min2 hc)
theorem says_max : SaysL G (rMaxA G.K) maxD := by
  intro O H vs ds Q k t a p
  unfold maxD at p
  split at p
  · obtain ⟨v, r, rfl, a1, a2⟩ := a
    cases a2
    obtain ⟨b, us, rfl, h1, h2⟩ := a1
    split at p
    · rename_i m r hb
      rw [ints_eq hb] at h2
      rw [atL_ints h2] at h1
      refine .inl ⟨b, m :: r, rfl, h1, by simp, fun m' hm' hle => ?_⟩
      obtain ⟨q1, q2, q3⟩ := maxL_spec r m
      have e : m' = maxL m r := by
        refine Int.le_antisymm ?_ ?_
        · rcases List.mem_cons.mp hm' with e | e
          · rw [e]; exact q2
          · exact q3 m' e
        · rcases q1 with e | e
          · rw [e]; exact hle m List.mem_cons_self
          · exact hle _ (List.mem_cons_of_mem _ e)
      rw [e]
      exact post_sc k p rfl
    · exact p.elim
  · obtain ⟨v, r, rfl, a1, v', r', rfl, a2, a3⟩ := a
    cases a1; cases a2; cases a3
    exact .inr ⟨_, _, rfl, post_sc k p rfl⟩
  · exact p.elim
theorem says_min : SaysL G (rMinA G.K) minD := by
  intro O H vs ds Q k t a p
  unfold minD at p
  split at p
  · obtain ⟨v, r, rfl, a1, a2⟩ := a
    cases a2
    obtain ⟨b, us, rfl, h1, h2⟩ := a1
    split at p
    · rename_i m r hb
      rw [ints_eq hb] at h2
      rw [atL_ints h2] at h1
      refine .inl ⟨b, m :: r, rfl, h1, by simp, fun m' hm' hle => ?_⟩
      obtain ⟨q1, q2, q3⟩ := minL_spec r m
      have e : m' = minL m r := by
        refine Int.le_antisymm ?_ ?_
        · rcases q1 with e | e
          · rw [e]; exact hle m List.mem_cons_self
          · exact hle _ (List.mem_cons_of_mem _ e)
        · rcases List.mem_cons.mp hm' with e | e
          · rw [e]; exact q2
          · exact q3 m' e
      rw [e]
      exact post_sc k p rfl
    · exact p.elim
  · obtain ⟨v, r, rfl, a1, v', r', rfl, a2, a3⟩ := a
    cases a1; cases a2; cases a3
    exact .inr ⟨_, _, rfl, post_sc k p rfl⟩
  · exact p.elim
def tupleD : List D → Rs D
  | [.list ds] => .ok (.tuple ds)
  | _ => .stuck
def listD : List D → Rs D
  | [.list ds] => .ok (.list ds)
  | [.tuple ds] => .ok (.list ds)
  | _ => .stuck
theorem says_tuple : SaysL G (fun xs H Q => ∃ p ys, xs = [.ref p] ∧ ((SqL G.K H p ys ∧ ∀ l, H l = none → Q (.ref l) (upd H l (.tup ys))) ∨ (SqT G.K H p ys ∧ Q (.ref p) H))) tupleD := by
  intro O H vs ds Q k t a p
  unfold tupleD at p
  split at p
  · obtain ⟨v, r, rfl, a1, a2⟩ := a
    cases a2
    obtain ⟨b, us, rfl, h1, h2⟩ := a1
    exact ⟨b, us, rfl, .inl ⟨h1, fun l hl k' => p _ _ (same_upd hl) k' (new_tup t hl h2)⟩⟩
  · exact p.elim
theorem says_list : SaysL G (fun xs H Q => ∃ p ys, xs = [.ref p] ∧ (SqL G.K H p ys ∨ SqT G.K H p ys) ∧ ∀ l, H l = none → Q (.ref l) (upd H l (.lst ys))) listD := by
  intro O H vs ds Q k t a p
  unfold listD at p
  split at p
  · obtain ⟨v, r, rfl, a1, a2⟩ := a
    cases a2
    obtain ⟨b, us, rfl, h1, h2⟩ := a1
    exact ⟨b, us, rfl, .inl h1, fun l hl k' => p _ _ (same_upd hl) k' (new_list t hl h2)⟩
  · obtain ⟨v, r, rfl, a1, a2⟩ := a
    cases a2
    obtain ⟨b, us, rfl, h1, _, h2⟩ := a1
    exact ⟨b, us, rfl, .inr h1, fun l hl k' => p _ _ (same_upd hl) k' (new_list t hl h2)⟩
  · exact p.elim
def insI (x : Int) : List Int → List Int
  | [] => [x]
  | y :: r => if x ≤ y then x :: y :: r else y :: insI x r
def srtI : List Int → List Int
  | [] => []
  | x :: r => insI x (srtI r)
theorem insI_perm (x : Int) : ∀ r, (insI x r).Perm (x :: r)
  | [] => .refl _
  | y :: r => by
    unfold insI
    split
    · exact .refl _
    · exact ((insI_perm x r).cons y).trans (.swap x y r)
theorem srtI_perm : ∀ r, (srtI r).Perm r
  | [] => .refl _
  | x :: r => (insI_perm x _).trans ((srtI_perm r).cons x)
theorem insI_mem {x y : Int} {r : List Int} : y ∈ insI x r ↔ y = x ∨ y ∈ r := by rw [(insI_perm x r).mem_iff, List.mem_cons]
theorem insI_srt (x : Int) : ∀ r, r.Pairwise (· ≤ ·) → (insI x r).Pairwise (· ≤ ·)
  | [], _ => by simp [insI]
  | y :: r, h => by
    unfold insI
    obtain ⟨h1, h2⟩ := List.pairwise_cons.mp h
    split
    · rename_i hxy
      refine List.pairwise_cons.mpr ⟨fun z hz => ?_, h⟩
      rcases List.mem_cons.mp hz with rfl | hz
      · exact hxy
      · exact Int.le_trans hxy (h1 z hz)
    · rename_i hxy
      refine List.pairwise_cons.mpr ⟨fun z hz => ?_, insI_srt x r h2⟩
      rcases insI_mem.mp hz with rfl | hz
      · omega
      · exact h1 z hz
theorem srtI_srt : ∀ r, (srtI r).Pairwise (· ≤ ·)
  | [] => .nil
  | x :: r => insI_srt x _ (srtI_srt r)
theorem srt_unique : ∀ {a b : List Int}, a.Perm b → a.Pairwise (· ≤ ·) → b.Pairwise (· ≤ ·) → a = b
  | [], b, h, _, _ => (h.nil_eq)
  | x :: a, [], h, _, _ => by have := h.length_eq; simp at this
  | x :: a, y :: b, h, ha, hb => by
    obtain ⟨a1, a2⟩ := List.pairwise_cons.mp ha
    obtain ⟨b1, b2⟩ := List.pairwise_cons.mp hb
    have e : x = y := by
      refine Int.le_antisymm ?_ ?_
      · have : y ∈ x :: a := h.mem_iff.mpr List.mem_cons_self
        rcases List.mem_cons.mp this with e | e
        · rw [e]; exact Int.le_refl _
        · exact a1 y e
      · have : x ∈ y :: b := h.mem_iff.mp List.mem_cons_self
        rcases List.mem_cons.mp this with e | e
        · rw [e]; exact Int.le_refl _
        · exact b1 x e
    subst e
    rw [srt_unique (List.Perm.cons_inv h) a2 b2]
def sortedD : List D → Rs D
  | [.list ds] => match intsO ds with | some ns => if ns.length < 64 then .ok (.list ((srtI ns).map PyData.int)) else .stuck | none => .stuck
  | _ => .stuck
theorem says_sorted : SaysL G (rSorted G.K) sortedD := by
  intro O H vs ds Q k t a p
  unfold sortedD at p
  split at p
  · obtain ⟨v, r, rfl, a1, a2⟩ := a
    cases a2
    obtain ⟨b, us, rfl, h1, h2⟩ := a1
    split at p
    · rename_i ns hb
      split at p
      · rename_i hz
        rw [ints_eq hb] at h2
        rw [atL_ints h2] at h1
        refine ⟨b, ns, rfl, h1, hz, fun ns' q hp hs hq k' => ?_⟩
        have e : ns' = srtI ns := srt_unique (hp.trans (srtI_perm ns).symm) hs (srtI_srt ns)
        subst e
        exact p _ _ (same_upd hq) k' (new_list t hq (atL_of_ints _))
      · exact p.elim
    · exact p.elim
  · exact p.elim
end
end Den
namespace Den
open PySem PySem.Spec PyProof.Rows L2
inductive Ty | int | bool | str | list | tuple
  deriving DecidableEq
def Ty.nm : Ty → String
  | .int => "int" | .bool => "bool" | .str => "str" | .list => "list" | .tuple => "tuple"
def tyN : D → String
  | .none => "NoneType" | .bool _ => "bool" | .int _ => "int" | .str _ => "str" | .list _ => "list" | .tuple _ => "tuple" | .dict _ => "dict"
def isiD : Ty → D → Bool
  | .int, .int _ => true
  | .int, .bool _ => true
  | .bool, .bool _ => true
  | .str, .str _ => true
  | .list, .list _ => true
  | .tuple, .tuple _ => true
  | _, _ => false
theorem isi_kit : ∀ (T : Ty) (d : D) (hd : ∀ k, d ≠ .dict k), kitB (tyN d) T.nm = some (isiD T d)
  | .int, .none, _ => (by decide +kernel : kitB "NoneType" "int" = some false)
  | .int, .bool _, _ => (by decide +kernel : kitB "bool" "int" = some true)
  | .int, .int _, _ => (by decide +kernel : kitB "int" "int" = some true)
  | .int, .str _, _ => (by decide +kernel : kitB "str" "int" = some false)
  | .int, .list _, _ => (by decide +kernel : kitB "list" "int" = some false)
  | .int, .tuple _, _ => (by decide +kernel : kitB "tuple" "int" = some false)
  | .bool, .none, _ => (by decide +kernel : kitB "NoneType" "bool" = some false)
  | .bool, .bool _, _ => (by decide +kernel : kitB "bool" "bool" = some true)
  | .bool, .int _, _ => (by decide +kernel : kitB "int" "bool" = some false)
  | .bool, .str _, _ => (by decide +kernel : kitB "str" "bool" = some false)
  | .bool, .list _, _ => (by decide +kernel : kitB "list" "bool" = some false)
  | .bool, .tuple _, _ => (by decide +kernel : kitB "tuple" "bool" = some false)
  | .str, .none, _ => (by decide +kernel : kitB "NoneType" "str" = some false)
  | .str, .bool _, _ => (by decide +kernel : kitB "bool" "str" = some false)
  | .str, .int _, _ => (by decide +kernel : kitB "int" "str" = some false)
  | .str, .str _, _ => (by decide +kernel : kitB "str" "str" = some true)
  | .str, .list _, _ => (by decide +kernel : kitB "list" "str" = some false)
  | .str, .tuple _, _ => (by decide +kernel : kitB "tuple" "str" = some false)
  | .list, .none, _ => (by decide +kernel : kitB "NoneType" "list" = some false)
  | .list, .bool _, _ => (by decide +kernel : kitB "bool" "list" = some false)
  | .list, .int _, _ => (by decide +kernel : kitB "int" "list" = some false)
  | .list, .str _, _ => (by decide +kernel : kitB "str" "list" = some false)
  | .list, .list _, _ => (by decide +kernel : kitB "list" "list" = some true)
  | .list, .tuple _, _ => (by decide +kernel : kitB "tuple" "list" = some false)
  | .tuple, .none, _ => (by decide +kernel : kitB "NoneType" "tuple" = some false)
  | .tuple, .bool _, _ => (by decide +kernel : kitB "bool" "tuple" = some false)
  | .tuple, .int _, _ => (by decide +kernel : kitB "int" "tuple" = some false)
  | .tuple, .str _, _ => (by decide +kernel : kitB "str" "tuple" = some false)
  | .tuple, .list _, _ => (by decide +kernel : kitB "list" "tuple" = some false)
  | .tuple, .tuple _, _ => (by decide +kernel : kitB "tuple" "tuple" = some true)
  | _, .dict k, h => absurd rfl (h k)
theorem tyx_of {K : W.Frag} {H : Hp} {O : Addr → Prop} : ∀ {d : D} {x : V}, AtC K H O d x → TyX K H x (.type (tyN d))
  | .none, _, h => by cases h; exact .base .non
  | .bool b, _, h => by cases h; exact .base (.bl b)
  | .int i, _, h => by cases h; exact .base (.int i)
  | .str z, _, h => by cases h; exact .base (.str z)
  | .list _, _, h => by
    obtain ⟨a, vs, rfl, h1, _⟩ := h
    rcases h1 with (h1 | ⟨o, h1⟩) | ⟨o, its, n, h1, h2, _⟩
    · exact .base (.lst h1)
    · exact .base (.frz h1)
    · exact .kList h1 h2
  | .tuple _, _, h => by
    obtain ⟨a, vs, rfl, h1, _⟩ := h
    rcases h1 with (h1 | ⟨o, h1⟩) | ⟨o, its, n, h1, h2, _⟩
    · exact .base (.tup h1)
    · exact .fTuple h1
    · exact .kTuple h1 h2
  | .dict _, _, h => h.elim
section
variable {X : Cx} {G : Gc} {L : Nat} {bl : List Str} {e a b tgx : Expr} {f g : DE} {pos p p1 p2 : Pos} {x : Str}
def isiE (T : Ty) (f : DE) : DE := fun ρ => do let d ← f ρ; pure (.bool (isiD T d))
theorem d_isi (C : Ctx X G L bl) {T : Ty} {y : Str} (ha : PE X a (tW G f)) (hg : Gl X "isinstance") (hm : ("isinstance" : Str) ∈ bl) (hgy : Gl X y) (hmy : y ∈ bl) (hvy : bootBuiltins y = some (.type T.nm)) (hny : y ≠ "__name__") (hdy : (y == ("__debug__" : Str)) = false)
    (he : starEach (a :: [.Name y p2]) X.env = (false, eval a X.env) :: starEach [.Name y p2] X.env) : PE X (.Call (.Name "isinstance" p1) [a, .Name y p2] [] pos) (tS G (isiE T f)) := by
  have hb : PE X (.Name y p2) (tC (.ty T.nm)) := pe_bltn hgy (C.blt y hmy) hvy rfl hny hdy
  refine pe_imp (pe_callB call_isi hg (C.blt _ hm) (by decide +kernel) (pa_cons ha (pa_cons hb pa_nil rfl) he) (by decide +kernel) (by decide +kernel) he rfl) fun σ H Q kf w => fun k => ?_
  obtain ⟨O, ρ, R, q⟩ := w k
  refine ⟨O, ρ, R, q.bind.imp fun d _ q v H1 s1 k1 a1 => ?_⟩
  rw [C.K]
  refine ⟨v, .ty T.nm, _, _, isiD T d, rfl, .ty _, tyx_of a1, kit_ty (isi_kit T d fun z e => ?_), fun _ => q _ H1 s1 k1 rfl⟩
  subst e
  exact a1.elim
theorem rgV_at {K : W.Frag} {H : Hp} {O : Addr → Prop} (lo hi : Int) : AtL K H O (rngD lo (hi - lo).toNat) (rgV lo hi) := by
  unfold rngD rgV
  generalize (List.range (hi - lo).toNat) = l
  induction l with
  | nil => rfl
  | cons i r ih => exact ⟨_, _, rfl, rfl, ih⟩
def lstI (fi : DI) : DE := fun ρ => do let ds ← fi ρ; pure (.list ds)
def tupI (fi : DI) : DE := fun ρ => do let ds ← fi ρ; pure (.tuple ds)
theorem rg_ok {i j : Int} (h : (-(big : Int) ≤ i ∧ i ≤ big) ∧ (-(big : Int) ≤ j ∧ j ≤ big)) : RgOk i j := by
  unfold RgOk; unfold big at h; omega
theorem d_lrng1 (C : Ctx X G L bl) (hc : X.calm = true) (hg : Gl X "list") (hm : ("list" : Str) ∈ bl) (hg2 : Gl X "range") (hm2 : ("range" : Str) ∈ bl) (ha : PE X a (tW G f)) (na : starEach [a] X.env = (false, eval a X.env) :: starEach [] X.env) (na2 : starEach [.Call (.Name "range" p1) [a] [] p2] X.env = (false, eval (.Call (.Name "range" p1) [a] [] p2) X.env) :: starEach [] X.env) :
    PE X (.Call (.Name "list" p) [.Call (.Name "range" p1) [a] [] p2] [] pos) (tF G (lstI (rng1 f))) := by
  refine pe_imp (pe_listRg hc hg (C.blt _ hm) (prg_1 hg2 (C.blt _ hm2) ha na) na2) fun σ H Q kf w => fun k => ?_
  obtain ⟨O, ρ, R, q⟩ := w k
  refine ⟨O, ρ, R, q.bind.bind.imp fun d _ q v H1 s1 k1 a1 => ?_⟩
  cases d with
  | int j =>
    cases a1
    refine ⟨j, rfl, ?_⟩
    have q2 : Post G H (if -(big : Int) ≤ j ∧ j ≤ big then Rs.ok (rngD 0 j.toNat) else Rs.stuck) _ := q
    split at q2
    · rename_i hj
      refine ⟨rg_ok ⟨by unfold big; omega, hj⟩, fun n hn k' => ?_⟩
      have r := rgV_at (K := G.K) (H := upd H1 n (.lst (rgV 0 j))) (O := fun a => O a ∨ a = n) 0 j
      rw [Int.sub_zero] at r
      exact q2 n _ _ _ rfl (s1.trans (same_upd hn)) (C.kf k') (s1.free hn) upd_same r
    · exact q2.elim
  | _ => exact q.elim
theorem d_trng1 (C : Ctx X G L bl) (hc : X.calm = true) (hg : Gl X "tuple") (hm : ("tuple" : Str) ∈ bl) (hg2 : Gl X "range") (hm2 : ("range" : Str) ∈ bl) (ha : PE X a (tW G f)) (na : starEach [a] X.env = (false, eval a X.env) :: starEach [] X.env) (na2 : starEach [.Call (.Name "range" p1) [a] [] p2] X.env = (false, eval (.Call (.Name "range" p1) [a] [] p2) X.env) :: starEach [] X.env) :
    PE X (.Call (.Name "tuple" p) [.Call (.Name "range" p1) [a] [] p2] [] pos) (tS G (tupI (rng1 f))) := by
  refine pe_imp (pe_tupRg hc hg (C.blt _ hm) (prg_1 hg2 (C.blt _ hm2) ha na) na2) fun σ H Q kf w => fun k => ?_
  obtain ⟨O, ρ, R, q⟩ := w k
  refine ⟨O, ρ, R, q.bind.bind.imp fun d _ q v H1 s1 k1 a1 => ?_⟩
  cases d with
  | int j =>
    cases a1
    refine ⟨j, rfl, ?_⟩
    have q2 : Post G H (if -(big : Int) ≤ j ∧ j ≤ big then Rs.ok (rngD 0 j.toNat) else Rs.stuck) _ := q
    split at q2
    · rename_i hj
      refine ⟨rg_ok ⟨by unfold big; omega, hj⟩, fun n hn k' => ?_⟩
      have r := rgV_at (K := G.K) (H := H1) (O := O) 0 j
      rw [Int.sub_zero] at r
      exact q2 _ _ (s1.trans (same_upd hn)) (C.kf k') (new_tup (R.same s1).trk hn r)
    · exact q2.elim
  | _ => exact q.elim
theorem d_lrng2 (C : Ctx X G L bl) (hc : X.calm = true) (hg : Gl X "list") (hm : ("list" : Str) ∈ bl) (hg2 : Gl X "range") (hm2 : ("range" : Str) ∈ bl) (ha : PE X a (tW G f)) (hb : PE X b (tW G g)) (na : starEach [a, b] X.env = (false, eval a X.env) :: starEach [b] X.env) (nb : starEach [b] X.env = (false, eval b X.env) :: starEach [] X.env) (na2 : starEach [.Call (.Name "range" p1) [a, b] [] p2] X.env = (false, eval (.Call (.Name "range" p1) [a, b] [] p2) X.env) :: starEach [] X.env) :
    PE X (.Call (.Name "list" p) [.Call (.Name "range" p1) [a, b] [] p2] [] pos) (tF G (lstI (rng2 f g))) := by
  refine pe_imp (pe_listRg hc hg (C.blt _ hm) (prg_2 hg2 (C.blt _ hm2) ha hb na nb (by rw [nb]; rfl)) na2) fun σ H Q kf w => fun k => ?_
  obtain ⟨O, ρ, R, q⟩ := w k
  refine ⟨O, ρ, R, q.bind.bind.imp fun d _ q v H1 s1 k1 a1 => fun _ => ⟨O, ρ, R.same s1, q.bind.imp fun d' _ q v' H2 s2 k2 a2 => ?_⟩⟩
  have q3 : Post G H (intD d >>= fun i => intD d' >>= fun j => if (-(big : Int) ≤ i ∧ i ≤ big) ∧ (-(big : Int) ≤ j ∧ j ≤ big) then Rs.ok (rngD i (j - i).toNat) else Rs.stuck) _ := q
  cases d with
  | int i =>
    cases d' with
    | int j =>
      cases a1; cases a2
      refine ⟨i, j, rfl, rfl, ?_⟩
      have q2 : Post G H (if (-(big : Int) ≤ i ∧ i ≤ big) ∧ (-(big : Int) ≤ j ∧ j ≤ big) then Rs.ok (rngD i (j - i).toNat) else Rs.stuck) _ := q3
      split at q2
      · rename_i hj
        refine ⟨rg_ok hj, fun n hn k' => ?_⟩
        exact q2 n _ _ _ rfl (s1.trans (s2.trans (same_upd hn))) (C.kf k') (s1.free (s2.free hn)) upd_same (rgV_at i j)
      · exact q2.elim
    | _ => exact q3.elim
  | _ => exact q3.elim
end
end Den
namespace Den
open PySem PySem.Spec PyProof.Rows L2
open AutoSeq1 (wpAny_loadPart')
theorem meets_enumerate_newT (l : Addr) (items : Array Value) :
    Meets (Builtin.«enumerate.__new__» ⟨[.type "enumerate", .ref l], []⟩) (fun _ R s => s.heap.IsTuple l items ∧
      R (.ok (.ret (.ref (s.heap.push { cls := .type "tuple_iterator", data := .fields #[.ref l, .int 0 0] }).objs.size)))
        { s with heap := (s.heap.push { cls := .type "tuple_iterator", data := .fields #[.ref l, .int 0 0] }).push { cls := .type "enumerate", data := .fields #[.none, .bool false, .ref s.heap.objs.size, rawInt 0, .none, .none] } }) :=
  .of_wp fun prog w A R s h => by
    obtain ⟨hp, g, d, tk, os⟩ := s; obtain ⟨hL, h⟩ := h
    have hsub := sub_enumerate
    have q1 : ∀ {A' : Around} {E : Value → Shared → Prop} {Q : Value → Shared → Prop}, Q (.ref hp.objs.size) ⟨hp.push { cls := .type "tuple_iterator", data := .fields #[.ref l, .int 0 0] }, g, d, tk, os⟩ → wpAny (model prog w) A' (pyIter (.ref l)) Q E ⟨hp, g, d, tk, os⟩ :=
      fun q => wpAny_pyIter_tuple hL q
    wp_walk using q1
    refine wpAny_stack_any fun st => wpAny_pure ?_
    split
    · rename_i c _ _ _ _ _
      cases (c == Value.type "enumerate")
      · wp_walk using q1
        exact ⟨_, rfl, h⟩
      · wp_walk using q1
        exact ⟨_, rfl, h⟩
    · wp_walk using q1
      exact ⟨_, rfl, h⟩
section
variable {prog : Program} {w : World} {A : Around} {E : Value → Shared → Prop} {s : Shared}
theorem call_enumerate_tuple {l : Addr} {items : Array Value} {Q : Value → Shared → Prop} (hL : s.heap.IsTuple l items)
    (h : ∀ h', IsEnum h' (s.heap.objs.size + 1) s.heap.objs.size 0 .none → h'.IsTupleIter s.heap.objs.size l 0 → h'.objs.size = s.heap.objs.size + 2 →
      (∀ b o, s.heap.get? b = some o → h'.get? b = some o) → Q (.ref (s.heap.objs.size + 1)) { s with heap := h' }) :
    wpAny (model prog w) A (call (.type "enumerate") [.ref l]) Q E s := by
  refine callType_new F.called_enumerate (by decide) (F.typeCall_enumerate_1 _) (F.newCall_enumerate_1 _) (fun obj => F.args_object_init_2 obj _) F.entry_enumerate_new
    (meets_enumerate_newT l items) ⟨hL, ?_⟩
  have hz : (s.heap.push { cls := .type "tuple_iterator", data := .fields #[.ref l, .int 0 0] }).objs.size = s.heap.objs.size + 1 := Heap.size_push ..
  show _ ∧ _
  rw [hz]
  have he : IsEnum ((s.heap.push { cls := .type "tuple_iterator", data := .fields #[.ref l, .int 0 0] }).push
      { cls := .type "enumerate", data := .fields #[.none, .bool false, .ref s.heap.objs.size, rawInt 0, .none, .none] }) (s.heap.objs.size + 1) s.heap.objs.size 0 .none := by
    have := Heap.get?_push_size (s.heap.push { cls := .type "tuple_iterator", data := .fields #[.ref l, .int 0 0] })
      (o := { cls := .type "enumerate", data := .fields #[.none, .bool false, .ref s.heap.objs.size, rawInt 0, .none, .none] }) rfl
    rw [hz] at this; exact this
  refine ⟨⟨_, he, rfl⟩, h _ he ⟨_, Heap.get?_push_of_some _ (Heap.get?_push_size _ rfl), rfl, rfl⟩ (by rw [Heap.size_push, hz]) fun b o x => Heap.get?_push_of_some _ (Heap.get?_push_of_some _ x)⟩
theorem enum_endT {e it l : Addr} {i : Nat} {j : Int} {items : Array Value} {old : Value} {Q : Option Value → Shared → Prop} (hh : A.handled = none)
    (he : IsEnum s.heap e it j old) (hit : s.heap.IsTupleIter it l i) (hl : s.heap.IsTuple l items) (hx : items[i]? = none)
    (hQ : ∀ h', Heap.ExtBut it s.heap h' → Q none { s with heap := h' }) : wpAny (model prog w) A (pyNext (.ref e)) Q E s := by
  have hT : s.TypeIs (.ref e) "enumerate" := ⟨_, he, rfl⟩
  unfold pyNext
  refine wpAny_bind (wpAny_attempt (wpAny_callSpecial?_slot (name := Str.ofString "__next__") hT F.slot_enumerate_next
    (wpAny_call_entry F.slot_enumerate_next hT F.entry_enumerate_next ?_ (F.args_enumerate_next_1 _))))
  show wpAny _ _ (field (.ref e) 2 >>= _) _ _ _
  refine wpAny_bind (wpAny_field he rfl (x := .ref it) rfl ?_)
  refine wpAny_bind (wpAny_nextOf_tuple_end (A := A.in1) hh hit hl hx fun h' x he' hx' => ?_)
  obtain ⟨o, ho, hc⟩ := hx'
  refine wpAny_bind (wpAny_isInstance (T := "StopIteration") (b := true) ⟨o, ho, hc⟩ isSubtype_stop ?_)
  exact wpAny_pure (hQ _ he')
end
def IteT (K : W.Frag) (a : Addr) : It :=
  ⟨fun i H => ∃ (xs : List V) (x : V), SqT K H a xs ∧ xs[i]? = some x, fun i H v H' => ∃ T x, v = .ref T ∧ H T = none ∧ H' = upd H T (.tup [.int (i : Nat), x]) ∧ ∀ xs, SqT K H a xs → xs[i]? = some x, fun i H => ∃ xs : List V, SqT K H a xs ∧ xs.length ≤ i⟩
theorem turn_enumT {P : Program} {w : World} {K : W.Frag} {elts : List Expr} {kk : Nat} {tpos : Pos} (a e it : Addr) :
    Turn P w K (.Tuple elts kk tpos) (IteT K a) [e, it] e (fun i h => (∃ old, IsEnum h e it ((i : Nat) : Int) old) ∧ h.IsTupleIter it a i ∧ e ≠ it ∧ a ≠ it ∧ a ≠ e) where
  mem := by simp
  obj := fun i h st b hb => by
    obtain ⟨⟨old, he⟩, ⟨o, ho, hc, hd⟩, _⟩ := st
    have e' : b = e ∨ b = it := by simpa using hb
    rcases e' with z | z
    · rw [z]; exact ⟨_, he, fun v q => nomatch q⟩
    · rw [z]; exact ⟨o, ho, fun v q => by rw [hd] at q; cases q⟩
  keep := fun i h h' st k => let ⟨⟨old, he⟩, hi, hne⟩ := st; ⟨⟨old, k e (by simp) _ he⟩, hi.at fun o q => k it (by simp) o q, hne⟩
  item := by
    intro X hP hw hK hc i pins s σ H E I hf st hg
    subst hP hw hK
    obtain ⟨⟨old, he⟩, hit, hne, hai, hae⟩ := st
    obtain ⟨xs, x, hq, hx⟩ := hg
    obtain ⟨its, rv, p, hz⟩ := I.tuple hq
    obtain ⟨u, hu, ru⟩ := rv.get hx
    have hel : e < s.heap.objs.size := Heap.lt_size he
    have hil : it < s.heap.objs.size := by obtain ⟨_, q, _⟩ := hit; exact Heap.lt_size q
    have hlt : i < its.toArray.size := by
      have := (List.getElem?_eq_some_iff.mp hu).1
      simpa using this
    refine wpAny_pyNext_enum_itemD (Draws.tuple (prog := X.prog) (w := X.w) (A := X.A.in1) (show X.A.in1.handled = none from I.ok.hd hc) it a hai its.toArray) he ⟨hit, p⟩ hlt hne (by
      intro z
      rcases List.mem_cons.mp z with z | z
      · exact hne z
      · exact hae (List.mem_singleton.mp z).symm) fun v h' tk hv ho hst' hT hsz hk => ?_
    have ev : v = u := by
      have hv' : its[i]? = some v := by simpa using hv
      rw [hu] at hv'; exact (Option.some.inj hv').symm
    subst ev
    refine ⟨_, rfl, wpAny_letOwnedTupleGo_enum (s := { s with heap := h', toks := tk + 1 }) ho fun h'' he' sb => ?_⟩
    have hT2 : h''.get? s.heap.objs.size = some { cls := .type "tuple", data := .seq #[.int i tk, v] } := (sb.2 _ (Nat.ne_of_gt hel)).trans hT
    have new : ObjOk X.prog X.w (upd H s.heap.objs.size (.tup [.int (i : Nat), x])) h'' s.heap.objs.size (.tup [.int (i : Nat), x]) :=
      ⟨by show 2 ≤ sizeLine; decide, [.int i tk, v], .cons ⟨_, rfl⟩ (.cons ru .nil), ⟨_, hT2, rfl, _, rfl⟩⟩
    have I1 : L2.Inv X pins σ (upd H s.heap.objs.size (.tup [.int (i : Nat), x])) { s with heap := h'', toks := tk + 1 } :=
      I.turnedNew (ch := [e, it]) (fun b ob hb q => (sb.2 b (fun z => hb (by simp [z]))).trans (hk b ob (fun z => hb (by simp [z])) (fun z => hb (by simp [z])) q)) hf (Nat.le_refl _) new
    refine ⟨.ref s.heap.objs.size, _, I1, rfl, ⟨_, x, rfl, I.hok.fresh (Nat.le_refl _), rfl, fun ys hy => by rw [I.tuple_inj hy hq]; exact hx⟩, ⟨⟨v, ?_⟩, hst'.1.at fun o q => (sb.2 it (Ne.symm hne)).trans q, hne, hai, hae⟩, fun b hb => ?_⟩
    · have e1 : ((i + 1 : Nat) : Int) = (i : Int) + 1 := by omega
      rw [e1]; exact he'
    · have hb' : b < s.heap.objs.size := by
        have e' : b = e ∨ b = it := by simpa using hb
        rcases e' with z | z
        · rw [z]; exact hel
        · rw [z]; exact hil
      rw [upd_ne (Nat.ne_of_lt hb')]
      exact (hf b hb).1
  done := by
    intro X hP hw hK hc i pins s σ H E I hf st hg
    subst hP hw hK
    obtain ⟨⟨old, he⟩, hit, hne, hai, hae⟩ := st
    obtain ⟨xs, hq, hx⟩ := hg
    obtain ⟨its, rv, p, hz⟩ := I.tuple hq
    obtain ⟨f0, f1, f2, f3, f4, f5⟩ := hf it (by simp)
    have hl := rv.length
    exact enum_endT (I.ok.hd hc) he hit p (by simp; omega) fun h' eb => ⟨rfl, I.turned (t' := s.toks) (fun b o hb q => eb b o hb q) f0 f1 f3 f4 f5⟩
  self := fun A i s Q E st h => let ⟨⟨_, he⟩, _⟩ := st; wpAny_pyIter_enum he h
section
variable {X : Cx} {G : Gc} {L : Nat} {bl : List Str} {e a b : Expr} {f g : DE} {pos p tpos : Pos} {elts : List Expr} {kk : Nat}
theorem pi_enumA {te : TE} (hg : Gl X "enumerate") (hm : X.mg "enumerate" = none) (ha : PE X a te) (hs : starEach [a] X.env = (false, eval a X.env) :: starEach [] X.env) :
    PI X (.Tuple elts kk tpos) (.Call (.Name "enumerate" p) [a] [] pos) (fun σ H R => te σ H fun v H1 => ∃ q xs, v = .ref q ∧ ((SqL X.K H1 q xs ∧ (xs.length ≤ sizeLine → R (Ite X.K q) H1)) ∨ (SqT X.K H1 q xs ∧ (xs.length ≤ sizeLine → R (IteT X.K q) H1)))) := by
  refine ⟨fun pins s σ H R I h => ?_⟩
  refine Call_ (ld_blt I hg hm boot_enumerate (PyProof.Rows.callWith_type1 (thn ((pa_cons ha pa_nil hs).run pos pins s σ H (fun vs H1 => ∃ q xs, vs = [.ref q] ∧ ((SqL X.K H1 q xs ∧ (xs.length ≤ sizeLine → R (Ite X.K q) H1)) ∨ (SqT X.K H1 q xs ∧ (xs.length ≤ sizeLine → R (IteT X.K q) H1)))) I ?_) fun us s1 ⟨vs, H1, I1, r1, q1⟩ => ?_) hs rfl))
  · have key : ∀ (Q Q' : VK), (∀ v H', Q v H' → Q' v H') → Q = Q' → True := fun _ _ _ _ => trivial
    show te σ H fun x H1 => tNil σ H1 fun xs H2 => _
    unfold tNil
    have e : (fun (x : V) (H1 : Hp) => ∃ q xs, [x] = [V.ref q] ∧ ((SqL X.K H1 q xs ∧ (xs.length ≤ sizeLine → R (Ite X.K q) H1)) ∨ (SqT X.K H1 q xs ∧ (xs.length ≤ sizeLine → R (IteT X.K q) H1)))) = (fun (v : V) (H1 : Hp) => ∃ q xs, v = .ref q ∧ ((SqL X.K H1 q xs ∧ (xs.length ≤ sizeLine → R (Ite X.K q) H1)) ∨ (SqT X.K H1 q xs ∧ (xs.length ≤ sizeLine → R (IteT X.K q) H1)))) := by
      funext x H1
      simp only [List.cons.injEq, and_true]
    rw [e]
    exact h
  · obtain ⟨a, xs, ex, hq⟩ := q1
    subst ex
    cases r1 with
    | cons r rr =>
      cases rr
      cases r
      have fin : ∀ {h' : Heap} {b : Addr}, b ∈ [s1.heap.objs.size + 1, s1.heap.objs.size] → FpOk X pins H1 b := fun {h' b} hb => by
        have e' : b = s1.heap.objs.size + 1 ∨ b = s1.heap.objs.size := by simpa using hb
        have hle : s1.heap.objs.size ≤ b := by
          rcases e' with z | z
          · rw [z]; exact Nat.le_add_right _ _
          · rw [z]; exact Nat.le_refl _
        exact I1.fpOk hle (I1.hok.fresh hle)
      rcases hq with ⟨hq, q⟩ | ⟨hq, q⟩
      · obtain ⟨its, rv, p', hz⟩ := I1.list hq
        refine call_enumerate_list p'.isList fun h' he hit hsz hk => wpAny_pyIter_enum he ?_
        exact ⟨s1.heap.objs.size + 1, [s1.heap.objs.size + 1, s1.heap.objs.size], _, _, H1, rfl, I1.kept (t' := s1.toks) hk, turn_enum a (s1.heap.objs.size + 1) s1.heap.objs.size, ⟨⟨.none, he⟩, hit, Nat.succ_ne_self _⟩, fun b hb => fin (h' := h') hb, q hz⟩
      · obtain ⟨its, rv, p', hz⟩ := I1.tuple hq
        have hlt := p'.lt
        refine call_enumerate_tuple (show s1.heap.IsTuple a its.toArray from p') fun h' he hit hsz hk => wpAny_pyIter_enum he ?_
        exact ⟨s1.heap.objs.size + 1, [s1.heap.objs.size + 1, s1.heap.objs.size], _, _, H1, rfl, I1.kept (t' := s1.toks) hk, turn_enumT a (s1.heap.objs.size + 1) s1.heap.objs.size, ⟨⟨.none, he⟩, hit, Nat.succ_ne_self _, Nat.ne_of_lt hlt, Nat.ne_of_lt (Nat.lt_succ_of_lt hlt)⟩, fun b hb => fin (h' := h') hb, q hz⟩
def enuL : Nat → List D → List D
  | _, [] => []
  | n, d :: ds => .tuple [.int (n : Int), d] :: enuL (n + 1) ds
theorem enuL_length : ∀ (ds : List D) (n : Nat), (enuL n ds).length = ds.length
  | [], _ => rfl
  | _ :: ds, n => by simp [enuL, enuL_length ds (n + 1)]
theorem enuL_get : ∀ (ds : List D) (n i : Nat), (enuL n ds)[i]? = (ds[i]?).map fun d => .tuple [.int ((n + i : Nat) : Int), d]
  | [], _, _ => by simp [enuL]
  | d :: ds, n, 0 => by simp [enuL]
  | d :: ds, n, i + 1 => by
    have := enuL_get ds (n + 1) i
    simp only [enuL, List.getElem?_cons_succ, this]
    congr 1
    funext x
    rw [show n + 1 + i = n + (i + 1) by omega]
theorem walk_enum {K : W.Frag} {M O : Addr → Prop} {H : Hp} {a : Addr} {ds : List D} {vs : List V} (hm : ∀ a, M a → O a) (hz : vs.length ≤ sizeLine) (h1 : SqL K H a vs) (n : ¬ M a) (h2 : AtL K H O ds vs) : Walk K M O (Ite K a) H (enuL 0 ds) where
  len := by rw [enuL_length, ← h2.length]; exact hz
  go := fun i d H' e k => by
    rw [enuL_get] at e
    obtain ⟨d', e', rfl⟩ := Option.map_eq_some_iff.mp e
    obtain ⟨v, e1, a1⟩ := h2.get e'
    have q := sqL_kp k n h1
    refine ⟨⟨vs, v, q, e1⟩, fun x H'' y => ?_⟩
    obtain ⟨T, x', rfl, nT, rfl, y2⟩ := y
    have := y2 vs q
    rw [e1] at this; cases this
    refine ⟨same_upd nT, fun O' g t => ⟨T, _, rfl, .of upd_same, t.not nT, _, _, rfl, by rw [Nat.zero_add]; rfl, _, _, rfl, (a1.move hm k g).same (same_upd nT), rfl⟩⟩
  stop := fun H' k => ⟨vs, sqL_kp k n h1, by rw [enuL_length, h2.length]; exact Nat.le_refl _⟩
theorem walk_enumT {K : W.Frag} {M O : Addr → Prop} {H : Hp} {a : Addr} {ds : List D} {vs : List V} (hm : ∀ a, M a → O a) (hz : vs.length ≤ sizeLine) (h1 : SqT K H a vs) (n : ¬ M a) (h2 : AtL K H O ds vs) : Walk K M O (IteT K a) H (enuL 0 ds) where
  len := by rw [enuL_length, ← h2.length]; exact hz
  go := fun i d H' e k => by
    rw [enuL_get] at e
    obtain ⟨d', e', rfl⟩ := Option.map_eq_some_iff.mp e
    obtain ⟨v, e1, a1⟩ := h2.get e'
    have q := sqT_kp k n h1
    refine ⟨⟨vs, v, q, e1⟩, fun x H'' y => ?_⟩
    obtain ⟨T, x', rfl, nT, rfl, y2⟩ := y
    have := y2 vs q
    rw [e1] at this; cases this
    refine ⟨same_upd nT, fun O' g t => ⟨T, _, rfl, .of upd_same, t.not nT, _, _, rfl, by rw [Nat.zero_add]; rfl, _, _, rfl, (a1.move hm k g).same (same_upd nT), rfl⟩⟩
  stop := fun H' k => ⟨vs, sqT_kp k n h1, by rw [enuL_length, h2.length]; exact Nat.le_refl _⟩
def enuE (f : DE) : DI := fun ρ => do let ds ← seqE f ρ; pure (enuL 0 ds)
theorem i_enumS (C : Ctx X G L bl) (hg : Gl X "enumerate") (hm : ("enumerate" : Str) ∈ bl) (ha : PE X a (tS G f)) (hs : starEach [a] X.env = (false, eval a X.env) :: starEach [] X.env) : PI X (.Tuple elts kk tpos) (.Call (.Name "enumerate" p) [a] [] pos) (tIt G false (enuE f)) := by
  refine pi_imp (pi_enumA hg (C.blt _ hm) ha hs) fun σ H R kf w => fun k => ?_
  obtain ⟨O, ρ, R0, q⟩ := w k
  refine ⟨O, ρ, R0, q.bind.bind.imp fun d _ q v H1 s1 k1 a1 => ?_⟩
  rw [C.K]
  cases d with
  | list ds =>
    obtain ⟨a, vs, rfl, h1, n1, h2⟩ := a1
    exact ⟨a, vs, rfl, .inl ⟨h1, fun hz _ => q _ _ s1 k1 (walk_enum mk_le hz h1 n1 h2)⟩⟩
  | tuple ds =>
    obtain ⟨a, vs, rfl, h1, n1, h2⟩ := a1
    exact ⟨a, vs, rfl, .inr ⟨h1, fun hz _ => q _ _ s1 k1 (walk_enumT mk_le hz h1 n1 h2)⟩⟩
  | _ => exact q.elim
end
end Den
namespace Den
open PySem PySem.Spec PyProof.Rows L2
def zipL : List D → List D → List D
  | x :: xs, y :: ys => .tuple [x, y] :: zipL xs ys
  | _, _ => []
theorem zipL_length : ∀ xs ys : List D, (zipL xs ys).length = min xs.length ys.length
  | [], _ => by simp [zipL]
  | _ :: _, [] => by simp [zipL]
  | x :: xs, y :: ys => by simp [zipL, zipL_length xs ys]
theorem zipL_get : ∀ (xs ys : List D) (i : Nat) (d : D), (zipL xs ys)[i]? = some d → ∃ x y, xs[i]? = some x ∧ ys[i]? = some y ∧ d = .tuple [x, y]
  | [], _, i, d, h => by simp [zipL] at h
  | _ :: _, [], i, d, h => by simp [zipL] at h
  | x :: xs, y :: ys, 0, d, h => by
    simp [zipL] at h
    exact ⟨x, y, rfl, rfl, h.symm⟩
  | x :: xs, y :: ys, i + 1, d, h => by
    obtain ⟨a, b, h1, h2, h3⟩ := zipL_get xs ys i d (by simpa [zipL] using h)
    exact ⟨a, b, by simpa using h1, by simpa using h2, h3⟩
section
variable {K : W.Frag} {M O : Addr → Prop} {H : Hp} {a b : Addr} {ds es : List D} {vs us : List V}
theorem walk_zipL (hm : ∀ a, M a → O a) (hz : vs.length ≤ sizeLine) (h1 : SqL K H a vs) (n1 : ¬ M a) (l1 : AtL K H O ds vs) (h2 : SqL K H b us) (n2 : ¬ M b) (l2 : AtL K H O es us) : Walk K M O (Itz K a b) H (zipL ds es) where
  len := by rw [zipL_length, ← l1.length]; omega
  go := fun i d H' e k => by
    obtain ⟨x, y, ex, ey, rfl⟩ := zipL_get _ _ _ _ e
    obtain ⟨v, e1, a1⟩ := l1.get ex
    obtain ⟨u, e2, a2⟩ := l2.get ey
    have q1 := sqL_kp k n1 h1
    have q2 := sqL_kp k n2 h2
    refine ⟨⟨vs, us, v, u, q1, q2, e1, e2⟩, fun z H'' yy => ?_⟩
    obtain ⟨T, x', y', rfl, nT, rfl, z1, z2⟩ := yy
    have w1 := z1 vs q1
    have w2 := z2 us q2
    rw [e1] at w1; rw [e2] at w2
    cases w1; cases w2
    exact ⟨same_upd nT, fun O' g t => ⟨T, _, rfl, .of upd_same, t.not nT, _, _, rfl, (a1.move hm k g).same (same_upd nT), _, _, rfl, (a2.move hm k g).same (same_upd nT), rfl⟩⟩
  stop := fun H' k => ⟨vs, us, sqL_kp k n1 h1, sqL_kp k n2 h2, by rw [zipL_length, l1.length, l2.length]; omega⟩
theorem walk_zipT (hm : ∀ a, M a → O a) (hz : vs.length ≤ sizeLine) (h1 : SqT K H a vs) (n1 : ¬ M a) (l1 : AtL K H O ds vs) (h2 : SqT K H b us) (n2 : ¬ M b) (l2 : AtL K H O es us) : Walk K M O (RZ.ItzT K a b) H (zipL ds es) where
  len := by rw [zipL_length, ← l1.length]; omega
  go := fun i d H' e k => by
    obtain ⟨x, y, ex, ey, rfl⟩ := zipL_get _ _ _ _ e
    obtain ⟨v, e1, a1⟩ := l1.get ex
    obtain ⟨u, e2, a2⟩ := l2.get ey
    have q1 := sqT_kp k n1 h1
    have q2 := sqT_kp k n2 h2
    refine ⟨⟨vs, us, v, u, q1, q2, e1, e2⟩, fun z H'' yy => ?_⟩
    obtain ⟨T, x', y', rfl, nT, rfl, z1, z2⟩ := yy
    have w1 := z1 vs q1
    have w2 := z2 us q2
    rw [e1] at w1; rw [e2] at w2
    cases w1; cases w2
    exact ⟨same_upd nT, fun O' g t => ⟨T, _, rfl, .of upd_same, t.not nT, _, _, rfl, (a1.move hm k g).same (same_upd nT), _, _, rfl, (a2.move hm k g).same (same_upd nT), rfl⟩⟩
  stop := fun H' k => ⟨vs, us, sqT_kp k n1 h1, sqT_kp k n2 h2, by rw [zipL_length, l1.length, l2.length]; omega⟩
end
def zipD : List D → Rs (List D)
  | [.list xs, .list ys] => if xs.length ≤ big then .ok (zipL xs ys) else .stuck
  | [.tuple xs, .tuple ys] => if xs.length ≤ big then .ok (zipL xs ys) else .stuck
  | _ => .stuck
def zipE (fs : Ro → Rs (List D)) : DI := fun ρ => do let ds ← fs ρ; zipD ds
section
variable {X : Cx} {G : Gc} {L : Nat} {bl : List Str} {a b : Expr} {fs : Ro → Rs (List D)} {pos p tpos : Pos} {elts : List Expr} {kk : Nat}
theorem i_zipS (C : Ctx X G L bl) (hg : Gl X "zip") (hm : X.mg "zip" = none) (ha : PA X [a, b] (tArg G fs)) (hs : starEach [a, b] X.env = (false, eval a X.env) :: starEach [b] X.env) (hpl : (backTo pos (starEach [b] X.env)).any (·.1) = false) : PI X (.Tuple elts kk tpos) (.Call (.Name "zip" p) [a, b] [] pos) (tIt G false (zipE fs)) := by
  refine pi_imp (RZ.pi_zipA hg hm ha hs hpl) fun σ H R kf w => fun k => ?_
  obtain ⟨O, ρ, R0, q⟩ := w k
  refine ⟨O, ρ, R0, q.bind.imp fun ds _ q vs H1 s1 k1 a1 => ?_⟩
  unfold zipD at q
  split at q
  · split at q
    · rename_i hz
      obtain ⟨v, r, rfl, ⟨a', us, rfl, h1, n1, l1⟩, v2, r2, rfl, ⟨b', us2, rfl, h2, n2, l2⟩, e⟩ := a1
      cases e
      refine ⟨a', b', us, us2, rfl, .inl ⟨C.K ▸ h1, C.K ▸ h2, fun _ => ?_⟩⟩
      rw [C.K]
      exact q _ _ s1 k1 (walk_zipL (mk_le (wk := false)) (by rw [l1.length]; exact big_line hz) h1 n1 l1 h2 n2 l2)
    · exact q.elim
  · split at q
    · rename_i hz
      obtain ⟨v, r, rfl, ⟨a', us, rfl, h1, n1, l1⟩, v2, r2, rfl, ⟨b', us2, rfl, h2, n2, l2⟩, e⟩ := a1
      cases e
      refine ⟨a', b', us, us2, rfl, .inr ⟨C.K ▸ h1, C.K ▸ h2, fun _ => ?_⟩⟩
      rw [C.K]
      exact q _ _ s1 k1 (walk_zipT (mk_le (wk := false)) (by rw [l1.length]; exact big_line hz) h1 n1 l1 h2 n2 l2)
    · exact q.elim
  · exact q.elim
end
end Den
namespace Den
open PySem PySem.Spec PyProof.Rows L2
inductive Fl | nx | rt (d : D) | bk | ct
abbrev DS := Ro → Rs (Fl × Ro)
def Stp (K : W.Frag) (O : Addr → Prop) (H : Hp) (O' : Addr → Prop) (H' : Hp) : Prop := Kp O H H' ∧ ∀ a, O' a → O a ∨ (H a = none ∧ K.lookup a = none)
theorem Stp.same {K : W.Frag} {O : Addr → Prop} {H H' : Hp} (s : Same H H') : Stp K O H O H' := ⟨.of_same s, fun _ h => .inl h⟩
theorem Stp.trans {K : W.Frag} {O O' O'' : Addr → Prop} {H H' H'' : Hp} (a : Stp K O H O' H') (b : Stp K O' H' O'' H'') : Stp K O H O'' H'' := by
  refine ⟨fun x o e n => b.1 x o (a.1 x o e n) fun z => ?_, fun x z => ?_⟩
  · rcases a.2 x z with q | q
    · exact n q
    · rw [q.1] at e; cases e
  · rcases b.2 x z with q | q
    · exact a.2 x q
    · by_cases hO : O x
      · exact .inl hO
      · refine .inr ⟨?_, q.2⟩
        cases e : H x with
        | none => rfl
        | some o =>
          have := a.1 x o e hO
          rw [q.1] at this; cases this
def PostS (G : Gc) (O : Addr → Prop) (H : Hp) (r : Rs (Fl × Ro)) (Dn : Ends) : Prop :=
  match r with
  | .ok (.nx, ρ') => ∀ O' σ' H', Stp G.K O H O' H' → Rep G O' σ' H' ρ' → Dn.nx σ' H'
  | .ok (.rt d, _) => ∀ v H', Same G.H0 H' → KF G.K H' → At G.K H' G.O0 d v → Dn.rt v H'
  | .ok (.bk, ρ') => ∀ O' σ' H', Stp G.K O H O' H' → Rep G O' σ' H' ρ' → Dn.bk σ' H'
  | .ok (.ct, ρ') => ∀ O' σ' H', Stp G.K O H O' H' → Rep G O' σ' H' ρ' → Dn.ct σ' H'
  | .exc c => ∀ H', Same G.H0 H' → G.E (G.cl c) none H'
  | .stuck => False
def tSS (G : Gc) (f : DS) : TS := fun Dn σ H => KF G.K H → ∃ O ρ, Rep G O σ H ρ ∧ PostS G O H (f ρ) Dn
theorem PostS.step {G : Gc} {O O' : Addr → Prop} {H H' : Hp} {r : Rs (Fl × Ro)} {Dn : Ends} (p : PostS G O H r Dn) (s : Stp G.K O H O' H') : PostS G O' H' r Dn := by
  cases r with
  | ok a =>
    obtain ⟨fl, ρ'⟩ := a
    cases fl with
    | nx => exact fun O2 σ2 H2 s2 R2 => p O2 σ2 H2 (s.trans s2) R2
    | rt d => exact p
    | bk => exact fun O2 σ2 H2 s2 R2 => p O2 σ2 H2 (s.trans s2) R2
    | ct => exact fun O2 σ2 H2 s2 R2 => p O2 σ2 H2 (s.trans s2) R2
  | exc c => exact p
  | stuck => exact p
theorem PostS.exc_of {α : Type} {G : Gc} {O : Addr → Prop} {H : Hp} {r : Rs α} {f : α → Rs (Fl × Ro)} {Dn : Ends} {Q : α → Prop} (p : PostS G O H (r >>= f) Dn) (h : ∀ a, r = .ok a → PostS G O H (f a) Dn → Q a) : Post G H r Q := by
  cases r with
  | ok a => exact h a rfl p
  | exc c => exact p
  | stuck => exact p
section
variable {X : Cx} {G : Gc} {L : Nat} {bl : List Str} {a b c e tg iter : Expr} {st : Stmt} {rest : List Stmt} {f g h : DE} {F U : DS} {pos p : Pos} {x : Str}
structure SCtx (X : Cx) (G : Gc) (L : Nat) (bl : List Str) : Prop extends Ctx X G L bl where
  po : PassesOwn (model X.prog X.w) X.A X.env X.xe
  fn : ∀ x, X.fn x = true
def nxS : DS := fun ρ => .ok (.nx, ρ)
def seqS (f g : DS) : DS := fun ρ => do
  let r ← f ρ
  match r with
  | (.nx, ρ1) => g ρ1
  | r => .ok r
theorem ss_nil (C : Ctx X G L bl) : PSs X [] (tSS G nxS) := by
  refine pss_imp pss_nil fun Dn σ H kf w => ?_
  obtain ⟨O, ρ, R, q⟩ := w (C.kf kf)
  exact q O σ H (.same (Same.refl _)) R
theorem ss_cons (C : Ctx X G L bl) (h1 : PS X st (tSS G F)) (h2 : PSs X rest (tSS G U)) : PSs X (st :: rest) (tSS G (seqS F U)) := by
  refine pss_imp (pss_cons h1 h2) fun Dn σ H kf w => fun k => ?_
  obtain ⟨O, ρ, R, q⟩ := w k
  refine ⟨O, ρ, R, ?_⟩
  unfold seqS at q
  cases hF : F ρ with
  | ok r =>
    rw [hF] at q
    obtain ⟨fl, ρ1⟩ := r
    cases fl with
    | nx => exact fun O' σ' H' s R' k' => ⟨O', ρ1, R', PostS.step (r := U ρ1) q s⟩
    | rt d => exact q
    | bk => exact q
    | ct => exact q
  | exc c => rw [hF] at q; exact q
  | stuck => rw [hF] at q; exact q
def retS (f : DE) : DS := fun ρ => do let d ← f ρ; pure (.rt d, ρ)
theorem s_ret (ha : PE X a (tS G f)) : PS X (.Return (some a) pos) (tSS G (retS f)) := by
  refine ps_imp (ps_ret ha) fun Dn σ H kf w => fun k => ?_
  obtain ⟨O, ρ, R, q⟩ := w k
  refine ⟨O, ρ, R, PostS.exc_of (r := f ρ) (O := O) q fun d _ q v H' s k' a => ?_⟩
  exact q v H' (R.base.trans s) k' (a.less R.sub)
theorem s_retO (C : Ctx X G L bl) {i : Nat} {p : Pos} (hN : X.N[i]? = some x) (hv : Vis X.env.scope x) (hd : (x == ("__debug__" : Str)) = false) (hcd : (x == ("__classdict__" : Str)) = false) : PS X (.Return (some (.Name x p)) pos) (tSS G (retS (vaR i))) := by
  refine ps_imp (ps_ret (pe_var hN hv hd hcd)) fun Dn σ H kf w => ?_
  have k := C.kf kf
  obtain ⟨O, ρ, R, q⟩ := w k
  unfold retS vaR at q
  split at q
  · rename_i d e
    cases hw : G.own i with
    | false =>
      obtain ⟨v, e1, h1⟩ := R.slot i d e hw
      exact ⟨v, e1, q v H R.base k (h1.less R.sub)⟩
    | true =>
      obtain ⟨a, ds, vs, rfl, e1, e2, h1, h2, h3⟩ := R.owns i d e hw
      exact ⟨.ref a, e1, q _ H R.base k ⟨a, vs, rfl, .of e2, h3, h1.less R.sub⟩⟩
  · exact q.elim
def retN : DS := fun ρ => .ok (.rt .none, ρ)
theorem s_retN (C : Ctx X G L bl) : PS X (.Return none pos) (tSS G retN) := by
  refine ps_imp ps_retN fun Dn σ H kf w => ?_
  have k := C.kf kf
  obtain ⟨O, ρ, R, q⟩ := w k
  exact q .non H R.base k rfl
def iteS (t : DE) (f g : DS) : DS := fun ρ => do let b ← tstE t ρ; if b then f ρ else g ρ
theorem s_if {A B : List Stmt} {t : DE} (hc : PT X c (tTst G (tstE t))) (ha : PSs X A (tSS G F)) (hb : PSs X B (tSS G U)) : PS X (.If c A B pos) (tSS G (iteS t F U)) := by
  refine ps_imp (ps_if hc ha hb) fun Dn σ H kf w => fun k => ?_
  obtain ⟨O, ρ, R, q⟩ := w k
  refine ⟨O, ρ, R, PostS.exc_of (r := tstE t ρ) (O := O) q fun b _ q H' s k' => ?_⟩
  cases b with
  | true => exact (if_pos rfl).mpr fun k'' => ⟨O, ρ, R.same s, PostS.step (r := F ρ) q (.same s)⟩
  | false => exact (if_neg Bool.false_ne_true).mpr fun k'' => ⟨O, ρ, R.same s, PostS.step (r := U ρ) q (.same s)⟩
def exprS (f : DE) : DS := fun ρ => do let _ ← f ρ; pure (.nx, ρ)
theorem s_expr (ha : PE X a (tS G f)) (hs : swapsWith a none pos.line X.env = pure false) : PS X (.Expr a pos) (tSS G (exprS f)) := by
  refine ps_imp (ps_expr ha hs) fun Dn σ H kf w => fun k => ?_
  obtain ⟨O, ρ, R, q⟩ := w k
  refine ⟨O, ρ, R, PostS.exc_of (r := f ρ) (O := O) q fun d _ q v H' s k' a => ?_⟩
  exact q O σ H' (.same s) (R.same s)
end
end Den
namespace Den
open PySem PySem.Spec PyProof.Rows L2
theorem Rep.plusD {G : Gc} {O : Addr → Prop} {σ : L2.St} {H H1 : Hp} {ρ : Ro} {p : Addr} {o : HO} (R : Rep G O σ H ρ) (s : Same H H1) (n : H p = none) (e : H1 p = some o) (nk : G.K.lookup p = none) : Rep G (fun a => O a ∨ a = p) σ H1 ρ := by
  have R' := R.same s
  refine ⟨R'.base, fun a h => .inl (R.sub a h), fun a h => ?_, fun a h hn => ?_, R.len, fun i d e nw => ?_, fun i d e nw => ?_, R.dist⟩
  · rcases h with h | h
    · exact R'.trk a h
    · exact ⟨o, by rw [h]; exact e⟩
  · rcases h with h | h
    · exact R.fre a h hn
    · rw [h]; exact R.base.free n
  · obtain ⟨v, e1, h1⟩ := R.slot i d e nw
    exact ⟨v, e1, (h1.grow n nk).same s⟩
  · obtain ⟨a, ds, vs, e0, e1, e2, h1, h2, h3⟩ := R.owns i d e nw
    exact ⟨a, ds, vs, e0, e1, s _ _ e2, (h1.grow n nk).same s, .inl h2, h3⟩
structure New (K : W.Frag) (O : Addr → Prop) (H H1 : Hp) (p : Addr) (ds : List D) : Prop where
  s : Same H H1
  n : H p = none
  k : K.lookup p = none
  at_ : ∃ vs, H1 p = some (.lst vs) ∧ AtL K H1 (fun a => O a ∨ a = p) ds vs
theorem Rep.setOwn {G : Gc} {O : Addr → Prop} {σ : L2.St} {H H1 : Hp} {ρ : Ro} {i : Nat} {p : Addr} {ds : List D} (R : Rep G O σ H ρ) (N : New G.K O H H1 p ds) (hw : G.own i = true) :
    Rep G (fun a => O a ∨ a = p) (σ.set i (some (.ref p))) H1 (ρ.set i (some (.list ds))) := by
  obtain ⟨s, n, nk, vs, e, a⟩ := N
  have R' := R.plusD s n e nk
  have np : ¬ G.O0 p := fun z => by
    obtain ⟨o, e'⟩ := R.trk p (R.sub p z)
    rw [n] at e'; cases e'
  have older : ∀ j d, ρ[j]? = some (some d) → G.own j = true → ∀ b, σ[j]? = some (some (.ref b)) → b ≠ p := fun j d hj nj b hb z => by
    obtain ⟨b', es, us, _, e1, e2, _⟩ := R.owns j d hj nj
    rw [hb] at e1; cases e1
    rw [z, n] at e2; cases e2
  refine ⟨R'.base, R'.sub, R'.trk, R'.fre, by rw [List.length_set, List.length_set]; exact R.len, fun j e' hj nj => ?_, fun j e' hj nj => ?_, fun j k e1 e2 b hjk nj nk' hj hk h1 h2 => ?_⟩
  · have ne : i ≠ j := fun z => by subst z; rw [hw] at nj; cases nj
    rw [List.getElem?_set_ne ne] at hj
    obtain ⟨u, e1, h1⟩ := R'.slot j e' hj nj
    exact ⟨u, by rw [List.getElem?_set_ne ne]; exact e1, h1⟩
  · rcases set_at hj with ⟨rfl, e1, hl⟩ | ⟨ne, hj'⟩
    · cases e1
      exact ⟨p, ds, vs, rfl, List.getElem?_set_self (by rw [← R.len]; exact hl), e, a, .inr rfl, np⟩
    · obtain ⟨a', es, us, e0, e1, r⟩ := R'.owns j e' hj' nj
      exact ⟨a', es, us, e0, by rw [List.getElem?_set_ne ne]; exact e1, r⟩
  · rcases set_at hj with ⟨rfl, q1, l1⟩ | ⟨n1, hj'⟩
    · rcases set_at hk with ⟨rfl, _, _⟩ | ⟨n2, hk'⟩
      · exact hjk rfl
      · rw [List.getElem?_set_self (by rw [← R.len]; exact l1)] at h1
        cases h1
        rw [List.getElem?_set_ne n2] at h2
        exact older k e2 hk' nk' p h2 rfl
    · rw [List.getElem?_set_ne n1] at h1
      rcases set_at hk with ⟨rfl, q2, l2⟩ | ⟨n2, hk'⟩
      · rw [List.getElem?_set_self (by rw [← R.len]; exact l2)] at h2
        cases h2
        exact older j e1 hj' nj p h1 rfl
      · rw [List.getElem?_set_ne n2] at h2
        exact R.dist j k e1 e2 b hjk nj nk' hj' hk' h1 h2
def Mix (K : W.Frag) : Hp → Hp → (Addr → Prop) → (Addr → Prop) → List Bool → List D → List V → Prop
  | H, H', O, O', [], [], [] => Same H H' ∧ O' = O
  | H, H', O, O', false :: fl, d :: ds, v :: vs => ∃ H1, Same H H1 ∧ At K H1 O d v ∧ Mix K H1 H' O O' fl ds vs
  | H, H', O, O', true :: fl, d :: ds, v :: vs => ∃ H1 p es, d = .list es ∧ v = .ref p ∧ New K O H H1 p es ∧ Mix K H1 H' (fun a => O a ∨ a = p) O' fl ds vs
  | _, _, _, _, _, _, _ => False
def setV : L2.St → List Nat → List V → L2.St
  | σ, i :: is, v :: vs => setV (σ.set i (some v)) is vs
  | σ, _, _ => σ
def setD : Ro → List Nat → List D → Ro
  | ρ, i :: is, d :: ds => setD (ρ.set i (some d)) is ds
  | ρ, _, _ => ρ
theorem Mix.stp {K : W.Frag} : ∀ {fl : List Bool} {ds : List D} {vs : List V} {H H' : Hp} {O O' : Addr → Prop}, Mix K H H' O O' fl ds vs → Same H H' ∧ ∀ a, O' a → O a ∨ (H a = none ∧ K.lookup a = none)
  | [], [], [], _, _, _, _, h => ⟨h.1, fun a z => .inl (by rw [h.2] at z; exact z)⟩
  | false :: fl, d :: ds, v :: vs, H, H', O, O', h => by
    obtain ⟨H1, s, _, h2⟩ := h
    obtain ⟨s2, q⟩ := Mix.stp h2
    refine ⟨s.trans s2, fun a z => (q a z).imp id fun r => ⟨s.free r.1, r.2⟩⟩
  | true :: fl, d :: ds, v :: vs, H, H', O, O', h => by
    obtain ⟨H1, p, es, _, _, N, h2⟩ := h
    obtain ⟨s2, q⟩ := Mix.stp h2
    refine ⟨N.s.trans s2, fun a z => ?_⟩
    rcases q a z with (r | r) | r
    · exact .inl r
    · exact .inr (by rw [r]; exact ⟨N.n, N.k⟩)
    · exact .inr ⟨N.s.free r.1, r.2⟩
  | [], _ :: _, _, _, _, _, _, h => h.elim
  | [], [], _ :: _, _, _, _, _, h => h.elim
  | true :: _, [], _, _, _, _, _, h => h.elim
  | false :: _, [], _, _, _, _, _, h => h.elim
  | true :: _, _ :: _, [], _, _, _, _, h => h.elim
  | false :: _, _ :: _, [], _, _, _, _, h => h.elim
theorem Mix.rep {G : Gc} : ∀ {is : List Nat} {fl : List Bool} {ds : List D} {vs : List V} {H H' : Hp} {O O' : Addr → Prop} {σ : L2.St} {ρ : Ro}, fl = is.map G.own → Rep G O σ H ρ → Mix G.K H H' O O' fl ds vs → Rep G O' (setV σ is vs) H' (setD ρ is ds)
  | [], [], [], [], _, _, _, _, _, _, _, R, h => by
    rw [h.2]
    exact R.same h.1
  | i :: is, false :: fl, d :: ds, v :: vs, H, H', O, O', σ, ρ, e, R, h => by
    obtain ⟨e1, e2⟩ := List.cons.inj e
    obtain ⟨H1, s, a, h2⟩ := h
    have r := Mix.rep (is := is) (fl := fl) (ds := ds) (vs := vs) e2 ((R.same s).set a e1.symm) h2
    exact r
  | i :: is, true :: fl, d :: ds, v :: vs, H, H', O, O', σ, ρ, e, R, h => by
    obtain ⟨e1, e2⟩ := List.cons.inj e
    obtain ⟨H1, p, es, rfl, rfl, N, h2⟩ := h
    have r := Mix.rep (is := is) (fl := fl) (ds := ds) (vs := vs) e2 (R.setOwn N e1.symm) h2
    exact r
  | _, [], _ :: _, _, _, _, _, _, _, _, _, _, h => h.elim
  | _, [], [], _ :: _, _, _, _, _, _, _, _, _, h => h.elim
  | _, true :: _, [], _, _, _, _, _, _, _, _, _, h => h.elim
  | _, false :: _, [], _, _, _, _, _, _, _, _, _, h => h.elim
  | _, true :: _, _ :: _, [], _, _, _, _, _, _, _, _, h => h.elim
  | _, false :: _, _ :: _, [], _, _, _, _, _, _, _, _, h => h.elim
  | [], true :: _, _ :: _, _ :: _, _, _, _, _, _, _, e, _, _ => nomatch e
  | [], false :: _, _ :: _, _ :: _, _, _, _, _, _, _, e, _, _ => nomatch e
  | _ :: _, [], [], [], _, _, _, _, _, _, e, _, _ => nomatch e
def tMix (G : Gc) (fl : List Bool) (f : Ro → Rs (List D)) : TA := fun σ H Q => KF G.K H → ∃ O ρ, Rep G O σ H ρ ∧ Post G H (f ρ) fun ds => ∀ vs H' O', KF G.K H' → Mix G.K H H' O O' fl ds vs → Q vs H'
section
variable {X : Cx} {G : Gc} {L : Nat} {bl : List Str} {a b c e tg iter : Expr} {es : List Expr} {st : Stmt} {f g h : DE} {fs : Ro → Rs (List D)} {fl : List Bool} {F U : DS} {pos p : Pos} {x : Str} {i : Nat}
theorem m_nil (C : Ctx X G L bl) : PA X [] (tMix G [] noArg) := by
  refine pa_imp pa_nil fun σ H Q kf w => ?_
  have k := C.kf kf
  obtain ⟨O, ρ, R, p⟩ := w k
  exact fun _ => p [] H O k ⟨Same.refl H, rfl⟩
theorem m_consS (C : Ctx X G L bl) (ha : PE X e (tS G f)) (hs : PA X es (tMix G fl fs)) (hst : starEach (e :: es) X.env = (false, eval e X.env) :: starEach es X.env) : PA X (e :: es) (tMix G (false :: fl) (consArg f fs)) := by
  refine pa_imp (pa_cons ha hs hst) fun σ H Q kf w => fun k => ?_
  obtain ⟨O, ρ, R, p⟩ := w k
  refine ⟨O, ρ, R, p.bind.imp fun d _ q v H1 s1 k1 a1 => fun _ => ?_⟩
  refine ⟨O, ρ, R.same s1, q.bind.imp fun ds _ q2 vs H2 O2 k2 m2 => fun _ => ?_⟩
  exact q2 (v :: vs) H2 O2 k2 ⟨H1, s1, a1, m2⟩
theorem m_consF (C : Ctx X G L bl) (ha : PE X e (tF G f)) (hl : ∀ ρ d, f ρ = .ok d → ∃ ds, d = .list ds) (hs : PA X es (tMix G fl fs)) (hst : starEach (e :: es) X.env = (false, eval e X.env) :: starEach es X.env) : PA X (e :: es) (tMix G (true :: fl) (consArg f fs)) := by
  refine pa_imp (pa_cons ha hs hst) fun σ H Q kf w => fun k => ?_
  obtain ⟨O, ρ, R, p⟩ := w k
  refine ⟨O, ρ, R, p.bind.imp fun d e1 q p' ds us H1 ed s1 k1 n e2 a1 => fun _ => ?_⟩
  have nk := kf_no k1 e2
  refine ⟨fun a => O a ∨ a = p', ρ, R.plusD s1 n e2 nk, q.bind.imp fun ds' _ q2 vs H2 O2 k2 m2 => fun _ => ?_⟩
  exact q2 (.ref p' :: vs) H2 O2 k2 ⟨H1, p', ds, ed, rfl, ⟨s1, n, nk, us, e2, a1⟩, m2⟩
def asgS (is : List Nat) (fs : Ro → Rs (List D)) : DS := fun ρ => do let ds ← fs ρ; pure (.nx, setD ρ is ds)
theorem vis_of_loc {sc : Scope} {x : Str} (h : Loc sc x) : Vis sc x := h.elim .inl fun z => .inr (.inl z)
theorem s_set (C : SCtx X G L bl) {px : Pos} (hi : X.N[i]? = some x) (hx : Loc X.env.scope x) (he : PE X e (tS G f)) (hw : G.own i = false) (hs : swapsWith e (some (.Name x px)) pos.line X.env = pure false) :
    PS X (.Assign [.Name x px] e pos) (tSS G (asgS [i] (consArg f noArg))) := by
  refine ps_imp (ps_set C.nd hi hx he hs (.inl (C.fn x))) fun Dn σ H kf w => fun k => ?_
  obtain ⟨O, ρ, R, q⟩ := w k
  refine ⟨O, ρ, R, ?_⟩
  unfold asgS consArg noArg at q
  cases hf : f ρ with
  | ok d =>
    rw [hf] at q
    exact fun v H' s k' a => q O _ H' (.same s) ((R.same s).set a hw)
  | exc c => rw [hf] at q; exact q
  | stuck => rw [hf] at q; exact q
theorem s_setO (C : SCtx X G L bl) {px : Pos} (hi : X.N[i]? = some x) (hx : Loc X.env.scope x) (he : PE X e (tF G f)) (hw : G.own i = true) (hs : swapsWith e (some (.Name x px)) pos.line X.env = pure false) :
    PS X (.Assign [.Name x px] e pos) (tSS G (asgS [i] (consArg f noArg))) := by
  refine ps_imp (ps_set C.nd hi hx he hs (.inl (C.fn x))) fun Dn σ H kf w => fun k => ?_
  obtain ⟨O, ρ, R, q⟩ := w k
  refine ⟨O, ρ, R, ?_⟩
  unfold asgS consArg noArg at q
  cases hf : f ρ with
  | ok d =>
    rw [hf] at q
    intro p ds us H' ed s k' n e a
    subst ed
    have N : New G.K O H H' p ds := ⟨s, n, kf_no k' e, us, e, a⟩
    exact q (fun a => O a ∨ a = p) _ H' ⟨.of_same s, fun a z => z.imp id fun r => by rw [r]; exact ⟨N.n, N.k⟩⟩ (R.setOwn N hw)
  | exc c => rw [hf] at q; exact q
  | stuck => rw [hf] at q; exact q
def asgT (stg : STg) (f : DE) : DS := fun ρ => do let d ← f ρ; let ρ' ← (stg d ρ).noexc; pure (.nx, ρ')
theorem s_asg (C : SCtx X G L bl) {vs : List Nat} {stg : STg} (he : PE X e (tS G f)) (hg : PG X tg (tTg G vs stg)) (hs : swapsWithSole [tg] e pos.line X.env = pure false) (hw : swappedStores [tg] e X.env = pure none) (h1 : (assignEach [tg] X.env).map (·.2) = [assign tg X.env]) :
    PS X (.Assign [tg] e pos) (tSS G (asgT stg f)) := by
  refine ps_imp (ps_asg he hg hs hw h1) fun Dn σ H kf w => fun k => ?_
  obtain ⟨O, ρ, R, q⟩ := w k
  refine ⟨O, ρ, R, PostS.exc_of (r := f ρ) (O := O) q fun d _ q v H' s k' a => ?_⟩
  intro _
  cases hst : stg d ρ with
  | ok ρ' =>
    rw [hst] at q
    exact ⟨O, ρ, d, ρ', R.same s, a, hst, fun σ' R' _ => q O σ' H' (.same s) R'⟩
  | exc c => rw [hst] at q; exact q.elim
  | stuck => rw [hst] at q; exact q.elim
theorem s_par2 (C : SCtx X G L bl) {j : Nat} {y : Str} {px py pt : Pos} {kt k2 : Nat} {pt2 : Pos} (hi : X.N[i]? = some x) (hj : X.N[j]? = some y) (hij : i ≠ j) (hx : X.env.scope.names.lookup x = some .local) (hy : X.env.scope.names.lookup y = some .local)
    (ha : PA X [a, b] (tMix G ([i, j].map G.own) fs)) (hl : ∀ ρ ds, fs ρ = .ok ds → ds.length = 2)
    (hw : swappedStores [.Tuple [.Name x px, .Name y py] kt pt] (.Tuple [a, b] k2 pt2) X.env = pure (some [x, y])) (hs : swapsWithSole [.Tuple [.Name x px, .Name y py] kt pt] (.Tuple [a, b] k2 pt2) pos.line X.env = pure false) :
    PS X (.Assign [.Tuple [.Name x px, .Name y py] kt pt] (.Tuple [a, b] k2 pt2) pos) (tSS G (asgS [i, j] fs)) := by
  refine ps_imp (ps_par C.calm C.nd hi hj hij hx hy ha hw hs) fun Dn σ H kf w => fun k => ?_
  obtain ⟨O, ρ, R, q⟩ := w k
  refine ⟨O, ρ, R, PostS.exc_of (r := fs ρ) (O := O) q fun ds e q vs H' O' k' m => ?_⟩
  obtain ⟨s, g⟩ := Mix.stp m
  have r := Mix.rep rfl R m
  have h2 := hl ρ ds e
  match ds, vs, h2, m, r, q with
  | [d1, d2], [v1, v2], _, m, r, q => exact ⟨v1, v2, rfl, q O' _ H' ⟨.of_same s, g⟩ r⟩
  | [d1, d2], [], _, m, _, _ =>
    cases hi' : G.own i <;> rw [List.map_cons, hi'] at m <;> exact m.elim
  | [d1, d2], [v1], _, m, _, _ =>
    cases hi' : G.own i <;> cases hj' : G.own j <;> rw [List.map_cons, List.map_cons, hi', hj'] at m
    · obtain ⟨_, _, _, m⟩ := m; exact m.elim
    · obtain ⟨_, _, _, m⟩ := m; exact m.elim
    · obtain ⟨_, _, _, _, _, _, m⟩ := m; exact m.elim
    · obtain ⟨_, _, _, _, _, _, m⟩ := m; exact m.elim
  | [d1, d2], v1 :: v2 :: v3 :: vr, _, m, _, _ =>
    cases hi' : G.own i <;> cases hj' : G.own j <;> rw [List.map_cons, List.map_cons, hi', hj'] at m
    · obtain ⟨_, _, _, _, _, _, m⟩ := m; exact m.elim
    · obtain ⟨_, _, _, _, _, _, _, _, _, m⟩ := m; exact m.elim
    · obtain ⟨_, _, _, _, _, _, _, _, _, m⟩ := m; exact m.elim
    · obtain ⟨_, _, _, _, _, _, _, _, _, _, _, _, m⟩ := m; exact m.elim
theorem s_par3 (C : SCtx X G L bl) {j l : Nat} {y z : Str} {px py pz pt : Pos} {kt k2 : Nat} {pt2 : Pos} (hi : X.N[i]? = some x) (hj : X.N[j]? = some y) (hll : X.N[l]? = some z) (hij : i ≠ j) (hil : i ≠ l) (hjl : j ≠ l) (hx : X.env.scope.names.lookup x = some .local) (hy : X.env.scope.names.lookup y = some .local) (hz : X.env.scope.names.lookup z = some .local)
    (ha : PA X [a, b, c] (tMix G [false, false, false] fs)) (ho : [i, j, l].map G.own = [false, false, false]) (hl : ∀ ρ ds, fs ρ = .ok ds → ds.length = 3)
    (hw : swappedStores [.Tuple [.Name x px, .Name y py, .Name z pz] kt pt] (.Tuple [a, b, c] k2 pt2) X.env = pure (some [x, y, z])) (hs : swapsWithSole [.Tuple [.Name x px, .Name y py, .Name z pz] kt pt] (.Tuple [a, b, c] k2 pt2) pos.line X.env = pure false) :
    PS X (.Assign [.Tuple [.Name x px, .Name y py, .Name z pz] kt pt] (.Tuple [a, b, c] k2 pt2) pos) (tSS G (asgS [i, j, l] fs)) := by
  refine ps_imp (ps_par3 C.calm C.nd hi hj hll hij hil hjl hx hy hz ha hw hs) fun Dn σ H kf w => fun k => ?_
  obtain ⟨O, ρ, R, q⟩ := w k
  refine ⟨O, ρ, R, PostS.exc_of (r := fs ρ) (O := O) q fun ds e q vs H' O' k' m => ?_⟩
  obtain ⟨s, g⟩ := Mix.stp m
  have r := Mix.rep (is := [i, j, l]) ho.symm R m
  have h2 := hl ρ ds e
  match ds, vs, h2, m, r, q with
  | [d1, d2, d3], [v1, v2, v3], _, m, r, q => exact ⟨v1, v2, v3, rfl, q O' _ H' ⟨.of_same s, g⟩ r⟩
  | [d1, d2, d3], [], _, m, _, _ => exact m.elim
  | [d1, d2, d3], [v1], _, m, _, _ => obtain ⟨_, _, _, m⟩ := m; exact m.elim
  | [d1, d2, d3], [v1, v2], _, m, _, _ => obtain ⟨_, _, _, _, _, _, m⟩ := m; exact m.elim
  | [d1, d2, d3], v1 :: v2 :: v3 :: v4 :: vr, _, m, _, _ => obtain ⟨_, _, _, _, _, _, _, _, _, m⟩ := m; exact m.elim
def gNames (is : List Nat) : TGs := fun vs σ H Q => vs.length = is.length ∧ Q (setV σ is vs) H
theorem gn_nil : PGs X [] (gNames []) := ⟨fun pins s σ H us uv Q I r w => by
  cases us with
  | nil => exact (pgs_nil (X := X)).run pins s σ H [] uv Q I r ⟨rfl, w.2⟩
  | cons _ _ => exact absurd w.1 (by simp)⟩
theorem gn_cons (C : SCtx X G L bl) {is : List Nat} (hi : X.N[i]? = some x) (hx : Loc X.env.scope x) (h : PGs X es (gNames is)) : PGs X (.Name x p :: es) (gNames (i :: is)) := ⟨fun pins s σ H us uv Q I r w => by
  cases us with
  | nil => exact absurd w.1 (by simp)
  | cons v ur => exact (pgs_cons (pg_name (pos := p) C.nd hi hx (.inl (C.fn x))) h rfl).run pins s σ H (v :: ur) uv Q I r ⟨v, ur, rfl, by simpa using w.1, w.2⟩⟩
theorem Mix.length {K : W.Frag} : ∀ {fl : List Bool} {ds : List D} {vs : List V} {H H' : Hp} {O O' : Addr → Prop}, Mix K H H' O O' fl ds vs → vs.length = fl.length
  | [], [], [], _, _, _, _, _ => rfl
  | false :: fl, d :: ds, v :: vs, _, _, _, _, h => by obtain ⟨_, _, _, h2⟩ := h; simp [Mix.length h2]
  | true :: fl, d :: ds, v :: vs, _, _, _, _, h => by obtain ⟨_, _, _, _, _, _, h2⟩ := h; simp [Mix.length h2]
  | [], _ :: _, _, _, _, _, _, h => h.elim
  | [], [], _ :: _, _, _, _, _, h => h.elim
  | true :: _, [], _, _, _, _, _, h => h.elim
  | false :: _, [], _, _, _, _, _, h => h.elim
  | true :: _, _ :: _, [], _, _, _, _, h => h.elim
  | false :: _, _ :: _, [], _, _, _, _, h => h.elim
theorem s_tup (C : SCtx X G L bl) {is : List Nat} {ts : List Expr} {kt k2 : Nat} {pt pt2 : Pos} (hg : PGs X ts (gNames is)) (ha : PA X es (tMix G (is.map G.own) fs)) (hz : is.length ≤ big) (hn : (assignEach ts X.env).length = is.length) (hst : (assignEach ts X.env).findIdx? (·.1) = none)
    (hs : swapsWithSole [.Tuple ts kt pt] (.Tuple es k2 pt2) pos.line X.env = pure false) (hw : swappedStores [.Tuple ts kt pt] (.Tuple es k2 pt2) X.env = pure none) (h1 : (assignEach [.Tuple ts kt pt] X.env).map (·.2) = [assign (.Tuple ts kt pt) X.env]) :
    PS X (.Assign [.Tuple ts kt pt] (.Tuple es k2 pt2) pos) (tSS G (asgS is fs)) := by
  refine ps_imp (ps_asg (pe_tup ha) (pg_tup (n := is.length) C.calm hg hn hst) hs hw h1) fun Dn σ H kf w => fun k => ?_
  obtain ⟨O, ρ, R, q⟩ := w k
  refine ⟨O, ρ, R, PostS.exc_of (r := fs ρ) (O := O) q fun ds e q vs H' O' k' m => ?_⟩
  obtain ⟨s, g⟩ := Mix.stp m
  have r := Mix.rep rfl R m
  have hl := Mix.length m
  rw [List.length_map] at hl
  refine ⟨by rw [hl]; exact big_line hz, fun T hT => ⟨T, vs, rfl, .of upd_same, hl, hl, ?_⟩⟩
  exact q O' _ _ ⟨.of_same (s.trans (same_upd hT)), g⟩ (r.same (same_upd hT))
end
end Den
namespace Den
open PySem PySem.Spec PyProof.Rows L2
section
variable {X : Cx} {G : Gc} {L : Nat} {bl : List Str} {a b c e tg iter : Expr} {es : List Expr} {st : Stmt} {A : List Stmt} {f g h : DE} {fs : Ro → Rs (List D)} {F U : DS} {pos p : Pos} {x y : Str} {i j : Nat}
def movS (i j : Nat) : DS := fun ρ => match ρ[j]? with
  | some (some d) => .ok (.nx, (ρ.set j none).set i (some d))
  | _ => .stuck
theorem s_mov (C : SCtx X G L bl) {px py : Pos} (hi : X.N[i]? = some x) (hx : Loc X.env.scope x) (hj : X.N[j]? = some y) (hy : Vis X.env.scope y) (hd : (y == ("__debug__" : Str)) = false) (hcd : (y == ("__classdict__" : Str)) = false) (hw : G.own i = false) (hwj : G.own j = true) :
    PS X (.Assign [.Name x px] (.Name y py) pos) (tSS G (movS i j)) := by
  refine ps_imp (ps_set C.nd hi hx (pe_var hj hy hd hcd) rfl (.inl (C.fn x))) fun Dn σ H kf w => ?_
  have k := C.kf kf
  obtain ⟨O, ρ, R, q⟩ := w k
  unfold movS at q
  split at q
  · rename_i d e
    obtain ⟨a, ds, vs, rfl, e1, e2, h1, h2, h3⟩ := R.owns j d e hwj
    refine ⟨.ref a, e1, ?_⟩
    have R1 : Rep G (fun z => O z ∧ z ≠ a) σ H (ρ.set j none) := by
      have R0 := R.forget (i := j)
      refine ⟨R.base, fun z hz => ⟨R.sub z hz, fun q => h3 (q ▸ hz)⟩, fun z hz => R.trk z hz.1, fun z hz n => R.fre z hz.1 n, R0.len, fun m d hm nm => ?_, fun m d hm nm => ?_, R0.dist⟩
      · obtain ⟨v, q1, q2⟩ := R0.slot m d hm nm
        exact ⟨v, q1, q2.less fun z hz => hz.1⟩
      · obtain ⟨b, es, us, q0, q1, q2, q3, q4, q5⟩ := R0.owns m d hm nm
        refine ⟨b, es, us, q0, q1, q2, q3.less fun z hz => hz.1, ⟨q4, fun z => ?_⟩, q5⟩
        subst z
        rcases set_at hm with ⟨_, e1', _⟩ | ⟨ne, hm'⟩
        · cases e1'
        · exact R.dist j m _ d b ne hwj nm e hm' e1 q1
    have a1 : At G.K H (fun z => O z ∧ z ≠ a) (.list ds) (.ref a) := ⟨a, vs, rfl, .of e2, fun z => z.2 rfl, h1.less fun z hz => hz.1⟩
    exact q _ _ H ⟨.of_same (Same.refl H), fun z hz => .inl hz.1⟩ (R1.set a1 hw)
  · exact q.elim
theorem Rep.write {O : Addr → Prop} {σ : L2.St} {H : Hp} {ρ : Ro} {q : Addr} {ds ds' : List D} {us : List V} (R : Rep G O σ H ρ) (hw : G.own i = true) (e : ρ[i]? = some (some (.list ds))) (e1 : σ[i]? = some (some (.ref q))) (hO : O q) (hO0 : ¬ G.O0 q) (a : AtL G.K H O ds' us) :
    Rep G O σ (upd H q (.lst us)) (ρ.set i (some (.list ds'))) ∧ Stp G.K O H O (upd H q (.lst us)) := by
  have kp : Kp O H (upd H q (.lst us)) := fun b o eb nb => by rw [upd_ne (by rintro rfl; exact nb hO)]; exact eb
  have hil : i < ρ.length := (List.getElem?_eq_some_iff.mp e).1
  refine ⟨⟨fun b o eb => ?_, R.sub, fun z hz => ?_, R.fre, by rw [List.length_set]; exact R.len, fun m d hm nm => ?_, fun m d hm nm => ?_, fun m n d d' b hmn nm nn hm hn h1 h2 => ?_⟩, kp, fun z hz => .inl hz⟩
  · have : b ≠ q := fun z => by
      subst z
      rw [R.fre b hO hO0] at eb; cases eb
    rw [upd_ne this]; exact R.base b o eb
  · by_cases hz' : z = q
    · exact ⟨_, by rw [hz']; exact upd_same⟩
    · rw [upd_ne hz']; exact R.trk z hz
  · have ne : i ≠ m := fun z => by subst z; rw [hw] at nm; cases nm
    rw [List.getElem?_set_ne ne] at hm
    obtain ⟨v, q1, q2⟩ := R.slot m d hm nm
    exact ⟨v, q1, q2.keep kp⟩
  · rcases set_at hm with ⟨rfl, e', _⟩ | ⟨ne, hm'⟩
    · cases e'
      exact ⟨q, ds', us, rfl, e1, upd_same, a.keep kp, hO, hO0⟩
    · obtain ⟨b, es, vs, q0, q1, q2, q3, q4, q5⟩ := R.owns m d hm' nm
      refine ⟨b, es, vs, q0, q1, ?_, q3.keep kp, q4, q5⟩
      rw [upd_ne fun z => ?_]
      · exact q2
      · subst z
        exact R.dist i m _ d b ne hw nm e hm' e1 q1
  · have old : ∀ {m d}, (ρ.set i (some (.list ds')))[m]? = some (some d) → ∃ d0, ρ[m]? = some (some d0) := fun {m d} hm => by
      rcases set_at hm with ⟨rfl, _, _⟩ | ⟨_, hm'⟩
      · exact ⟨_, e⟩
      · exact ⟨_, hm'⟩
    obtain ⟨d0, h0⟩ := old hm
    obtain ⟨d1, h1'⟩ := old hn
    exact R.dist m n d0 d1 b hmn nm nn h0 h1' h1 h2
def appS (i : Nat) (f : DE) : DS := fun ρ => match ρ[i]? with
  | some (some (.list ds)) => do let d ← f ρ; if ds.length < big then .ok (.nx, ρ.set i (some (.list (ds ++ [d])))) else .stuck
  | _ => .stuck
theorem s_app (C : SCtx X G L bl) {px apos cpos : Pos} (hi : X.N[i]? = some x) (hx : Vis X.env.scope x) (hd : (x == ("__debug__" : Str)) = false) (hcd : (x == ("__classdict__" : Str)) = false) (hw : G.own i = true) (he : PE X e (tS G f))
    (hst : starEach (e :: []) X.env = (false, eval e X.env) :: starEach [] X.env) (hline : (apos.endLine == cpos.line) = true) :
    PS X (.Expr (.Call (.Attribute (.Name x px) "append" apos) [e] [] cpos) pos) (tSS G (appS i f)) := by
  refine ps_imp (ps_expr (pe_bm PySem.F.plainAttrs_list PySem.F.slot_list_append PySem.F.type_list_append mt_append (pe_var hi hx hd hcd) (pa_cons he pa_nil hst) rfl (by rw [hst]; rfl) hline hst rfl) rfl) fun Dn σ H kf w => ?_
  have k := C.kf kf
  obtain ⟨O, ρ, R, q⟩ := w k
  unfold appS at q
  split at q
  · rename_i ds e
    obtain ⟨a, ds0, vs, ed, e1, e2, h1, h2, h3⟩ := R.owns i _ e hw
    cases ed
    refine ⟨.ref a, e1, .inl ⟨rfl, vs, .of e2⟩, fun k' => ⟨O, ρ, R, PostS.exc_of (r := f ρ) (O := O) q fun d _ q v H1 s k1 a1 => ?_⟩⟩
    split at q
    · rename_i hz
      refine ⟨a, vs, v, rfl, rfl, s _ _ e2, by rw [h1.length]; exact big_lt hz, ?_⟩
      obtain ⟨R2, s2⟩ := (R.same s).write (us := vs ++ [v]) (ds' := ds ++ [d]) hw e e1 h2 h3 ((h1.same s).append (.one a1))
      exact q O σ _ ((Stp.same s).trans s2) R2
    · exact q.elim
  · exact q.elim
def lsD : D → Option (List D) | .list ds => some ds | _ => none
def extS (i : Nat) (f : DE) : DS := fun ρ => match ρ[i]? with
  | some (some (.list ds)) => do let d ← f ρ; match d with
    | .list es => if ds.length + es.length ≤ big then .ok (.nx, ρ.set i (some (.list (ds ++ es)))) else .stuck
    | _ => .stuck
  | _ => .stuck
theorem s_ext (C : SCtx X G L bl) {px apos cpos : Pos} (hi : X.N[i]? = some x) (hx : Vis X.env.scope x) (hd : (x == ("__debug__" : Str)) = false) (hcd : (x == ("__classdict__" : Str)) = false) (hw : G.own i = true) (he : PE X e (tF G f))
    (hst : starEach (e :: []) X.env = (false, eval e X.env) :: starEach [] X.env) (hline : (apos.endLine == cpos.line) = true) :
    PS X (.Expr (.Call (.Attribute (.Name x px) "extend" apos) [e] [] cpos) pos) (tSS G (extS i f)) := by
  refine ps_imp (ps_expr (pe_bm PySem.F.plainAttrs_list PySem.F.slot_list_extend PySem.F.type_list_extend mt_extend (pe_var hi hx hd hcd) (pa_cons he pa_nil hst) rfl (by rw [hst]; rfl) hline hst rfl) rfl) fun Dn σ H kf w => ?_
  have k := C.kf kf
  obtain ⟨O, ρ, R, q⟩ := w k
  unfold extS at q
  split at q
  · rename_i ds e
    obtain ⟨a, ds0, vs, ed, e1, e2, h1, h2, h3⟩ := R.owns i _ e hw
    cases ed
    refine ⟨.ref a, e1, .inl ⟨rfl, vs, .of e2⟩, fun k' => ⟨O, ρ, R, PostS.exc_of (r := f ρ) (O := O) q fun d _ q p' es us H1 ed s k1 n e3 a1 => ?_⟩⟩
    subst ed
    simp only at q
    split at q
    · rename_i hz
      refine ⟨a, p', vs, us, rfl, rfl, s _ _ e2, e3, by rw [h1.length, a1.length]; exact big_line hz, ?_⟩
      obtain ⟨R2, s2⟩ := (R.same s).write (us := vs ++ us) (ds' := ds ++ es) hw e e1 h2 h3 ((h1.same s).append (a1.less fun z hz => .inl hz))
      exact q O σ _ ((Stp.same s).trans s2) R2
    · exact q.elim
  · exact q.elim
abbrev endK (K : W.Frag) (Dn : Ends) : Ends := { nx := fun σ H => KF K H → Dn.nx σ H, rt := fun v H => KF K H → Dn.rt v H, bk := fun σ H => KF K H → Dn.bk σ H, ct := fun σ H => KF K H → Dn.ct σ H }
theorem ps_impK {t t' : TS} (h : PS X st t) (hi : ∀ Dn σ H, KF X.K H → t' Dn σ H → t (endK X.K Dn) σ H) : PS X st t' :=
  ⟨fun pins s σ H Dn I h' => thn (h.run pins s σ H (endK X.K Dn) I (hi Dn σ H (kf_inv I) h')) fun f s1 q => by
    cases f with
    | next => obtain ⟨σ', H', I', q⟩ := q; exact ⟨σ', H', I', q (kf_inv I')⟩
    | brk => obtain ⟨σ', H', I', q⟩ := q; exact ⟨σ', H', I', q (kf_inv I')⟩
    | cont => obtain ⟨σ', H', I', q⟩ := q; exact ⟨σ', H', I', q (kf_inv I')⟩
    | ret u => obtain ⟨v, σ', H', I', r, q⟩ := q; exact ⟨v, σ', H', I', r, q (kf_inv I')⟩⟩
theorem tF_set {w : Bool} (hw : G.own i = w) {Dn : Ends} {σ : L2.St} {H : Hp} (hl : ∀ ρ d, f ρ = .ok d → ∃ ds, d = .list ds) (h : tSS G (asgS [i] (consArg f noArg)) Dn σ H) : tF G f σ H fun v H1 => Dn.nx (σ.set i (some v)) H1 := fun k => by
  obtain ⟨O, ρ, R, q⟩ := h k
  refine ⟨O, ρ, R, ?_⟩
  unfold asgS consArg noArg at q
  cases hf : f ρ with
  | ok d =>
    rw [hf] at q
    intro p ds us H' ed s k' n e a
    subst ed
    have N : New G.K O H H' p ds := ⟨s, n, kf_no k' e, us, e, a⟩
    cases hw' : G.own i with
    | true => exact q (fun a => O a ∨ a = p) _ H' ⟨.of_same s, fun a z => z.imp id fun r => by rw [r]; exact ⟨N.n, N.k⟩⟩ (R.setOwn N hw')
    | false =>
      refine q O _ H' (.same s) ((R.same s).set ⟨p, us, rfl, .of e, fun z => ?_, a.less fun z hz => .inl hz⟩ hw')
      obtain ⟨o, e'⟩ := R.trk p z
      rw [n] at e'; cases e'
  | exc c => rw [hf] at q; exact q
  | stuck => rw [hf] at q; exact q
theorem s_setLc (C : SCtx X G L bl) {scope : Scope} {own : List (Str × Nat)} {py spos : Pos} {elt : Expr} {ifs : List Expr} {fi : DI} {sg : STg} {ft : Ro → Rs Bool} {fe : DE} (hy : X.N[i]? = some y) (hyl : X.env.scope.names.lookup y = some .local)
    (hsw : swapsWith (.ListComp elt [⟨tg, iter, ifs, 0⟩] scope pos) (some (.Name y py)) spos.line X.env = pure true) (hi : PI X tg iter (tIt G true fi)) (ok : BlkOk X.N X.env.scope scope own)
    (hg : ∀ (s : Shared) (H : Hp) (Cc : Addr) (cl : List (Str × Addr)) (fp : List Addr), PG (X.blk s H scope (compEnvC scope cl Cc X.env) fp) tg (tTg G.noE (own.map (·.2)) sg))
    (ht : ∀ (s : Shared) (H : Hp) (Cc : Addr) (cl : List (Str × Addr)) (fp : List Addr), PTs (X.blk s H scope (compEnvC scope cl Cc X.env) fp) ifs (tTst G.noE ft))
    (he : ∀ (s : Shared) (H : Hp) (Cc : Addr) (cl : List (Str × Addr)) (fp : List Addr), PE (X.blk s H scope (compEnvC scope cl Cc X.env) fp) elt (tS G.noE fe))
    (hs : ∀ x, foldedSetIterable iter X.env x = pure x) (hl : ∀ ρ d, compE (own.map (·.2)) fi sg ft fe ρ = .ok d → ∃ ds, d = .list ds) : PS X (.Assign [.Name y py] (.ListComp elt [⟨tg, iter, ifs, 0⟩] scope pos) spos) (tSS G (asgS [i] (consArg (compE (own.map (·.2)) fi sg ft fe) noArg))) :=
  ps_impK (ps_setLc C.calm C.nd hy hyl hsw hi ok hg ht he hs) fun Dn σ H kf w => comp_core C.toCtx (tF_set rfl hl w)
theorem s_setLc2 (C : SCtx X G L bl) {scope : Scope} {own : List (Str × Nat)} {vs1 : List Nat} {py spos : Pos} {elt tg1 iter1 : Expr} {ifs : List Expr} {fi fi1 : DI} {sg sg1 : STg} {ft : Ro → Rs Bool} {fe : DE} (hy : X.N[i]? = some y) (hyl : X.env.scope.names.lookup y = some .local)
    (hsw : swapsWith (.ListComp elt [⟨tg, iter, [], 0⟩, ⟨tg1, iter1, ifs, 0⟩] scope pos) (some (.Name y py)) spos.line X.env = pure true) (hi : PI X tg iter (tIt G true fi)) (ok : BlkOk X.N X.env.scope scope own) (hv : ∀ i ∈ vs1, i ∈ own.map (·.2))
    (hg : ∀ (O0 : Addr → Prop) (s : Shared) (H : Hp) (Cc : Addr) (cl : List (Str × Addr)) (fp : List Addr), PG (X.blk s H scope (compEnvC scope cl Cc X.env) fp) tg (tTg (G.wO O0) (own.map (·.2)) sg))
    (hi1 : ∀ (O0 : Addr → Prop) (s : Shared) (H : Hp) (Cc : Addr) (cl : List (Str × Addr)) (fp : List Addr), PI (X.blk s H scope (compEnvC scope cl Cc X.env) fp) tg1 iter1 (tIt (G.wO O0) false fi1))
    (hg1 : ∀ (O0 : Addr → Prop) (s : Shared) (H : Hp) (Cc : Addr) (cl : List (Str × Addr)) (fp : List Addr), PG (X.blk s H scope (compEnvC scope cl Cc X.env) fp) tg1 (tTg (G.wO O0) vs1 sg1))
    (ht1 : ∀ (O0 : Addr → Prop) (s : Shared) (H : Hp) (Cc : Addr) (cl : List (Str × Addr)) (fp : List Addr), PTs (X.blk s H scope (compEnvC scope cl Cc X.env) fp) ifs (tTst (G.wO O0) ft))
    (he : ∀ (O0 : Addr → Prop) (s : Shared) (H : Hp) (Cc : Addr) (cl : List (Str × Addr)) (fp : List Addr), PE (X.blk s H scope (compEnvC scope cl Cc X.env) fp) elt (tS (G.wO O0) fe))
    (hs : ∀ x, foldedSetIterable iter X.env x = pure x) (hs1 : ∀ env x, foldedSetIterable iter1 env x = pure x) (hl : ∀ ρ d, compE2 (own.map (·.2)) fi sg fi1 sg1 ft fe vs1 ρ = .ok d → ∃ ds, d = .list ds) : PS X (.Assign [.Name y py] (.ListComp elt [⟨tg, iter, [], 0⟩, ⟨tg1, iter1, ifs, 0⟩] scope pos) spos) (tSS G (asgS [i] (consArg (compE2 (own.map (·.2)) fi sg fi1 sg1 ft fe vs1) noArg))) :=
  ps_impK (ps_setLc2 (tt := tYes) C.calm C.nd hy hyl hsw hi ok hv
    (fun s H Cc cl fp => ⟨fun pins s' σ H' v u Q I r ⟨O0, w⟩ => (hg O0 s H Cc cl fp).run pins s' σ H' v u Q I r w⟩) (fun _ _ _ _ _ => pts_nil)
    (fun s H Cc cl fp => ⟨fun pins s' σ H' R I ⟨O0, w⟩ => (hi1 O0 s H Cc cl fp).run pins s' σ H' R I w⟩)
    (fun s H Cc cl fp => ⟨fun pins s' σ H' v u Q I r ⟨O0, w⟩ => (hg1 O0 s H Cc cl fp).run pins s' σ H' v u Q I r w⟩)
    (fun s H Cc cl fp => ⟨fun pins s' σ H' R I ⟨O0, w⟩ => (ht1 O0 s H Cc cl fp).run pins s' σ H' R I w⟩)
    (fun s H Cc cl fp => ⟨fun pins s' σ H' R I ⟨O0, w⟩ => (he O0 s H Cc cl fp).run pins s' σ H' R I w⟩) hs hs1) fun Dn σ H kf w => comp2_core C.toCtx (tF_set rfl hl w)
theorem compE_list {vs : List Nat} {fi : DI} {sg : STg} {ft : Ro → Rs Bool} {fe : DE} : ∀ ρ d, compE vs fi sg ft fe ρ = .ok d → ∃ ds, d = .list ds := fun ρ d h => by
  unfold compE at h
  cases h1 : fi ρ with
  | ok ds =>
    rw [h1] at h
    cases h2 : (compL sg ft fe (wipeR ρ vs) ds).noexc with
    | ok r => rw [Rs.ok_bind, h2] at h; cases h; exact ⟨r, rfl⟩
    | exc c => rw [Rs.ok_bind, h2] at h; cases h
    | stuck => rw [Rs.ok_bind, h2] at h; cases h
  | exc c => rw [h1] at h; cases h
  | stuck => rw [h1] at h; cases h
theorem compE2_list {vs vs1 : List Nat} {fi fi1 : DI} {sg sg1 : STg} {ft : Ro → Rs Bool} {fe : DE} : ∀ ρ d, compE2 vs fi sg fi1 sg1 ft fe vs1 ρ = .ok d → ∃ ds, d = .list ds := fun ρ d h => by
  unfold compE2 at h
  cases h1 : fi ρ with
  | ok ds =>
    rw [h1] at h
    cases h2 : (compL2 sg fi1 sg1 ft fe vs1 (wipeR ρ vs) ds).noexc with
    | ok r =>
      rw [Rs.ok_bind, h2, Rs.ok_bind] at h
      split at h
      · cases h; exact ⟨r, rfl⟩
      · cases h
    | exc c => rw [Rs.ok_bind, h2] at h; cases h
    | stuck => rw [Rs.ok_bind, h2] at h; cases h
  | exc c => rw [h1] at h; cases h
  | stuck => rw [h1] at h; cases h
def bkS : DS := fun ρ => .ok (.bk, ρ)
def ctS : DS := fun ρ => .ok (.ct, ρ)
theorem s_break (C : Ctx X G L bl) : PS X (.Break pos) (tSS G bkS) := by
  refine ps_imp ps_break fun Dn σ H kf w => ?_
  obtain ⟨O, ρ, R, q⟩ := w (C.kf kf)
  exact q O σ H (.same (Same.refl _)) R
theorem s_cont (C : Ctx X G L bl) : PS X (.Continue pos) (tSS G ctS) := by
  refine ps_imp ps_continue fun Dn σ H kf w => ?_
  obtain ⟨O, ρ, R, q⟩ := w (C.kf kf)
  exact q O σ H (.same (Same.refl _)) R
theorem s_pass (C : Ctx X G L bl) : PS X (.Pass pos) (tSS G nxS) := by
  refine ps_imp ps_pass fun Dn σ H kf w => ?_
  obtain ⟨O, ρ, R, q⟩ := w (C.kf kf)
  exact q O σ H (.same (Same.refl _)) R
def forL (stg : STg) (b : DS) : List D → DS
  | [], ρ => .ok (.nx, ρ)
  | d :: ds, ρ => do
    let ρ1 ← (stg d ρ).noexc
    let r ← b ρ1
    match r with
    | (.nx, ρ2) => forL stg b ds ρ2
    | (.ct, ρ2) => forL stg b ds ρ2
    | (.bk, ρ2) => .ok (.nx, ρ2)
    | (.rt d, ρ2) => .ok (.rt d, ρ2)
def forS (fi : DI) (stg : STg) (b : DS) : DS := fun ρ => do let ds ← fi ρ; forL stg b ds ρ
theorem s_for (C : SCtx X G L bl) {fi : DI} {stg : STg} {vs : List Nat} (hi : PI X tg iter (tIt G false fi)) (hg : PG X tg (tTg G vs stg)) (hb : PSs X A (tSS G F)) (hs : ∀ x, foldedSetIterable iter X.env x = pure x) : PS X (.For tg iter A [] pos) (tSS G (forS fi stg F)) := by
  refine ps_imp (ps_for C.po C.calm hi hg hb hs) fun Dn σ H kf w => fun k => ?_
  obtain ⟨O, ρ, R, q⟩ := w k
  refine ⟨O, ρ, R, PostS.exc_of (r := fi ρ) (O := O) q fun ds _ q J H1 s1 k1 wk => ?_⟩
  have R1 := R.same s1
  have q1 : PostS G O H1 (forL stg F ds ρ) Dn := PostS.step q (.same s1)
  generalize hr : forL stg F ds ρ = r at q1
  refine ⟨fun i m σ' H' => m = ds.length - i ∧ i ≤ ds.length ∧ ∃ O' ρ', Stp G.K O H1 O' H' ∧ Rep G O' σ' H' ρ' ∧ forL stg F (ds.drop i) ρ' = r, ⟨ds.length, by simp, Nat.zero_le _, O, ρ, .same (Same.refl _), R1, by simpa using hr⟩, ?_⟩
  rintro i m σ' H' ⟨rfl, hil, O', ρ', s', R', e'⟩
  by_cases hlt : i < ds.length
  · have hd : ds[i]? = some ds[i] := List.getElem?_eq_getElem hlt
    obtain ⟨go, yy⟩ := wk.go i ds[i] H' hd s'.1
    refine .inr ⟨go, fun σ3 H3 => ∃ O3 ρ3, Stp G.K O H1 O3 H3 ∧ Rep G O3 σ3 H3 ρ3 ∧ forL stg F (ds.drop (i + 1)) ρ3 = r, fun σ3 H3 ⟨O3, ρ3, a1, a2, a3⟩ => ⟨ds.length - (i + 1), by omega, rfl, hlt, O3, ρ3, a1, a2, a3⟩, fun x H2 hy => fun k2 => ?_⟩
    obtain ⟨s2, a2⟩ := yy x H2 hy
    have a3 := a2 O' s'.2 R'.trk
    rw [List.drop_eq_getElem_cons hlt] at e'
    have e2 : ((stg ds[i] ρ').noexc >>= fun ρ1 => F ρ1 >>= fun r => match r with
      | (.nx, ρ2) => forL stg F (ds.drop (i + 1)) ρ2
      | (.ct, ρ2) => forL stg F (ds.drop (i + 1)) ρ2
      | (.bk, ρ2) => .ok (.nx, ρ2)
      | (.rt d, ρ2) => .ok (.rt d, ρ2)) = r := e'
    cases hst : stg ds[i] ρ' with
    | exc c => rw [hst] at e2; rw [← e2] at q1; exact q1.elim
    | stuck => rw [hst] at e2; rw [← e2] at q1; exact q1.elim
    | ok ρ1 =>
      rw [hst] at e2
      have e3 : (F ρ1 >>= fun r => match r with
        | (.nx, ρ2) => forL stg F (ds.drop (i + 1)) ρ2
        | (.ct, ρ2) => forL stg F (ds.drop (i + 1)) ρ2
        | (.bk, ρ2) => .ok (.nx, ρ2)
        | (.rt d, ρ2) => .ok (.rt d, ρ2)) = r := e2
      refine ⟨O', ρ', ds[i], ρ1, R'.same s2, a3, hst, fun σ4 R4 _ => fun k4 => ⟨O', ρ1, R4, ?_⟩⟩
      have s12 : Stp G.K O H1 O' H2 := s'.trans (.same s2)
      cases hF : F ρ1 with
      | exc c => rw [hF] at e3; rw [← e3] at q1; exact q1
      | stuck => rw [hF] at e3; rw [← e3] at q1; exact q1.elim
      | ok rr =>
        rw [hF] at e3
        obtain ⟨fl, ρ2⟩ := rr
        cases fl with
        | nx => exact fun O5 σ5 H5 s5 R5 => ⟨O5, ρ2, s12.trans s5, R5, e3⟩
        | ct => exact fun O5 σ5 H5 s5 R5 => ⟨O5, ρ2, s12.trans s5, R5, e3⟩
        | bk => rw [← e3] at q1; exact fun O5 σ5 H5 s5 R5 => q1 O5 σ5 H5 (s12.trans s5) R5
        | rt d => rw [← e3] at q1; exact q1
  · have e : i = ds.length := by omega
    subst e
    refine .inl ⟨wk.stop H' s'.1, ?_⟩
    rw [List.drop_length] at e'
    rw [← e'] at q1
    exact q1 O' σ' H' s' R'
def whlL (t : DE) (b : DS) : Nat → DS
  | 0, _ => .stuck
  | n + 1, ρ => do
    let c ← tstE t ρ
    if c then (do
      let r ← b ρ
      match r with
      | (.nx, ρ2) => whlL t b n ρ2
      | (.ct, ρ2) => whlL t b n ρ2
      | (.bk, ρ2) => .ok (.nx, ρ2)
      | (.rt d, ρ2) => .ok (.rt d, ρ2)) else .ok (.nx, ρ)
theorem s_while (C : SCtx X G L bl) {t : DE} (n : Nat) (hc : PT X c (tTst G (tstE t))) (hb : PSs X A (tSS G F)) : PS X (.While c A [] pos) (tSS G (whlL t F n)) := by
  refine ps_imp (ps_while C.po hc hb) fun Dn σ H kf w => ?_
  obtain ⟨O, ρ, R, q1⟩ := w (C.kf kf)
  generalize hr : whlL t F n ρ = r at q1
  refine ⟨fun m σ' H' => ∃ O' ρ', Stp G.K O H O' H' ∧ Rep G O' σ' H' ρ' ∧ whlL t F m ρ' = r, ⟨n, O, ρ, .same (Same.refl _), R, hr⟩, ?_⟩
  rintro m σ' H' ⟨O', ρ', s', R', e'⟩
  cases m with
  | zero =>
    have e2 : (Rs.stuck : Rs (Fl × Ro)) = r := e'
    rw [← e2] at q1; exact q1.elim
  | succ m =>
    have e2 : (tstE t ρ' >>= fun c => if c = true then (F ρ' >>= fun r => match r with
      | (.nx, ρ2) => whlL t F m ρ2
      | (.ct, ρ2) => whlL t F m ρ2
      | (.bk, ρ2) => .ok (.nx, ρ2)
      | (.rt d, ρ2) => .ok (.rt d, ρ2)) else Rs.ok (.nx, ρ')) = r := e'
    refine fun k => ⟨O', ρ', R', ?_⟩
    cases ht : tstE t ρ' with
    | exc cc => rw [ht] at e2; rw [← e2] at q1; exact q1
    | stuck => rw [ht] at e2; rw [← e2] at q1; exact q1.elim
    | ok b =>
      rw [ht] at e2
      intro H2 s2 k2
      have s12 : Stp G.K O H O' H2 := s'.trans (.same s2)
      cases b with
      | false =>
        have e3 : Rs.ok (Fl.nx, ρ') = r := e2
        rw [← e3] at q1
        exact (if_neg Bool.false_ne_true).mpr (q1 O' σ' H2 s12 (R'.same s2))
      | true =>
        refine (if_pos rfl).mpr ⟨fun σ3 H3 => ∃ O3 ρ3, Stp G.K O H O3 H3 ∧ Rep G O3 σ3 H3 ρ3 ∧ whlL t F m ρ3 = r, fun σ3 H3 z => ⟨m, Nat.lt_succ_self m, z⟩, fun k3 => ⟨O', ρ', R'.same s2, ?_⟩⟩
        have e3 : (F ρ' >>= fun r => match r with
          | (.nx, ρ2) => whlL t F m ρ2
          | (.ct, ρ2) => whlL t F m ρ2
          | (.bk, ρ2) => .ok (.nx, ρ2)
          | (.rt d, ρ2) => .ok (.rt d, ρ2)) = r := e2
        cases hF : F ρ' with
        | exc c => rw [hF] at e3; rw [← e3] at q1; exact q1
        | stuck => rw [hF] at e3; rw [← e3] at q1; exact q1.elim
        | ok rr =>
          rw [hF] at e3
          obtain ⟨fl, ρ2⟩ := rr
          cases fl with
          | nx => exact fun O5 σ5 H5 s5 R5 => ⟨O5, ρ2, s12.trans s5, R5, e3⟩
          | ct => exact fun O5 σ5 H5 s5 R5 => ⟨O5, ρ2, s12.trans s5, R5, e3⟩
          | bk => rw [← e3] at q1; exact fun O5 σ5 H5 s5 R5 => q1 O5 σ5 H5 (s12.trans s5) R5
          | rt d => rw [← e3] at q1; exact q1
structure ExC (X : Cx) (cl : Nat → Value) (c : Nat) (x : Str) : Prop where
  ex : ∃ C, cl c = .ref C ∧ W.excIn X.K C [.type "ValueError", .type "Exception", .type "BaseException", .type "object"] "ValueError.__new__" = true ∧ X.mg x = some (.ref C) ∧ W.keepIn X.K (.ref C) = true ∧ Raises X (.ref C)
def rsS (c : Nat) : DS := fun _ => .exc c
theorem s_raise (C : SCtx X G L bl) {cc : Nat} {m : Str} {jk : Nat} {p2 : Pos} (tk : Takes X (fun cls d _ H => G.E cls d H)) (E : ExC X G.cl cc x) (hg : Gl X x) (hdb : (x == ("__debug__" : Str)) = false) : PS X (.Raise (some (.Call (.Name x p) [.Constant (.str m) jk p2] [] pos)) none pos') (tSS G (rsS cc)) := by
  obtain ⟨Cc, e1, e2, e3, e4, e5⟩ := E.ex
  refine ps_imp (ps_raise C.calm tk (pmk_own PySem.F.excBase_ValueError e2 e3 e4 e5 hg hdb)) fun Dn σ H kf w => ?_
  obtain ⟨O, ρ, R, q1⟩ := w (C.kf kf)
  have q := q1 H R.base
  rw [e1] at q
  exact q
end
end Den
namespace Den
open PySem PySem.Spec PyProof.Rows L2
def namesE : List (Nat × Str × Pos) → List Expr
  | [] => []
  | (_, x, p) :: r => .Name x p :: namesE r
section
variable {X : Cx} {G : Gc} {L : Nat} {bl : List Str} {a b c e : Expr} {es : List Expr} {f g : DE} {gs : Ro → Rs (List D)} {pos p1 p2 : Pos} {ft : Nat → List D → Rs D} {n : Nat}
theorem atI_nat {vs : List Addr} {k : Nat} {f : Addr} (h : vs[k]? = some f) : atI (vs.map V.ref) (k : Int) = some (.ref f) := by
  have hlt : k < vs.length := by rw [List.getElem?_eq_some_iff] at h; exact h.1
  unfold atI ixN
  rw [if_pos (by omega)]
  have := (List.getElem?_eq_some_iff.mp h).2
  simp [hlt, this]
theorem fn_refs {cl : Nat → Value} : ∀ (js : List (Nat × Str × Pos)), (∀ p ∈ js, FnD X cl L p.2.1 n (ft p.1) ∧ Gl X p.2.1 ∧ (p.2.1 == ("__debug__" : Str)) = false) →
    ∃ fs : List Addr, fs.length = js.length ∧ PA X (namesE js) (fun σ H Q => Q (fs.map V.ref) H) ∧
      ∀ (k : Nat) (p : Nat × Str × Pos), js[k]? = some p → ∃ f fd ps, fs[k]? = some f ∧ FnOk X.prog X.w X.K X.mg X.base (L2.CX X.prog X.w) L f fd ps (spD X.K cl n (ft p.1)) ∧ ps.length = n ∧ W.keepIn X.K (.ref f) = true ∧ Binds X.K fd ps []
  | [], _ => ⟨[], rfl, pa_nil, fun k p e => by simp at e⟩
  | (i, x, p) :: r, h => by
    obtain ⟨fs, h1, h2, h3⟩ := fn_refs r fun p hp => h p (List.mem_cons_of_mem _ hp)
    obtain ⟨⟨f, fd, ps, g1, g2, g3, g4, g5⟩, h5, h6⟩ := h _ List.mem_cons_self
    refine ⟨f :: fs, by simp [h1], pa_imp (pa_cons (pe_glob h5 g3 (v := .ref f) rfl h6) h2 rfl) fun σ H Q kf w => fun _ => w, fun k q e => ?_⟩
    cases k with
    | zero =>
      simp at e; subst e
      exact ⟨f, fd, ps, rfl, g1, g2, g4, g5⟩
    | succ k => exact h3 k q (by simpa using e)
theorem pe_callC {fe : Expr} {tf : TE} {t : TA} (hf : PE X fe tf) (ha : PA X (e :: es) t) (hr : Room L X.A) (hx : Passes (L2.CX X.prog X.w) X G.E)
    (hev : eval (.Call fe (e :: es) [] pos) X.env = (do callWith pos (← eval fe X.env) [] (backTo pos (starEach (e :: es) X.env)) (backToKw pos (keywordEach [] X.env))))
    (he : starEach (e :: es) X.env = (false, eval e X.env) :: starEach es X.env) (hpl : (backTo pos (starEach es X.env)).any (·.1) = false) :
    PE X (.Call fe (e :: es) [] pos) (fun σ H Q => tf σ H fun v H1 => ∃ f fd ps sp, v = .ref f ∧ FnOk X.prog X.w X.K X.mg X.base (L2.CX X.prog X.w) L f fd ps sp ∧ W.keepIn X.K (.ref f) = true ∧ Binds X.K fd ps [] ∧ t σ H1 fun vs H2 => sp (vs ++ []) H2 Q G.E) := by
  refine ⟨fun pins s σ H Q I h => ?_⟩
  rw [hev]
  refine wpAny_bind (thn (hf.run pins s σ H _ I h) fun u s1 ⟨x, H1, I1, rx, f, fd, ps, sp, ex, F, hk, hb, q⟩ => ?_)
  subst ex
  obtain rfl : u = Value.ref f := rx
  refine PySem.W.callWith_K (h₀ := X.base) I1.ok.mod.kin hk (thn (ha.run pos pins s1 σ H1 _ I1 q) fun us s2 ⟨vs, H2, I2, r, q2⟩ => ⟨I2.kIn, ?_⟩) he hpl
  exact run_fn F hr hb .nil hx I2 r q2
def ccD (n : Nat) (ft : Nat → List D → Rs D) (js : List Nat) (g : DE) (gs : Ro → Rs (List D)) : DE := fun ρ => do
  let d ← g ρ
  let i ← intD d
  match (if 0 ≤ i then js[i.toNat]? else none) with
  | some j => do let ds ← gs ρ; ft j ds
  | none => .stuck
theorem d_ccall (C : Ctx X G L bl) {js : List (Nat × Str × Pos)} (hj : ∀ p ∈ js, FnD X G.cl L p.2.1 n (ft p.1) ∧ Gl X p.2.1 ∧ (p.2.1 == ("__debug__" : Str)) = false) (hjl : js.length ≤ 100) (hi : PE X b (tW G g)) (hpx : PlainIx b)
    (hn : (e :: es).length = n) (ha : PA X (e :: es) (tArg G gs)) (hl : ∀ ρ ds, gs ρ = .ok ds → ds.length = n)
    (he : starEach (e :: es) X.env = (false, eval e X.env) :: starEach es X.env) (hpl : (backTo pos (starEach es X.env)).any (·.1) = false) :
    PE X (.Call (.Subscript (.List (namesE js) p1) b p2) (e :: es) [] pos) (tS G (ccD n ft (js.map (·.1)) g gs)) := by
  obtain ⟨fs, h1, h2, h3⟩ := fn_refs js hj
  refine pe_imp (pe_callC (G := G) (L := L) (pe_ix ix_list (pe_lst h2) hi hpx) ha C.room C.pass rfl he hpl) fun σ H Q kf w => ?_
  obtain ⟨O, ρ, R, q⟩ := w (C.kf kf)
  refine ⟨by rw [List.length_map, h1, sizeLine_eq]; omega, fun p hp => fun k1 => ?_⟩
  have s1 : Same H (upd H p (.lst (fs.map V.ref))) := same_upd hp
  refine ⟨O, ρ, R.same s1, (q.bind).imp fun d _ q v H1 s2 k2 a1 => ?_⟩
  cases d with
  | int i =>
    cases a1
    have q1 : Post G H (match (if 0 ≤ i then (js.map (·.1))[i.toNat]? else none) with
      | some j => (do let ds ← gs ρ; ft j ds)
      | none => .stuck) _ := q
    split at q1
    · rename_i j hj'
      split at hj'
      · rename_i h0
        rw [List.getElem?_map] at hj'
        cases hp' : js[i.toNat]? with
        | none => rw [hp'] at hj'; cases hj'
        | some pj =>
          rw [hp'] at hj'
          cases hj'
          obtain ⟨f, fd, ps, e1, F, e2, e3, e4⟩ := h3 _ _ hp'
          have hlt : i.toNat < fs.length := by rw [List.getElem?_eq_some_iff] at e1; exact e1.1
          refine ⟨p, fs.map V.ref, i, .ref f, rfl, rfl, .of (s2 _ _ upd_same), ?_, f, fd, ps, _, rfl, F, e3, e4, fun k3 => ?_⟩
          · have : i = ((i.toNat : Nat) : Int) := by omega
            rw [this]
            exact atI_nat e1
          · refine ⟨O, ρ, (R.same s1).same s2, q1.bind.imp fun ds e q vs H3 s3 k3 a3 => ?_⟩
            show spD X.K G.cl n (ft pj.1) (vs ++ []) H3 _ G.E
            rw [List.append_nil]
            have S3 := (s1.trans s2).trans s3
            refine ⟨by rw [a3.length]; exact hl ρ ds e, ds, O, fun a h => (R.same S3).trk a h, C.K ▸ a3, ?_⟩
            cases hF : ft pj.1 ds with
            | ok d => rw [hF] at q; exact fun v H' s4 k4 a4 => fun _ => q v H' (S3.trans s4) (C.K ▸ k4) (C.K ▸ a4)
            | exc c => rw [hF] at q; exact fun H' s4 => q H' ((R.base.trans S3).trans s4)
            | stuck => rw [hF] at q; exact q.elim
      · cases hj'
    · exact q1.elim
  | _ => exact q.elim
def repL (ds : List D) (k : Int) : Rs D := if 0 ≤ k ∧ k ≤ 1000 then .ok (.list (List.replicate k.toNat ds).flatten) else .stuck
theorem atL_rep {K : W.Frag} {H : Hp} {O : Addr → Prop} {ds : List D} {vs : List V} (h : AtL K H O ds vs) : ∀ n : Nat, AtL K H O (List.replicate n ds).flatten (List.replicate n vs).flatten
  | 0 => rfl
  | n + 1 => by
    rw [List.replicate_succ, List.replicate_succ, List.flatten_cons, List.flatten_cons]
    exact h.append (atL_rep h n)
section
variable {X : Cx} {G : Gc} {L : Nat} {bl : List Str} {b : Expr} {es : List Expr} {g : DE} {fs : Ro → Rs (List D)} {pos p1 : Pos}
theorem f_rep (C : Ctx X G L bl) (ha : PA X es (tArg G fs)) (hl : ∀ ρ ds, fs ρ = .ok ds → ds.length ≤ 1000) (hb : PE X b (tW G g)) : PE X (.BinOp (.List es p1) .Mult b pos) (tF G fun ρ => do let ds ← fs ρ; let d ← g ρ; let k ← intD d; repL ds k) := by
  refine pe_imp (pe_op op_rep (pe_lst ha) hb) fun σ H Q kf w => fun k0 => ?_
  obtain ⟨O, ρ, R, q⟩ := w k0
  refine ⟨O, ρ, R, q.bind.imp fun ds e q vs H1 s1 k1 a1 => ?_⟩
  have hz := hl ρ ds e
  refine ⟨by rw [a1.length, sizeLine_eq]; omega, fun p hp => fun k2 => ?_⟩
  have s2 : Same H1 (upd H1 p (.lst vs)) := same_upd hp
  refine ⟨O, ρ, (R.same s1).same s2, q.bind.imp fun d _ q y H3 s3 k3 a3 => ?_⟩
  cases d with
  | int i =>
    cases a3
    have q1 : Post G H (if 0 ≤ i ∧ i ≤ 1000 then Rs.ok (PyData.list (List.replicate i.toNat ds).flatten) else Rs.stuck) _ := q
    split at q1
    · rename_i hi
      refine ⟨p, i, vs, rfl, rfl, s3 _ _ upd_same, by omega, by omega, ?_, fun r hr => fun k4 => ?_⟩
      · rw [a1.length, sizeLine_eq]
        have := Nat.mul_le_mul hz (show i.toNat ≤ 1000 by omega)
        omega
      · have S3 := (s1.trans s2).trans s3
        have al : AtL G.K H3 O (List.replicate i.toNat ds).flatten (List.replicate i.toNat vs).flatten := atL_rep (a1.same (s2.trans s3)) _
        exact q1 r _ _ _ rfl (S3.trans (same_upd hr)) (C.kf k4) (S3.free hr) upd_same ((al.grow hr (kf_no (C.kf k4) upd_same)).same (same_upd hr))
    · exact q1.elim
  | _ => exact q.elim
theorem repL_list {ds : List D} {k : Int} {d : D} (h : repL ds k = .ok d) : ∃ ds, d = .list ds := by
  unfold repL at h
  split at h
  · cases h; exact ⟨_, rfl⟩
  · cases h
end
structure TryM (K : W.Frag) (mg : Str → Option Value) (cl : Nat → Value) (ex : List Str) : Prop where
  pe : ∃ C0, mg "PanelError" = some (.ref C0) ∧ ∀ c x, ex[c]? = some x → ∃ Cc, cl c = .ref Cc ∧ W.exmOne K (.ref Cc) (.ref C0) = some true ∧ ExcC K Cc ∧
    ∀ j y, ex[j]? = some y → ∃ Cj, cl j = .ref Cj ∧ mg y = some (.ref Cj) ∧ W.kitOne K (.ref Cc) (.ref Cj) = some (c == j)
abbrev Isp := Pos × Pos × Pos × Pos
def issE (n : Str) : List (Str × Isp) → List Expr
  | [] => []
  | (x, p1, p2, p3, p4) :: r => .Call (.Name "isinstance" p1) [.Name n p2, .Name x p3] [] p4 :: issE n r
theorem iss_star (n : Str) (env : Env) : ∀ r : List (Str × Isp), starEach (issE n r) env = (issE n r).map fun e => (false, eval e env)
  | [] => rfl
  | (x, p1, p2, p3, p4) :: r => by
    show (false, _) :: starEach (issE n r) env = _
    rw [iss_star n env r]
    rfl
theorem pa_iss {Y : Cx} {a Cc : Addr} {i c : Nat} {n : Str} (hr : CallR Y (.builtin "isinstance") (rIsE Y.K Cc a)) (hi : Y.N[i]? = some n) (hv : Vis Y.env.scope n) (hd : (n == ("__debug__" : Str)) = false) (hcd : (n == ("__classdict__" : Str)) = false) (hg : Gl Y "isinstance") (hm : Y.mg "isinstance" = none) :
    ∀ (xs : List (Str × Isp)) (k : Nat), (∀ j x, (xs[j]?).map (·.1) = some x → ∃ Cj, Y.mg x = some (.ref Cj) ∧ W.kitOne Y.K (.ref Cc) (.ref Cj) = some (c == k + j) ∧ Gl Y x ∧ (x == ("__debug__" : Str)) = false) →
      PA Y (issE n xs) (fun σ H Q => σ[i]? = some (some (.ref a)) ∧ Q ((List.range' k xs.length).map fun j => V.bl (c == j)) H)
  | [], k, h => pa_imp pa_nil fun σ H Q kf w => fun _ => w.2
  | (x, p1, p2, p3, p4) :: r, k, h => by
    obtain ⟨Cj, h1, h2, h3, h4⟩ := h 0 x rfl
    have ih := pa_iss hr hi hv hd hcd hg hm r (k + 1) fun j y e => by
      obtain ⟨Cj, h1, h2, h3⟩ := h (j + 1) y (by simpa using e)
      exact ⟨Cj, h1, by rw [h2]; congr 2; omega, h3⟩
    have hc : PE Y (.Name x p3) (tC (.ref Cj)) := pe_glob h3 h1 rfl h4
    refine pa_imp (pa_cons (pe_callB hr hg hm (by decide +kernel) (pa_cons (pe_var hi hv hd hcd) (pa_cons hc pa_nil rfl) rfl) (by decide +kernel) (by decide +kernel) rfl rfl) ih rfl) fun σ H Q kf w => ?_
    refine ⟨.ref a, w.1, .ref Cj, .ref Cj, c == k, rfl, fun u r => r, by simpa using h2, w.1, ?_⟩
    intro _
    have := w.2
    rw [List.length_cons, List.range'_succ, List.map_cons] at this
    exact this
theorem pss_impK {X : Cx} {ss : List Stmt} {t t' : TS} (h : PSs X ss t) (hi : ∀ Dn σ H, KF X.K H → t' Dn σ H → t (endK X.K Dn) σ H) : PSs X ss t' :=
  ⟨fun pins s σ H Dn I h' => thn (h.run pins s σ H (endK X.K Dn) I (hi Dn σ H (kf_inv I) h')) fun f s1 q => by
    cases f with
    | next => obtain ⟨σ', H', I', q⟩ := q; exact ⟨σ', H', I', q (kf_inv I')⟩
    | brk => obtain ⟨σ', H', I', q⟩ := q; exact ⟨σ', H', I', q (kf_inv I')⟩
    | cont => obtain ⟨σ', H', I', q⟩ := q; exact ⟨σ', H', I', q (kf_inv I')⟩
    | ret u => obtain ⟨v, σ', H', I', r, q⟩ := q; exact ⟨v, σ', H', I', r, q (kf_inv I')⟩⟩
def tryD (m : Nat) (f : DS) : DS := fun ρ => match f ρ with
  | .exc c => if c < m then .ok (.rt (.int (c : Nat)), ρ) else .stuck
  | r => r
theorem s_tryI {X : Cx} {G : Gc} {L : Nat} {bl : List Str} {A : List Stmt} {F : DS} {i : Nat} {n : Str} {ex : List Str} {xs : List (Str × Isp)} {lp ap cp2 cp rp hpos np pos : Pos} {jk : Nat} (C : SCtx X G L bl) (hs : X.stack = X.env :: X.outer) (hf : X.env.frame = some X.env.locals) (hi : X.N[i]? = some n) (hln : X.env.scope.names.lookup n = some .local)
    (hd : (n == ("__debug__" : Str)) = false) (hcd : (n == ("__classdict__" : Str)) = false) (hg : Gl X "isinstance") (hm : ("isinstance" : Str) ∈ bl) (hgp : Gl X "PanelError") (T : TryM X.K X.mg G.cl ex) (hex : xs.map (·.1) = ex) (hxs : ∀ x ∈ ex, Gl X x ∧ (x == ("__debug__" : Str)) = false) (hlen : xs.length ≤ 100) (hline : (ap.endLine == cp.line) = true)
    (tk : Takes X (fun cls d _ H => G.E cls d H))
    (hb : ∀ (E : XK) (pn : List (Addr × Obj)) (xe : Value → Shared → Prop), Takes (X.tr pn xe) (fun cls d _ H => E cls d H) → PassesOwn (model X.prog X.w) X.A X.env xe → PSs (X.tr pn xe) A (tSS { G with E := E } F)) :
    PS X (.Try A [.ExceptHandler (some (.Name "PanelError" np)) (some n) [.Return (some (.Call (.Attribute (.List (issE n xs) lp) "index" ap) [.Constant (.bool true) jk cp2] [] cp)) rp] hpos] [] [] pos) (tSS G (tryD ex.length F)) := by
  obtain ⟨C0, g0, hC⟩ := T.pe
  have hnm : Names X "PanelError" (.ref C0) := ⟨hgp, by decide +kernel, .inl g0⟩
  let ts : Addr → Value → Option Addr → TS := fun a cls d D σ H => ∃ c x, ex[c]? = some x ∧ cls = G.cl c ∧ d = none ∧ σ[i]? = some (some (.ref a)) ∧ ∀ H', Same H H' → KF X.K H' → D.rt (.int (c : Nat)) H'
  refine ps_imp (ps_try_as (ts := ts) (Wout := fun cls d _ H => G.E cls d H) (tb := fun W D σ H => tSS { G with E := fun cls d H => ∀ σ : L2.St, σ.length = X.N.length → W cls d σ H } F D σ H) hs hf C.nd hi hln hnm tk (fun W pn xe tkW po => ?_) (fun a oe cls d pn hz hfd => ?_)) fun D σ H kf w => ?_
  · refine hb _ pn xe ?_ po
    intro u s' ⟨a, B, sI, pins, σ, H, cls, d, e, I, nb, up, sky, na, os, ag, q⟩
    exact tkW u s' ⟨a, B, sI, pins, σ, H, cls, d, e, I, nb, up, sky, na, os, ag, q σ I.len⟩
  · refine ⟨fun pins s σ H D I ⟨c, x, h1, h2, h3, h4, h5⟩ => ?_⟩
    have hcon : ∀ hP : PSs (X.suite a ((a, oe) :: pn)) [.Return (some (.Call (.Attribute (.List (issE n xs) lp) "index" ap) [.Constant (.bool true) jk cp2] [] cp)) rp] (fun D σ H => σ[i]? = some (some (.ref a)) ∧ ∀ H', Same H H' → KF X.K H' → D.rt (.int (c : Nat)) H'), _ := fun hP => hP.run pins s σ H D I ⟨h4, h5⟩
    refine hcon ?_
    obtain ⟨Cc, e1, e2, e3, e4⟩ := hC c x h1
    rw [e1] at h2
    subst h2 h3
    have hr := call_isE (pn := pn) (X := X) (a := a) e3 hz hfd
    have hpa := pa_iss (Y := X.suite a ((a, oe) :: pn)) (i := i) (c := c) (n := n) hr hi (.inl hln) hd hcd hg (C.blt _ hm) xs 0 fun j y e => by
      have ey : ex[j]? = some y := by rw [← hex, List.getElem?_map]; exact e
      obtain ⟨Cj, j1, j2, j3⟩ := e4 j y ey
      obtain ⟨j4, j5⟩ := hxs y (List.mem_of_getElem? ey)
      exact ⟨Cj, j2, by rw [Nat.zero_add]; exact j3, j4, j5⟩
    have hcl : c < xs.length := by
      have : c < ex.length := by rw [List.getElem?_eq_some_iff] at h1; exact h1.1
      rw [← hex] at this; simpa using this
    refine pss_impK (X := X.suite a ((a, oe) :: pn)) (pss_one (ps_ret (pe_bm PySem.F.plainAttrs_list PySem.F.slot_list_index PySem.F.type_list_index mt_index (pe_lst hpa) (pa_cons pe_bl pa_nil rfl) rfl rfl hline rfl rfl))) fun D σ H kf ⟨h4, h5⟩ => ?_
    refine ⟨h4, by rw [List.length_map, List.length_range', sizeLine_eq]; omega, fun p hp' => ⟨.inl ⟨rfl, _, .of upd_same⟩, ?_⟩⟩
    refine ⟨p, _, .bl true, c, .bl true, rfl, rfl, .of upd_same, rfl, ?_, ?_, rfl, fun m z' hm' hz' => ?_, ?_⟩
    · rw [List.all_map]; exact List.all_eq_true.mpr fun _ _ => rfl
    · rw [List.getElem?_map, List.getElem?_range' (by omega)]; simp
    · rw [List.getElem?_map, List.getElem?_range' (by omega)] at hz'
      have : z' = .bl false := by
        have e : (c == 0 + m) = false := by simp; omega
        simp at hz'
        rw [← hz']
        congr 1
        simp; omega
      rw [this]; rfl
    · exact fun k => h5 _ (same_upd hp') k
  · intro k
    obtain ⟨O, ρ, R, q⟩ := w (C.kf kf)
    refine ⟨O, ρ, ⟨R.base, R.sub, R.trk, R.fre, R.len, R.slot, R.owns, R.dist⟩, ?_⟩
    unfold tryD at q
    cases hF : F ρ with
    | ok r =>
      rw [hF] at q
      obtain ⟨fl, ρ'⟩ := r
      cases fl with
      | nx => exact fun O' σ' H' s R' => q O' σ' H' s ⟨R'.base, R'.sub, R'.trk, R'.fre, R'.len, R'.slot, R'.owns, R'.dist⟩
      | rt d => exact q
      | bk => exact fun O' σ' H' s R' => q O' σ' H' s ⟨R'.base, R'.sub, R'.trk, R'.fre, R'.len, R'.slot, R'.owns, R'.dist⟩
      | ct => exact fun O' σ' H' s R' => q O' σ' H' s ⟨R'.base, R'.sub, R'.trk, R'.fre, R'.len, R'.slot, R'.owns, R'.dist⟩
    | exc c =>
      rw [hF] at q
      dsimp only at q
      split at q
      · rename_i hc
        intro H' s σ hσ
        obtain ⟨Cc, e1, e2, e3, e4⟩ := hC c _ (List.getElem?_eq_getElem hc)
        refine ⟨true, by rw [e1]; exact e2, fun _ a ha => ⟨c, _, List.getElem?_eq_getElem hc, rfl, rfl, ?_, ?_⟩, fun z => by cases z⟩
        · rw [List.getElem?_set_self (by rw [hσ]; rw [List.getElem?_eq_some_iff] at hi; exact hi.1)]
        · exact fun H2 s2 k2 => q _ _ (s.trans s2) (C.kf k2) rfl
      · exact q.elim
    | stuck => rw [hF] at q; exact q.elim
end
end Den
namespace Den
open PySem PySem.Spec PyProof.Rows L2
abbrev set0 (w : World) : Obj := { cls := .type "set", dict := none, data := .set #[] 0 (.fresh 0 0 (!w.params.followText "set-order")) }
section
variable {P : Program} {w : World} {A : Around} {E : Value → Shared → Prop} {s : Shared}
theorem set_ofList {l : Addr} {items : Array Value} (ns : List Int) {Q : Value → Shared → Prop} (hh : A.handled = none) (hl : s.heap.IsList l items) (hit : IntsAre items.toList ns) (hb : ns.length + 1 < scanBound)
    (h : ∀ (g : Heap) (tk c : Nat), SetR w g s.heap.objs.size (fun j => decide (j ∈ ns)) c → c ≤ ns.length → (∀ b o, s.heap.get? b = some o → g.get? b = some o) → Q (.ref s.heap.objs.size) { s with heap := g, toks := tk }) :
    wpAny (model P w) A (call (.type "set") [.ref l]) Q E s := by
  have size_eq : items.size = ns.length := by
    rw [← Array.length_toList]
    exact IntsAre.length hit
  obtain ⟨cc, tt, mro_eq⟩ := F.called_set.mro
  have made := F.called_set.made
  have subs := F.called_set.sub
  refine wpAny_call (codeAny_of_tree ?_)
  show wpAny _ _ (callAny (.type "set") _) _ _ _
  refine wpAny_pure ⟨Code.quiet_builtin _ (by decide +kernel), codeAny_builtin F.entry_type_call ?_⟩
  rw [Around.under_plain (weight_type_call_type "set" [.ref l] []) rfl]
  have f1 := F.called_set.notType
  have f2 := F.called_set.canCreate
  have f3 := F.typeCall_set_1 (.ref l)
  repeat (any_goals (first | assumption | wp_step))
  refine codeAny_mono (code_set_led1 (.ref l) (E := E) (Q₁ := fun v z => v = .ref s.heap.objs.size ∧ z = { s with heap := s.heap.push (set0 w) }) ⟨rfl, rfl⟩) fun r z hz => ?_
  cases r with
  | error e => exact hz
  | ok fl =>
    cases fl with
    | ret v =>
      obtain ⟨rfl, rfl⟩ := hz
      have at0 : (s.heap.push (set0 w)).get? s.heap.objs.size = some (set0 w) := Heap.get?_push_size _ rfl
      have ty0 : Shared.TypeIs { s with heap := s.heap.push (set0 w) } (.ref s.heap.objs.size) "set" := ⟨_, at0, rfl⟩
      have g1 := F.called_set.init.lookup
      have g2 := F.called_set.init.bind (.ref s.heap.objs.size)
      repeat (any_goals (first | assumption | wp_step))
      refine codeAny_mono (codeAny_call_builtin (R := wants (fun r y => r = .none ∧ ∃ g tk c, y = { s with heap := g, toks := tk } ∧ SetR w g s.heap.objs.size (fun j => decide (j ∈ ns)) c ∧ c ≤ ns.length ∧ (∀ b o, s.heap.get? b = some o → g.get? b = some o)) E)
        F.called_set.init.plain F.entry_set_init (check_set_init_1 ty0 ?_)) fun r2 z2 hz2 => ?_
      · obtain ⟨ol, hol, hcl, nl, hdl⟩ := hl
        obtain ⟨ocls, odict, odata, oslots⟩ := ol
        dsimp only at hcl hdl
        subst hcl hdl
        have atl : (s.heap.push (set0 w)).get? l = some { cls := .type "list", dict := odict, data := .seq items nl, slots := oslots } := Heap.get?_push_of_some _ hol
        have k1 := F.sub_list_set
        have k2 := F.sub_list_frozenset
        have k3 : (Value.type "list" == Value.type "dict") = false := by decide
        have isl : (s.heap.push (set0 w)).IsList l items := ⟨_, atl, rfl, nl, rfl⟩
        unfold Builtin.«set.__init__» noKeywords Builtin.Frozenset.updateFrom
        generalize hPI : pyIter = PI
        wp_walk
        subst hPI
        refine wpAny_pyIter_list isl ?_
        refine wpAny_bind (wpAny_runValue ?_)
        have ltl : l < s.heap.objs.size := Heap.lt_size hol
        have hh3 : A.in1.in1.in1.handled = none := by simp [hh]
        have nei : l ≠ (s.heap.push (set0 w)).objs.size := by
          rw [Heap.size_push]
          exact Nat.ne_of_lt (Nat.lt_succ_of_lt ltl)
        have nef : s.heap.objs.size ∉ [(s.heap.push (set0 w)).objs.size, l] := by
          rw [Heap.size_push]
          intro hm
          rcases List.mem_cons.mp hm with e | e
          · exact absurd e (Nat.ne_of_lt (Nat.lt_succ_self _))
          · exact absurd (List.mem_singleton.mp e) (Nat.ne_of_gt ltl)
        have val : ∀ (i : Nat) (v : Value), items[i]? = some v → ∃ k t, ns[i]? = some k ∧ v = .int k t := fun i v hv => by
          have hi : i < ns.length := by rw [← size_eq]; exact (Array.getElem?_eq_some_iff.mp hv).1
          obtain ⟨t, e⟩ := PyProof.Rows.IntsAre.int_at hit i v (by rw [Array.getElem?_toList]; exact hv)
          exact ⟨ns[i], t, List.getElem?_eq_getElem hi, by rw [e, List.getD_eq_getElem?_getD, List.getElem?_eq_getElem hi] <;> rfl⟩
        refine set_update_ints ((Walks.list hh3 _ l nei items).toS) s.heap.objs.size nef ns size_eq hb val (items.size - 0) 0 _ (by omega) (Nat.zero_le _) ⟨⟨_, Heap.get?_push_size _ rfl, rfl, rfl⟩, (isl.push _)⟩
          ⟨0, Nat.le_refl 0, setR_new_at (Heap.get?_push_of_some _ at0)⟩ fun z c mv le hR => ?_
        obtain ⟨g, g2, d2, tk2, os2⟩ := z
        obtain rfl : g2 = s.gens := mv.gens
        obtain rfl : d2 = s.drawn := mv.drawn
        obtain rfl : os2 = s.os := mv.os
        show wpAny _ _ _ _ _ _
        refine wpAny_pure ?_
        show wpAny _ _ (ret Value.none) _ _ _
        refine wpAny_pure ⟨rfl, g, tk2, c, rfl, hR, by omega, fun b o e => ?_⟩
        have lb : b < s.heap.objs.size := Heap.lt_size e
        refine mv.heap b o ?_ (Heap.get?_push_of_some _ (Heap.get?_push_of_some _ e))
        intro hm
        rcases List.mem_cons.mp hm with e | e
        · exact absurd e (Nat.ne_of_lt lb)
        · rw [Heap.size_push] at e
          exact absurd (List.mem_singleton.mp e) (Nat.ne_of_lt (Nat.lt_succ_of_lt lb))
      · cases r2 with
        | error e => exact hz2
        | ok fl2 =>
          cases fl2 with
          | ret r =>
            obtain ⟨rfl, g, tk, c, rfl, q1, q2, q3⟩ := hz2
            repeat (any_goals (first | assumption | wp_step))
            exact h _ _ _ q1 q2 q3
          | _ => exact hz2.elim
    | _ => exact hz.elim
end
def dedI : List Int → List Int
  | [] => []
  | x :: r => if x ∈ r then dedI r else x :: dedI r
theorem dedI_mem {x : Int} : ∀ l : List Int, x ∈ dedI l ↔ x ∈ l
  | [] => .rfl
  | y :: r => by
    unfold dedI
    split
    · rename_i h
      rw [dedI_mem r, List.mem_cons]
      exact ⟨.inr, fun z => z.elim (fun e => e ▸ h) id⟩
    · rw [List.mem_cons, List.mem_cons, dedI_mem r]
theorem dedI_nd : ∀ l : List Int, (dedI l).Nodup
  | [] => .nil
  | y :: r => by
    unfold dedI
    split
    · exact dedI_nd r
    · rename_i h
      exact List.nodup_cons.mpr ⟨fun z => h ((dedI_mem r).mp z), dedI_nd r⟩
theorem dedI_len : ∀ l : List Int, (dedI l).length ≤ l.length
  | [] => Nat.le_refl _
  | y :: r => by
    unfold dedI
    split
    · exact Nat.le_succ_of_le (dedI_len r)
    · exact Nat.succ_le_succ (dedI_len r)
def srtD : D → Rs D
  | .list ds => match intsO ds with
    | some ns => if ns.length < 64 then .ok (.list ((srtI (dedI ns)).map PyData.int)) else .stuck
    | none => .stuck
  | _ => .stuck
theorem srt_lt {l : List Int} (h : l.Nodup) : (srtI l).Pairwise (· < ·) := by
  have h1 := srtI_srt l
  have h2 : (srtI l).Nodup := (srtI_perm l).nodup_iff.mpr h
  refine List.Pairwise.imp₂ (R := (· ≤ ·)) (S := (· ≠ ·)) (fun a b h1 h2 => by omega) h1 h2
theorem lt_unique {a b : List Int} (h : ∀ k, k ∈ a ↔ k ∈ b) (ha : a.Pairwise (· < ·)) (hb : b.Pairwise (· < ·)) : a = b := by
  have na : a.Nodup := ha.imp fun h => by omega
  have nb : b.Nodup := hb.imp fun h => by omega
  exact srt_unique ((List.perm_ext_iff_of_nodup na nb).mpr h) (ha.imp fun h => by omega) (hb.imp fun h => by omega)
end Den
namespace Den
open PySem PySem.Spec PyProof.Rows L2
section
variable {X : Cx} {G : Gc} {L : Nat} {bl : List Str} {a : Expr} {f : DE} {p p2 q pos : Pos}
theorem d_srtset (C : Ctx X G L bl) (hg : Gl X "sorted") (hm : X.mg "sorted" = none) (hg2 : Gl X "set") (hm2 : X.mg "set" = none) (ha : PE X a (tW G f))
    (na : starEach [a] X.env = (false, eval a X.env) :: starEach [] X.env) : PE X (.Call (.Name "sorted" p) [.Call (.Name "set" p2) [a] [] q] [] pos) (tS G fun ρ => do let x ← f ρ; srtD x) := by
  refine ⟨fun pins s σ H Q I h => ?_⟩
  have boot1 : bootBuiltins "sorted" = some (.builtin "sorted") := by decide +kernel
  refine Call_ (ld_blt I hg hm boot1 ?_)
  refine PyProof.Rows.callWith_builtin1 (PyProof.Rows.args_cons ?_ rfl) rfl rfl
  refine Call_ (ld_blt I hg2 hm2 PyProof.Rows.boot_set ?_)
  have kf := C.kf (kf_inv I)
  obtain ⟨O, ρ, R, w⟩ := h kf
  have tw : tW G f σ H fun x H1 => Same H H1 ∧ ∃ d, AtC G.K H1 O d x ∧ Post G H (srtD d) fun d => ∀ v H', Same H H' → KF G.K H' → At G.K H' O d v → Q v H' := fun _ =>
    ⟨O, ρ, R, w.bind.imp fun d _ q x H1 s1 k1 a1 => ⟨s1, d, a1, q⟩⟩
  refine PyProof.Rows.callWith_type1 (PyProof.Rows.args_cons (thn (ha.run pins s σ H _ I tw) fun v s1 ⟨x, H1, I1, r1, s01, d, a1, q1⟩ => PyProof.Rows.args_nil ?_) na) na rfl
  cases d with
  | list ds =>
    have q2 : Post G H (match intsO ds with
      | some ns => if ns.length < 64 then Rs.ok (PyData.list ((srtI (dedI ns)).map PyData.int)) else .stuck
      | none => .stuck) _ := q1
    cases hi : intsO ds with
    | none => rw [hi] at q2; exact q2.elim
    | some ns =>
      rw [hi] at q2
      dsimp only at q2
      split at q2
      · rename_i h64
        obtain ⟨l, vs, rfl, h1, h2⟩ := a1
        cases r1
        have e := ints_eq hi
        subst e
        obtain rfl := atL_ints h2
        obtain ⟨its, rv, pl, _⟩ := I1.list (C.K ▸ h1)
        refine set_ofList ns (I1.ok.hd C.calm) pl.isList (by simpa using ints_of_vals rv) (by unfold scanBound; omega) fun g tk c hR hc hk => PyProof.Rows.args_nil ?_
        have I2 : Inv X pins σ H1 { s1 with heap := g, toks := tk } := I1.kept hk
        refine sorted_set hR (I2.ok.hd C.calm) (by omega) fun s' z out c2 ms k3 g3 o3 hz hg hi3 hs hm3 hl3 => ?_
        have em : ms = srtI (dedI ns) := lt_unique (fun k => by
          rw [hm3, decide_eq_true_iff, (srtI_perm _).mem_iff, dedI_mem]) hs (srt_lt (dedI_nd ns))
        subst em
        have hlen : ((srtI (dedI ns)).map V.int).length ≤ sizeLine := by rw [List.length_map, hl3, sizeLine_eq]; omega
        have hn : H1 z = none := I2.hok.fresh hz
        have J : Inv X pins σ (upd H1 z (.lst ((srtI (dedI ns)).map V.int))) { s1 with heap := s'.heap, gens := s'.gens, drawn := s'.drawn, toks := s'.toks } :=
          L2.Inv.call (s := { s1 with heap := g, toks := tk }) (ch := []) I2 (Un.laid k3 hz hn) (I2.hok.laid k3 hz ⟨hlen, out.toList, c2, vals_of_ints hi3, hg⟩) (by rw [g3]; exact I2.bare) fun _ w => nomatch w
        have es : s' = { s1 with heap := s'.heap, gens := s'.gens, drawn := s'.drawn, toks := s'.toks } := by
          cases s'
          cases s1
          cases o3
          rfl
        rw [es]
        have kJ := C.kf (kf_inv J)
        exact ⟨.ref z, _, J, rfl, q2 _ _ (s01.trans (same_upd hn)) kJ (new_list (R.same s01).trk hn (atL_of_ints _))⟩
      · exact q2.elim
  | _ => exact q1.elim
end
end Den
namespace Den
open PySem PySem.Spec PyProof.Rows L2
section
variable {X : Cx} {G : Gc} {L : Nat} {bl : List Str} {a b c e tg iter : Expr} {f g h : DE} {pos p p2 : Pos}
def slL (lo hi : Option Int) : D → Rs D
  | .list ds => .ok (.list (cutD ds lo hi))
  | _ => .stuck
theorem f_sl_core {O : Addr → Prop} {H : Hp} {x : V} {dx : D} {lo hi : Option Int} {Q : VK} {H0 : Hp} (C : Ctx X G L bl) (s : Same H0 H) (ax : AtC G.K H O dx x)
    (p : Post G H0 (slL lo hi dx) fun d => ∀ p ds vs H', d = .list ds → Same H0 H' → KF G.K H' → H0 p = none → H' p = some (.lst vs) → AtL G.K H' (fun a => O a ∨ a = p) ds vs → Q (.ref p) H') : rSlL X.K x lo hi H fun v H' => KF X.K H' → Q v H' := by
  unfold slL at p
  split at p
  · obtain ⟨a, vs, rfl, h1, h2⟩ := ax
    rw [C.K]
    refine ⟨a, vs, rfl, h1, fun q hq k' => ?_⟩
    exact p q _ _ _ rfl (s.trans (same_upd hq)) k' (s.free hq) upd_same (((atL_cut h2 lo hi).grow hq (kf_no k' upd_same)).same (same_upd hq))
  · exact p.elim
theorem f_slHi (C : Ctx X G L bl) (ha : PE X a (tW G f)) (hl : PE X b (tW G g)) : PE X (.Subscript a (.Slice none (some b) none p2) pos) (tF G fun ρ => do let x ← f ρ; let l ← g ρ; let i ← intD l; slL none (some i) x) := by
  refine pe_imp (pe_slice sl_list ha po_none (po_some hl)) fun σ H Q kf w => fun k0 => ?_
  obtain ⟨O, ρ, R, p⟩ := w k0
  refine ⟨O, ρ, R, p.bind.imp fun dx _ q x H1 s1 k1 ax => fun k1' => ?_⟩
  refine ⟨O, ρ, R.same s1, q.bind.imp fun dl _ q2 l H2 s2 k2 al => ?_⟩
  cases dl with
  | int i =>
    cases al
    exact ⟨i, rfl, f_sl_core C (s1.trans s2) (ax.same s2) q2⟩
  | _ => exact q2.elim
theorem f_slLo (C : Ctx X G L bl) (ha : PE X a (tW G f)) (hl : PE X b (tW G g)) : PE X (.Subscript a (.Slice (some b) none none p2) pos) (tF G fun ρ => do let x ← f ρ; let l ← g ρ; let i ← intD l; slL (some i) none x) := by
  refine pe_imp (pe_slice sl_list ha (po_some hl) po_none) fun σ H Q kf w => fun k0 => ?_
  obtain ⟨O, ρ, R, p⟩ := w k0
  refine ⟨O, ρ, R, p.bind.imp fun dx _ q x H1 s1 k1 ax => fun k1' => ?_⟩
  refine ⟨O, ρ, R.same s1, q.bind.imp fun dl _ q2 l H2 s2 k2 al => ?_⟩
  cases dl with
  | int i =>
    cases al
    exact ⟨i, rfl, f_sl_core C (s1.trans s2) (ax.same s2) q2⟩
  | _ => exact q2.elim
end
inductive Cst | non | bl (b : Bool) | int (i : Int) | str (x : Str)
deriving DecidableEq
def Cst.c : Cst → Const | .non => .none | .bl b => .bool b | .int i => .int i | .str x => .str x
def Cst.d : Cst → D | .non => .none | .bl b => .bool b | .int i => .int i | .str x => .str x
def Cst.v : Cst → V | .non => .non | .bl b => .bl b | .int i => .int i | .str x => .str x
inductive Bo | add | sub | mul | div | mod | pow
def Bo.op : Bo → Operator | .add => .Add | .sub => .Sub | .mul => .Mult | .div => .FloorDiv | .mod => .Mod | .pow => .Pow
def Bo.F : Bo → D → D → Rs D | .add => addD | .sub => subD | .mul => mulD | .div => divD | .mod => modD | .pow => powD
inductive Co | lt | le | gt | ge | eq | ne | isin | notin | is | isnot
def Co.op : Co → CmpOp | .lt => .Lt | .le => .LtE | .gt => .Gt | .ge => .GtE | .eq => .Eq | .ne => .NotEq | .isin => .In | .notin => .NotIn | .is => .Is | .isnot => .IsNot
def Co.F : Co → D → D → Rs D
  | .lt => ordD fun i j => decide (i < j) | .le => ordD fun i j => decide (i ≤ j) | .gt => ordD fun i j => decide (j < i) | .ge => ordD fun i j => decide (j ≤ i)
  | .eq => eqD | .ne => neD | .isin => inD false | .notin => inD true | .is => isD false | .isnot => isD true
inductive Pr | len | all | any | max | min | tuple | list | sorted
def Pr.nm : Pr → Str | .len => "len" | .all => "all" | .any => "any" | .max => "max" | .min => "min" | .tuple => "tuple" | .list => "list" | .sorted => "sorted"
def Pr.F : Pr → List D → Rs D | .len => lenD | .all => allD | .any => anyD | .max => maxD | .min => minD | .tuple => tupleD | .list => listD | .sorted => sortedD
inductive Tg
  | nm (i : Nat) (x : Str) (pos : Pos)
  | tp (items : List (Nat × Str × Pos)) (k : Nat) (pos : Pos)
def tgNames : List (Nat × Str × Pos) → List Expr
  | [] => []
  | (_, x, p) :: r => .Name x p :: tgNames r
def Tg.py : Tg → Expr
  | .nm _ x pos => .Name x pos
  | .tp items k pos => .Tuple (tgNames items) k pos
def Tg.st : Tg → STg
  | .nm i _ _ => setN i
  | .tp items _ _ => setT (items.map (·.1))
def Tg.is : Tg → List Nat
  | .nm i _ _ => [i]
  | .tp items _ _ => items.map (·.1)
mutual
inductive E where
  | cst (c : Cst) (k : Nat) (pos : Pos)
  | var (i : Nat) (x : Str) (pos : Pos)
  | glo (x : Str) (c : Cst) (pos : Pos)
  | bin (op : Bo) (a b : E) (pos : Pos)
  | lad (a b : E) (pos : Pos)
  | neg (a : E) (pos : Pos)
  | not (a : E) (pos : Pos)
  | cmp (op : Co) (a b : E) (pos : Pos)
  | chn (op op' : Co) (a b c : E) (pos : Pos)
  | and (a : E) (es : Es) (pos : Pos)
  | or (a : E) (es : Es) (pos : Pos)
  | ite (c a b : E) (pos : Pos)
  | ix (a i : E) (pos : Pos)
  | slo (a l : E) (p2 pos : Pos)
  | shi (a l : E) (p2 pos : Pos)
  | slh (a l h : E) (p2 pos : Pos)
  | lslo (a l : E) (p2 pos : Pos)
  | lshi (a l : E) (p2 pos : Pos)
  | tup (es : Es) (k : Nat) (pos : Pos)
  | lst (es : Es) (pos : Pos)
  | call (f : Nat) (x : Str) (p : Pos) (e : E) (es : Es) (pos : Pos)
  | srts (a : E) (p p2 q pos : Pos)
  | rep (es : Es) (p1 : Pos) (b : E) (pos : Pos)
  | ccall (js : List (Nat × Str × Pos)) (p1 : Pos) (b : E) (p2 : Pos) (e : E) (es : Es) (pos : Pos)
  | prim (q : Pr) (p : Pos) (e : E) (es : Es) (pos : Pos)
  | isi (T : Ty) (a : E) (p1 p2 pos : Pos)
  | lrng1 (a : E) (p p1 p2 pos : Pos)
  | trng1 (a : E) (p p1 p2 pos : Pos)
  | lrng2 (a b : E) (p p1 p2 pos : Pos)
  | comp (elt : E) (tg : Tg) (it : I) (ifs : Es) (scope : Scope) (own : List (Str × Nat)) (pos : Pos)
  | comp2 (elt : E) (tg : Tg) (it : I) (tg1 : Tg) (it1 : I) (ifs : Es) (scope : Scope) (own : List (Str × Nat)) (pos : Pos)
inductive Es where
  | nil
  | cons (e : E) (es : Es)
inductive I where
  | seq (e : E)
  | rng1 (a : E) (p pos : Pos)
  | rng2 (a b : E) (p pos : Pos)
  | enu (a : E) (p pos : Pos)
  | zip (a b : E) (p pos : Pos)
end
mutual
def E.py : E → Expr
  | .cst c k pos => .Constant c.c k pos
  | .var _ x pos => .Name x pos
  | .glo x _ pos => .Name x pos
  | .bin op a b pos => .BinOp a.py op.op b.py pos
  | .lad a b pos => .BinOp a.py .Add b.py pos
  | .neg a pos => .UnaryOp .USub a.py pos
  | .not a pos => .UnaryOp .Not a.py pos
  | .cmp op a b pos => .Compare a.py [op.op] [b.py] pos
  | .chn op op' a b c pos => .Compare a.py [op.op, op'.op] [b.py, c.py] pos
  | .and a es pos => .BoolOp .And (a.py :: es.py) pos
  | .or a es pos => .BoolOp .Or (a.py :: es.py) pos
  | .ite c a b pos => .IfExp c.py a.py b.py pos
  | .ix a i pos => .Subscript a.py i.py pos
  | .slo a l p2 pos => .Subscript a.py (.Slice (some l.py) none none p2) pos
  | .shi a l p2 pos => .Subscript a.py (.Slice none (some l.py) none p2) pos
  | .slh a l h p2 pos => .Subscript a.py (.Slice (some l.py) (some h.py) none p2) pos
  | .lslo a l p2 pos => .Subscript a.py (.Slice (some l.py) none none p2) pos
  | .lshi a l p2 pos => .Subscript a.py (.Slice none (some l.py) none p2) pos
  | .tup es k pos => .Tuple es.py k pos
  | .lst es pos => .List es.py pos
  | .call _ x p e es pos => .Call (.Name x p) (e.py :: es.py) [] pos
  | .srts a p p2 q pos => .Call (.Name "sorted" p) [.Call (.Name "set" p2) [a.py] [] q] [] pos
  | .rep es p1 b pos => .BinOp (.List es.py p1) .Mult b.py pos
  | .ccall js p1 b p2 e es pos => .Call (.Subscript (.List (namesE js) p1) b.py p2) (e.py :: es.py) [] pos
  | .prim q p e es pos => .Call (.Name q.nm p) (e.py :: es.py) [] pos
  | .isi T a p1 p2 pos => .Call (.Name "isinstance" p1) [a.py, .Name (Str.ofString T.nm) p2] [] pos
  | .lrng1 a p p1 p2 pos => .Call (.Name "list" p) [.Call (.Name "range" p1) [a.py] [] p2] [] pos
  | .trng1 a p p1 p2 pos => .Call (.Name "tuple" p) [.Call (.Name "range" p1) [a.py] [] p2] [] pos
  | .lrng2 a b p p1 p2 pos => .Call (.Name "list" p) [.Call (.Name "range" p1) [a.py, b.py] [] p2] [] pos
  | .comp elt tg it ifs scope _ pos => .ListComp elt.py [⟨tg.py, it.py, ifs.py, 0⟩] scope pos
  | .comp2 elt tg it tg1 it1 ifs scope _ pos => .ListComp elt.py [⟨tg.py, it.py, [], 0⟩, ⟨tg1.py, it1.py, ifs.py, 0⟩] scope pos
def Es.py : Es → List Expr
  | .nil => []
  | .cons e es => e.py :: es.py
def I.py : I → Expr
  | .seq e => e.py
  | .rng1 a p pos => .Call (.Name "range" p) [a.py] [] pos
  | .rng2 a b p pos => .Call (.Name "range" p) [a.py, b.py] [] pos
  | .enu a p pos => .Call (.Name "enumerate" p) [a.py] [] pos
  | .zip a b p pos => .Call (.Name "zip" p) [a.py, b.py] [] pos
end
def Es.len : Es → Nat
  | .nil => 0
  | .cons _ es => es.len + 1
abbrev Tb := Nat → List D → Rs D
def bi (F : D → D → Rs D) (f g : DE) : DE := fun ρ => do let x ← f ρ; let y ← g ρ; F x y
mutual
def E.den (ft : Tb) : E → DE
  | .cst c _ _ => fun _ => .ok c.d
  | .var i _ _ => vaR i
  | .glo _ c _ => fun _ => .ok c.d
  | .bin op a b _ => bi op.F (a.den ft) (b.den ft)
  | .lad a b _ => bi addL (a.den ft) (b.den ft)
  | .neg a _ => fun ρ => do let x ← a.den ft ρ; negD x
  | .not a _ => notE (a.den ft)
  | .cmp op a b _ => bi op.F (a.den ft) (b.den ft)
  | .chn op op' a b c _ => chnE op.F op'.F (a.den ft) (b.den ft) (c.den ft)
  | .and a es _ => es.andD ft (a.den ft)
  | .or a es _ => es.orD ft (a.den ft)
  | .ite c a b _ => iteE (c.den ft) (a.den ft) (b.den ft)
  | .ix a i _ => bi ixD (a.den ft) (i.den ft)
  | .slo a l _ _ => fun ρ => do let x ← a.den ft ρ; let l ← l.den ft ρ; let i ← intD l; slD (some i) none x
  | .shi a l _ _ => fun ρ => do let x ← a.den ft ρ; let l ← l.den ft ρ; let i ← intD l; slD none (some i) x
  | .slh a l h _ _ => fun ρ => do let x ← a.den ft ρ; let l ← l.den ft ρ; let i ← intD l; let u ← h.den ft ρ; let j ← intD u; slD (some i) (some j) x
  | .lslo a l _ _ => fun ρ => do let x ← a.den ft ρ; let l ← l.den ft ρ; let i ← intD l; slL (some i) none x
  | .lshi a l _ _ => fun ρ => do let x ← a.den ft ρ; let l ← l.den ft ρ; let i ← intD l; slL none (some i) x
  | .tup es _ _ => tupA (es.den ft)
  | .lst es _ => lstA (es.den ft)
  | .call f _ _ e es _ => appE (ft f) (consArg (e.den ft) (es.den ft))
  | .srts a _ _ _ _ => fun ρ => do let x ← a.den ft ρ; srtD x
  | .rep es _ b _ => fun ρ => do let ds ← es.den ft ρ; let d ← b.den ft ρ; let k ← intD d; repL ds k
  | .ccall js _ b _ e es _ => ccD (es.len + 1) ft (js.map (·.1)) (b.den ft) (consArg (e.den ft) (es.den ft))
  | .prim q _ e es _ => appE q.F (consArg (e.den ft) (es.den ft))
  | .isi T a _ _ _ => isiE T (a.den ft)
  | .lrng1 a _ _ _ _ => lstI (rng1 (a.den ft))
  | .trng1 a _ _ _ _ => tupI (rng1 (a.den ft))
  | .lrng2 a b _ _ _ _ => lstI (rng2 (a.den ft) (b.den ft))
  | .comp elt tg it ifs _ own _ => compE (own.map (·.2)) (it.den ft) tg.st (ifs.tst ft) (elt.den ft)
  | .comp2 elt tg it tg1 it1 ifs _ own _ => compE2 (own.map (·.2)) (it.den ft) tg.st (it1.den ft) tg1.st (ifs.tst ft) (elt.den ft) tg1.is
def Es.den (ft : Tb) : Es → Ro → Rs (List D)
  | .nil => noArg
  | .cons e es => consArg (e.den ft) (es.den ft)
def Es.andD (ft : Tb) : Es → DE → DE
  | .nil, f => f
  | .cons e es, f => andE f (es.andD ft (e.den ft))
def Es.orD (ft : Tb) : Es → DE → DE
  | .nil, f => f
  | .cons e es, f => orE f (es.orD ft (e.den ft))
def Es.tst (ft : Tb) : Es → Ro → Rs Bool
  | .nil => fun _ => .ok true
  | .cons e _ => tstE (e.den ft)
def I.den (ft : Tb) : I → DI
  | .seq e => seqE (e.den ft)
  | .rng1 a _ _ => Den.rng1 (a.den ft)
  | .rng2 a b _ _ => Den.rng2 (a.den ft) (b.den ft)
  | .enu a _ _ => enuE (a.den ft)
  | .zip a b _ _ => zipE (consArg (a.den ft) (consArg (b.den ft) noArg))
end
structure Sg where
  N : List Str
  own : Nat → Bool
  gl : List (Str × Cst)
  fn : List (Str × Nat)
  bl : List Str
def visB (sc : Scope) (x : Str) : Bool := match sc.names.lookup x with
  | some .local => true
  | some .cell => true
  | some .free => true
  | _ => false
def glB (sc : Scope) (x : Str) : Bool := decide (sc.names.lookup x = some .globalImplicit)
def dbB (x : Str) : Bool := (!(x == ("__debug__" : Str))) && !(x == ("__classdict__" : Str))
def varB (S : Sg) (sc : Scope) (i : Nat) (x : Str) : Bool := decide (S.N[i]? = some x) && visB sc x && dbB x
def blB (S : Sg) (sc : Scope) (x : Str) : Bool := glB sc x && decide (x ∈ S.bl)
def locB (S : Sg) (sc : Scope) (bs : Option Scope) (i : Nat) (x : Str) : Bool := decide (S.N[i]? = some x) && !S.own i && (match sc.names.lookup x with
  | some .local => true
  | some .cell => match bs with
    | some b => decide (b.names.lookup x = some .cell)
    | none => true
  | _ => false)
def tgB (S : Sg) (sc : Scope) (bs : Option Scope) : Tg → Bool
  | .nm i x _ => locB S sc bs i x
  | .tp items _ _ => items.all fun p => locB S sc bs p.1 p.2.1
def E.str (S : Sg) : E → Bool
  | .var i _ _ => !S.own i
  | _ => true
def E.fr : E → Bool
  | .rep .. | .lad .. | .lslo .. | .lshi .. | .lst .. | .lrng1 .. | .lrng2 .. | .comp .. | .comp2 .. => true
  | _ => false
def E.tstB : E → Bool
  | .ite .. => false
  | _ => true
def Es.tsts : Es → Bool
  | .nil => true
  | .cons e es => e.tstB && es.tsts
def Es.strs (S : Sg) : Es → Bool
  | .nil => true
  | .cons e es => e.str S && es.strs S
def I.strI (S : Sg) : I → Bool
  | .seq e => e.str S
  | _ => true
def Es.one : Es → Bool
  | .nil => true
  | .cons e .nil => e.tstB
  | _ => false
def I.tgB : I → Tg → Bool
  | .enu .., .nm .. => false
  | .zip .., .nm .. => false
  | _, _ => true
mutual
def E.ok (S : Sg) (sc : Scope) : E → Bool
  | .cst .. => true
  | .var i x _ => varB S sc i x
  | .glo x c _ => glB sc x && decide ((x, c) ∈ S.gl) && dbB x
  | .bin _ a b _ => a.ok S sc && b.ok S sc
  | .lad a b _ => a.ok S sc && b.ok S sc
  | .neg a _ => a.ok S sc
  | .not a _ => a.ok S sc && a.tstB
  | .cmp _ a b _ => a.ok S sc && b.ok S sc
  | .chn _ _ a b c _ => a.ok S sc && b.ok S sc && c.ok S sc
  | .and a es _ => a.ok S sc && es.ok S sc && a.str S && a.tstB && es.strs S && es.tsts
  | .or a es _ => a.ok S sc && es.ok S sc && a.str S && a.tstB && es.strs S && es.tsts
  | .ite c a b _ => c.ok S sc && a.ok S sc && b.ok S sc && c.tstB && a.str S && b.str S
  | .ix a i _ => a.ok S sc && i.ok S sc
  | .slo a l _ _ => a.ok S sc && l.ok S sc
  | .shi a l _ _ => a.ok S sc && l.ok S sc
  | .slh a l h _ _ => a.ok S sc && l.ok S sc && h.ok S sc
  | .lslo a l _ _ => a.ok S sc && l.ok S sc
  | .lshi a l _ _ => a.ok S sc && l.ok S sc
  | .tup es _ _ => es.ok S sc && es.strs S && decide (es.len ≤ 1000)
  | .lst es _ => es.ok S sc && es.strs S && decide (es.len ≤ 1000)
  | .call f x _ e es _ => e.ok S sc && es.ok S sc && e.str S && es.strs S && glB sc x && dbB x && decide (S.fn[f]? = some (x, es.len + 1))
  | .srts a _ _ _ _ => a.ok S sc && blB S sc "sorted" && blB S sc "set"
  | .rep es _ b _ => es.ok S sc && es.strs S && decide (es.len ≤ 1000) && b.ok S sc
  | .ccall js _ b _ e es _ => b.ok S sc && e.ok S sc && es.ok S sc && e.str S && es.strs S && decide (js.length ≤ 100) && js.all fun p => decide (S.fn[p.1]? = some (p.2.1, es.len + 1)) && glB sc p.2.1 && dbB p.2.1
  | .prim q _ e es _ => e.ok S sc && es.ok S sc && blB S sc q.nm
  | .isi T a _ _ _ => a.ok S sc && blB S sc "isinstance" && blB S sc (Str.ofString T.nm)
  | .lrng1 a _ _ _ _ => a.ok S sc && blB S sc "list" && blB S sc "range"
  | .trng1 a _ _ _ _ => a.ok S sc && blB S sc "tuple" && blB S sc "range"
  | .lrng2 a b _ _ _ _ => a.ok S sc && b.ok S sc && blB S sc "list" && blB S sc "range"
  | .comp elt tg it ifs scope own _ => it.tgB tg && it.ok S sc && blkC S.N sc scope own && tgB S (relS scope sc) (some scope) tg && decide (∀ i ∈ tg.is, i ∈ own.map (·.2)) && ifs.ok S (relS scope sc) && ifs.one && elt.ok S (relS scope sc) && elt.str S
  | .comp2 elt tg it tg1 it1 ifs scope own _ => it.tgB tg && it1.tgB tg1 && it.ok S sc && blkC S.N sc scope own && tgB S (relS scope sc) (some scope) tg && decide (∀ i ∈ tg.is, i ∈ own.map (·.2)) && it1.ok S (relS scope sc) && it1.strI S && tgB S (relS scope sc) (some scope) tg1 && decide (∀ i ∈ tg1.is, i ∈ own.map (·.2)) && ifs.ok S (relS scope sc) && ifs.one && elt.ok S (relS scope sc) && elt.str S
def Es.ok (S : Sg) (sc : Scope) : Es → Bool
  | .nil => true
  | .cons e es => e.ok S sc && es.ok S sc
def I.ok (S : Sg) (sc : Scope) : I → Bool
  | .seq e => e.ok S sc
  | .rng1 a _ _ => a.ok S sc && blB S sc "range"
  | .rng2 a b _ _ => a.ok S sc && b.ok S sc && blB S sc "range"
  | .enu a _ _ => a.ok S sc && blB S sc "enumerate" && a.str S
  | .zip a b _ _ => a.ok S sc && b.ok S sc && a.str S && b.str S && blB S sc "zip"
end
end Den
namespace Den
open PySem PySem.Spec PyProof.Rows L2
theorem star1 (e : E) (es : List Expr) (env : Env) : starEach (e.py :: es) env = (false, eval e.py env) :: starEach es env := by cases e <;> rfl
theorem star_no (pos : Pos) (env : Env) : ∀ es : Es, (backTo pos (starEach es.py env)).any (·.1) = false
  | .nil => rfl
  | .cons e es => by
    show (backTo pos (starEach (e.py :: es.py) env)).any _ = false
    rw [star1]
    exact star_no pos env es
theorem plain1 (e : E) : PlainIx e.py := by
  cases e <;> first | exact fun _ _ => rfl | skip
  all_goals (rename_i c k pos; cases c <;> exact fun _ _ => rfl)
theorem marks1 (op : CmpOp) (e : E) : behindInMarks op e.py = false := by cases e <;> rfl
theorem lastm2 (op op' : CmpOp) (b c : E) : lastMarks [op, op'] [b.py, c.py] = false := by
  show behindInMarks op' c.py = false
  exact marks1 _ _
theorem fold1 (it : I) (env : Env) (x : Value) : foldedSetIterable it.py env x = pure x := by
  cases it with
  | seq e => cases e <;> rfl
  | _ => rfl
structure Env1 (X : Cx) (G : Gc) (L : Nat) (S : Sg) (ft : Tb) (sc : Scope) : Prop where
  C : Ctx X G L S.bl
  N : X.N = S.N
  sc : X.env.scope = sc
  own : G.own = S.own
  gl : ∀ p ∈ S.gl, ∃ u, X.mg p.1 = some u ∧ RelV p.2.v u
  fn : ∀ f x n, S.fn[f]? = some (x, n) → FnD X G.cl L x n (ft f)
section
variable {X : Cx} {G : Gc} {L : Nat} {S : Sg} {ft : Tb} {sc : Scope}
theorem Env1.vis (V : Env1 X G L S ft sc) {i : Nat} {x : Str} (h : varB S sc i x = true) : X.N[i]? = some x ∧ Vis X.env.scope x ∧ (x == ("__debug__" : Str)) = false ∧ (x == ("__classdict__" : Str)) = false := by
  unfold varB dbB at h
  simp only [Bool.and_eq_true, decide_eq_true_eq, Bool.not_eq_true'] at h
  obtain ⟨⟨h1, h2⟩, h3, h4⟩ := h
  refine ⟨by rw [V.N]; exact h1, ?_, h3, h4⟩
  rw [V.sc]
  unfold visB at h2
  split at h2 <;> first | exact .inl (by assumption) | exact .inr (.inl (by assumption)) | exact .inr (.inr (by assumption)) | cases h2
theorem Env1.glob (V : Env1 X G L S ft sc) {x : Str} (h : glB sc x = true) : Gl X x := by
  unfold glB at h
  rw [decide_eq_true_eq] at h
  show X.env.scope.names.lookup x = _
  rw [V.sc]; exact h
theorem Env1.blt (V : Env1 X G L S ft sc) {x : Str} (h : blB S sc x = true) : Gl X x ∧ x ∈ S.bl := by
  unfold blB at h
  rw [Bool.and_eq_true, decide_eq_true_eq] at h
  exact ⟨V.glob h.1, h.2⟩
theorem dbB_iff {x : Str} (h : dbB x = true) : (x == ("__debug__" : Str)) = false := by
  unfold dbB at h
  simp only [Bool.and_eq_true, Bool.not_eq_true'] at h
  exact h.1
theorem bo_ok (C : Ctx X G L bl) (op : Bo) : ∃ r, OpR X (binaryOp op.op) r ∧ Says G r op.F := by
  cases op
  · exact ⟨_, C.K ▸ op_addD, says_add⟩
  · exact ⟨_, op_sub, says_sub⟩
  · exact ⟨_, op_mul, says_mul⟩
  · exact ⟨_, op_fdivW, says_div⟩
  · exact ⟨_, op_mod, says_mod⟩
  · exact ⟨_, op_pow, says_pow⟩
theorem co_ok (C : Ctx X G L bl) (op : Co) : ∃ r, OpR X (compareOp op.op) r ∧ Says G r op.F := by
  cases op
  · exact ⟨_, op_lt, says_ord _⟩
  · exact ⟨_, op_le, says_ord _⟩
  · exact ⟨_, op_gt, says_ord _⟩
  · exact ⟨_, op_ge, says_ord _⟩
  · exact ⟨_, C.K ▸ op_eqD C.hu0, says_eq⟩
  · exact ⟨_, C.K ▸ op_neD C.hu0, says_ne⟩
  · exact ⟨_, C.K ▸ op_inA C.hu, says_in⟩
  · exact ⟨_, C.K ▸ op_notInA C.hu, says_notIn⟩
  · exact ⟨_, op_isA, says_is⟩
  · exact ⟨_, op_notA, says_notIs⟩
structure SndE (X : Cx) (G : Gc) (S : Sg) (ft : Tb) (e : E) : Prop where
  w : PE X e.py (tW G (e.den ft))
  s : e.str S = true → PE X e.py (tS G (e.den ft))
  f : e.fr = true → PE X e.py (tF G (e.den ft)) ∧ ∀ ρ d, e.den ft ρ = .ok d → ∃ ds, d = .list ds
  t : e.tstB = true → PT X e.py (tTst G (tstE (e.den ft)))
structure SndEs (X : Cx) (G : Gc) (S : Sg) (ft : Tb) (es : Es) : Prop where
  w : PA X es.py (tArgW G (es.den ft))
  s : es.strs S = true → PA X es.py (tArg G (es.den ft))
structure SndI (X : Cx) (G : Gc) (S : Sg) (ft : Tb) (it : I) : Prop where
  w : ∀ tg : Tg, it.tgB tg = true → PI X tg.py it.py (tIt G true (it.den ft))
  s : it.strI S = true → ∀ tg : Tg, it.tgB tg = true → PI X tg.py it.py (tIt G false (it.den ft))
theorem es_len : ∀ (es : Es) (ρ : Ro) (ds : List D), es.den ft ρ = .ok ds → ds.length = es.len
  | .nil, ρ, ds, h => by cases h; rfl
  | .cons e es, ρ, ds, h => by
    change (e.den ft ρ >>= fun d => es.den ft ρ >>= fun ds => .ok (d :: ds)) = _ at h
    cases h1 : e.den ft ρ with
    | ok d =>
      rw [h1] at h
      cases h2 : es.den ft ρ with
      | ok r =>
        rw [Rs.ok_bind, h2] at h
        cases h
        simp [Es.len, es_len es ρ r h2]
      | exc c => rw [Rs.ok_bind, h2] at h; cases h
      | stuck => rw [Rs.ok_bind, h2] at h; cases h
    | exc c => rw [h1] at h; cases h
    | stuck => rw [h1] at h; cases h
theorem bind_ok {α β : Type} {r : Rs α} {f : α → Rs β} {b : β} (h : (r >>= f) = .ok b) : ∃ a, r = .ok a ∧ f a = .ok b := by
  cases r with
  | ok a => exact ⟨a, rfl, h⟩
  | exc c => cases h
  | stuck => cases h
theorem Walk.less {K : W.Frag} {M M' O : Addr → Prop} {J : It} {H0 : Hp} {ds : List D} (w : Walk K M O J H0 ds) (h : ∀ a, M' a → M a) : Walk K M' O J H0 ds :=
  ⟨w.len, fun i d H e k => w.go i d H e fun b o e n => k b o e fun z => n (h b z), fun H k => w.stop H fun b o e n => k b o e fun z => n (h b z)⟩
theorem i_less {tg iter : Expr} {fi : DI} (h : PI X tg iter (tIt G false fi)) : PI X tg iter (tIt G true fi) := pi_imp h fun σ H R _ w k => by
  obtain ⟨O, ρ, R0, p⟩ := w k
  exact ⟨O, ρ, R0, p.imp fun ds _ q J H' s k' wk => fun _ => q J H' s k' (wk.less fun _ z => z.elim)⟩
theorem snd_s {e : E} (hs : PE X e.py (tS G (e.den ft))) (hf : e.fr = false) (ht : PE X e.py (tW G (e.den ft)) → e.tstB = true → PT X e.py (tTst G (tstE (e.den ft)))) : SndE X G S ft e :=
  ⟨strong_weak hs, fun _ => hs, fun h => (by rw [hf] at h; cases h), ht (strong_weak hs)⟩
theorem snd_f {e : E} (C : Ctx X G L bl) (hf : PE X e.py (tF G (e.den ft))) (hl : ∀ ρ d, e.den ft ρ = .ok d → ∃ ds, d = .list ds) (ht : PE X e.py (tW G (e.den ft)) → e.tstB = true → PT X e.py (tTst G (tstE (e.den ft)))) : SndE X G S ft e :=
  have hs := fresh_strong C.K hf hl
  ⟨strong_weak hs, fun _ => hs, fun _ => ⟨hf, hl⟩, ht (strong_weak hs)⟩
end
end Den
namespace Den
open PySem PySem.Spec PyProof.Rows L2
section
variable {X : Cx} {G : Gc} {L : Nat} {S : Sg} {ft : Tb} {sc : Scope}
def Sto (X : Cx) (bs : Option Scope) : Prop := match bs with
  | some b => ∀ x, b.names.lookup x = some .cell → X.fn x = true
  | none => ∀ x, X.fn x = true
theorem loc_ok {bs : Option Scope} (hsc : X.env.scope = sc) (hf : Sto X bs) {i : Nat} {x : Str} (h : locB S sc bs i x = true) : S.N[i]? = some x ∧ S.own i = false ∧ Loc X.env.scope x ∧ (X.fn x = true ∨ X.env.scope.names.lookup x = some .local) := by
  unfold locB at h
  simp only [Bool.and_eq_true, decide_eq_true_eq, Bool.not_eq_true'] at h
  obtain ⟨⟨h1, h2⟩, h3⟩ := h
  refine ⟨h1, h2, ?_⟩
  rw [hsc]
  split at h3
  · rename_i e
    exact ⟨.inl e, .inr e⟩
  · rename_i e
    refine ⟨.inr e, .inl ?_⟩
    cases bs with
    | none => exact hf x
    | some b => exact hf x (by simpa using h3)
  · cases h3
theorem names_len (env : Env) : ∀ items : List (Nat × Str × Pos), (assignEach (tgNames items) env).length = items.length
  | [] => rfl
  | (i, x, p) :: r => by
    show (_ :: assignEach (tgNames r) env).length = _
    simp [names_len env r]
theorem names_star (env : Env) : ∀ items : List (Nat × Str × Pos), (assignEach (tgNames items) env).findIdx? (·.1) = none
  | [] => rfl
  | (i, x, p) :: r => by
    show ((false, _) :: assignEach (tgNames r) env).findIdx? _ = _
    rw [List.findIdx?_cons]
    simp [names_star env r]
theorem tgs_ok {vs : List Nat} {bs : Option Scope} (hK : X.K = G.K) (hN : X.N = S.N) (nd : X.N.Nodup) (hsc : X.env.scope = sc) (hw : G.own = S.own) (hf : Sto X bs) : ∀ items : List (Nat × Str × Pos), (items.all fun p => locB S sc bs p.1 p.2.1) = true → (∀ i ∈ items.map (·.1), i ∈ vs) → PGs X (tgNames items) (tTgs G vs (items.map (·.1)))
  | [], _, _ => gs_nil hK
  | (i, x, p) :: r, h, hv => by
    rw [List.all_cons, Bool.and_eq_true] at h
    obtain ⟨h1, h2, h3, h4⟩ := loc_ok hsc hf h.1
    exact gs_cons hK nd (hN ▸ h1) h3 h4 (by rw [hw]; exact h2) (hv i (by simp)) (tgs_ok hK hN nd hsc hw hf r h.2 fun j hj => hv j (by simp at hj ⊢; exact .inr hj))
theorem tg_ok {vs : List Nat} {bs : Option Scope} (hK : X.K = G.K) (hN : X.N = S.N) (nd : X.N.Nodup) (hc : X.calm = true) (hsc : X.env.scope = sc) (hw : G.own = S.own) (hf : Sto X bs) : ∀ tg : Tg, tgB S sc bs tg = true → (∀ i ∈ tg.is, i ∈ vs) → PG X tg.py (tTg G vs tg.st)
  | .nm i x p, h, hv => by
    obtain ⟨h1, h2, h3, h4⟩ := loc_ok hsc hf h
    exact g_name hK nd (hN ▸ h1) h3 h4 (by rw [hw]; exact h2) (hv i (by simp [Tg.is]))
  | .tp items k p, h, hv =>
    g_tup hK hc (tgs_ok hK hN nd hsc hw hf items h hv) (by rw [names_len]; simp) (names_star _ _)
theorem Env1.noE (V : Env1 X G L S ft sc) {scope : Scope} {s : Shared} {H : Hp} {Cc : Addr} {cl : List (Str × Addr)} {fp : List Addr} : Env1 (X.blk s H scope (compEnvC scope cl Cc X.env) fp) G.noE L S ft (relS scope sc) where
  C := ⟨V.C.K, passL, V.C.room, V.C.calm, V.C.nd, V.C.blt⟩
  N := V.N
  sc := by rw [← V.sc]; rfl
  own := V.own
  gl := V.gl
  fn := fun f x n e => ⟨(V.fn f x n e).ex⟩
theorem Env1.wO (V : Env1 X G L S ft sc) {scope : Scope} {s : Shared} {H : Hp} {Cc : Addr} {cl : List (Str × Addr)} {fp : List Addr} (O0 : Addr → Prop) : Env1 (X.blk s H scope (compEnvC scope cl Cc X.env) fp) (G.wO O0) L S ft (relS scope sc) where
  C := ⟨V.C.K, passL, V.C.room, V.C.calm, V.C.nd, V.C.blt⟩
  N := V.N
  sc := by rw [← V.sc]; rfl
  own := V.own
  gl := V.gl
  fn := fun f x n e => ⟨(V.fn f x n e).ex⟩
theorem sto_blk {scope : Scope} {s : Shared} {H : Hp} {env : Env} {fp : List Addr} : Sto (X.blk s H scope env fp) (some scope) := fun x h => by
  show (scope.names.lookup x == some .cell) = true
  rw [h]; rfl
end
theorem t_or1 {X : Cx} {G : Gc} {a : Expr} {f : DE} {pos : Pos} (ha : PT X a (tTst G (tstE f))) : PW X (.BoolOp .Or [a] pos) (tTst G (tstE f)) := pw_or1 ha
theorem addL_list {x y d : D} (h : addL x y = .ok d) : ∃ ds, d = .list ds := by
  unfold addL at h
  split at h
  · simp only [addD] at h
    split at h
    · cases h
      exact ⟨_, rfl⟩
    · cases h
  · cases h
theorem slL_list {lo hi : Option Int} {x d : D} (h : slL lo hi x = .ok d) : ∃ ds, d = .list ds := by
  unfold slL at h
  split at h
  · first | (cases h; exact ⟨_, rfl⟩) | (split at h <;> first | (cases h; exact ⟨_, rfl⟩) | cases h)
  · cases h
theorem py_len : ∀ es : Es, es.py.length = es.len
  | .nil => rfl
  | .cons e es => by
    show (e.py :: es.py).length = _
    simp [Es.len, py_len es]
mutual
theorem e_ok : ∀ (e : E) {X : Cx} {G : Gc} {L : Nat} {S : Sg} {ft : Tb} {sc : Scope}, Env1 X G L S ft sc → e.ok S sc = true → SndE X G S ft e
  | .cst c k pos, X, G, L, S, ft, sc, V, h => snd_s (by
      cases c <;> exact d_cst V.C (by first | exact pe_int | exact pe_bl | exact pe_non | exact pe_str) fun _ _ _ => rfl) rfl fun w _ => t_val w fun _ => rfl
  | .var i x pos, X, G, L, S, ft, sc, V, h => by
      obtain ⟨h1, h2, h3, h4⟩ := V.vis h
      have w : PE X (.Name x pos) (tW G (vaR i)) := d_varW V.C h1 h2 h3 h4
      exact ⟨w, fun hs => d_var V.C h1 h2 (by rw [V.own]; simpa [E.str] using hs) h3 h4, fun z => (by cases z), fun _ => t_val w fun _ => rfl⟩
  | .glo x c pos, X, G, L, S, ft, sc, V, h => by
      simp only [E.ok, Bool.and_eq_true, decide_eq_true_eq] at h
      obtain ⟨⟨h1, h2⟩, h3⟩ := h
      obtain ⟨u, e1, e2⟩ := V.gl _ h2
      refine snd_s (d_cst V.C (pe_glob (V.glob h1) e1 e2 (dbB_iff h3)) fun _ _ _ => ?_) rfl fun w _ => t_val w fun _ => rfl
      cases c <;> rfl
  | .bin op a b pos, X, G, L, S, ft, sc, V, h => by
      simp only [E.ok, Bool.and_eq_true] at h
      obtain ⟨r, h1, h2⟩ := bo_ok V.C op
      exact snd_s (d_bin V.C.K h1 h2 (e_ok a V h.1).w (e_ok b V h.2).w) rfl fun w _ => t_val w fun _ => rfl
  | .lad a b pos, X, G, L, S, ft, sc, V, h => by
      simp only [E.ok, Bool.and_eq_true] at h
      refine snd_f V.C (f_add V.C (e_ok a V h.1).w (e_ok b V h.2).w) (fun ρ d e => ?_) fun w _ => t_val w fun _ => rfl
      obtain ⟨x, _, e⟩ := bind_ok e
      obtain ⟨y, _, e⟩ := bind_ok e
      exact addL_list e
  | .neg a pos, X, G, L, S, ft, sc, V, h => by
      exact snd_s (d_neg V.C (e_ok a V h).w) rfl fun w _ => t_val w fun _ => rfl
  | .not a pos, X, G, L, S, ft, sc, V, h => by
      simp only [E.ok, Bool.and_eq_true] at h
      have ha := e_ok a V h.1
      exact snd_s (d_not V.C ha.w) rfl fun w ht => t_not V.C (ha.t h.2)
  | .cmp op a b pos, X, G, L, S, ft, sc, V, h => by
      simp only [E.ok, Bool.and_eq_true] at h
      obtain ⟨r, h1, h2⟩ := co_ok V.C op
      have ha := (e_ok a V h.1).w
      have hb := (e_ok b V h.2).w
      exact snd_s (d_cmp V.C.K h1 h2 (marks1 _ _) ha hb) rfl fun w _ => t_cmp V.C h1 h2 (marks1 _ _) ha hb
  | .chn op op' a b c pos, X, G, L, S, ft, sc, V, h => by
      simp only [E.ok, Bool.and_eq_true] at h
      obtain ⟨r, h1, h2⟩ := co_ok V.C op
      obtain ⟨r', h1', h2'⟩ := co_ok V.C op'
      have ha := (e_ok a V h.1.1).w
      have hb := (e_ok b V h.1.2).w
      have hc := (e_ok c V h.2).w
      exact snd_s (d_chain V.C h1 h1' h2 h2' (lastm2 _ _ _ _) ha hb hc) rfl fun w _ => t_chain V.C h1 h1' h2 h2' (lastm2 _ _ _ _) ha hb hc
  | .and a es pos, X, G, L, S, ft, sc, V, h => by
      simp only [E.ok, Bool.and_eq_true] at h
      obtain ⟨⟨⟨⟨⟨h1, h2⟩, h3⟩, h4⟩, h5⟩, h6⟩ := h
      have ha := e_ok a V h1
      have key := ands_ok es V h2 h5 h6 pos a ha.w (ha.s h3) (ha.t h4)
      exact snd_s key.1 rfl fun _ _ => key.2.pt
  | .or a es pos, X, G, L, S, ft, sc, V, h => by
      simp only [E.ok, Bool.and_eq_true] at h
      obtain ⟨⟨⟨⟨⟨h1, h2⟩, h3⟩, h4⟩, h5⟩, h6⟩ := h
      have ha := e_ok a V h1
      have key := ors_ok es V h2 h5 h6 pos a ha.w (ha.s h3) (ha.t h4)
      exact snd_s key.1 rfl fun _ _ => key.2.pt
  | .ite c a b pos, X, G, L, S, ft, sc, V, h => by
      simp only [E.ok, Bool.and_eq_true] at h
      obtain ⟨⟨⟨⟨⟨h1, h2⟩, h3⟩, h4⟩, h5⟩, h6⟩ := h
      exact snd_s (d_ite V.C ((e_ok c V h1).t h4) ((e_ok a V h2).s h5) ((e_ok b V h3).s h6)) rfl fun _ z => by cases z
  | .ix a i pos, X, G, L, S, ft, sc, V, h => by
      simp only [E.ok, Bool.and_eq_true] at h
      exact snd_s (d_ix V.C.K (V.C.K ▸ ix_LT) says_ix (plain1 i) (e_ok a V h.1).w (e_ok i V h.2).w) rfl fun w _ => t_val w fun _ => rfl
  | .slo a l p2 pos, X, G, L, S, ft, sc, V, h => by
      simp only [E.ok, Bool.and_eq_true] at h
      exact snd_s (d_slLo V.C.K (e_ok a V h.1).w (e_ok l V h.2).w) rfl fun w _ => t_val w fun _ => rfl
  | .shi a l p2 pos, X, G, L, S, ft, sc, V, h => by
      simp only [E.ok, Bool.and_eq_true] at h
      exact snd_s (d_slHi V.C.K (e_ok a V h.1).w (e_ok l V h.2).w) rfl fun w _ => t_val w fun _ => rfl
  | .slh a l u p2 pos, X, G, L, S, ft, sc, V, h => by
      simp only [E.ok, Bool.and_eq_true] at h
      exact snd_s (d_slLH V.C.K (e_ok a V h.1.1).w (e_ok l V h.1.2).w (e_ok u V h.2).w) rfl fun w _ => t_val w fun _ => rfl
  | .lslo a l p2 pos, X, G, L, S, ft, sc, V, h => by
      simp only [E.ok, Bool.and_eq_true] at h
      refine snd_f V.C (f_slLo V.C (e_ok a V h.1).w (e_ok l V h.2).w) (fun ρ d e => ?_) fun w _ => t_val w fun _ => rfl
      obtain ⟨x, _, e⟩ := bind_ok e
      obtain ⟨y, _, e⟩ := bind_ok e
      obtain ⟨i, _, e⟩ := bind_ok e
      exact slL_list e
  | .lshi a l p2 pos, X, G, L, S, ft, sc, V, h => by
      simp only [E.ok, Bool.and_eq_true] at h
      refine snd_f V.C (f_slHi V.C (e_ok a V h.1).w (e_ok l V h.2).w) (fun ρ d e => ?_) fun w _ => t_val w fun _ => rfl
      obtain ⟨x, _, e⟩ := bind_ok e
      obtain ⟨y, _, e⟩ := bind_ok e
      obtain ⟨i, _, e⟩ := bind_ok e
      exact slL_list e
  | .tup es k pos, X, G, L, S, ft, sc, V, h => by
      simp only [E.ok, Bool.and_eq_true, decide_eq_true_eq] at h
      exact snd_s (d_tup V.C (fun ρ ds e => by rw [es_len es ρ ds e]; unfold big; omega) ((es_ok es V h.1.1).s h.1.2)) rfl fun w _ => t_val w fun _ => rfl
  | .lst es pos, X, G, L, S, ft, sc, V, h => by
      simp only [E.ok, Bool.and_eq_true, decide_eq_true_eq] at h
      refine snd_f V.C (d_lst V.C (fun ρ ds e => by rw [es_len es ρ ds e]; unfold big; omega) ((es_ok es V h.1.1).s h.1.2)) (fun ρ d e => ?_) fun w _ => t_val w fun _ => rfl
      obtain ⟨x, _, e⟩ := bind_ok e
      cases e
      exact ⟨_, rfl⟩
  | .call f x p e es pos, X, G, L, S, ft, sc, V, h => by
      simp only [E.ok, Bool.and_eq_true, decide_eq_true_eq] at h
      obtain ⟨⟨⟨⟨⟨⟨h1, h2⟩, h3⟩, h4⟩, h5⟩, h6⟩, h7⟩ := h
      exact snd_s (d_call V.C (V.fn f x _ h7) (V.glob h5) (by rw [List.length_cons, py_len]) (dbB_iff h6) (a_cons V.C ((e_ok e V h1).s h3) ((es_ok es V h2).s h4) (star1 _ _ _)) (fun ρ ds e' => es_len (.cons e es) ρ ds e') (star1 _ _ _) (star_no _ _ _)) rfl fun w _ => t_val w fun _ => rfl
  | .srts a p p2 q pos, X, G, L, S, ft, sc, V, h => by
      simp only [E.ok, Bool.and_eq_true] at h
      obtain ⟨⟨h1, h2⟩, h3⟩ := h
      obtain ⟨g1, g2⟩ := V.blt h2
      obtain ⟨g3, g4⟩ := V.blt h3
      exact snd_s (d_srtset V.C g1 (V.C.blt _ g2) g3 (V.C.blt _ g4) (e_ok a V h1).w (star1 a [] _)) rfl fun w _ => t_val w fun _ => rfl
  | .rep es p1 b pos, X, G, L, S, ft, sc, V, h => by
      simp only [E.ok, Bool.and_eq_true, decide_eq_true_eq] at h
      refine snd_f V.C (f_rep V.C ((es_ok es V h.1.1.1).s h.1.1.2) (fun ρ ds e => by rw [es_len es ρ ds e]; exact h.1.2) (e_ok b V h.2).w) (fun ρ d e => ?_) fun w _ => t_val w fun _ => rfl
      obtain ⟨x, _, e⟩ := bind_ok e
      obtain ⟨y, _, e⟩ := bind_ok e
      obtain ⟨i, _, e⟩ := bind_ok e
      exact repL_list e
  | .ccall js p1 b p2 e es pos, X, G, L, S, ft, sc, V, h => by
      simp only [E.ok, Bool.and_eq_true, decide_eq_true_eq, List.all_eq_true] at h
      obtain ⟨⟨⟨⟨⟨⟨h1, h2⟩, h3⟩, h4⟩, h5⟩, h6⟩, h7⟩ := h
      exact snd_s (d_ccall V.C (fun p hp => ⟨V.fn p.1 p.2.1 _ (h7 p hp).1.1, V.glob (h7 p hp).1.2, dbB_iff (h7 p hp).2⟩) h6 (e_ok b V h1).w (plain1 b) (by rw [List.length_cons, py_len]) (a_cons V.C ((e_ok e V h2).s h4) ((es_ok es V h3).s h5) (star1 _ _ _)) (fun ρ ds e' => es_len (.cons e es) ρ ds e') (star1 _ _ _) (star_no _ _ _)) rfl fun w _ => t_val w fun _ => rfl
  | .prim q p e es pos, X, G, L, S, ft, sc, V, h => by
      simp only [E.ok, Bool.and_eq_true] at h
      obtain ⟨⟨h1, h2⟩, h3⟩ := h
      obtain ⟨g1, g2⟩ := V.blt h3
      have ha := a_consW V.C (e_ok e V h1).w (es_ok es V h2).w (star1 _ _ _)
      have hq : PE X (.Call (.Name q.nm p) (e.py :: es.py) [] pos) (tS G (appE q.F (consArg (e.den ft) (es.den ft)))) := by
        cases q
        · exact d_blt V.C (V.C.K ▸ call_len) says_len g1 g2 (by decide +kernel) (by decide +kernel) (by decide +kernel) ha (star1 _ _ _) (star_no _ _ es)
        · exact d_blt V.C (V.C.K ▸ cr_all V.C.calm) says_all g1 g2 (by decide +kernel) (by decide +kernel) (by decide +kernel) ha (star1 _ _ _) (star_no _ _ es)
        · exact d_blt V.C (V.C.K ▸ cr_any V.C.calm) says_any g1 g2 (by decide +kernel) (by decide +kernel) (by decide +kernel) ha (star1 _ _ _) (star_no _ _ es)
        · exact d_blt V.C (V.C.K ▸ cr_maxA V.C.calm) says_max g1 g2 (by decide +kernel) (by decide +kernel) (by decide +kernel) ha (star1 _ _ _) (star_no _ _ es)
        · exact d_blt V.C (V.C.K ▸ cr_minA V.C.calm) says_min g1 g2 (by decide +kernel) (by decide +kernel) (by decide +kernel) ha (star1 _ _ _) (star_no _ _ es)
        · exact d_bty V.C (V.C.K ▸ call_tuple_of) says_tuple g1 g2 (by decide +kernel) (by decide +kernel) (by decide +kernel) ha (star1 _ _ _) (star_no _ _ es)
        · exact d_bty V.C (V.C.K ▸ call_list_of) says_list g1 g2 (by decide +kernel) (by decide +kernel) (by decide +kernel) ha (star1 _ _ _) (star_no _ _ es)
        · exact d_blt V.C (V.C.K ▸ cr_sorted) says_sorted g1 g2 (by decide +kernel) (by decide +kernel) (by decide +kernel) ha (star1 _ _ _) (star_no _ _ es)
      exact snd_s hq rfl fun w _ => t_val w fun _ => rfl
  | .isi T a p1 p2 pos, X, G, L, S, ft, sc, V, h => by
      simp only [E.ok, Bool.and_eq_true] at h
      obtain ⟨⟨h1, h2⟩, h3⟩ := h
      obtain ⟨g1, g2⟩ := V.blt h2
      obtain ⟨g3, g4⟩ := V.blt h3
      have hq : PE X (.Call (.Name "isinstance" p1) [a.py, .Name (Str.ofString T.nm) p2] [] pos) (tS G (isiE T (a.den ft))) :=
        d_isi V.C (e_ok a V h1).w g1 g2 g3 g4 (by cases T <;> decide +kernel) (by cases T <;> decide +kernel) (by cases T <;> decide +kernel) (star1 a _ _)
      exact snd_s hq rfl fun w _ => t_val w fun _ => rfl
  | .lrng1 a p p1 p2 pos, X, G, L, S, ft, sc, V, h => by
      simp only [E.ok, Bool.and_eq_true] at h
      obtain ⟨⟨h1, h2⟩, h3⟩ := h
      obtain ⟨g1, g2⟩ := V.blt h2
      obtain ⟨g3, g4⟩ := V.blt h3
      refine snd_f V.C (d_lrng1 V.C V.C.calm g1 g2 g3 g4 (e_ok a V h1).w (star1 a _ _) rfl) (fun ρ d e => ?_) fun w _ => t_val w fun _ => rfl
      obtain ⟨x, _, e⟩ := bind_ok e
      cases e
      exact ⟨_, rfl⟩
  | .trng1 a p p1 p2 pos, X, G, L, S, ft, sc, V, h => by
      simp only [E.ok, Bool.and_eq_true] at h
      obtain ⟨⟨h1, h2⟩, h3⟩ := h
      obtain ⟨g1, g2⟩ := V.blt h2
      obtain ⟨g3, g4⟩ := V.blt h3
      exact snd_s (d_trng1 V.C V.C.calm g1 g2 g3 g4 (e_ok a V h1).w (star1 a _ _) rfl) rfl fun w _ => t_val w fun _ => rfl
  | .lrng2 a b p p1 p2 pos, X, G, L, S, ft, sc, V, h => by
      simp only [E.ok, Bool.and_eq_true] at h
      obtain ⟨⟨⟨h1, h1'⟩, h2⟩, h3⟩ := h
      obtain ⟨g1, g2⟩ := V.blt h2
      obtain ⟨g3, g4⟩ := V.blt h3
      refine snd_f V.C (d_lrng2 V.C V.C.calm g1 g2 g3 g4 (e_ok a V h1).w (e_ok b V h1').w (star1 a _ _) (star1 b _ _) rfl) (fun ρ d e => ?_) fun w _ => t_val w fun _ => rfl
      obtain ⟨x, _, e⟩ := bind_ok e
      cases e
      exact ⟨_, rfl⟩
  | .comp elt tg it ifs scope own pos, X, G, L, S, ft, sc, V, h => by
      simp only [E.ok, Bool.and_eq_true, decide_eq_true_eq] at h
      obtain ⟨⟨⟨⟨⟨⟨⟨⟨h0, h1⟩, h2⟩, h3⟩, h4⟩, h5⟩, h6⟩, h7⟩, h8⟩ := h
      refine snd_f V.C (d_comp V.C ((i_ok it V h1).w _ h0) (by rw [V.N, V.sc]; exact blkOk_by h2) (fun s H Cc cl fp => let V' := V.noE (scope := scope) (s := s) (H := H) (Cc := Cc) (cl := cl) (fp := fp); tg_ok V'.C.K V'.N V'.C.nd V'.C.calm V'.sc V'.own sto_blk tg h3 h4) (fun s H Cc cl fp => ?_) (fun s H Cc cl fp => (e_ok elt V.noE h7).s h8) (fold1 it _)) (fun ρ d e => compE_list ρ d e) fun w _ => t_val w fun _ => rfl
      cases ifs with
      | nil => exact p_nil V.C.K
      | cons e1 r =>
        cases r with
        | nil =>
          simp only [Es.ok, Bool.and_true] at h5
          exact p_one ((e_ok e1 V.noE h5).t h6)
        | cons e2 r => cases h6
  | .comp2 elt tg it tg1 it1 ifs scope own pos, X, G, L, S, ft, sc, V, h => by
      simp only [E.ok, Bool.and_eq_true, decide_eq_true_eq] at h
      obtain ⟨⟨⟨⟨⟨⟨⟨⟨⟨⟨⟨⟨⟨h0, h01⟩, h1⟩, h2⟩, h3⟩, h4⟩, g1⟩, g2⟩, g3⟩, g4⟩, h5⟩, h6⟩, h7⟩, h8⟩ := h
      refine snd_f V.C (d_comp2 V.C ((i_ok it V h1).w _ h0) (by rw [V.N, V.sc]; exact blkOk_by h2) g4
        (fun O0 s H Cc cl fp => let V' := V.wO O0 (scope := scope) (s := s) (H := H) (Cc := Cc) (cl := cl) (fp := fp); tg_ok V'.C.K V'.N V'.C.nd V'.C.calm V'.sc V'.own sto_blk tg h3 h4)
        (fun O0 s H Cc cl fp => (i_ok it1 (V.wO O0) g1).s g2 _ h01)
        (fun O0 s H Cc cl fp => let V' := V.wO O0 (scope := scope) (s := s) (H := H) (Cc := Cc) (cl := cl) (fp := fp); tg_ok V'.C.K V'.N V'.C.nd V'.C.calm V'.sc V'.own sto_blk tg1 g3 fun i hi => hi)
        (fun O0 s H Cc cl fp => ?_) (fun O0 s H Cc cl fp => (e_ok elt (V.wO O0) h7).s h8) (fold1 it _) (fun env => fold1 it1 env)) (fun ρ d e => compE2_list ρ d e) fun w _ => t_val w fun _ => rfl
      cases ifs with
      | nil => exact p_nil V.C.K
      | cons e1 r =>
        cases r with
        | nil =>
          simp only [Es.ok, Bool.and_true] at h5
          exact p_one ((e_ok e1 (V.wO O0) h5).t h6)
        | cons e2 r => cases h6
theorem ands_ok : ∀ (es : Es) {X : Cx} {G : Gc} {L : Nat} {S : Sg} {ft : Tb} {sc : Scope}, Env1 X G L S ft sc → es.ok S sc = true → es.strs S = true → es.tsts = true → ∀ (pos : Pos) (a : E), PE X a.py (tW G (a.den ft)) → PE X a.py (tS G (a.den ft)) → PT X a.py (tTst G (tstE (a.den ft))) →
    PE X (.BoolOp .And (a.py :: es.py) pos) (tS G (es.andD ft (a.den ft))) ∧ PW X (.BoolOp .And (a.py :: es.py) pos) (tTst G (tstE (es.andD ft (a.den ft))))
  | .nil, X, G, L, S, ft, sc, V, _, _, _, pos, a, hw, hs, ht => ⟨d_one hs, t_and1 ht⟩
  | .cons e es, X, G, L, S, ft, sc, V, h, h2, h3, pos, a, hw, hs, ht => by
      simp only [Es.ok, Es.strs, Es.tsts, Bool.and_eq_true] at h h2 h3
      have he := e_ok e V h.1
      have key := ands_ok es V h.2 h2.2 h3.2 pos e he.w (he.s h2.1) (he.t h3.1)
      exact ⟨d_and V.C hw key.1, t_and V.C ht key.2⟩
theorem ors_ok : ∀ (es : Es) {X : Cx} {G : Gc} {L : Nat} {S : Sg} {ft : Tb} {sc : Scope}, Env1 X G L S ft sc → es.ok S sc = true → es.strs S = true → es.tsts = true → ∀ (pos : Pos) (a : E), PE X a.py (tW G (a.den ft)) → PE X a.py (tS G (a.den ft)) → PT X a.py (tTst G (tstE (a.den ft))) →
    PE X (.BoolOp .Or (a.py :: es.py) pos) (tS G (es.orD ft (a.den ft))) ∧ PW X (.BoolOp .Or (a.py :: es.py) pos) (tTst G (tstE (es.orD ft (a.den ft))))
  | .nil, X, G, L, S, ft, sc, V, _, _, _, pos, a, hw, hs, ht => ⟨d_one hs, t_or1 ht⟩
  | .cons e es, X, G, L, S, ft, sc, V, h, h2, h3, pos, a, hw, hs, ht => by
      simp only [Es.ok, Es.strs, Es.tsts, Bool.and_eq_true] at h h2 h3
      have he := e_ok e V h.1
      have key := ors_ok es V h.2 h2.2 h3.2 pos e he.w (he.s h2.1) (he.t h3.1)
      exact ⟨d_or V.C hw key.1, t_or V.C ht key.2⟩
theorem es_ok : ∀ (es : Es) {X : Cx} {G : Gc} {L : Nat} {S : Sg} {ft : Tb} {sc : Scope}, Env1 X G L S ft sc → es.ok S sc = true → SndEs X G S ft es
  | .nil, X, G, L, S, ft, sc, V, h => ⟨a_nilW V.C, fun _ => a_nil V.C⟩
  | .cons e es, X, G, L, S, ft, sc, V, h => by
      simp only [Es.ok, Bool.and_eq_true] at h
      refine ⟨a_consW V.C (e_ok e V h.1).w (es_ok es V h.2).w (star1 _ _ _), fun hs => ?_⟩
      simp only [Es.strs, Bool.and_eq_true] at hs
      exact a_cons V.C ((e_ok e V h.1).s hs.1) ((es_ok es V h.2).s hs.2) (star1 _ _ _)
theorem i_ok : ∀ (it : I) {X : Cx} {G : Gc} {L : Nat} {S : Sg} {ft : Tb} {sc : Scope}, Env1 X G L S ft sc → it.ok S sc = true → SndI X G S ft it
  | .seq e, X, G, L, S, ft, sc, V, h => ⟨fun tg _ => i_seqW V.C (e_ok e V h).w, fun hs tg _ => i_seqS V.C ((e_ok e V h).s hs)⟩
  | .rng1 a p pos, X, G, L, S, ft, sc, V, h => by
      simp only [I.ok, Bool.and_eq_true] at h
      obtain ⟨h1, h2⟩ := V.blt h.2
      have key : ∀ wk (tg : Tg), PI X tg.py (I.rng1 a p pos).py (tIt G wk ((I.rng1 a p pos).den ft)) := fun wk tg => i_rng1 V.C h1 (V.C.blt _ h2) (a_consW V.C (e_ok a V h.1).w (a_nilW V.C) (star1 a Es.nil.py _)) (star1 a Es.nil.py _)
      exact ⟨fun tg _ => key _ tg, fun _ tg _ => key _ tg⟩
  | .rng2 a b p pos, X, G, L, S, ft, sc, V, h => by
      simp only [I.ok, Bool.and_eq_true] at h
      obtain ⟨h1, h2⟩ := V.blt h.2
      have sb := star1 b Es.nil.py X.env
      have sa : starEach [a.py, b.py] X.env = [(false, eval a.py X.env), (false, eval b.py X.env)] := (star1 a (Es.cons b .nil).py _).trans (by exact congrArg (_ :: ·) sb)
      have key : ∀ wk (tg : Tg), PI X tg.py (I.rng2 a b p pos).py (tIt G wk ((I.rng2 a b p pos).den ft)) := fun wk tg => i_rng2 V.C h1 (V.C.blt _ h2) (a_consW V.C (e_ok a V h.1.1).w (a_consW V.C (e_ok b V h.1.2).w (a_nilW V.C) sb) (star1 a (Es.cons b .nil).py _)) sa sb
      exact ⟨fun tg _ => key _ tg, fun _ tg _ => key _ tg⟩
  | .enu a p pos, X, G, L, S, ft, sc, V, h => by
      simp only [I.ok, Bool.and_eq_true] at h
      obtain ⟨h1, h2⟩ := V.blt h.1.2
      have key : ∀ (tg : Tg), (I.enu a p pos).tgB tg = true → PI X tg.py (I.enu a p pos).py (tIt G false ((I.enu a p pos).den ft)) := fun tg ht => by
        cases tg with
        | nm => cases ht
        | tp items k pos => exact i_enumS V.C h1 h2 ((e_ok a V h.1.1).s h.2) (star1 a Es.nil.py _)
      exact ⟨fun tg ht => i_less (key tg ht), fun _ tg ht => key tg ht⟩
  | .zip a b p pos, X, G, L, S, ft, sc, V, h => by
      simp only [I.ok, Bool.and_eq_true] at h
      obtain ⟨⟨⟨⟨h1, h2⟩, h3⟩, h4⟩, h5⟩ := h
      obtain ⟨g1, g2⟩ := V.blt h5
      have key : ∀ (tg : Tg), (I.zip a b p pos).tgB tg = true → PI X tg.py (I.zip a b p pos).py (tIt G false ((I.zip a b p pos).den ft)) := fun tg ht => by
        cases tg with
        | nm => cases ht
        | tp items k pos => exact i_zipS V.C g1 (V.C.blt _ g2) (a_cons V.C ((e_ok a V h1).s h3) (a_cons V.C ((e_ok b V h2).s h4) (a_nil V.C) (star1 b [] _)) (star1 a [b.py] _)) (star1 a [b.py] _) (star_no _ _ (.cons b .nil))
      exact ⟨fun tg ht => i_less (key tg ht), fun _ tg ht => key tg ht⟩
end
end Den
namespace Den
open PySem PySem.Spec PyProof.Rows L2
def bkd (sc : Scope) : ScopeKind := if sc.kind.isAnnotationScope then .function else sc.kind
def swP (sc : Scope) (ts vs : List Expr) : Option (Option (List Str)) :=
  if (!(ts.length == 2 || ts.length == 3) || vs.length != ts.length || bkd sc != .function) = true then some none
  else if (vs.any fun | .Starred .. => true | _ => false) = true then some none
  else
  let line := (ts.head?.map (·.pos.line)).getD 0
  let names := ts.filterMap fun
    | .Name id pos => if sc.names.lookup id == some .local && pos.line == line then some id else none
    | _ => none
  if (names.length != ts.length || names.eraseDups.length != names.length) = true then some none
  else if vs.all (foldedForSure 8) = true then some none
  else if vs.all (constantsAlone 8) = true then none
  else some (some names)
theorem swP_ok {env : Env} {ts vs : List Expr} {k k2 : Nat} {p p2 : Pos} {r : Option (List Str)} (h : swP env.scope ts vs = some r) : swappedStores [.Tuple ts k p] (.Tuple vs k2 p2) env = pure r := by
  unfold swP at h
  unfold swappedStores
  dsimp only
  have e1 : env.blockKind = bkd env.scope := rfl
  have e2 : ∀ x, env.kindOf x = env.scope.names.lookup x := fun _ => rfl
  simp only [e1, e2]
  split at h
  · rename_i h1; refine Eq.trans (if_pos h1) ?_; cases h; rfl
  · rename_i h1; refine Eq.trans (if_neg h1) ?_
    split at h
    · rename_i h2; refine Eq.trans (if_pos h2) ?_; cases h; rfl
    · rename_i h2; refine Eq.trans (if_neg h2) ?_
      dsimp only at h
      split at h
      · rename_i h3; refine Eq.trans (if_pos h3) ?_; cases h; rfl
      · rename_i h3; refine Eq.trans (if_neg h3) ?_
        split at h
        · rename_i h4; refine Eq.trans (if_pos h4) ?_; cases h; rfl
        · rename_i h4; refine Eq.trans (if_neg h4) ?_
          split at h
          · cases h
          · rename_i h5; refine Eq.trans (if_neg h5) ?_; cases h; rfl
def scpE : E → Option Scope
  | .comp _ _ _ _ s _ _ => some s
  | .comp2 _ _ _ _ _ _ s _ _ => some s
  | _ => none
def swW (sc : Scope) (t : Str) (pos : Pos) (e : E) : Bool := match scpE e with
  | none => false
  | some s => bkd sc == .function && sc.names.lookup t == some .local && pos.line == e.py.pos.line && !(s.names.any fun (n, k) => n == t && (k == .local || k == .cell))
theorem swW_ok {env : Env} {t : Str} {pos : Pos} {line : Nat} : ∀ e : E, swapsWith e.py (some (.Name t pos)) line env = pure (swW env.scope t pos e) := fun e => by
  cases e <;> rfl
theorem swT_ok {env : Env} {ts : List Expr} {k : Nat} {p : Pos} {line : Nat} (e : E) : swapsWithSole [.Tuple ts k p] e.py line env = pure false := by
  cases e <;> rfl
theorem swN_ok {env : Env} {line : Nat} (e : E) (h : scpE e = none) : swapsWith e.py none line env = pure false := by
  cases e <;> first | rfl | cases h
def tupB : E → Bool | .tup .. => true | _ => false
theorem swS_ok {env : Env} {ts : List Expr} {k : Nat} {p : Pos} (e : E) (h : tupB e = false) : swappedStores [.Tuple ts k p] e.py env = pure none := by
  cases e <;> first | rfl | cases h
mutual
inductive S where
  | ret (e : E) (pos : Pos)
  | retO (i : Nat) (x : Str) (p pos : Pos)
  | retN (pos : Pos)
  | iff (c : E) (A B : Ss) (pos : Pos)
  | expr (e : E) (pos : Pos)
  | set (i : Nat) (x : Str) (px : Pos) (e : E) (pos : Pos)
  | mov (i : Nat) (x : Str) (px : Pos) (j : Nat) (y : Str) (py pos : Pos)
  | asg (items : List (Nat × Str × Pos)) (k : Nat) (pt : Pos) (e : E) (pos : Pos)
  | par (items : List (Nat × Str × Pos)) (k : Nat) (pt : Pos) (es : Es) (k2 : Nat) (pt2 pos : Pos)
  | app (i : Nat) (x : Str) (px apos cpos : Pos) (e : E) (pos : Pos)
  | ext (i : Nat) (x : Str) (px apos cpos : Pos) (e : E) (pos : Pos)
  | brk (pos : Pos)
  | cnt (pos : Pos)
  | pas (pos : Pos)
  | for (tg : Tg) (it : I) (A : Ss) (pos : Pos)
  | whl (n : Nat) (c : E) (A : Ss) (pos : Pos)
  | tryI (A : Ss) (i : Nat) (n : Str) (xs : List (Str × Isp)) (np lp ap : Pos) (jk : Nat) (cp2 cp rp hpos pos : Pos)
  | rse (c : Nat) (x : Str) (p : Pos) (m : Str) (k : Nat) (p2 pos pos' : Pos)
inductive Ss where
  | nil
  | cons (s : S) (ss : Ss)
end
mutual
def S.py : S → Stmt
  | .ret e pos => .Return (some e.py) pos
  | .retO _ x p pos => .Return (some (.Name x p)) pos
  | .retN pos => .Return none pos
  | .iff c A B pos => .If c.py A.py B.py pos
  | .expr e pos => .Expr e.py pos
  | .set _ x px e pos => .Assign [.Name x px] e.py pos
  | .mov _ x px _ y py pos => .Assign [.Name x px] (.Name y py) pos
  | .asg items k pt e pos => .Assign [.Tuple (tgNames items) k pt] e.py pos
  | .par items k pt es k2 pt2 pos => .Assign [.Tuple (tgNames items) k pt] (.Tuple es.py k2 pt2) pos
  | .app _ x px apos cpos e pos => .Expr (.Call (.Attribute (.Name x px) "append" apos) [e.py] [] cpos) pos
  | .ext _ x px apos cpos e pos => .Expr (.Call (.Attribute (.Name x px) "extend" apos) [e.py] [] cpos) pos
  | .brk pos => .Break pos
  | .cnt pos => .Continue pos
  | .pas pos => .Pass pos
  | .for tg it A pos => .For tg.py it.py A.py [] pos
  | .whl _ c A pos => .While c.py A.py [] pos
  | .tryI A _ n xs np lp ap jk cp2 cp rp hpos pos => .Try A.py [.ExceptHandler (some (.Name "PanelError" np)) (some n) [.Return (some (.Call (.Attribute (.List (issE n xs) lp) "index" ap) [.Constant (.bool true) jk cp2] [] cp)) rp] hpos] [] [] pos
  | .rse _ x p m k p2 pos pos' => .Raise (some (.Call (.Name x p) [.Constant (.str m) k p2] [] pos)) none pos'
def Ss.py : Ss → List Stmt
  | .nil => []
  | .cons s ss => s.py :: ss.py
end
mutual
def S.den (ft : Tb) : S → DS
  | .ret e _ => retS (e.den ft)
  | .retO i _ _ _ => retS (vaR i)
  | .retN _ => retN
  | .iff c A B _ => iteS (c.den ft) (A.den ft) (B.den ft)
  | .expr e _ => exprS (e.den ft)
  | .set i _ _ e _ => asgS [i] (consArg (e.den ft) noArg)
  | .mov i _ _ j _ _ _ => movS i j
  | .asg items _ _ e _ => asgT (setT (items.map (·.1))) (e.den ft)
  | .par items _ _ es _ _ _ => asgS (items.map (·.1)) (es.den ft)
  | .app i _ _ _ _ e _ => appS i (e.den ft)
  | .ext i _ _ _ _ e _ => extS i (e.den ft)
  | .brk _ => bkS
  | .cnt _ => ctS
  | .pas _ => nxS
  | .for tg it A _ => forS (it.den ft) tg.st (A.den ft)
  | .whl n c A _ => whlL (c.den ft) (A.den ft) n
  | .tryI A _ _ xs _ _ _ _ _ _ _ _ _ => tryD xs.length (A.den ft)
  | .rse c _ _ _ _ _ _ _ => rsS c
def Ss.den (ft : Tb) : Ss → DS
  | .nil => nxS
  | .cons s ss => seqS (s.den ft) (ss.den ft)
end
def stoB (S : Sg) (sc : Scope) (i : Nat) (x : Str) : Bool := decide (S.N[i]? = some x) && (match sc.names.lookup x with
  | some .local => true
  | some .cell => true
  | _ => false)
def mixB (S : Sg) : List Bool → Es → Bool
  | [], .nil => true
  | b :: fl, .cons e es => (if b then e.fr else e.str S) && mixB S fl es
  | _, _ => false
def parB (S : Sg) (sc : Scope) (items : List (Nat × Str × Pos)) (es : Es) : Bool :=
  match items with
  | [a, b] => (match es with
    | .cons _ (.cons _ .nil) => decide (a.1 ≠ b.1) && decide (sc.names.lookup a.2.1 = some .local) && decide (sc.names.lookup b.2.1 = some .local) && decide (swP sc (tgNames items) es.py = some (some [a.2.1, b.2.1]))
    | _ => false)
  | [a, b, c] => (match es with
    | .cons _ (.cons _ (.cons _ .nil)) => decide (a.1 ≠ b.1) && decide (a.1 ≠ c.1) && decide (b.1 ≠ c.1) && decide (sc.names.lookup a.2.1 = some .local) && decide (sc.names.lookup b.2.1 = some .local) && decide (sc.names.lookup c.2.1 = some .local)
      && !S.own a.1 && !S.own b.1 && !S.own c.1 && decide (swP sc (tgNames items) es.py = some (some [a.2.1, b.2.1, c.2.1]))
    | _ => false)
  | _ => false
mutual
def S.ok (S : Sg) (ex : List Str) (sc : Scope) : Den.S → Bool
  | .ret e _ => e.ok S sc && e.str S
  | .retO i x _ _ => varB S sc i x
  | .retN _ => true
  | .iff c A B _ => c.ok S sc && c.tstB && A.ok S ex sc && B.ok S ex sc
  | .expr e _ => e.ok S sc && e.str S && (scpE e).isNone
  | .set i x px e _ => stoB S sc i x && e.ok S sc && (if S.own i then e.fr else e.str S)
  | .mov i x _ j y _ _ => locB S sc none i x && varB S sc j y && S.own j
  | .asg items _ _ e _ => e.ok S sc && e.str S && !tupB e && tgB S sc none (.tp items 0 default)
  | .par items _ _ es _ _ _ => es.ok S sc && mixB S (items.map fun p => S.own p.1) es && (items.all fun p => stoB S sc p.1 p.2.1) && decide (items.length ≤ 100) && (parB S sc items es || decide (swP sc (tgNames items) es.py = some none))
  | .app i x _ apos cpos e _ => varB S sc i x && S.own i && e.ok S sc && e.str S && (apos.endLine == cpos.line)
  | .ext i x _ apos cpos e _ => varB S sc i x && S.own i && e.ok S sc && e.fr && (apos.endLine == cpos.line)
  | .brk _ => true
  | .cnt _ => true
  | .pas _ => true
  | .for tg it A _ => it.tgB tg && it.ok S sc && it.strI S && tgB S sc none tg && A.ok S ex sc
  | .whl _ c A _ => c.ok S sc && c.tstB && A.ok S ex sc
  | .tryI A i n xs _ _ ap _ _ cp _ _ _ => A.ok S ex sc && decide (S.N[i]? = some n) && decide (sc.names.lookup n = some .local) && dbB n && blB S sc "isinstance" && glB sc "PanelError" && decide (xs.map (·.1) = ex) && (ex.all fun x => glB sc x && dbB x) && decide (xs.length ≤ 100) && (ap.endLine == cp.line)
  | .rse c x _ _ _ _ _ _ => glB sc x && dbB x && decide (ex[c]? = some x)
def Ss.ok (S : Sg) (ex : List Str) (sc : Scope) : Ss → Bool
  | .nil => true
  | .cons s ss => s.ok S ex sc && ss.ok S ex sc
end
end Den
namespace Den
open PySem PySem.Spec PyProof.Rows L2
structure Env2 (X : Cx) (G : Gc) (L : Nat) (S : Sg) (ex : List Str) (ft : Tb) (sc : Scope) : Prop extends Env1 X G L S ft sc where
  SC : SCtx X G L S.bl
  tk : Takes X (fun cls d _ H => G.E cls d H)
  tm : TryM X.K X.mg G.cl ex
  ex : ∀ c x, ex[c]? = some x → ExC X G.cl c x
  st : X.stack = X.env :: X.outer
  fr : X.env.frame = some X.env.locals
section
variable {X : Cx} {G : Gc} {L : Nat} {S : Sg} {ex : List Str} {ft : Tb} {sc : Scope}
theorem sto_ok (V : Env1 X G L S ft sc) {i : Nat} {x : Str} (h : stoB S sc i x = true) : X.N[i]? = some x ∧ Loc X.env.scope x := by
  unfold stoB at h
  simp only [Bool.and_eq_true, decide_eq_true_eq] at h
  refine ⟨by rw [V.N]; exact h.1, ?_⟩
  rw [V.sc]
  have h2 := h.2
  split at h2 <;> first | exact .inl (by assumption) | exact .inr (by assumption) | cases h2
theorem mix_ok (V : Env1 X G L S ft sc) : ∀ (fl : List Bool) (es : Es), es.ok S sc = true → mixB S fl es = true → PA X es.py (tMix G fl (es.den ft))
  | [], .nil, _, _ => m_nil V.C
  | b :: fl, .cons e es, h, h2 => by
    simp only [Es.ok, Bool.and_eq_true] at h
    unfold mixB at h2
    rw [Bool.and_eq_true] at h2
    have he := e_ok e V h.1
    have hr := mix_ok V fl es h.2 h2.2
    cases b with
    | false => exact m_consS V.C (he.s h2.1) hr (star1 _ _ _)
    | true => exact m_consF V.C (he.f h2.1).1 (he.f h2.1).2 hr (star1 _ _ _)
  | [], .cons _ _, _, h2 => by cases h2
  | _ :: _, .nil, _, h2 => by cases h2
theorem gnames_ok (V : Env2 X G L S ex ft sc) : ∀ items : List (Nat × Str × Pos), (items.all fun p => stoB S sc p.1 p.2.1) = true → PGs X (tgNames items) (gNames (items.map (·.1)))
  | [], _ => gn_nil
  | (i, x, p) :: r, h => by
    rw [List.all_cons, Bool.and_eq_true] at h
    obtain ⟨h1, h2⟩ := sto_ok V.toEnv1 h.1
    exact gn_cons V.SC h1 h2 (gnames_ok V r h.2)
theorem par_ok (V : Env2 X G L S ex ft sc) {items : List (Nat × Str × Pos)} {es : Es} {k k2 : Nat} {pt pt2 pos : Pos} (h1 : es.ok S sc = true) (h2 : mixB S (items.map fun p => S.own p.1) es = true) (h3 : (items.all fun p => stoB S sc p.1 p.2.1) = true) (h4 : items.length ≤ 100)
    (h5 : parB S sc items es = true ∨ swP sc (tgNames items) es.py = some none) : PS X (.Assign [.Tuple (tgNames items) k pt] (.Tuple es.py k2 pt2) pos) (tSS G (asgS (items.map (·.1)) (es.den ft))) := by
  have ha := mix_ok V.toEnv1 _ es h1 h2
  have hsole : swapsWithSole [.Tuple (tgNames items) k pt] (.Tuple es.py k2 pt2) pos.line X.env = pure false := swT_ok (.tup es k2 pt2)
  rcases h5 with h5 | h5
  · unfold parB at h5
    split at h5
    · rename_i a b
      split at h5
      · rename_i e1 e2
        simp only [Bool.and_eq_true, decide_eq_true_eq] at h5
        obtain ⟨⟨⟨g1, g2⟩, g3⟩, g4⟩ := h5
        simp only [List.all_cons, Bool.and_eq_true] at h3
        have hl : ∀ ρ ds, (Es.cons e1 (.cons e2 .nil)).den ft ρ = .ok ds → ds.length = 2 := fun ρ ds e => es_len _ ρ ds e
        have hw : swappedStores [.Tuple (tgNames [a, b]) k pt] (.Tuple (Es.cons e1 (.cons e2 .nil)).py k2 pt2) X.env = pure (some [a.2.1, b.2.1]) := swP_ok (by rw [V.sc]; exact g4)
        have hm : [a, b].map (fun p => S.own p.1) = [a.1, b.1].map G.own := by rw [V.own]; rfl
        rw [hm] at ha
        exact s_par2 V.SC (sto_ok V.toEnv1 h3.1).1 (sto_ok V.toEnv1 h3.2.1).1 g1 (by rw [V.sc]; exact g2) (by rw [V.sc]; exact g3) ha hl hw hsole
      · cases h5
    · rename_i a b c
      split at h5
      · rename_i e1 e2 e3
        simp only [Bool.and_eq_true, decide_eq_true_eq, Bool.not_eq_true'] at h5
        obtain ⟨⟨⟨⟨⟨⟨⟨⟨⟨g1, g2⟩, g3⟩, g4⟩, g5⟩, g6⟩, g7⟩, g8⟩, g9⟩, g10⟩ := h5
        simp only [List.all_cons, Bool.and_eq_true] at h3
        have hl : ∀ ρ ds, (Es.cons e1 (.cons e2 (.cons e3 .nil))).den ft ρ = .ok ds → ds.length = 3 := fun ρ ds e => es_len _ ρ ds e
        have hw : swappedStores [.Tuple (tgNames [a, b, c]) k pt] (.Tuple (Es.cons e1 (.cons e2 (.cons e3 .nil))).py k2 pt2) X.env = pure (some [a.2.1, b.2.1, c.2.1]) := swP_ok (by rw [V.sc]; exact g10)
        have hm : [a, b, c].map (fun p => S.own p.1) = [false, false, false] := by simp [g7, g8, g9]
        have hm2 : [a.1, b.1, c.1].map G.own = [false, false, false] := by rw [V.own]; simp [g7, g8, g9]
        rw [hm] at ha
        exact s_par3 V.SC (sto_ok V.toEnv1 h3.1).1 (sto_ok V.toEnv1 h3.2.1).1 (sto_ok V.toEnv1 h3.2.2.1).1 g1 g2 g3 (by rw [V.sc]; exact g4) (by rw [V.sc]; exact g5) (by rw [V.sc]; exact g6) ha hm2 hl hw hsole
      · cases h5
    · cases h5
  · have hm : items.map (fun p => S.own p.1) = (items.map (·.1)).map G.own := by rw [V.own, List.map_map]; rfl
    rw [hm] at ha
    exact s_tup V.SC (gnames_ok V items h3) ha (by rw [List.length_map]; unfold big; omega) (by rw [names_len]; simp) (names_star _ _) hsole (swP_ok (by rw [V.sc]; exact h5)) rfl
theorem set_ok (V : Env2 X G L S ex ft sc) {i : Nat} {x : Str} {px pos : Pos} {e : E} (h1 : stoB S sc i x = true) (h2 : e.ok S sc = true) (h3 : (if S.own i = true then e.fr else e.str S) = true) : PS X (.Assign [.Name x px] e.py pos) (tSS G (asgS [i] (consArg (e.den ft) noArg))) := by
  obtain ⟨g1, g2⟩ := sto_ok V.toEnv1 h1
  have he := e_ok e V.toEnv1 h2
  have hsw := swW_ok (env := X.env) (t := x) (pos := px) (line := pos.line) e
  cases hb : swW X.env.scope x px e with
  | false =>
    rw [hb] at hsw
    cases hw : S.own i with
    | false =>
      rw [if_neg (by rw [hw]; decide)] at h3
      exact s_set V.SC g1 g2 (he.s h3) (by rw [V.own]; exact hw) hsw
    | true =>
      rw [if_pos hw] at h3
      exact s_setO V.SC g1 g2 (he.f h3).1 (by rw [V.own]; exact hw) hsw
  | true =>
    rw [hb] at hsw
    unfold swW at hb
    split at hb
    · cases hb
    · rename_i s hs
      simp only [Bool.and_eq_true] at hb
      have hloc : X.env.scope.names.lookup x = some .local := by simpa using hb.1.1.2
      cases e with
      | comp elt tg it ifs scope own pos' =>
        simp only [E.ok, Bool.and_eq_true, decide_eq_true_eq] at h2
        obtain ⟨⟨⟨⟨⟨⟨⟨⟨h0, h1⟩, h2⟩, h3⟩, h4⟩, h5⟩, h6⟩, h7⟩, h8⟩ := h2
        refine s_setLc V.SC g1 hloc hsw ((i_ok it V.toEnv1 h1).w _ h0) (by rw [V.N, V.sc]; exact blkOk_by h2) (fun s H Cc cl fp => let V' := V.toEnv1.noE (scope := scope) (s := s) (H := H) (Cc := Cc) (cl := cl) (fp := fp); tg_ok V'.C.K V'.N V'.C.nd V'.C.calm V'.sc V'.own sto_blk tg h3 h4) (fun s H Cc cl fp => ?_) (fun s H Cc cl fp => (e_ok elt V.toEnv1.noE h7).s h8) (fold1 it _) (fun ρ d e => compE_list ρ d e)
        cases ifs with
        | nil => exact p_nil V.C.K
        | cons e1 r =>
          cases r with
          | nil =>
            simp only [Es.ok, Bool.and_true] at h5
            exact p_one ((e_ok e1 V.toEnv1.noE h5).t h6)
          | cons e2 r => cases h6
      | comp2 elt tg it tg1 it1 ifs scope own pos' =>
        simp only [E.ok, Bool.and_eq_true, decide_eq_true_eq] at h2
        obtain ⟨⟨⟨⟨⟨⟨⟨⟨⟨⟨⟨⟨⟨h0, h01⟩, h1⟩, h2⟩, h3⟩, h4⟩, g1'⟩, g2'⟩, g3⟩, g4⟩, h5⟩, h6⟩, h7⟩, h8⟩ := h2
        refine s_setLc2 V.SC g1 hloc hsw ((i_ok it V.toEnv1 h1).w _ h0) (by rw [V.N, V.sc]; exact blkOk_by h2) g4
          (fun O0 s H Cc cl fp => let V' := V.toEnv1.wO O0 (scope := scope) (s := s) (H := H) (Cc := Cc) (cl := cl) (fp := fp); tg_ok V'.C.K V'.N V'.C.nd V'.C.calm V'.sc V'.own sto_blk tg h3 h4)
          (fun O0 s H Cc cl fp => (i_ok it1 (V.toEnv1.wO O0) g1').s g2' _ h01)
          (fun O0 s H Cc cl fp => let V' := V.toEnv1.wO O0 (scope := scope) (s := s) (H := H) (Cc := Cc) (cl := cl) (fp := fp); tg_ok V'.C.K V'.N V'.C.nd V'.C.calm V'.sc V'.own sto_blk tg1 g3 fun i hi => hi)
          (fun O0 s H Cc cl fp => ?_) (fun O0 s H Cc cl fp => (e_ok elt (V.toEnv1.wO O0) h7).s h8) (fold1 it _) (fun env => fold1 it1 env) (fun ρ d e => compE2_list ρ d e)
        cases ifs with
        | nil => exact p_nil V.C.K
        | cons e1 r =>
          cases r with
          | nil =>
            simp only [Es.ok, Bool.and_true] at h5
            exact p_one ((e_ok e1 (V.toEnv1.wO O0) h5).t h6)
          | cons e2 r => cases h6
      | _ => cases hs
end
mutual
theorem s_ok : ∀ (st : S) {X : Cx} {G : Gc} {L : Nat} {S : Sg} {ex : List Str} {ft : Tb} {sc : Scope}, Env2 X G L S ex ft sc → st.ok S ex sc = true → PS X st.py (tSS G (st.den ft))
  | .ret e pos, X, G, L, S, ex, ft, sc, V, h => by
      simp only [Den.S.ok, Bool.and_eq_true] at h
      exact s_ret ((e_ok e V.toEnv1 h.1).s h.2)
  | .retO i x p pos, X, G, L, S, ex, ft, sc, V, h => by
      obtain ⟨h1, h2, h3, h4⟩ := V.vis h
      exact s_retO V.C h1 h2 h3 h4
  | .retN pos, X, G, L, S, ex, ft, sc, V, h => s_retN V.C
  | .iff c A B pos, X, G, L, S, ex, ft, sc, V, h => by
      simp only [Den.S.ok, Bool.and_eq_true] at h
      exact s_if ((e_ok c V.toEnv1 h.1.1.1).t h.1.1.2) (ss_ok A V h.1.2) (ss_ok B V h.2)
  | .expr e pos, X, G, L, S, ex, ft, sc, V, h => by
      simp only [Den.S.ok, Bool.and_eq_true] at h
      exact s_expr ((e_ok e V.toEnv1 h.1.1).s h.1.2) (swN_ok e (by simpa using h.2))
  | .set i x px e pos, X, G, L, S, ex, ft, sc, V, h => by
      simp only [Den.S.ok, Bool.and_eq_true] at h
      exact set_ok V h.1.1 h.1.2 h.2
  | .mov i x px j y py pos, X, G, L, S, ex, ft, sc, V, h => by
      simp only [Den.S.ok, Bool.and_eq_true] at h
      obtain ⟨h1, h2, h3, h4⟩ := V.vis h.1.2
      obtain ⟨g1, g2, g3, g4⟩ := loc_ok (bs := none) V.sc V.SC.fn h.1.1
      exact s_mov V.SC (by rw [V.N]; exact g1) g3 h1 h2 h3 h4 (by rw [V.own]; exact g2) (by rw [V.own]; exact h.2)
  | .asg items k pt e pos, X, G, L, S, ex, ft, sc, V, h => by
      simp only [Den.S.ok, Bool.and_eq_true, Bool.not_eq_true'] at h
      have hg := tg_ok (vs := (Tg.tp items k pt).is) V.C.K V.N V.C.nd V.C.calm V.sc V.own (bs := none) V.SC.fn (.tp items k pt) h.2 fun i hi => hi
      exact s_asg V.SC ((e_ok e V.toEnv1 h.1.1.1).s h.1.1.2) hg (swT_ok e) (swS_ok e h.1.2) rfl
  | .par items k pt es k2 pt2 pos, X, G, L, S, ex, ft, sc, V, h => by
      simp only [Den.S.ok, Bool.and_eq_true, Bool.or_eq_true, decide_eq_true_eq] at h
      exact par_ok V h.1.1.1.1 h.1.1.1.2 h.1.1.2 h.1.2 h.2
  | .app i x px apos cpos e pos, X, G, L, S, ex, ft, sc, V, h => by
      simp only [Den.S.ok, Bool.and_eq_true] at h
      obtain ⟨h1, h2, h3, h4⟩ := V.vis h.1.1.1.1
      exact s_app V.SC h1 h2 h3 h4 (by rw [V.own]; exact h.1.1.1.2) ((e_ok e V.toEnv1 h.1.1.2).s h.1.2) (star1 e [] _) h.2
  | .ext i x px apos cpos e pos, X, G, L, S, ex, ft, sc, V, h => by
      simp only [Den.S.ok, Bool.and_eq_true] at h
      obtain ⟨h1, h2, h3, h4⟩ := V.vis h.1.1.1.1
      exact s_ext V.SC h1 h2 h3 h4 (by rw [V.own]; exact h.1.1.1.2) ((e_ok e V.toEnv1 h.1.1.2).f h.1.2).1 (star1 e [] _) h.2
  | .brk pos, X, G, L, S, ex, ft, sc, V, h => s_break V.C
  | .cnt pos, X, G, L, S, ex, ft, sc, V, h => s_cont V.C
  | .pas pos, X, G, L, S, ex, ft, sc, V, h => s_pass V.C
  | .for tg it A pos, X, G, L, S, ex, ft, sc, V, h => by
      simp only [Den.S.ok, Bool.and_eq_true] at h
      have hg := tg_ok (vs := tg.is) V.C.K V.N V.C.nd V.C.calm V.sc V.own (bs := none) V.SC.fn tg h.1.2 fun i hi => hi
      exact s_for V.SC ((i_ok it V.toEnv1 h.1.1.1.2).s h.1.1.2 tg h.1.1.1.1) hg (ss_ok A V h.2) (fold1 it _)
  | .whl n c A pos, X, G, L, S, ex, ft, sc, V, h => by
      simp only [Den.S.ok, Bool.and_eq_true] at h
      exact s_while V.SC n ((e_ok c V.toEnv1 h.1.1).t h.1.2) (ss_ok A V h.2)
  | .tryI A i n xs np lp ap jk cp2 cp rp hpos pos, X, G, L, S, ex, ft, sc, V, h => by
      simp only [Den.S.ok, Bool.and_eq_true, decide_eq_true_eq, List.all_eq_true] at h
      obtain ⟨⟨⟨⟨⟨⟨⟨⟨⟨h1, h2⟩, h3⟩, h4⟩, h5⟩, h6⟩, h7⟩, h8⟩, h9⟩, h10⟩ := h
      obtain ⟨g1, g2⟩ := V.blt h5
      have h4' := h4
      unfold dbB at h4'
      simp only [Bool.and_eq_true, Bool.not_eq_true'] at h4'
      have hl : xs.length = ex.length := by rw [← h7, List.length_map]
      show PS X _ (tSS G (tryD xs.length (A.den ft)))
      rw [hl]
      refine s_tryI V.SC V.st V.fr (by rw [V.N]; exact h2) (by rw [V.sc]; exact h3) h4'.1 h4'.2 g1 g2 (V.glob h6) V.tm h7 (fun x hx => ⟨V.glob (h8 x hx).1, dbB_iff (h8 x hx).2⟩) h9 h10 V.tk fun E pn xe tk po => ?_
      have C : Ctx (X.tr pn xe) { G with E := E } L S.bl := ⟨V.C.K, passes_call tk (fun _ _ _ _ h => h), V.C.room, V.C.calm, V.C.nd, V.C.blt⟩
      exact ss_ok A (X := X.tr pn xe) (G := { G with E := E }) (L := L) (S := S) (ex := ex) (ft := ft) (sc := sc)
        { C := C, N := V.N, sc := V.sc, own := V.own, gl := V.gl, fn := fun f x n e => ⟨(V.fn f x n e).ex⟩, SC := { toCtx := C, po := po, fn := V.SC.fn }, tk := tk,
          ex := fun c x e => by
            obtain ⟨Cc, e1, e2, e3, e4, e5⟩ := (V.ex c x e).ex
            exact ⟨Cc, e1, e2, e3, e4, e5⟩
          st := V.st, fr := V.fr, tm := V.tm } h1
  | .rse c x p m k p2 pos pos', X, G, L, S, ex, ft, sc, V, h => by
      simp only [Den.S.ok, Bool.and_eq_true, decide_eq_true_eq] at h
      exact s_raise V.SC V.tk (V.ex c x h.2) (V.glob h.1.1) (dbB_iff h.1.2)
theorem ss_ok : ∀ (ss : Ss) {X : Cx} {G : Gc} {L : Nat} {S : Sg} {ex : List Str} {ft : Tb} {sc : Scope}, Env2 X G L S ex ft sc → ss.ok S ex sc = true → PSs X ss.py (tSS G (ss.den ft))
  | .nil, X, G, L, S, ex, ft, sc, V, h => ss_nil V.C
  | .cons s ss, X, G, L, S, ex, ft, sc, V, h => by
      simp only [Ss.ok, Bool.and_eq_true] at h
      exact ss_cons V.C (s_ok s V h.1) (ss_ok ss V h.2)
end
end Den
namespace Den
open PySem PySem.Spec PyProof.Rows L2
def startD (k : Nat) (ds : List D) : Ro := ds.map some ++ List.replicate (k - ds.length) none
def endD (r : Rs (Fl × Ro)) : Rs D := match r with
  | .ok (.rt d, _) => .ok d
  | .ok (.nx, _) => .ok .none
  | .exc c => .exc c
  | _ => .stuck
def defD (ft : Tb) (n k : Nat) (ss : Ss) : List D → Rs D := fun ds => if ds.length = n then endD (ss.den ft (startD k ds)) else .stuck
def tbl (l : List (List D → Rs D)) : Tb := fun f ds => match l[f]? with
  | some g => g ds
  | none => .stuck
structure Mods (K : W.Frag) (mg : Str → Option Value) (cl : Nat → Value) (bl : List Str) (gl : List (Str × Cst)) (ex : List Str) : Prop where
  bl : ∀ x ∈ bl, mg x = none
  gl : ∀ p ∈ gl, ∃ u, mg p.1 = some u ∧ RelV p.2.v u
  tm : TryM K mg cl ex
  ex : ∀ c x, ex[c]? = some x → ∃ C, cl c = .ref C ∧ W.excIn K C [.type "ValueError", .type "Exception", .type "BaseException", .type "object"] "ValueError.__new__" = true ∧ mg x = some (.ref C) ∧ W.keepIn K (.ref C) = true ∧ W.subIn K (.ref C) (.type "BaseException") = some true ∧ W.typeIn K (.ref C) = some (.type "type")
def scB (N P : List Str) (sc : Scope) : Bool := decide (sc.kind = .function) && !sc.isCoroutine && !sc.isGenerator && decide N.Nodup && decide (N.take P.length = P) && (P.all fun x => decide (sc.names.lookup x = some .local) || decide (sc.names.lookup x = some .cell)) && (sc.names.all fun y => decide (y.2 ≠ .free))
theorem scB_ok {N P : List Str} {sc : Scope} (h : scB N P sc = true) : FnScope N P sc := by
  unfold scB at h
  simp only [Bool.and_eq_true, decide_eq_true_eq, Bool.not_eq_true', List.all_eq_true, Bool.or_eq_true] at h
  obtain ⟨⟨⟨⟨⟨⟨h1, h2⟩, h3⟩, h4⟩, h5⟩, h6⟩, h7⟩ := h
  exact ⟨h1, h2, h3, h4, h5, h6, h7⟩
def FnP (P : Program) (w : World) (K : W.Frag) (mg : Str → Option Value) (base : Heap) (cl : Nat → Value) (L : Nat) (x : Str) (n : Nat) (g : List D → Rs D) : Prop :=
  ∃ f fd ps, FnOk P w K mg base (L2.CX P w) L f fd ps (spD K cl n g) ∧ ps.length = n ∧ mg x = some (.ref f) ∧ W.keepIn K (.ref f) = true ∧ Binds K fd ps []
theorem FnP.mono {P : Program} {w : World} {K : W.Frag} {mg : Str → Option Value} {base : Heap} {cl : Nat → Value} {L L' : Nat} {x : Str} {n : Nat} {g : List D → Rs D} (h : FnP P w K mg base cl L x n g) (hl : L ≤ L') : FnP P w K mg base cl L' x n g := by
  obtain ⟨f, fd, ps, h1, h2⟩ := h
  exact ⟨f, fd, ps, h1.mono hl, h2⟩
section
variable {P : Program} {w : World} {K : W.Frag} {mg : Str → Option Value} {base : Heap} {cl : Nat → Value}
theorem start_rep {O0 : Addr → Prop} {H : Hp} {own : Nat → Bool} {E : XK} {k : Nat} {N : List Str} {ds : List D} {vs : List V} (ht : ∀ a, O0 a → ∃ o, H a = some o) (a : AtL K H O0 ds vs) (hk : N.length = k) (hw : ∀ i, i < ds.length → own i = false) :
    Rep ⟨K, O0, H, own, E, cl⟩ O0 (L2.start N vs) H (startD k ds) := by
  have hl := a.length
  have key : ∀ i d, (startD k ds)[i]? = some (some d) → ds[i]? = some d ∧ i < ds.length := fun i d e => by
    unfold startD at e
    by_cases hi : i < ds.length
    · rw [List.getElem?_append_left (by simpa using hi), List.getElem?_map] at e
      cases hd : ds[i]? with
      | none => rw [hd] at e; cases e
      | some d' => rw [hd] at e; cases e; exact ⟨rfl, hi⟩
    · rw [List.getElem?_append_right (by simpa using hi), List.getElem?_replicate] at e
      split at e <;> cases e
  refine ⟨Same.refl H, fun _ h => h, ht, fun a h1 h2 => absurd h1 h2, ?_, fun i d e _ => ?_, fun i d e h => ?_, fun i j d e b hij h1 h2 => ?_⟩
  · unfold L2.start startD
    simp [hl, hk]
  · obtain ⟨e1, e2⟩ := key i d e
    obtain ⟨v, e3, e4⟩ := a.get e1
    refine ⟨v, ?_, e4⟩
    unfold L2.start
    rw [List.getElem?_append_left (by simp; omega), List.getElem?_map, e3]
    rfl
  · have z : own i = true := h
    rw [hw i (key i d e).2] at z; cases z
  · intro e1 _ _ _
    have z : own i = true := h1
    rw [hw i (key i d e1).2] at z; cases z
theorem def_ok {x qual : Str} {params : Arguments} {body : List Stmt} {scope : Scope} {f : Addr} {fd : FuncData} {ps N : List Str} {L n k : Nat} {S : Sg} {ex : List Str} {ft : Tb} {ss : Ss}
    (F : FunD K x qual params body scope [] [] f fd) (sc : FnScope N ps scope) (hb : ss.py = body) (hok : ss.ok S ex scope = true) (hN : S.N = N) (hn : ps.length = n) (hk : N.length = k) (hw : ((List.range n).all fun i => !S.own i) = true)
    (M : Mods K mg cl S.bl S.gl ex) (hf : ∀ f x n, S.fn[f]? = some (x, n) → FnP P w K mg base cl L x n (ft f)) : FnOk P w K mg base (L2.CX P w) (L + 1) f fd ps (spD K cl n (defD ft n k ss)) := by
  refine F.ok sc (fun vs H Q E h => h.1.trans hn.symm) fun cdv A outer s H vs Q E hr h => ?_
  obtain ⟨hl, ds, O0, ht, a, p⟩ := h
  have hds : ds.length = n := by rw [← a.length]; exact hl
  have own0 : ∀ i, i < ds.length → S.own i = false := fun i hi => by
    have := List.all_eq_true.mp hw i (List.mem_range.mpr (by omega))
    simpa using this
  let G : Gc := ⟨K, O0, H, S.own, E, cl⟩
  refine ⟨fun Dn σ H => tSS G (ss.den ft) (endK K Dn) σ H, ?_, fun _ => ⟨O0, startD k ds, start_rep ht a hk own0, ?_⟩⟩
  · have tk : Takes (cxOf (L2.CX P w) P w K mg base N qual scope f cdv A outer s H E) (fun cls d _ H => G.E cls d H) := takes_of rfl rfl rfl rfl
    have C : Ctx (cxOf (L2.CX P w) P w K mg base N qual scope f cdv A outer s H E) G L S.bl := ⟨rfl, passes_call tk (fun _ _ _ _ h => h), hr, rfl, sc.nd, M.bl⟩
    have V : Env2 (cxOf (L2.CX P w) P w K mg base N qual scope f cdv A outer s H E) G L S ex ft scope :=
      { C := C, N := hN.symm, sc := rfl, own := rfl, gl := M.gl, fn := fun f x n e => ⟨hf f x n e⟩, SC := { toCtx := C, po := passes_of rfl, fn := fun _ => rfl }, tk := tk,
        ex := fun c x e => by
          obtain ⟨Cc, e1, e2, e3, e4, e5, e6⟩ := M.ex c x e
          exact ⟨Cc, e1, e2, e3, e4, raises_own e5 e6⟩
        st := rfl, fr := rfl, tm := M.tm }
    exact pss_impK (X := cxOf (L2.CX P w) P w K mg base N qual scope f cdv A outer s H E) (hb ▸ ss_ok ss V hok) fun Dn σ H _ h => h
  · unfold defD at p
    rw [if_pos hds] at p
    cases hr : ss.den ft (startD k ds) with
    | ok r =>
      obtain ⟨fl, ρ'⟩ := r
      rw [hr] at p
      cases fl with
      | nx => exact fun O' σ' H' s R k => p .non H' R.base k rfl
      | rt d => exact fun v H' s k a _ => p v H' s k a
      | bk => exact p.elim
      | ct => exact p.elim
    | exc c => rw [hr] at p; exact p
    | stuck => rw [hr] at p; exact p.elim
end
end Den
namespace Den
open PySem PySem.Spec PyProof.Rows L2 He
abbrev AlE : Type := AlD × Bool
def obsQ (n : Nat) (fa : List Fa) (fn : List DefD) (ex : W.Frag → Bool) (g : Addr → Option Obj) : AlE := (obsD fa fn (frG g (asD g n)), ex (frG g (asD g n)))
def hookQ (n : Nat) (fa : List Fa) (fn : List DefD) (ex : W.Frag → Bool) : W.Hook where
  α := AlE
  obs := fun s => obsQ n fa fn ex s.heap.get?
  val := fun _ => (valD fn, true)
  says := fun _ h => ∃ K : W.Frag, K.In h ∧ SaysD fa fn K ∧ ex K = true
  of := fun _ _ e => ⟨_, frG_in, congrArg (fun z : AlE => z.1) e, congrArg (fun z : AlE => z.2) e⟩
  keeps := fun _ _ _ ⟨K, hK, c⟩ k => ⟨K, W.Frag.In.keeps hK k, c⟩
theorem obsQ_eq {n : Nat} {fa : List Fa} {fn : List DefD} {ex : W.Frag → Bool} {g : Addr → Option Obj} {s : Shared} (h : ∀ a, g a = s.heap.get? a) : obsQ n fa fn ex g = (hookQ n fa fn ex).obs s := by
  have e : g = s.heap.get? := funext h
  rw [e] <;> rfl
def faG : Str × Cst → Fa
  | (x, .int i) => .int x i
  | (x, .str z) => .str x z
  | (x, _) => .glo x
def faOf (names bls : List Str) (gls : List (Str × Cst)) (exs : List Str) : List Fa := names.map .glo ++ bls.map .free ++ gls.map faG ++ exs.map .exc ++ exs.map .glo ++ [.glo "PanelError"]
def glsB (gls : List (Str × Cst)) : Bool := gls.all fun p => match p.2 with | .int _ => true | .str _ => true | _ => false
def excB (K : W.Frag) (D : Addr) : Bool :=
  decide (W.findIn K (.ref D) "__getattribute__" = some (some (.builtin "BaseException.__getattribute__"))) && decide (W.findIn K (.ref D) "__getattr__" = some none) && decide (W.subIn K (.ref D) (.type "BaseException") = some true) && W.hasDictIn K D
  && decide (W.findIn K (.ref D) "__class__" = some (some (.builtin "object.__class__"))) && decide (W.specialIn K (.builtin "object.__class__") "__get__" = some (some (.builtin "getset_descriptor.__get__"))) && decide (W.takesIn K (.builtin "object.__class__") = some true) && decide (W.mroIn K D (.type "object") = some true)
theorem excB_ok {K : W.Frag} {D : Addr} (h : excB K D = true) : ExcC K D := by
  unfold excB at h
  simp only [Bool.and_eq_true, decide_eq_true_eq] at h
  obtain ⟨⟨⟨⟨⟨⟨⟨h1, h2⟩, h3⟩, h4⟩, h5⟩, h6⟩, h7⟩, h8⟩ := h
  exact ⟨h1, h2, h3, h4, h5, h6, h7, h8⟩
def exsB (exs : List Str) (K : W.Frag) : Bool := (List.range exs.length).all fun c => match exs[c]? with
  | none => true
  | some x => decide (W.exmOne K (.ref (ga K x)) (.ref (ga K "PanelError")) = some true) && excB K (ga K x) && (List.range exs.length).all fun j => match exs[j]? with
    | none => true
    | some y => decide (W.kitOne K (.ref (ga K x)) (.ref (ga K y)) = some (c == j))
def clE (K : W.Frag) (exs : List Str) (c : Nat) : Value := .ref (ga K (exs.getD c "PanelError"))
section
variable {K : W.Frag} {h : Heap} {mg : Str → Option Value} {fn : List DefD} {names bls exs : List Str} {gls : List (Str × Cst)}
theorem mods_of (X : K.In h) (G : h.Ns mainGlobals mg) (c : SaysD (faOf names bls gls exs) fn K) (hx : exsB exs K = true) (hg : glsB gls = true) : Mods K mg (clE K exs) bls gls exs := by
  have fact : ∀ f ∈ faOf names bls gls exs, f.ok K = true := fun f hf => by
    obtain ⟨i, hi, e⟩ := List.mem_iff_getElem.mp hf
    exact c.fact i (f := f) (by rw [List.getElem?_eq_getElem hi, e])
  have mm : ∀ f, (f ∈ names.map Fa.glo ∨ f ∈ bls.map Fa.free ∨ f ∈ gls.map faG ∨ f ∈ exs.map Fa.exc ∨ f ∈ exs.map Fa.glo ∨ f = .glo "PanelError") → f.ok K = true := fun f hf => fact f (by
    unfold faOf
    simp only [List.mem_append, List.mem_singleton]
    simpa only [or_assoc] using hf)
  have key : ∀ c x, exs[c]? = some x → clE K exs c = .ref (ga K x) := fun c x e => by
    unfold clE
    rw [List.getD_eq_getElem?_getD, e]; rfl
  refine { bl := fun x hxm => free_ok X G (mm _ (.inr (.inl (List.mem_map_of_mem hxm)))), gl := fun p hp => ?_, tm := ⟨ga K "PanelError", glo_ok X G (mm _ (.inr (.inr (.inr (.inr (.inr rfl)))))), fun c x e => ?_⟩, ex := fun c x e => ?_ }
  · have z := mm _ (.inr (.inr (.inl (List.mem_map_of_mem hp))))
    have hg' := List.all_eq_true.mp hg p hp
    obtain ⟨x, v⟩ := p
    cases v with
    | int i =>
      obtain ⟨t, e⟩ := int_ok X G (x := x) (i := i) z
      exact ⟨_, e, t, rfl⟩
    | str s =>
      obtain ⟨t, e⟩ := str_ok X G (x := x) (z := s) z
      exact ⟨_, e, t, rfl⟩
    | non => cases hg'
    | bl b => cases hg'
  · have hc : c < exs.length := by rw [List.getElem?_eq_some_iff] at e; exact e.1
    have z := List.all_eq_true.mp hx c (List.mem_range.mpr hc)
    rw [e] at z
    simp only [Bool.and_eq_true, decide_eq_true_eq] at z
    obtain ⟨⟨z1, z2⟩, z3⟩ := z
    refine ⟨ga K x, key c x e, z1, excB_ok z2, fun j y ej => ⟨ga K y, key j y ej, glo_ok X G (mm _ (.inr (.inr (.inr (.inr (.inl (List.mem_map_of_mem (List.mem_of_getElem? ej)))))))), ?_⟩⟩
    have hj : j < exs.length := by rw [List.getElem?_eq_some_iff] at ej; exact ej.1
    have z := List.all_eq_true.mp z3 j (List.mem_range.mpr hj)
    rw [ej] at z
    simpa using z
  · obtain ⟨h1, h2, h3, h4⟩ := exc_ok (mm _ (.inr (.inr (.inr (.inl (List.mem_map_of_mem (List.mem_of_getElem? e)))))))
    exact ⟨ga K x, key c x e, h1, glo_ok X G (mm _ (.inr (.inr (.inr (.inr (.inl (List.mem_map_of_mem (List.mem_of_getElem? e)))))))), h2, h3, h4⟩
end
structure AllP (P : Program) (w : World) (K : W.Frag) (mg : Str → Option Value) (base : Heap) (cl : Nat → Value) (L : Nat) (l : List (Str × Nat)) (ds : List (List D → Rs D)) : Prop where
  len : l.length = ds.length
  at_ : ∀ (f : Nat) (x : Str) (n : Nat), l[f]? = some (x, n) → FnP P w K mg base cl L x n (tbl ds f)
section
variable {P : Program} {w : World} {K : W.Frag} {mg : Str → Option Value} {base : Heap} {cl : Nat → Value} {L : Nat} {l : List (Str × Nat)} {ds : List (List D → Rs D)}
theorem allP_nil : AllP P w K mg base cl L [] [] := ⟨rfl, fun f x n e => by simp at e⟩
theorem AllP.snoc {x : Str} {n : Nat} {d : List D → Rs D} (A : AllP P w K mg base cl L l ds) (h : FnP P w K mg base cl (L + 1) x n d) : AllP P w K mg base cl (L + 1) (l ++ [(x, n)]) (ds ++ [d]) := by
  refine ⟨by simp [A.len], fun f y m e => ?_⟩
  by_cases hf : f < l.length
  · rw [List.getElem?_append_left hf] at e
    have z := (A.at_ f y m e).mono (Nat.le_succ L)
    have e2 : tbl (ds ++ [d]) f = tbl ds f := by
      funext as
      unfold tbl
      rw [List.getElem?_append_left (by rw [← A.len]; exact hf)]
    rw [e2]; exact z
  · rw [List.getElem?_append_right (by omega)] at e
    have e0 : f - l.length = 0 := by
      by_cases z : f - l.length = 0
      · exact z
      · rw [List.getElem?_eq_none (by simp; omega)] at e; cases e
    rw [e0] at e
    simp at e
    obtain ⟨rfl, rfl⟩ := e
    have e2 : tbl (ds ++ [d]) f = d := by
      funext as
      unfold tbl
      rw [List.getElem?_append_right (by rw [← A.len]; omega), ← A.len, e0]
      rfl
    rw [e2]; exact h
theorem AllP.step {x qual : Str} {params : Arguments} {body : List Stmt} {scope : Scope} {f : Addr} {fd : FuncData} {ps N bls exs : List Str} {gls : List (Str × Cst)} {n k : Nat} {own : Nat → Bool} {ss : Ss}
    (A : AllP P w K mg base cl L l ds) (M : Mods K mg cl bls gls exs) (F : FunD K x qual params body scope [] [] f fd) (sc : FnScope N ps scope) (hb : ss.py = body) (hok : ss.ok ⟨N, own, gls, l, bls⟩ exs scope = true) (hn : ps.length = n) (hk : N.length = k)
    (hw : ((List.range n).all fun i => !own i) = true) (g : mg x = some (.ref f)) (b : Binds K fd ps []) : AllP P w K mg base cl (L + 1) (l ++ [(x, n)]) (ds ++ [defD (tbl ds) n k ss]) :=
  A.snoc ⟨f, fd, ps, def_ok (S := ⟨N, own, gls, l, bls⟩) F sc hb hok rfl hn hk hw M A.at_, hn, g, F.kp, b⟩
def recD (ds : List (List D → Rs D)) (n k : Nat) (ss : Ss) : Nat → List D → Rs D
  | 0 => fun _ => .stuck
  | m + 1 => defD (tbl (ds ++ [recD ds n k ss m])) n k ss
theorem AllP.mono (A : AllP P w K mg base cl L l ds) {L' : Nat} (h : L ≤ L') : AllP P w K mg base cl L' l ds := ⟨A.len, fun f x n e => (A.at_ f x n e).mono h⟩
theorem AllP.snoc0 {x : Str} {n : Nat} {d : List D → Rs D} (A : AllP P w K mg base cl L l ds) (h : FnP P w K mg base cl L x n d) : AllP P w K mg base cl L (l ++ [(x, n)]) (ds ++ [d]) := by
  refine ⟨by simp [A.len], fun f y m e => ?_⟩
  by_cases hf : f < l.length
  · rw [List.getElem?_append_left hf] at e
    have e2 : tbl (ds ++ [d]) f = tbl ds f := by
      funext as
      unfold tbl
      rw [List.getElem?_append_left (by rw [← A.len]; exact hf)]
    rw [e2]; exact A.at_ f y m e
  · rw [List.getElem?_append_right (by omega)] at e
    have e0 : f - l.length = 0 := by
      by_cases z : f - l.length = 0
      · exact z
      · rw [List.getElem?_eq_none (by simp; omega)] at e; cases e
    rw [e0] at e
    simp at e
    obtain ⟨rfl, rfl⟩ := e
    have e2 : tbl (ds ++ [d]) f = d := by
      funext as
      unfold tbl
      rw [List.getElem?_append_right (by rw [← A.len]; omega), ← A.len, e0]
      rfl
    rw [e2]; exact h
theorem AllP.stepRec {x qual : Str} {params : Arguments} {body : List Stmt} {scope : Scope} {f : Addr} {fd : FuncData} {ps N bls exs : List Str} {gls : List (Str × Cst)} {n k : Nat} {own : Nat → Bool} {ss : Ss}
    (A : AllP P w K mg base cl L l ds) (M : Mods K mg cl bls gls exs) (F : FunD K x qual params body scope [] [] f fd) (sc : FnScope N ps scope) (hb : ss.py = body) (hok : ss.ok ⟨N, own, gls, l ++ [(x, n)], bls⟩ exs scope = true) (hn : ps.length = n) (hk : N.length = k)
    (hw : ((List.range n).all fun i => !own i) = true) (g : mg x = some (.ref f)) (b : Binds K fd ps []) : ∀ m : Nat, AllP P w K mg base cl (L + 1 + m) (l ++ [(x, n)]) (ds ++ [recD ds n k ss m])
  | 0 => (A.mono (Nat.le_succ L)).snoc0 ⟨f, fd, ps, F.ok sc (fun vs H Q E h => by
      obtain ⟨_, _, _, _, _, z⟩ := h
      exact z.elim) fun cdv A outer s H vs Q E hr h => by
      obtain ⟨_, _, _, _, _, z⟩ := h
      exact z.elim, hn, g, F.kp, b⟩
  | m + 1 => (A.mono (by omega)).snoc0 ⟨f, fd, ps, def_ok (S := ⟨N, own, gls, l ++ [(x, n)], bls⟩) F sc hb hok rfl hn hk hw M (AllP.stepRec A M F sc hb hok hn hk hw g b m).at_, hn, g, F.kp, b⟩
theorem AllP.law {x : Str} {ps : List Str} {j : Nat} {f : Addr} (A : AllP P w K mg base cl L l ds) (e : l[j]? = some (x, 1)) (hf : mg x = some (.ref f)) : ∃ fd ps, FnOk P w K mg base (L2.CX P w) L f fd ps (spD K cl 1 (tbl ds j)) ∧ ps.length = 1 ∧ Binds K fd ps [] := by
  obtain ⟨f', fd, ps, h1, h2, h3, h4, h5⟩ := A.at_ j x 1 e
  rw [hf] at h3
  cases h3
  exact ⟨fd, ps, h1, h2, h5⟩
end
theorem walk_ofQ {l : W.OpenLaw} {n k : Nat} {q : Program} {loose : List Str} {XP : (Str → Option Value) → Heap → Prop} {YP : World → Heap → Prop} {d : DefRec} {CX : World → CXT} {x : Str}
    (hn : l.most = some n) (hn2 : n ≤ sizeLine) (hdf : d.params.defaults = []) (hr : Room k callerA)
    (F : ∀ (w : World) (mg : Str → Option Value) (fa : Addr) (h : Heap), YP w h → h.Ns mainGlobals mg → mg d.name = some (.ref fa) →
      ∃ (K : W.Frag) (fd : FuncData) (sp : Sp), K.In h ∧ (∀ (s : Shared) (u : Value), BindsTo s fd ⟨[u], []⟩ [(x, u)]) ∧
        (∀ (H : Hp) (a : Addr) (ns : List Int), ns.length ≤ n → (∀ z ∈ ns, Builtin.Int.intBits z ≤ 1048576) → SqL K H a (ns.map V.int) → sp [.ref a] H (fun v _ => v = .bl true) fun _ _ _ => False) ∧
        ∀ base : Heap, K.In base → base.Ns mainGlobals mg → FnOk l.prog w K mg base (CX w) k fa fd [x] sp)
    (hCX : ∀ (w : World) (H : Hp) (s : Shared) (e : Value) (s' : Shared), CX w [] H s (fun _ _ _ => False) e s' → False) :
    W.WalkO q loose XP YP l.row.toRowW d [] (fun f vs => PySem.call f vs) := by
  refine Att.attach_callB hn hdf fun w s₀ s₁ mg mb fa o pm cd doc a vs ns G Y ho hd hcd hmg hobj hints hlen hbits hg => ?_
  obtain ⟨K, fd, sp, KX, hb, hsp, hF⟩ := F w mg fa _ Y G.T.g hmg
  exact law_call KX G.T.g G.T.b G.T.builtins G.T.nolimit hg hobj hints (Nat.le_trans hlen hn2) hr hF hb (fun H hO hS => hsp H a ns hlen hbits hS) fun H e s' => hCX w H s₁ e s'
theorem cx_no {P : Program} {w : World} (H : Hp) (s : Shared) (e : Value) (s' : Shared) (h : L2.CX P w [] H s (fun _ _ _ => False) e s') : False := by
  obtain ⟨_, _, _, _, _, _, _, _, _, _, _, _, z⟩ := h
  exact z.elim
theorem law_pre {K : W.Frag} {cl : Nat → Value} {g : List D → Rs D} {H : Hp} {a : Addr} {ns : List Int} (h : g [.list (ns.map PyData.int)] = .ok (.bool true)) (hS : SqL K H a (ns.map V.int)) : spD K cl 1 g [.ref a] H (fun v _ => v = .bl true) fun _ _ _ => False := by
  refine ⟨rfl, [.list (ns.map PyData.int)], fun _ => False, fun _ z => z.elim, ⟨.ref a, [], rfl, ⟨a, _, rfl, hS, fun z => z, atL_of_ints ns⟩, rfl⟩, ?_⟩
  rw [h]
  exact fun v H' _ _ a => a
end Den
namespace Den
open PySem PySem.Spec
section
variable {ft : Tb}
@[simp] theorem x_E_den_cst : E.den ft (.cst c z1 z2) = (fun _ => .ok c.d) := rfl
@[simp] theorem x_E_den_var : E.den ft (.var i z1 z2) = (vaR i) := rfl
@[simp] theorem x_E_den_glo : E.den ft (.glo z1 c z2) = (fun _ => .ok c.d) := rfl
@[simp] theorem x_E_den_bin : E.den ft (.bin op a b z1) = (bi op.F (a.den ft) (b.den ft)) := rfl
@[simp] theorem x_E_den_lad : E.den ft (.lad a b z1) = (bi addL (a.den ft) (b.den ft)) := rfl
@[simp] theorem x_E_den_neg : E.den ft (.neg a z1) = (fun ρ => do let x ← a.den ft ρ; negD x) := rfl
@[simp] theorem x_E_den_not : E.den ft (.not a z1) = (notE (a.den ft)) := rfl
@[simp] theorem x_E_den_cmp : E.den ft (.cmp op a b z1) = (bi op.F (a.den ft) (b.den ft)) := rfl
@[simp] theorem x_E_den_chn : E.den ft (.chn op op' a b c z1) = (chnE op.F op'.F (a.den ft) (b.den ft) (c.den ft)) := rfl
@[simp] theorem x_E_den_and : E.den ft (.and a es z1) = (es.andD ft (a.den ft)) := rfl
@[simp] theorem x_E_den_or : E.den ft (.or a es z1) = (es.orD ft (a.den ft)) := rfl
@[simp] theorem x_E_den_ite : E.den ft (.ite c a b z1) = (iteE (c.den ft) (a.den ft) (b.den ft)) := rfl
@[simp] theorem x_E_den_ix : E.den ft (.ix a i z1) = (bi ixD (a.den ft) (i.den ft)) := rfl
@[simp] theorem x_E_den_slo : E.den ft (.slo a l z1 z2) = (fun ρ => do let x ← a.den ft ρ; let l ← l.den ft ρ; let i ← intD l; slD (some i) none x) := rfl
@[simp] theorem x_E_den_shi : E.den ft (.shi a l z1 z2) = (fun ρ => do let x ← a.den ft ρ; let l ← l.den ft ρ; let i ← intD l; slD none (some i) x) := rfl
@[simp] theorem x_E_den_slh : E.den ft (.slh a l h z1 z2) = (fun ρ => do let x ← a.den ft ρ; let l ← l.den ft ρ; let i ← intD l; let u ← h.den ft ρ; let j ← intD u; slD (some i) (some j) x) := rfl
@[simp] theorem x_E_den_lslo : E.den ft (.lslo a l z1 z2) = (fun ρ => do let x ← a.den ft ρ; let l ← l.den ft ρ; let i ← intD l; slL (some i) none x) := rfl
@[simp] theorem x_E_den_lshi : E.den ft (.lshi a l z1 z2) = (fun ρ => do let x ← a.den ft ρ; let l ← l.den ft ρ; let i ← intD l; slL none (some i) x) := rfl
@[simp] theorem x_E_den_tup : E.den ft (.tup es z1 z2) = (tupA (es.den ft)) := rfl
@[simp] theorem x_E_den_lst : E.den ft (.lst es z1) = (lstA (es.den ft)) := rfl
@[simp] theorem x_E_den_call : E.den ft (.call f z1 z2 e es z3) = (appE (ft f) (consArg (e.den ft) (es.den ft))) := rfl
@[simp] theorem x_E_den_srts : E.den ft (.srts a z1 z2 z3 z4) = (fun ρ => do let x ← a.den ft ρ; srtD x) := rfl
@[simp] theorem x_E_den_rep : E.den ft (.rep es z1 b z2) = (fun ρ => do let ds ← es.den ft ρ; let d ← b.den ft ρ; let k ← intD d; repL ds k) := rfl
@[simp] theorem x_E_den_ccall : E.den ft (.ccall js z1 b z2 e es z3) = (ccD (es.len + 1) ft (js.map (·.1)) (b.den ft) (consArg (e.den ft) (es.den ft))) := rfl
@[simp] theorem x_E_den_prim : E.den ft (.prim q z1 e es z2) = (appE q.F (consArg (e.den ft) (es.den ft))) := rfl
@[simp] theorem x_E_den_isi : E.den ft (.isi T a z1 z2 z3) = (isiE T (a.den ft)) := rfl
@[simp] theorem x_E_den_lrng1 : E.den ft (.lrng1 a z1 z2 z3 z4) = (lstI (rng1 (a.den ft))) := rfl
@[simp] theorem x_E_den_trng1 : E.den ft (.trng1 a z1 z2 z3 z4) = (tupI (rng1 (a.den ft))) := rfl
@[simp] theorem x_E_den_lrng2 : E.den ft (.lrng2 a b z1 z2 z3 z4) = (lstI (rng2 (a.den ft) (b.den ft))) := rfl
@[simp] theorem x_E_den_comp : E.den ft (.comp elt tg it ifs z1 own z2) = (compE (own.map (·.2)) (it.den ft) tg.st (ifs.tst ft) (elt.den ft)) := rfl
@[simp] theorem x_E_den_comp2 : E.den ft (.comp2 elt tg it tg1 it1 ifs z1 own z2) = (compE2 (own.map (·.2)) (it.den ft) tg.st (it1.den ft) tg1.st (ifs.tst ft) (elt.den ft) tg1.is) := rfl
@[simp] theorem x_Es_den_nil : Es.den ft (.nil) = (noArg) := rfl
@[simp] theorem x_Es_den_cons : Es.den ft (.cons e es) = (consArg (e.den ft) (es.den ft)) := rfl
@[simp] theorem x_Es_andD_nil : Es.andD ft (.nil) f = (f) := rfl
@[simp] theorem x_Es_andD_cons : Es.andD ft (.cons e es) f = (andE f (es.andD ft (e.den ft))) := rfl
@[simp] theorem x_Es_orD_nil : Es.orD ft (.nil) f = (f) := rfl
@[simp] theorem x_Es_orD_cons : Es.orD ft (.cons e es) f = (orE f (es.orD ft (e.den ft))) := rfl
@[simp] theorem x_Es_tst_nil : Es.tst ft (.nil) = (fun _ => .ok true) := rfl
@[simp] theorem x_Es_tst_cons : Es.tst ft (.cons e z1) = (tstE (e.den ft)) := rfl
@[simp] theorem x_I_den_seq : I.den ft (.seq e) = (seqE (e.den ft)) := rfl
@[simp] theorem x_I_den_rng1 : I.den ft (.rng1 a z1 z2) = (Den.rng1 (a.den ft)) := rfl
@[simp] theorem x_I_den_rng2 : I.den ft (.rng2 a b z1 z2) = (Den.rng2 (a.den ft) (b.den ft)) := rfl
@[simp] theorem x_I_den_enu : I.den ft (.enu a z1 z2) = (enuE (a.den ft)) := rfl
@[simp] theorem x_I_den_zip : I.den ft (.zip a b z1 z2) = (zipE (consArg (a.den ft) (consArg (b.den ft) noArg))) := rfl
@[simp] theorem x_S_den_ret : S.den ft (.ret e z1) = (retS (e.den ft)) := rfl
@[simp] theorem x_S_den_retO : S.den ft (.retO i z1 z2 z3) = (retS (vaR i)) := rfl
@[simp] theorem x_S_den_retN : S.den ft (.retN z1) = (retN) := rfl
@[simp] theorem x_S_den_iff : S.den ft (.iff c A B z1) = (iteS (c.den ft) (A.den ft) (B.den ft)) := rfl
@[simp] theorem x_S_den_expr : S.den ft (.expr e z1) = (exprS (e.den ft)) := rfl
@[simp] theorem x_S_den_set : S.den ft (.set i z1 z2 e z3) = (asgS [i] (consArg (e.den ft) noArg)) := rfl
@[simp] theorem x_S_den_mov : S.den ft (.mov i z1 z2 j z3 z4 z5) = (movS i j) := rfl
@[simp] theorem x_S_den_asg : S.den ft (.asg items z1 z2 e z3) = (asgT (setT (items.map (·.1))) (e.den ft)) := rfl
@[simp] theorem x_S_den_par : S.den ft (.par items z1 z2 es z3 z4 z5) = (asgS (items.map (·.1)) (es.den ft)) := rfl
@[simp] theorem x_S_den_app : S.den ft (.app i z1 z2 z3 z4 e z5) = (appS i (e.den ft)) := rfl
@[simp] theorem x_S_den_ext : S.den ft (.ext i z1 z2 z3 z4 e z5) = (extS i (e.den ft)) := rfl
@[simp] theorem x_S_den_brk : S.den ft (.brk z1) = (bkS) := rfl
@[simp] theorem x_S_den_cnt : S.den ft (.cnt z1) = (ctS) := rfl
@[simp] theorem x_S_den_pas : S.den ft (.pas z1) = (nxS) := rfl
@[simp] theorem x_S_den_for : S.den ft (.for tg it A z1) = (forS (it.den ft) tg.st (A.den ft)) := rfl
@[simp] theorem x_S_den_whl : S.den ft (.whl n c A z1) = (whlL (c.den ft) (A.den ft) n) := rfl
@[simp] theorem x_S_den_tryI : S.den ft (.tryI A z1 z2 xs z3 z4 z5 z6 z7 z8 z9 z10 z11) = (tryD xs.length (A.den ft)) := rfl
@[simp] theorem x_S_den_rse : S.den ft (.rse c z1 z2 z3 z4 z5 z6 z7) = (rsS c) := rfl
@[simp] theorem x_Ss_den_nil : Ss.den ft (.nil) = (nxS) := rfl
@[simp] theorem x_Ss_den_cons : Ss.den ft (.cons s ss) = (seqS (s.den ft) (ss.den ft)) := rfl
end
def Wp {α : Type} (r : Rs α) (Q : α → Prop) : Prop := match r with
  | .ok a => Q a
  | _ => False
section
variable {α β : Type} {Q Q' : α → Prop} {R : β → Prop} {r : Rs α} {f : α → Rs β}
theorem wp_iff : Wp r Q ↔ ∃ a, r = .ok a ∧ Q a := by
  cases r with
  | ok a => exact ⟨fun h => ⟨a, rfl, h⟩, fun ⟨_, e, h⟩ => by cases e; exact h⟩
  | exc c => exact ⟨fun h => h.elim, fun ⟨_, e, _⟩ => by cases e⟩
  | stuck => exact ⟨fun h => h.elim, fun ⟨_, e, _⟩ => by cases e⟩
@[simp] theorem wp_ok {a : α} : Wp (.ok a) Q ↔ Q a := .rfl
@[simp] theorem wp_exc {c : Nat} : Wp (.exc c) Q ↔ False := .rfl
@[simp] theorem wp_stuck : Wp .stuck Q ↔ False := .rfl
@[simp] theorem wp_bind : Wp (r >>= f) R ↔ Wp r fun a => Wp (f a) R := by cases r <;> exact .rfl
theorem wp_noexc : Wp r.noexc Q ↔ Wp r Q := by cases r <;> exact .rfl
@[simp] theorem wp_ite {c : Prop} [Decidable c] {a b : Rs α} : Wp (if c then a else b) Q ↔ if c then Wp a Q else Wp b Q := by split <;> exact .rfl
theorem Wp.imp (h : Wp r Q) (k : ∀ a, Q a → Q' a) : Wp r Q' := by
  cases r with
  | ok a => exact k a h
  | exc c => exact h
  | stuck => exact h
theorem Wp.eq {a : α} (h : Wp r (· = a)) : r = .ok a := by
  cases r with
  | ok b => exact congrArg _ h
  | exc c => exact h.elim
  | stuck => exact h.elim
theorem Wp.of {a : α} (h : r = .ok a) (k : Q a) : Wp r Q := by rw [h]; exact k
end
section
variable {ρ : Ro} {f g h : DE} {F U : DS} {i : Nat} {Q : Fl × Ro → Prop} {q : D → Prop} {fs : Ro → Rs (List D)}
@[simp] theorem vaR_eq : vaR i ρ = match ρ[i]? with | some (some d) => .ok d | _ => .stuck := rfl
@[simp] theorem wp_seq : Wp (seqS F U ρ) Q ↔ Wp (F ρ) fun p => match p with | (.nx, ρ1) => Wp (U ρ1) Q | p => Q p := by
  unfold seqS
  rw [wp_bind]
  cases F ρ with
  | ok p =>
    obtain ⟨fl, ρ1⟩ := p
    cases fl <;> exact .rfl
  | exc c => exact .rfl
  | stuck => exact .rfl
theorem wp_cut0 {R : Ro → Prop} (h : Wp (F ρ) fun p => match p with | (.nx, ρ1) => R ρ1 | p => Q p) (k : ∀ ρ1, R ρ1 → Wp (U ρ1) Q) : Wp (seqS F U ρ) Q := by
  rw [wp_seq]
  refine h.imp fun p hp => ?_
  obtain ⟨fl, ρ1⟩ := p
  cases fl with
  | nx => exact k ρ1 hp
  | rt d => exact hp
  | bk => exact hp
  | ct => exact hp
theorem wp_if {ft : Tb} {c : E} {A B : Ss} {pos : Pos} (b : Bool) (hc : tstE (c.den ft) ρ = .ok b) (h : if b = true then Wp (A.den ft ρ) Q else Wp (B.den ft ρ) Q) : Wp (S.den ft (.iff c A B pos) ρ) Q := by
  show Wp (tstE (c.den ft) ρ >>= fun b => if b then A.den ft ρ else B.den ft ρ) Q
  rw [hc, Rs.ok_bind, wp_ite]
  exact h
theorem wp_nil {ft : Tb} (h : Q (.nx, ρ)) : Wp (Ss.den ft .nil ρ) Q := h
theorem wp_cons {ft : Tb} {s : S} {ss : Ss} {R : Ro → Prop} (h : Wp (s.den ft ρ) fun p => match p with | (.nx, ρ1) => R ρ1 | p => Q p) (k : ∀ ρ1, R ρ1 → Wp (ss.den ft ρ1) Q) : Wp (Ss.den ft (.cons s ss) ρ) Q := wp_cut0 h k
theorem wp_cut {R : Ro → Prop} (h : Wp (F ρ) fun p => match p with | (.nx, ρ1) => R ρ1 | p => Q p) (k : ∀ ρ1, R ρ1 → Wp (U ρ1) Q) : Wp (seqS F U ρ) Q := by
  rw [wp_seq]
  refine h.imp fun p hp => ?_
  obtain ⟨fl, ρ1⟩ := p
  cases fl with
  | nx => exact k ρ1 hp
  | rt d => exact hp
  | bk => exact hp
  | ct => exact hp
theorem seq_nx {ρ1 : Ro} (h : F ρ = .ok (.nx, ρ1)) : seqS F U ρ = U ρ1 := by unfold seqS; rw [h]; rfl
theorem seq_rt {ρ1 : Ro} {d : D} (h : F ρ = .ok (.rt d, ρ1)) : seqS F U ρ = .ok (.rt d, ρ1) := by unfold seqS; rw [h]; rfl
theorem seq_exc {c : Nat} (h : F ρ = .exc c) : seqS F U ρ = .exc c := by unfold seqS; rw [h]; rfl
@[simp] theorem nxS_eq : nxS ρ = .ok (.nx, ρ) := rfl
@[simp] theorem bkS_eq : bkS ρ = .ok (.bk, ρ) := rfl
@[simp] theorem ctS_eq : ctS ρ = .ok (.ct, ρ) := rfl
@[simp] theorem retS_eq : retS f ρ = f ρ >>= fun d => .ok (.rt d, ρ) := rfl
@[simp] theorem retN_eq : retN ρ = .ok (.rt .none, ρ) := rfl
@[simp] theorem rsS_eq {c : Nat} : rsS c ρ = .exc c := rfl
@[simp] theorem iteS_eq : iteS f F U ρ = tstE f ρ >>= fun b => if b then F ρ else U ρ := rfl
@[simp] theorem exprS_eq : exprS f ρ = f ρ >>= fun _ => .ok (.nx, ρ) := rfl
@[simp] theorem asgS_eq {is : List Nat} : asgS is fs ρ = fs ρ >>= fun ds => .ok (.nx, setD ρ is ds) := rfl
@[simp] theorem setD_nil : setD ρ [] [] = ρ := rfl
@[simp] theorem setD_cons {is : List Nat} {d : D} {ds : List D} : setD ρ (i :: is) (d :: ds) = setD (ρ.set i (some d)) is ds := rfl
@[simp] theorem bi_eq {F : D → D → Rs D} : bi F f g ρ = f ρ >>= fun x => g ρ >>= fun y => F x y := rfl
@[simp] theorem tstE_eq : tstE f ρ = f ρ >>= blD := rfl
@[simp] theorem notE_eq : notE f ρ = f ρ >>= fun x => blD x >>= fun b => .ok (.bool !b) := rfl
@[simp] theorem andE_eq : andE f g ρ = f ρ >>= fun x => blD x >>= fun b => if b then g ρ else .ok (.bool false) := rfl
@[simp] theorem orE_eq : orE f g ρ = f ρ >>= fun x => blD x >>= fun b => if b then .ok (.bool true) else g ρ := rfl
@[simp] theorem iteE_eq : iteE h f g ρ = h ρ >>= fun x => blD x >>= fun b => if b then f ρ else g ρ := rfl
@[simp] theorem isiE_eq {T : Ty} : isiE T f ρ = f ρ >>= fun d => .ok (.bool (isiD T d)) := rfl
@[simp] theorem noArg_eq : noArg ρ = .ok [] := rfl
@[simp] theorem consArg_eq : consArg f fs ρ = f ρ >>= fun d => fs ρ >>= fun ds => .ok (d :: ds) := rfl
@[simp] theorem tupA_eq : tupA fs ρ = fs ρ >>= fun ds => .ok (.tuple ds) := rfl
@[simp] theorem lstA_eq : lstA fs ρ = fs ρ >>= fun ds => .ok (.list ds) := rfl
@[simp] theorem appE_eq {F : List D → Rs D} : appE F fs ρ = fs ρ >>= F := rfl
@[simp] theorem chnE_eq {F F' : D → D → Rs D} : chnE F F' f g h ρ = f ρ >>= fun x => g ρ >>= fun y => F x y >>= fun r => blD r >>= fun b => if b then h ρ >>= fun z => F' y z else .ok (.bool false) := rfl
@[simp] theorem seqE_eq : seqE f ρ = f ρ >>= seqD := rfl
@[simp] theorem seqD_l {ds : List D} : seqD (.list ds) = .ok ds := rfl
@[simp] theorem seqD_t {ds : List D} : seqD (.tuple ds) = .ok ds := rfl
@[simp] theorem rng1_eq : Den.rng1 f ρ = f ρ >>= fun d => intD d >>= fun j => if -(big : Int) ≤ j ∧ j ≤ big then .ok (rngD 0 j.toNat) else .stuck := rfl
@[simp] theorem rng2_eq : Den.rng2 f g ρ = f ρ >>= fun d => g ρ >>= fun d' => intD d >>= fun i => intD d' >>= fun j => if (-(big : Int) ≤ i ∧ i ≤ big) ∧ (-(big : Int) ≤ j ∧ j ≤ big) then .ok (rngD i (j - i).toNat) else .stuck := rfl
@[simp] theorem lstI_eq {fi : DI} : lstI fi ρ = fi ρ >>= fun ds => .ok (.list ds) := rfl
@[simp] theorem tupI_eq {fi : DI} : tupI fi ρ = fi ρ >>= fun ds => .ok (.tuple ds) := rfl
@[simp] theorem enuE_eq : enuE f ρ = f ρ >>= seqD >>= fun ds => .ok (enuL 0 ds) := rfl
@[simp] theorem forS_eq {fi : DI} {st : STg} : forS fi st F ρ = fi ρ >>= fun ds => forL st F ds ρ := rfl
@[simp] theorem asgT_eq {st : STg} : asgT st f ρ = f ρ >>= fun d => (st d ρ).noexc >>= fun ρ' => .ok (.nx, ρ') := rfl
@[simp] theorem setN_eq {d : D} : setN i d ρ = .ok (ρ.set i (some d)) := rfl
@[simp] theorem setT_eq {is : List Nat} {ds : List D} : setT is (.tuple ds) ρ = setAll is ds ρ := rfl
@[simp] theorem setAll_nil : setAll [] [] ρ = .ok ρ := rfl
@[simp] theorem setAll_cons {is : List Nat} {d : D} {ds : List D} : setAll (i :: is) (d :: ds) ρ = setAll is ds (ρ.set i (some d)) := rfl
@[simp] theorem compE_eq {vs : List Nat} {fi : DI} {st : STg} {t : Ro → Rs Bool} : compE vs fi st t f ρ = fi ρ >>= fun ds => (compL st t f (wipeR ρ vs) ds).noexc >>= fun r => .ok (.list r) := rfl
@[simp] theorem compE2_eq {vs vs1 : List Nat} {fi fi1 : DI} {st st1 : STg} {t : Ro → Rs Bool} : compE2 vs fi st fi1 st1 t f vs1 ρ = fi ρ >>= fun ds => (compL2 st fi1 st1 t f vs1 (wipeR ρ vs) ds).noexc >>= fun r => if r.length ≤ big then .ok (.list r) else .stuck := rfl
@[simp] theorem wipeR_nil : wipeR ρ [] = ρ := rfl
@[simp] theorem wipeR_cons {vs : List Nat} : wipeR ρ (i :: vs) = (wipeR ρ vs).set i none := rfl
end
@[simp] theorem tg1 {i : Nat} {x : Str} {p : Pos} : Tg.st (.nm i x p) = setN i := rfl
@[simp] theorem tg2 {l : List (Nat × Str × Pos)} {k : Nat} {p : Pos} : Tg.st (.tp l k p) = setT (l.map (·.1)) := rfl
@[simp] theorem tg3 {i : Nat} {x : Str} {p : Pos} : Tg.is (.nm i x p) = [i] := rfl
@[simp] theorem tg4 {l : List (Nat × Str × Pos)} {k : Nat} {p : Pos} : Tg.is (.tp l k p) = l.map (·.1) := rfl
@[simp] theorem co1 : Co.F .lt = ordD fun i j => decide (i < j) := rfl
@[simp] theorem co2 : Co.F .le = ordD fun i j => decide (i ≤ j) := rfl
@[simp] theorem co3 : Co.F .gt = ordD fun i j => decide (j < i) := rfl
@[simp] theorem co4 : Co.F .ge = ordD fun i j => decide (j ≤ i) := rfl
@[simp] theorem co5 : Co.F .eq = eqD := rfl
@[simp] theorem co6 : Co.F .ne = neD := rfl
@[simp] theorem co7 : Co.F .isin = inD false := rfl
@[simp] theorem co8 : Co.F .notin = inD true := rfl
@[simp] theorem co9 : Co.F .is = isD false := rfl
@[simp] theorem co10 : Co.F .isnot = isD true := rfl
@[simp] theorem ordD_int {q : Int → Int → Bool} {i j : Int} : ordD q (.int i) (.int j) = .ok (.bool (q i j)) := rfl
@[simp] theorem bo1 : Bo.F .add = addD := rfl
@[simp] theorem bo2 : Bo.F .sub = subD := rfl
@[simp] theorem bo3 : Bo.F .mul = mulD := rfl
@[simp] theorem bo4 : Bo.F .div = divD := rfl
@[simp] theorem bo5 : Bo.F .mod = modD := rfl
@[simp] theorem bo6 : Bo.F .pow = powD := rfl
@[simp] theorem addD_int {i j : Int} : addD (.int i) (.int j) = .ok (.int (i + j)) := rfl
@[simp] theorem addD_l {a b : List D} : addD (.list a) (.list b) = if a.length + b.length ≤ big then .ok (.list (a ++ b)) else .stuck := rfl
@[simp] theorem addD_t {a b : List D} : addD (.tuple a) (.tuple b) = if a.length + b.length ≤ big then .ok (.tuple (a ++ b)) else .stuck := rfl
@[simp] theorem addL_l {a b : List D} : addL (.list a) (.list b) = if a.length + b.length ≤ big then .ok (.list (a ++ b)) else .stuck := rfl
@[simp] theorem subD_int {i j : Int} : subD (.int i) (.int j) = .ok (.int (i - j)) := rfl
@[simp] theorem mulD_int {i j : Int} : mulD (.int i) (.int j) = if (-(2 ^ 64) < i ∧ i < 2 ^ 64) ∨ (-(2 ^ 64) < j ∧ j < 2 ^ 64) then .ok (.int (i * j)) else .stuck := rfl
@[simp] theorem divD_int {i j : Int} : divD (.int i) (.int j) = if 0 < j ∧ j < 2 ^ 64 then .ok (.int (i / j)) else .stuck := rfl
@[simp] theorem modD_int {i j : Int} : modD (.int i) (.int j) = if 0 < j then .ok (.int (i % j)) else .stuck := rfl
@[simp] theorem powD_int {i j : Int} : powD (.int i) (.int j) = if 0 ≤ j ∧ j ≤ 64 ∧ i.natAbs < 2 ^ 64 then .ok (.int (i ^ j.toNat)) else .stuck := rfl
@[simp] theorem negD_int {i : Int} : negD (.int i) = .ok (.int (-i)) := rfl
@[simp] theorem lenD_l {ds : List D} : lenD [.list ds] = .ok (.int ds.length) := rfl
@[simp] theorem lenD_t {ds : List D} : lenD [.tuple ds] = .ok (.int ds.length) := rfl
@[simp] theorem pr1 : Pr.F .len = lenD := rfl
@[simp] theorem pr2 : Pr.F .all = allD := rfl
@[simp] theorem pr3 : Pr.F .any = anyD := rfl
@[simp] theorem pr4 : Pr.F .max = maxD := rfl
@[simp] theorem pr5 : Pr.F .min = minD := rfl
@[simp] theorem pr6 : Pr.F .tuple = tupleD := rfl
@[simp] theorem pr7 : Pr.F .list = listD := rfl
@[simp] theorem pr8 : Pr.F .sorted = sortedD := rfl
@[simp] theorem tupleD_l {ds : List D} : tupleD [.list ds] = .ok (.tuple ds) := rfl
@[simp] theorem listD_l {ds : List D} : listD [.list ds] = .ok (.list ds) := rfl
@[simp] theorem listD_t {ds : List D} : listD [.tuple ds] = .ok (.list ds) := rfl
@[simp] theorem allD_bs {bs : List Bool} : allD [.list (bs.map PyData.bool)] = .ok (.bool (bs.all id)) := by simp [allD]
@[simp] theorem anyD_bs {bs : List Bool} : anyD [.list (bs.map PyData.bool)] = .ok (.bool (bs.any id)) := by simp [anyD]
@[simp] theorem allD_map {α : Type} (f : α → Bool) (l : List α) : allD [.list (l.map fun a => PyData.bool (f a))] = .ok (.bool (l.all f)) := by
  have := allD_bs (bs := l.map f)
  rw [List.map_map] at this
  rw [show (fun a => PyData.bool (f a)) = PyData.bool ∘ f from rfl, this]
  simp
@[simp] theorem anyD_map {α : Type} (f : α → Bool) (l : List α) : anyD [.list (l.map fun a => PyData.bool (f a))] = .ok (.bool (l.any f)) := by
  have := anyD_bs (bs := l.map f)
  rw [List.map_map] at this
  rw [show (fun a => PyData.bool (f a)) = PyData.bool ∘ f from rfl, this]
  simp
@[simp] theorem cd1 : Cst.d .non = .none := rfl
@[simp] theorem cd2 {b : Bool} : Cst.d (.bl b) = .bool b := rfl
@[simp] theorem cd3 {i : Int} : Cst.d (.int i) = .int i := rfl
@[simp] theorem cd4 {x : Str} : Cst.d (.str x) = .str x := rfl
@[simp] theorem repL_eq {ds : List D} {k : Int} : repL ds k = if 0 ≤ k ∧ k ≤ 1000 then .ok (.list (List.replicate k.toNat ds).flatten) else .stuck := rfl
@[simp] theorem ixD_l {ds : List D} {i : Int} : ixD (.list ds) (.int i) = match L2.atI ds i with | some d => .ok d | none => .stuck := rfl
@[simp] theorem ixD_t {ds : List D} {i : Int} : ixD (.tuple ds) (.int i) = match L2.atI ds i with | some d => .ok d | none => .stuck := rfl
@[simp] theorem slD_l {ds : List D} {a b : Option Int} : slD a b (.list ds) = .ok (.list (cutD ds a b)) := rfl
@[simp] theorem slD_t {ds : List D} {a b : Option Int} : slD a b (.tuple ds) = .ok (.tuple (cutD ds a b)) := rfl
@[simp] theorem slL_l {ds : List D} {a b : Option Int} : slL a b (.list ds) = .ok (.list (cutD ds a b)) := rfl
theorem atI_nn {α : Type} {ds : List α} {k : Nat} (h : k < ds.length) : L2.atI ds (k : Int) = some ds[k] := by
  unfold L2.atI L2.ixN
  rw [if_pos (by omega)]
  simp [h]
@[simp] theorem atI_0 {α : Type} {a : α} {r : List α} : L2.atI (a :: r) 0 = some a := by
  have := atI_nn (ds := a :: r) (k := 0) (by simp)
  simpa using this
@[simp] theorem atI_1 {α : Type} {a b : α} {r : List α} : L2.atI (a :: b :: r) 1 = some b := by
  have := atI_nn (ds := a :: b :: r) (k := 1) (by simp)
  simpa using this
@[simp] theorem atI_2 {α : Type} {a b c : α} {r : List α} : L2.atI (a :: b :: c :: r) 2 = some c := by
  have := atI_nn (ds := a :: b :: c :: r) (k := 2) (by simp)
  simpa using this
@[simp] theorem atI_3 {α : Type} {a b c d : α} {r : List α} : L2.atI (a :: b :: c :: d :: r) 3 = some d := by
  have := atI_nn (ds := a :: b :: c :: d :: r) (k := 3) (by simp)
  simpa using this
@[simp] theorem endD_rt {d : D} {ρ : Ro} : endD (.ok (.rt d, ρ)) = .ok d := rfl
@[simp] theorem endD_nx {ρ : Ro} : endD (.ok (.nx, ρ)) = .ok .none := rfl
@[simp] theorem endD_exc {c : Nat} : endD (.exc c) = .exc c := rfl
theorem wp_end {r : Rs (Fl × Ro)} {Q : D → Prop} : Wp (endD r) Q ↔ Wp r fun p => match p with | (.rt d, _) => Q d | (.nx, _) => Q .none | _ => False := by
  cases r with
  | ok p =>
    obtain ⟨fl, ρ⟩ := p
    cases fl <;> exact .rfl
  | exc c => exact .rfl
  | stuck => exact .rfl
theorem wp_def {ft : Tb} {n k : Nat} {ss : Ss} {ds : List D} {Q : D → Prop} (hl : ds.length = n) (h : Wp (ss.den ft (startD k ds)) fun p => match p with | (.rt d, _) => Q d | (.nx, _) => Q .none | _ => False) : Wp (defD ft n k ss ds) Q := by
  unfold defD
  rw [if_pos hl]
  exact wp_end.mpr h
theorem cut_from (ds : List D) (k : Nat) : cutD ds (some (k : Int)) none = ds.drop k := by
  unfold cutD
  rw [HT.sIx_nat, HT.sIx_none]
  by_cases h : k ≤ ds.length
  · rw [Nat.min_eq_left h, List.take_of_length_le (by simp)]
  · rw [List.drop_eq_nil_of_le (by omega), List.drop_eq_nil_of_le (by omega), List.take_nil]
theorem cut_to (ds : List D) (k : Nat) : cutD ds none (some (k : Int)) = ds.take k := by
  unfold cutD
  rw [HT.sIx_nat, HT.sIx_none, List.drop_zero, Nat.sub_zero]
  by_cases h : k ≤ ds.length
  · rw [Nat.min_eq_left h]
  · rw [Nat.min_eq_right (by omega), List.take_of_length_le (by omega), List.take_of_length_le (by omega)]
theorem wp_for {α : Type} {st : STg} {F : DS} {g : α → D} (I : Nat → Ro → Prop) {Q : Fl × Ro → Prop} : ∀ (l : List α) (ρ : Ro) (k : Nat), I k ρ →
    (∀ i a ρ, l[i]? = some a → I (k + i) ρ → Wp (st (g a) ρ) fun ρ1 => Wp (F ρ1) fun p => match p with
      | (.nx, ρ2) => I (k + i + 1) ρ2
      | (.ct, ρ2) => I (k + i + 1) ρ2
      | (.bk, ρ2) => Q (.nx, ρ2)
      | (.rt d, ρ2) => Q (.rt d, ρ2)) → (∀ ρ, I (k + l.length) ρ → Q (.nx, ρ)) → Wp (forL st F (l.map g) ρ) Q
  | [], ρ, k, h0, _, hq => hq ρ h0
  | a :: l, ρ, k, h0, hs, hq => by
    show Wp (forL st F (g a :: l.map g) ρ) Q
    unfold forL
    rw [wp_bind, wp_noexc]
    have h1 := hs 0 a ρ rfl h0
    refine h1.imp fun ρ1 h2 => ?_
    rw [wp_bind]
    refine h2.imp fun p h3 => ?_
    obtain ⟨fl, ρ2⟩ := p
    have next : I (k + 0 + 1) ρ2 → Wp (forL st F (l.map g) ρ2) Q := fun h4 => wp_for I l ρ2 (k + 1) h4 (fun i b ρ3 e hi => by
      have := hs (i + 1) b ρ3 (by simpa using e) (by rw [show k + (i + 1) = k + 1 + i by omega]; exact hi)
      rw [show k + (i + 1) + 1 = k + 1 + i + 1 by omega] at this
      exact this) fun ρ3 h => hq ρ3 (by rw [List.length_cons, show k + (l.length + 1) = k + 1 + l.length by omega]; exact h)
    cases fl with
    | nx => exact next h3
    | ct => exact next h3
    | bk => exact h3
    | rt d => exact h3
theorem wp_while {c : DE} {F : DS} (I : Nat → Ro → Prop) {Q : Fl × Ro → Prop} : ∀ (m : Nat) (ρ : Ro) (n : Nat), m < n → I m ρ →
    (∀ m ρ, I m ρ → Wp (tstE c ρ) fun b => if b then Wp (F ρ) fun p => match p with
      | (.nx, ρ2) => ∃ m', m' < m ∧ I m' ρ2
      | (.ct, ρ2) => ∃ m', m' < m ∧ I m' ρ2
      | (.bk, ρ2) => Q (.nx, ρ2)
      | (.rt d, ρ2) => Q (.rt d, ρ2) else Q (.nx, ρ)) → Wp (whlL c F n ρ) Q := fun m => by
  induction m using Nat.strongRecOn with
  | _ m ih =>
    intro ρ n hm h0 hs
    cases n with
    | zero => omega
    | succ n =>
      unfold whlL
      rw [wp_bind]
      refine (hs m ρ h0).imp fun b hb => ?_
      cases b with
      | false => exact hb
      | true =>
        have hb' : Wp (F ρ) _ := hb
        rw [if_pos rfl, wp_bind]
        refine hb'.imp fun p h3 => ?_
        obtain ⟨fl, ρ2⟩ := p
        cases fl with
        | nx => obtain ⟨m', h4, h5⟩ := h3; exact ih m' h4 ρ2 n (by omega) h5 hs
        | ct => obtain ⟨m', h4, h5⟩ := h3; exact ih m' h4 ρ2 n (by omega) h5 hs
        | bk => exact h3
        | rt d => exact h3
theorem compL_map {α : Type} {st : STg} {t : Ro → Rs Bool} {f : DE} {g : α → D} {p : α → Bool} {h : α → D} {ρ : Ro} : ∀ l : List α, (∀ a ∈ l, Wp (st (g a) ρ) fun ρ1 => t ρ1 = .ok (p a) ∧ (p a = true → f ρ1 = .ok (h a))) → compL st t f ρ (l.map g) = .ok ((l.filter p).map h)
  | [], _ => rfl
  | a :: l, H => by
    have ih := compL_map l fun b hb => H b (List.mem_cons_of_mem _ hb)
    obtain ⟨ρ1, e1, e2, e3⟩ := wp_iff.mp (H a List.mem_cons_self)
    show compL st t f ρ (g a :: l.map g) = _
    unfold compL
    rw [e1, Rs.ok_bind, e2, Rs.ok_bind]
    cases hp : p a with
    | true => rw [if_pos rfl, e3 hp, Rs.ok_bind, ih, List.filter_cons_of_pos hp]; rfl
    | false => rw [if_neg (by decide), ih, List.filter_cons_of_neg (by rw [hp]; decide)]
theorem compL_all {α : Type} {st : STg} {f : DE} {g : α → D} {h : α → D} {ρ : Ro} (l : List α) (H : ∀ a ∈ l, Wp (st (g a) ρ) fun ρ1 => f ρ1 = .ok (h a)) : compL st (fun _ => .ok true) f ρ (l.map g) = .ok (l.map h) := by
  have := compL_map (p := fun _ => true) (t := fun _ => .ok true) l fun a ha => (H a ha).imp fun ρ1 e => ⟨rfl, fun _ => e⟩
  rw [this, List.filter_eq_self.mpr fun _ _ => rfl]
theorem compL2_map {α β : Type} {st st1 : STg} {fi1 : DI} {t : Ro → Rs Bool} {f : DE} {vs1 : List Nat} {g : α → D} {g1 : β → D} {l1 : α → List β} {p : α → β → Bool} {h : α → β → D} {ρ : Ro} : ∀ l : List α,
    (∀ a ∈ l, Wp (st (g a) ρ) fun ρ1 => fi1 ρ1 = .ok ((l1 a).map g1) ∧ ∀ b ∈ l1 a, Wp (st1 (g1 b) (wipeR ρ1 vs1)) fun ρ2 => t ρ2 = .ok (p a b) ∧ (p a b = true → f ρ2 = .ok (h a b))) → compL2 st fi1 st1 t f vs1 ρ (l.map g) = .ok (l.flatMap fun a => ((l1 a).filter (p a)).map (h a))
  | [], _ => rfl
  | a :: l, H => by
    have ih := compL2_map l fun b hb => H b (List.mem_cons_of_mem _ hb)
    obtain ⟨ρ1, e1, e2, e3⟩ := wp_iff.mp (H a List.mem_cons_self)
    show compL2 st fi1 st1 t f vs1 ρ (g a :: l.map g) = _
    unfold compL2
    rw [e1, Rs.ok_bind, e2, Rs.ok_bind, compL_map (l1 a) e3, Rs.ok_bind, ih]
    rfl
@[simp] theorem noexc_ok' {α : Type} (a : α) : (Rs.ok a).noexc = .ok a := rfl
theorem rng_map (lo : Int) (n : Nat) : rngD lo n = (List.range n).map fun i : Nat => PyData.int (lo + (i : Int)) := rfl
theorem rng0_map (n : Nat) : rngD 0 n = (List.range n).map fun i : Nat => PyData.int (i : Int) := by
  rw [rng_map]
  simp
def Sh (n : Nat) (d : D) : Prop := d.canLay0 = true ∧ d.depth ≤ n
theorem shaped_of {n : Nat} {d : D} (h : Sh n d) (hn : n ≤ 64) : SeqAt.shaped d = true := by
  unfold SeqAt.shaped
  rw [h.1, Bool.true_and]
  exact decide_eq_true (Nat.le_trans h.2 hn)
theorem sh_all {n : Nat} : ∀ {ds : List D}, (∀ d ∈ ds, Sh n d) → PyData.canLayAll0 ds = true ∧ PyData.depthAll ds ≤ n
  | [], _ => ⟨rfl, Nat.zero_le _⟩
  | d :: ds, h => by
    obtain ⟨h1, h2⟩ := h d List.mem_cons_self
    obtain ⟨h3, h4⟩ := sh_all fun x hx => h x (List.mem_cons_of_mem _ hx)
    refine ⟨?_, ?_⟩
    · show (d.canLay0 && PyData.canLayAll0 ds) = true
      rw [h1, h3]; rfl
    · show max d.depth (PyData.depthAll ds) ≤ n
      omega
theorem sh_list {n : Nat} {ds : List D} (h : ∀ d ∈ ds, Sh n d) : Sh (n + 1) (.list ds) := ⟨(sh_all h).1, Nat.succ_le_succ (sh_all h).2⟩
theorem sh_tuple {n : Nat} {ds : List D} (h : ∀ d ∈ ds, Sh n d) : Sh (n + 1) (.tuple ds) := ⟨(sh_all h).1, Nat.succ_le_succ (sh_all h).2⟩
theorem sh_int {n : Nat} (i : Int) : Sh n (.int i) := ⟨rfl, Nat.zero_le _⟩
theorem sh_bool {n : Nat} (i : Bool) : Sh n (.bool i) := ⟨rfl, Nat.zero_le _⟩
theorem sh_none {n : Nat} : Sh n .none := ⟨rfl, Nat.zero_le _⟩
theorem Sh.up {n m : Nat} {d : D} (h : Sh n d) (k : n ≤ m) : Sh m d := ⟨h.1, Nat.le_trans h.2 k⟩
class Enc (α : Type) [DecidableEq α] where
  e : α → D
  n : Nat
  sh : ∀ a, Sh n (e a)
  eq : ∀ a b, PyData.eqv (e a) (e b) = decide (a = b)
instance encInt : Enc Int := ⟨.int, 0, sh_int, fun a b => by
  show (a == b) = _
  by_cases h : a = b <;> simp [h]⟩
instance encNat : Enc Nat := ⟨fun k => .int (k : Int), 0, fun k => sh_int _, fun a b => by
  show ((a : Int) == (b : Int)) = _
  by_cases h : a = b
  · simp [h]
  · have : ¬ (a : Int) = (b : Int) := by omega
    simp [h, this]⟩
theorem eqvAll_map {α : Type} [DecidableEq α] {e : α → D} (h : ∀ a b, PyData.eqv (e a) (e b) = decide (a = b)) : ∀ l m : List α, PyData.eqvAll (l.map e) (m.map e) = decide (l = m)
  | [], [] => rfl
  | [], _ :: _ => rfl
  | _ :: _, [] => rfl
  | a :: l, b :: m => by
    show (PyData.eqv (e a) (e b) && PyData.eqvAll (l.map e) (m.map e)) = _
    rw [h, eqvAll_map h l m]
    by_cases h1 : a = b <;> by_cases h2 : l = m <;> simp [h1, h2]
instance encPair {α β : Type} [DecidableEq α] [DecidableEq β] [Enc α] [Enc β] : Enc (α × β) := ⟨fun p => .tuple [Enc.e p.1, Enc.e p.2], max (Enc.n α) (Enc.n β) + 1, fun p => sh_tuple fun d hd => by
  rcases List.mem_cons.mp hd with rfl | hd
  · exact (Enc.sh p.1).up (Nat.le_max_left _ _)
  · rw [List.mem_singleton.mp hd]
    exact (Enc.sh p.2).up (Nat.le_max_right _ _), fun p q => by
  show (PyData.eqv (Enc.e p.1) (Enc.e q.1) && (PyData.eqv (Enc.e p.2) (Enc.e q.2) && true)) = _
  rw [Enc.eq, Enc.eq]
  by_cases h1 : p.1 = q.1 <;> by_cases h2 : p.2 = q.2 <;> simp [h1, h2, Prod.ext_iff]⟩
instance encList {α : Type} [DecidableEq α] [Enc α] : Enc (List α) := ⟨fun l => .list (l.map Enc.e), Enc.n α + 1, fun l => sh_list fun d hd => by
  obtain ⟨a, _, rfl⟩ := List.mem_map.mp hd
  exact Enc.sh a, fun l m => eqvAll_map Enc.eq l m⟩
structure Tu (α : Type) where
  l : List α
deriving DecidableEq
instance encTu {α : Type} [DecidableEq α] [Enc α] : Enc (Tu α) := ⟨fun l => .tuple (l.l.map Enc.e), Enc.n α + 1, fun l => sh_tuple fun d hd => by
  obtain ⟨a, _, rfl⟩ := List.mem_map.mp hd
  exact Enc.sh a, fun l m => (eqvAll_map Enc.eq l.l m.l).trans (by
    cases l; cases m
    simp)⟩
structure Pan where
  a : Int
  b : Int
  c : Int
  d : Int
deriving DecidableEq
def pD (p : Pan) : D := .tuple [.int p.a, .int p.b, .int p.c, .int p.d]
instance encPan : Enc Pan := ⟨pD, 1, fun p => sh_tuple fun d hd => by
  simp only [List.mem_cons, List.not_mem_nil, or_false] at hd
  rcases hd with rfl | rfl | rfl | rfl <;> exact sh_int _, fun p q => by
  show ((p.a == q.a) && ((p.b == q.b) && ((p.c == q.c) && ((p.d == q.d) && true)))) = _
  cases p; cases q
  simp only [Pan.mk.injEq, Bool.and_true]
  rename_i a b c d a' b' c' d'
  by_cases h1 : a = a' <;> by_cases h2 : b = b' <;> by_cases h3 : c = c' <;> by_cases h4 : d = d' <;> simp [h1, h2, h3, h4]⟩
section
variable {α : Type} [DecidableEq α] [Enc α]
theorem eqD_e (hn : Enc.n α ≤ 64) (a b : α) : eqD (Enc.e a) (Enc.e b) = .ok (.bool (decide (a = b))) := by
  unfold eqD
  rw [if_pos ⟨shaped_of (Enc.sh a) hn, shaped_of (Enc.sh b) hn⟩, Enc.eq]
theorem neD_e (hn : Enc.n α ≤ 64) (a b : α) : neD (Enc.e a) (Enc.e b) = .ok (.bool (!decide (a = b))) := by
  unfold neD
  rw [if_pos ⟨shaped_of (Enc.sh a) hn, shaped_of (Enc.sh b) hn⟩, Enc.eq]
theorem inL_e (a : α) (l : List α) : inL (Enc.e a) (l.map Enc.e) = decide (a ∈ l) := by
  unfold inL
  induction l with
  | nil => rfl
  | cons b l ih =>
    rw [List.map_cons, List.any_cons, ih, Enc.eq]
    by_cases h1 : b = a
    · simp [h1]
    · have : ¬ a = b := fun e => h1 e.symm
      simp [h1, this]
theorem inD_l (hn : Enc.n α + 1 ≤ 64) (a : α) (l : List α) : inD false (Enc.e a) (.list (l.map Enc.e)) = .ok (.bool (decide (a ∈ l))) := by
  show (if _ then _ else _) = _
  rw [if_pos ⟨shaped_of (Enc.sh a) (by omega), shaped_of (Enc.sh l) hn⟩, inL_e]; rfl
theorem notinD_l (hn : Enc.n α + 1 ≤ 64) (a : α) (l : List α) : inD true (Enc.e a) (.list (l.map Enc.e)) = .ok (.bool (!decide (a ∈ l))) := by
  show (if _ then _ else _) = _
  rw [if_pos ⟨shaped_of (Enc.sh a) (by omega), shaped_of (Enc.sh l) hn⟩, inL_e]; rfl
theorem inD_b (hn : Enc.n α + 1 ≤ 64) (a : α) (l : List α) (b : Bool) (h : a ∈ l ↔ b = true) : inD false (Enc.e a) (.list (l.map Enc.e)) = .ok (.bool b) := by
  rw [inD_l hn]
  congr 2
  rw [Bool.eq_iff_iff, decide_eq_true_iff]
  exact h
theorem notinD_b (hn : Enc.n α + 1 ≤ 64) (a : α) (l : List α) (b : Bool) (h : a ∈ l ↔ b = true) : inD true (Enc.e a) (.list (l.map Enc.e)) = .ok (.bool (!b)) := by
  rw [notinD_l hn]
  congr 3
  rw [Bool.eq_iff_iff, decide_eq_true_iff]
  exact h
end
end Den
namespace K13
open PySem PySem.Spec PyProof.Rows L2 Den
def top (i : Nat) : Stmt := PySem.Challenge.pw_panelorder_k13_cutting.main.body.getD i (.Pass ⟨0, 0, 0, 0⟩)
def exs : List Str := ["InvalidPage", "InvalidPart"]
def gls : List (Str × Cst) := [("SIZE", (.int 20)), ("MAX_PANELS", (.int 8))]
def bls : List Str := ["len", "all", "any", "max", "min", "tuple", "list", "sorted", "range", "isinstance", "enumerate", "int", "bool", "str", "set", "zip"]
def n0 : List Str := ["value", "least", "most"]
def g0 : Sg := ⟨n0, fun _ => false, gls, [], bls⟩
def s0 : Ss := (.cons (.ret (.and (.isi .int (.var 0 "value" ⟨12, 22, 12, 27⟩) ⟨12, 11, 12, 21⟩ ⟨12, 29, 12, 32⟩ ⟨12, 11, 12, 33⟩) (.cons (.not (.isi .bool (.var 0 "value" ⟨12, 54, 12, 59⟩) ⟨12, 43, 12, 53⟩ ⟨12, 61, 12, 65⟩ ⟨12, 43, 12, 66⟩) ⟨12, 39, 12, 66⟩) (.cons (.chn .le .le (.var 1 "least" ⟨12, 73, 12, 78⟩) (.var 0 "value" ⟨12, 82, 12, 87⟩) (.var 2 "most" ⟨12, 91, 12, 95⟩) ⟨12, 73, 12, 95⟩) .nil)) ⟨12, 11, 12, 96⟩) ⟨12, 4, 12, 96⟩)
    .nil)
theorem py0 : s0.py = defBody (top 7) := by kernel_rfl
theorem ok0 : s0.ok g0 exs (defScope (top 7)) = true := by kernel_rfl
theorem sc0 : FnScope n0 ["value", "least", "most"] (defScope (top 7)) := scB_ok (by kernel_rfl)
def ds0 : List (List D → Rs D) := []
def d0 : List D → Rs D := defD (tbl ds0) 3 3 s0
def n1 : List Str := ["value", "part"]
def g1 : Sg := ⟨n1, fun _ => false, gls, [("is_int", 3)], bls⟩
def s1 : Ss := (.cons (.iff (.or (.not (.isi .tuple (.var 0 "value" ⟨14, 22, 14, 27⟩) ⟨14, 11, 14, 21⟩ ⟨14, 29, 14, 34⟩ ⟨14, 11, 14, 35⟩) ⟨14, 7, 14, 35⟩) (.cons (.cmp .ne (.prim .len ⟨14, 39, 14, 42⟩ (.var 0 "value" ⟨14, 43, 14, 48⟩) .nil ⟨14, 39, 14, 49⟩) (.cst (.int 4) 0 ⟨14, 53, 14, 54⟩) ⟨14, 39, 14, 54⟩) (.cons (.not (.prim .all ⟨14, 63, 14, 66⟩ (.comp (.call 0 "is_int" ⟨14, 68, 14, 74⟩ (.var 1 "part" ⟨14, 75, 14, 79⟩) (.cons (.cst (.int 0) 0 ⟨14, 81, 14, 82⟩) (.cons (.glo "SIZE" (.int 20) ⟨14, 84, 14, 88⟩) .nil)) ⟨14, 68, 14, 89⟩) (.nm 1 "part" ⟨14, 94, 14, 98⟩) (.seq (.var 0 "value" ⟨14, 102, 14, 107⟩)) .nil ⟨.function, [(".0", .local), ("part", .local), ("is_int", .globalImplicit), ("SIZE", .globalImplicit)], false, false, []⟩ [("part", 1)] ⟨14, 67, 14, 108⟩) .nil ⟨14, 63, 14, 109⟩) ⟨14, 59, 14, 109⟩) .nil)) ⟨14, 7, 14, 110⟩) (.cons (.ret (.cst (.bl false) 0 ⟨15, 15, 15, 20⟩) ⟨15, 8, 15, 20⟩)
    .nil) .nil ⟨14, 4, 15, 20⟩)
    (.cons (.ret (.and (.cmp .lt (.ix (.var 0 "value" ⟨16, 11, 16, 16⟩) (.cst (.int 0) 0 ⟨16, 17, 16, 18⟩) ⟨16, 11, 16, 19⟩) (.ix (.var 0 "value" ⟨16, 22, 16, 27⟩) (.cst (.int 2) 0 ⟨16, 28, 16, 29⟩) ⟨16, 22, 16, 30⟩) ⟨16, 11, 16, 30⟩) (.cons (.cmp .lt (.ix (.var 0 "value" ⟨16, 35, 16, 40⟩) (.cst (.int 1) 0 ⟨16, 41, 16, 42⟩) ⟨16, 35, 16, 43⟩) (.ix (.var 0 "value" ⟨16, 46, 16, 51⟩) (.cst (.int 3) 0 ⟨16, 52, 16, 53⟩) ⟨16, 46, 16, 54⟩) ⟨16, 35, 16, 54⟩) .nil) ⟨16, 11, 16, 54⟩) ⟨16, 4, 16, 54⟩)
    .nil))
theorem py1 : s1.py = defBody (top 8) := by kernel_rfl
theorem ok1 : s1.ok g1 exs (defScope (top 8)) = true := by kernel_rfl
theorem sc1 : FnScope n1 ["value"] (defScope (top 8)) := scB_ok (by kernel_rfl)
def ds1 : List (List D → Rs D) := [d0]
def d1 : List D → Rs D := defD (tbl ds1) 1 2 s1
def n2 : List Str := ["one", "other"]
def g2 : Sg := ⟨n2, fun _ => false, gls, [("is_int", 3), ("is_panel", 1)], bls⟩
def s2 : Ss := (.cons (.ret (.and (.cmp .lt (.ix (.var 0 "one" ⟨18, 11, 18, 14⟩) (.cst (.int 0) 0 ⟨18, 15, 18, 16⟩) ⟨18, 11, 18, 17⟩) (.ix (.var 1 "other" ⟨18, 20, 18, 25⟩) (.cst (.int 2) 0 ⟨18, 26, 18, 27⟩) ⟨18, 20, 18, 28⟩) ⟨18, 11, 18, 28⟩) (.cons (.cmp .lt (.ix (.var 1 "other" ⟨18, 33, 18, 38⟩) (.cst (.int 0) 0 ⟨18, 39, 18, 40⟩) ⟨18, 33, 18, 41⟩) (.ix (.var 0 "one" ⟨18, 44, 18, 47⟩) (.cst (.int 2) 0 ⟨18, 48, 18, 49⟩) ⟨18, 44, 18, 50⟩) ⟨18, 33, 18, 50⟩) .nil) ⟨18, 11, 18, 50⟩) ⟨18, 4, 18, 50⟩)
    .nil)
theorem py2 : s2.py = defBody (top 9) := by kernel_rfl
theorem ok2 : s2.ok g2 exs (defScope (top 9)) = true := by kernel_rfl
theorem sc2 : FnScope n2 ["one", "other"] (defScope (top 9)) := scB_ok (by kernel_rfl)
def ds2 : List (List D → Rs D) := [d0, d1]
def d2 : List D → Rs D := defD (tbl ds2) 2 2 s2
def n3 : List Str := ["one", "other"]
def g3 : Sg := ⟨n3, fun _ => false, gls, [("is_int", 3), ("is_panel", 1), ("share_widths", 2)], bls⟩
def s3 : Ss := (.cons (.ret (.and (.cmp .lt (.ix (.var 0 "one" ⟨20, 11, 20, 14⟩) (.cst (.int 1) 0 ⟨20, 15, 20, 16⟩) ⟨20, 11, 20, 17⟩) (.ix (.var 1 "other" ⟨20, 20, 20, 25⟩) (.cst (.int 3) 0 ⟨20, 26, 20, 27⟩) ⟨20, 20, 20, 28⟩) ⟨20, 11, 20, 28⟩) (.cons (.cmp .lt (.ix (.var 1 "other" ⟨20, 33, 20, 38⟩) (.cst (.int 1) 0 ⟨20, 39, 20, 40⟩) ⟨20, 33, 20, 41⟩) (.ix (.var 0 "one" ⟨20, 44, 20, 47⟩) (.cst (.int 3) 0 ⟨20, 48, 20, 49⟩) ⟨20, 44, 20, 50⟩) ⟨20, 33, 20, 50⟩) .nil) ⟨20, 11, 20, 50⟩) ⟨20, 4, 20, 50⟩)
    .nil)
theorem py3 : s3.py = defBody (top 10) := by kernel_rfl
theorem ok3 : s3.ok g3 exs (defScope (top 10)) = true := by kernel_rfl
theorem sc3 : FnScope n3 ["one", "other"] (defScope (top 10)) := scB_ok (by kernel_rfl)
def ds3 : List (List D → Rs D) := [d0, d1, d2]
def d3 : List D → Rs D := defD (tbl ds3) 2 2 s3
def n4 : List Str := ["candidate", "index", "one", "panel", "other"]
def g4 : Sg := ⟨n4, fun _ => false, gls, [("is_int", 3), ("is_panel", 1), ("share_widths", 2), ("share_heights", 2)], bls⟩
def s4 : Ss := (.cons (.iff (.or (.not (.isi .tuple (.var 0 "candidate" ⟨22, 22, 22, 31⟩) ⟨22, 11, 22, 21⟩ ⟨22, 33, 22, 38⟩ ⟨22, 11, 22, 39⟩) ⟨22, 7, 22, 39⟩) (.cons (.cmp .gt (.prim .len ⟨22, 43, 22, 46⟩ (.var 0 "candidate" ⟨22, 47, 22, 56⟩) .nil ⟨22, 43, 22, 57⟩) (.glo "MAX_PANELS" (.int 8) ⟨22, 60, 22, 70⟩) ⟨22, 43, 22, 70⟩) .nil) ⟨22, 7, 22, 70⟩) (.cons (.ret (.cst (.bl false) 0 ⟨23, 15, 23, 20⟩) ⟨23, 8, 23, 20⟩)
    .nil) .nil ⟨22, 4, 23, 20⟩)
    (.cons (.iff (.not (.prim .all ⟨24, 11, 24, 14⟩ (.comp (.call 1 "is_panel" ⟨24, 16, 24, 24⟩ (.var 3 "panel" ⟨24, 25, 24, 30⟩) .nil ⟨24, 16, 24, 31⟩) (.nm 3 "panel" ⟨24, 36, 24, 41⟩) (.seq (.var 0 "candidate" ⟨24, 45, 24, 54⟩)) .nil ⟨.function, [(".0", .local), ("panel", .local), ("is_panel", .globalImplicit)], false, false, []⟩ [("panel", 3)] ⟨24, 15, 24, 55⟩) .nil ⟨24, 11, 24, 56⟩) ⟨24, 7, 24, 56⟩) (.cons (.ret (.cst (.bl false) 0 ⟨25, 15, 25, 20⟩) ⟨25, 8, 25, 20⟩)
    .nil) .nil ⟨24, 4, 25, 20⟩)
    (.cons (.for (.tp [(1, "index", ⟨26, 8, 26, 13⟩), (2, "one", ⟨26, 15, 26, 18⟩)] 0 ⟨26, 8, 26, 18⟩) (.enu (.var 0 "candidate" ⟨26, 32, 26, 41⟩) ⟨26, 22, 26, 31⟩ ⟨26, 22, 26, 42⟩) (.cons (.iff (.prim .any ⟨27, 11, 27, 14⟩ (.comp (.and (.call 2 "share_widths" ⟨27, 16, 27, 28⟩ (.var 2 "one" ⟨27, 29, 27, 32⟩) (.cons (.var 4 "other" ⟨27, 34, 27, 39⟩) .nil) ⟨27, 16, 27, 40⟩) (.cons (.call 3 "share_heights" ⟨27, 45, 27, 58⟩ (.var 2 "one" ⟨27, 59, 27, 62⟩) (.cons (.var 4 "other" ⟨27, 64, 27, 69⟩) .nil) ⟨27, 45, 27, 70⟩) .nil) ⟨27, 16, 27, 70⟩) (.nm 4 "other" ⟨27, 75, 27, 80⟩) (.seq (.slo (.var 0 "candidate" ⟨27, 84, 27, 93⟩) (.bin .add (.var 1 "index" ⟨27, 94, 27, 99⟩) (.cst (.int 1) 0 ⟨27, 102, 27, 103⟩) ⟨27, 94, 27, 103⟩) ⟨27, 94, 27, 104⟩ ⟨27, 84, 27, 105⟩)) .nil ⟨.function, [(".0", .local), ("other", .local), ("share_widths", .globalImplicit), ("share_heights", .globalImplicit), ("one", .free)], false, false, []⟩ [("other", 4)] ⟨27, 15, 27, 106⟩) .nil ⟨27, 11, 27, 107⟩) (.cons (.ret (.cst (.bl false) 0 ⟨28, 19, 28, 24⟩) ⟨28, 12, 28, 24⟩)
    .nil) .nil ⟨27, 8, 28, 24⟩)
    .nil) ⟨26, 4, 28, 24⟩)
    (.cons (.ret (.cst (.bl true) 0 ⟨29, 11, 29, 15⟩) ⟨29, 4, 29, 15⟩)
    .nil))))
theorem py4 : s4.py = defBody (top 11) := by kernel_rfl
theorem ok4 : s4.ok g4 exs (defScope (top 11)) = true := by kernel_rfl
theorem sc4 : FnScope n4 ["candidate"] (defScope (top 11)) := scB_ok (by kernel_rfl)
def ds4 : List (List D → Rs D) := [d0, d1, d2, d3]
def d4 : List D → Rs D := defD (tbl ds4) 1 5 s4
def n5 : List Str := ["value"]
def g5 : Sg := ⟨n5, fun _ => false, gls, [("is_int", 3), ("is_panel", 1), ("share_widths", 2), ("share_heights", 2), ("is_page", 1)], bls⟩
def s5 : Ss := (.cons (.iff (.not (.call 4 "is_page" ⟨31, 11, 31, 18⟩ (.var 0 "value" ⟨31, 19, 31, 24⟩) .nil ⟨31, 11, 31, 25⟩) ⟨31, 7, 31, 25⟩) (.cons (.rse 0 "InvalidPage" ⟨32, 14, 32, 25⟩ "the value is not a page" 0 ⟨32, 26, 32, 51⟩ ⟨32, 14, 32, 52⟩ ⟨32, 8, 32, 52⟩)
    .nil) .nil ⟨31, 4, 32, 52⟩)
    .nil)
theorem py5 : s5.py = defBody (top 12) := by kernel_rfl
theorem ok5 : s5.ok g5 exs (defScope (top 12)) = true := by kernel_rfl
theorem sc5 : FnScope n5 ["value"] (defScope (top 12)) := scB_ok (by kernel_rfl)
def ds5 : List (List D → Rs D) := [d0, d1, d2, d3, d4]
def d5 : List D → Rs D := defD (tbl ds5) 1 1 s5
def n6 : List Str := ["page", "part", "low", "found", "line", "is_clear", "number"]
def g6 : Sg := ⟨n6, fun i => i == 3, gls, [("is_int", 3), ("is_panel", 1), ("share_widths", 2), ("share_heights", 2), ("is_page", 1), ("check_page", 1)], bls⟩
def s6 : Ss := (.cons (.set 3 "found" ⟨35, 4, 35, 9⟩ (.lst .nil ⟨35, 12, 35, 14⟩) ⟨35, 4, 35, 14⟩)
    (.cons (.for (.nm 4 "line" ⟨36, 8, 36, 12⟩) (.seq (.srts (.comp (.ix (.ix (.var 0 "page" ⟨36, 28, 36, 32⟩) (.var 6 "number" ⟨36, 33, 36, 39⟩) ⟨36, 28, 36, 40⟩) (.var 2 "low" ⟨36, 41, 36, 44⟩) ⟨36, 28, 36, 45⟩) (.nm 6 "number" ⟨36, 50, 36, 56⟩) (.seq (.var 1 "part" ⟨36, 60, 36, 64⟩)) .nil ⟨.function, [(".0", .local), ("number", .local), ("low", .free), ("page", .free)], false, false, []⟩ [("number", 6)] ⟨36, 27, 36, 65⟩) ⟨36, 16, 36, 22⟩ ⟨36, 23, 36, 26⟩ ⟨36, 23, 36, 66⟩ ⟨36, 16, 36, 67⟩)) (.cons (.set 5 "is_clear" ⟨37, 8, 37, 16⟩ (.prim .all ⟨37, 19, 37, 22⟩ (.comp (.or (.cmp .le (.ix (.ix (.var 0 "page" ⟨37, 24, 37, 28⟩) (.var 6 "number" ⟨37, 29, 37, 35⟩) ⟨37, 24, 37, 36⟩) (.bin .add (.var 2 "low" ⟨37, 37, 37, 40⟩) (.cst (.int 2) 0 ⟨37, 43, 37, 44⟩) ⟨37, 37, 37, 44⟩) ⟨37, 24, 37, 45⟩) (.var 4 "line" ⟨37, 49, 37, 53⟩) ⟨37, 24, 37, 53⟩) (.cons (.cmp .ge (.ix (.ix (.var 0 "page" ⟨37, 57, 37, 61⟩) (.var 6 "number" ⟨37, 62, 37, 68⟩) ⟨37, 57, 37, 69⟩) (.var 2 "low" ⟨37, 70, 37, 73⟩) ⟨37, 57, 37, 74⟩) (.var 4 "line" ⟨37, 78, 37, 82⟩) ⟨37, 57, 37, 82⟩) .nil) ⟨37, 24, 37, 82⟩) (.nm 6 "number" ⟨37, 87, 37, 93⟩) (.seq (.var 1 "part" ⟨37, 97, 37, 101⟩)) .nil ⟨.function, [(".0", .local), ("number", .local), ("line", .free), ("low", .free), ("page", .free)], false, false, []⟩ [("number", 6)] ⟨37, 23, 37, 102⟩) .nil ⟨37, 19, 37, 103⟩) ⟨37, 8, 37, 103⟩)
    (.cons (.iff (.and (.var 5 "is_clear" ⟨38, 11, 38, 19⟩) (.cons (.prim .any ⟨38, 24, 38, 27⟩ (.comp (.cmp .le (.ix (.ix (.var 0 "page" ⟨38, 29, 38, 33⟩) (.var 6 "number" ⟨38, 34, 38, 40⟩) ⟨38, 29, 38, 41⟩) (.bin .add (.var 2 "low" ⟨38, 42, 38, 45⟩) (.cst (.int 2) 0 ⟨38, 48, 38, 49⟩) ⟨38, 42, 38, 49⟩) ⟨38, 29, 38, 50⟩) (.var 4 "line" ⟨38, 54, 38, 58⟩) ⟨38, 29, 38, 58⟩) (.nm 6 "number" ⟨38, 63, 38, 69⟩) (.seq (.var 1 "part" ⟨38, 73, 38, 77⟩)) .nil ⟨.function, [(".0", .local), ("number", .local), ("line", .free), ("low", .free), ("page", .free)], false, false, []⟩ [("number", 6)] ⟨38, 28, 38, 78⟩) .nil ⟨38, 24, 38, 79⟩) .nil) ⟨38, 11, 38, 79⟩) (.cons (.app 3 "found" ⟨39, 12, 39, 17⟩ ⟨39, 12, 39, 24⟩ ⟨39, 12, 39, 30⟩ (.var 4 "line" ⟨39, 25, 39, 29⟩) ⟨39, 12, 39, 30⟩)
    .nil) .nil ⟨38, 8, 39, 30⟩)
    .nil)) ⟨36, 4, 39, 30⟩)
    (.cons (.retO 3 "found" ⟨40, 11, 40, 16⟩ ⟨40, 4, 40, 16⟩)
    .nil)))
theorem py6 : s6.py = defBody (top 14) := by kernel_rfl
theorem ok6 : s6.ok g6 exs (defScope (top 14)) = true := by kernel_rfl
theorem sc6 : FnScope n6 ["page", "part", "low"] (defScope (top 14)) := scB_ok (by kernel_rfl)
def ds6 : List (List D → Rs D) := [d0, d1, d2, d3, d4, d5]
def d6 : List D → Rs D := defD (tbl ds6) 3 7 s6
def n7 : List Str := ["page", "part", "low", "found", "rest", "line", "number"]
def g7 : Sg := ⟨n7, fun i => i == 3, gls, [("is_int", 3), ("is_panel", 1), ("share_widths", 2), ("share_heights", 2), ("is_page", 1), ("check_page", 1), ("find_cuts", 3)], bls⟩
def s7 : Ss := (.cons (.par [(3, "found", ⟨42, 4, 42, 9⟩), (4, "rest", ⟨42, 11, 42, 15⟩)] 0 ⟨42, 4, 42, 15⟩ (.cons (.lst .nil ⟨42, 19, 42, 21⟩) (.cons (.var 1 "part" ⟨42, 23, 42, 27⟩) .nil)) 0 ⟨42, 18, 42, 28⟩ ⟨42, 4, 42, 28⟩)
    (.cons (.for (.nm 5 "line" ⟨43, 8, 43, 12⟩) (.seq (.call 6 "find_cuts" ⟨43, 16, 43, 25⟩ (.var 0 "page" ⟨43, 26, 43, 30⟩) (.cons (.var 1 "part" ⟨43, 32, 43, 36⟩) (.cons (.var 2 "low" ⟨43, 38, 43, 41⟩) .nil)) ⟨43, 16, 43, 42⟩)) (.cons (.app 3 "found" ⟨44, 8, 44, 13⟩ ⟨44, 8, 44, 20⟩ ⟨44, 8, 44, 89⟩ (.prim .tuple ⟨44, 21, 44, 26⟩ (.comp (.var 6 "number" ⟨44, 28, 44, 34⟩) (.nm 6 "number" ⟨44, 39, 44, 45⟩) (.seq (.var 4 "rest" ⟨44, 49, 44, 53⟩)) (.cons (.cmp .le (.ix (.ix (.var 0 "page" ⟨44, 57, 44, 61⟩) (.var 6 "number" ⟨44, 62, 44, 68⟩) ⟨44, 57, 44, 69⟩) (.bin .add (.var 2 "low" ⟨44, 70, 44, 73⟩) (.cst (.int 2) 0 ⟨44, 76, 44, 77⟩) ⟨44, 70, 44, 77⟩) ⟨44, 57, 44, 78⟩) (.var 5 "line" ⟨44, 82, 44, 86⟩) ⟨44, 57, 44, 86⟩) .nil) ⟨.function, [(".0", .local), ("number", .local), ("line", .free), ("low", .free), ("page", .free)], false, false, []⟩ [("number", 6)] ⟨44, 27, 44, 87⟩) .nil ⟨44, 21, 44, 88⟩) ⟨44, 8, 44, 89⟩)
    (.cons (.set 4 "rest" ⟨45, 8, 45, 12⟩ (.prim .tuple ⟨45, 15, 45, 20⟩ (.comp (.var 6 "number" ⟨45, 22, 45, 28⟩) (.nm 6 "number" ⟨45, 33, 45, 39⟩) (.seq (.var 4 "rest" ⟨45, 43, 45, 47⟩)) (.cons (.cmp .ge (.ix (.ix (.var 0 "page" ⟨45, 51, 45, 55⟩) (.var 6 "number" ⟨45, 56, 45, 62⟩) ⟨45, 51, 45, 63⟩) (.var 2 "low" ⟨45, 64, 45, 67⟩) ⟨45, 51, 45, 68⟩) (.var 5 "line" ⟨45, 72, 45, 76⟩) ⟨45, 51, 45, 76⟩) .nil) ⟨.function, [(".0", .local), ("number", .local), ("line", .free), ("low", .free), ("page", .free)], false, false, []⟩ [("number", 6)] ⟨45, 21, 45, 77⟩) .nil ⟨45, 15, 45, 78⟩) ⟨45, 8, 45, 78⟩)
    .nil)) ⟨43, 4, 45, 78⟩)
    (.cons (.ret (.bin .add (.var 3 "found" ⟨46, 11, 46, 16⟩) (.lst (.cons (.var 4 "rest" ⟨46, 20, 46, 24⟩) .nil) ⟨46, 19, 46, 25⟩) ⟨46, 11, 46, 25⟩) ⟨46, 4, 46, 25⟩)
    .nil)))
theorem py7 : s7.py = defBody (top 15) := by kernel_rfl
theorem ok7 : s7.ok g7 exs (defScope (top 15)) = true := by kernel_rfl
theorem sc7 : FnScope n7 ["page", "part", "low"] (defScope (top 15)) := scB_ok (by kernel_rfl)
def ds7 : List (List D → Rs D) := [d0, d1, d2, d3, d4, d5, d6]
def d7 : List D → Rs D := defD (tbl ds7) 3 7 s7
def n8 : List Str := ["page", "value", "one", "other"]
def g8 : Sg := ⟨n8, fun _ => false, gls, [("is_int", 3), ("is_panel", 1), ("share_widths", 2), ("share_heights", 2), ("is_page", 1), ("check_page", 1), ("find_cuts", 3), ("find_parts", 3)], bls⟩
def s8 : Ss := (.cons (.expr (.call 5 "check_page" ⟨48, 4, 48, 14⟩ (.var 0 "page" ⟨48, 15, 48, 19⟩) .nil ⟨48, 4, 48, 20⟩) ⟨48, 4, 48, 20⟩)
    (.cons (.iff (.or (.not (.isi .tuple (.var 1 "value" ⟨49, 22, 49, 27⟩) ⟨49, 11, 49, 21⟩ ⟨49, 29, 49, 34⟩ ⟨49, 11, 49, 35⟩) ⟨49, 7, 49, 35⟩) (.cons (.cmp .eq (.var 1 "value" ⟨49, 39, 49, 44⟩) (.tup .nil 0 ⟨49, 48, 49, 50⟩) ⟨49, 39, 49, 50⟩) (.cons (.not (.prim .all ⟨49, 59, 49, 62⟩ (.comp (.call 0 "is_int" ⟨49, 64, 49, 70⟩ (.var 2 "one" ⟨49, 71, 49, 74⟩) (.cons (.cst (.int 0) 0 ⟨49, 76, 49, 77⟩) (.cons (.bin .sub (.prim .len ⟨49, 79, 49, 82⟩ (.var 0 "page" ⟨49, 83, 49, 87⟩) .nil ⟨49, 79, 49, 88⟩) (.cst (.int 1) 0 ⟨49, 91, 49, 92⟩) ⟨49, 79, 49, 92⟩) .nil)) ⟨49, 64, 49, 93⟩) (.nm 2 "one" ⟨49, 98, 49, 101⟩) (.seq (.var 1 "value" ⟨49, 105, 49, 110⟩)) .nil ⟨.function, [(".0", .local), ("one", .local), ("is_int", .globalImplicit), ("len", .globalImplicit), ("page", .free)], false, false, []⟩ [("one", 2)] ⟨49, 63, 49, 111⟩) .nil ⟨49, 59, 49, 112⟩) ⟨49, 55, 49, 112⟩) .nil)) ⟨49, 7, 49, 113⟩) (.cons (.rse 1 "InvalidPart" ⟨50, 14, 50, 25⟩ "the value is not a tuple of numbers of panels" 0 ⟨50, 26, 50, 73⟩ ⟨50, 14, 50, 74⟩ ⟨50, 8, 50, 74⟩)
    .nil) .nil ⟨49, 4, 50, 74⟩)
    (.cons (.iff (.not (.prim .all ⟨51, 11, 51, 14⟩ (.comp (.cmp .lt (.var 2 "one" ⟨51, 16, 51, 19⟩) (.var 3 "other" ⟨51, 22, 51, 27⟩) ⟨51, 16, 51, 27⟩) (.tp [(2, "one", ⟨51, 32, 51, 35⟩), (3, "other", ⟨51, 37, 51, 42⟩)] 0 ⟨51, 32, 51, 42⟩) (.zip (.var 1 "value" ⟨51, 50, 51, 55⟩) (.slo (.var 1 "value" ⟨51, 57, 51, 62⟩) (.cst (.int 1) 0 ⟨51, 63, 51, 64⟩) ⟨51, 63, 51, 65⟩ ⟨51, 57, 51, 66⟩) ⟨51, 46, 51, 49⟩ ⟨51, 46, 51, 67⟩) .nil ⟨.function, [(".0", .local), ("one", .local), ("other", .local)], false, false, []⟩ [("one", 2), ("other", 3)] ⟨51, 15, 51, 68⟩) .nil ⟨51, 11, 51, 69⟩) ⟨51, 7, 51, 69⟩) (.cons (.rse 1 "InvalidPart" ⟨52, 14, 52, 25⟩ "the numbers are not ascending" 0 ⟨52, 26, 52, 57⟩ ⟨52, 14, 52, 58⟩ ⟨52, 8, 52, 58⟩)
    .nil) .nil ⟨51, 4, 52, 58⟩)
    .nil)))
theorem py8 : s8.py = defBody (top 16) := by kernel_rfl
theorem ok8 : s8.ok g8 exs (defScope (top 16)) = true := by kernel_rfl
theorem sc8 : FnScope n8 ["page", "value"] (defScope (top 16)) := scB_ok (by kernel_rfl)
def ds8 : List (List D → Rs D) := [d0, d1, d2, d3, d4, d5, d6, d7]
def d8 : List D → Rs D := defD (tbl ds8) 2 4 s8
def n9 : List Str := ["page", "part"]
def g9 : Sg := ⟨n9, fun _ => false, gls, [("is_int", 3), ("is_panel", 1), ("share_widths", 2), ("share_heights", 2), ("is_page", 1), ("check_page", 1), ("find_cuts", 3), ("find_parts", 3), ("check_part", 2)], bls⟩
def s9 : Ss := (.cons (.expr (.call 8 "check_part" ⟨54, 4, 54, 14⟩ (.var 0 "page" ⟨54, 15, 54, 19⟩) (.cons (.var 1 "part" ⟨54, 21, 54, 25⟩) .nil) ⟨54, 4, 54, 26⟩) ⟨54, 4, 54, 26⟩)
    (.cons (.ret (.call 7 "find_parts" ⟨55, 11, 55, 21⟩ (.var 0 "page" ⟨55, 22, 55, 26⟩) (.cons (.var 1 "part" ⟨55, 28, 55, 32⟩) (.cons (.cst (.int 1) 0 ⟨55, 34, 55, 35⟩) .nil)) ⟨55, 11, 55, 36⟩) ⟨55, 4, 55, 36⟩)
    .nil))
theorem py9 : s9.py = defBody (top 17) := by kernel_rfl
theorem ok9 : s9.ok g9 exs (defScope (top 17)) = true := by kernel_rfl
theorem sc9 : FnScope n9 ["page", "part"] (defScope (top 17)) := scB_ok (by kernel_rfl)
def ds9 : List (List D → Rs D) := [d0, d1, d2, d3, d4, d5, d6, d7, d8]
def d9 : List D → Rs D := defD (tbl ds9) 2 2 s9
def n10 : List Str := ["page", "part"]
def g10 : Sg := ⟨n10, fun _ => false, gls, [("is_int", 3), ("is_panel", 1), ("share_widths", 2), ("share_heights", 2), ("is_page", 1), ("check_page", 1), ("find_cuts", 3), ("find_parts", 3), ("check_part", 2), ("row_parts", 2)], bls⟩
def s10 : Ss := (.cons (.expr (.call 8 "check_part" ⟨57, 4, 57, 14⟩ (.var 0 "page" ⟨57, 15, 57, 19⟩) (.cons (.var 1 "part" ⟨57, 21, 57, 25⟩) .nil) ⟨57, 4, 57, 26⟩) ⟨57, 4, 57, 26⟩)
    (.cons (.ret (.call 7 "find_parts" ⟨58, 11, 58, 21⟩ (.var 0 "page" ⟨58, 22, 58, 26⟩) (.cons (.var 1 "part" ⟨58, 28, 58, 32⟩) (.cons (.cst (.int 0) 0 ⟨58, 34, 58, 35⟩) .nil)) ⟨58, 11, 58, 36⟩) ⟨58, 4, 58, 36⟩)
    .nil))
theorem py10 : s10.py = defBody (top 18) := by kernel_rfl
theorem ok10 : s10.ok g10 exs (defScope (top 18)) = true := by kernel_rfl
theorem sc10 : FnScope n10 ["page", "part"] (defScope (top 18)) := scB_ok (by kernel_rfl)
def ds10 : List (List D → Rs D) := [d0, d1, d2, d3, d4, d5, d6, d7, d8, d9]
def d10 : List D → Rs D := defD (tbl ds10) 2 2 s10
def n11 : List Str := ["page", "part", "low", "parts", "found", "one", "order", "stuck"]
def g11 : Sg := ⟨n11, fun _ => false, gls, [("is_int", 3), ("is_panel", 1), ("share_widths", 2), ("share_heights", 2), ("is_page", 1), ("check_page", 1), ("find_cuts", 3), ("find_parts", 3), ("check_part", 2), ("row_parts", 2), ("column_parts", 2), ("read_part", 3)], bls⟩
def s11 : Ss := (.cons (.iff (.cmp .lt (.prim .len ⟨60, 7, 60, 10⟩ (.var 1 "part" ⟨60, 11, 60, 15⟩) .nil ⟨60, 7, 60, 16⟩) (.cst (.int 2) 0 ⟨60, 19, 60, 20⟩) ⟨60, 7, 60, 20⟩) (.cons (.ret (.tup (.cons (.var 1 "part" ⟨61, 16, 61, 20⟩) (.cons (.cst .non 0 ⟨61, 22, 61, 26⟩) .nil)) 0 ⟨61, 15, 61, 27⟩) ⟨61, 8, 61, 27⟩)
    .nil) .nil ⟨60, 4, 61, 27⟩)
    (.cons (.set 3 "parts" ⟨62, 4, 62, 9⟩ (.call 7 "find_parts" ⟨62, 12, 62, 22⟩ (.var 0 "page" ⟨62, 23, 62, 27⟩) (.cons (.var 1 "part" ⟨62, 29, 62, 33⟩) (.cons (.var 2 "low" ⟨62, 35, 62, 38⟩) .nil)) ⟨62, 12, 62, 39⟩) ⟨62, 4, 62, 39⟩)
    (.cons (.iff (.cmp .eq (.prim .len ⟨63, 7, 63, 10⟩ (.var 3 "parts" ⟨63, 11, 63, 16⟩) .nil ⟨63, 7, 63, 17⟩) (.cst (.int 1) 0 ⟨63, 21, 63, 22⟩) ⟨63, 7, 63, 22⟩) (.cons (.set 3 "parts" ⟨64, 8, 64, 13⟩ (.call 7 "find_parts" ⟨64, 16, 64, 26⟩ (.var 0 "page" ⟨64, 27, 64, 31⟩) (.cons (.var 1 "part" ⟨64, 33, 64, 37⟩) (.cons (.bin .sub (.cst (.int 1) 0 ⟨64, 39, 64, 40⟩) (.var 2 "low" ⟨64, 43, 64, 46⟩) ⟨64, 39, 64, 46⟩) .nil)) ⟨64, 16, 64, 47⟩) ⟨64, 8, 64, 47⟩)
    .nil) .nil ⟨63, 4, 64, 47⟩)
    (.cons (.iff (.cmp .eq (.prim .len ⟨65, 7, 65, 10⟩ (.var 3 "parts" ⟨65, 11, 65, 16⟩) .nil ⟨65, 7, 65, 17⟩) (.cst (.int 1) 0 ⟨65, 21, 65, 22⟩) ⟨65, 7, 65, 22⟩) (.cons (.ret (.tup (.cons (.tup .nil 0 ⟨66, 16, 66, 18⟩) (.cons (.var 1 "part" ⟨66, 20, 66, 24⟩) .nil)) 0 ⟨66, 15, 66, 25⟩) ⟨66, 8, 66, 25⟩)
    .nil) .nil ⟨65, 4, 66, 25⟩)
    (.cons (.set 4 "found" ⟨67, 4, 67, 9⟩ (.tup .nil 0 ⟨67, 12, 67, 14⟩) ⟨67, 4, 67, 14⟩)
    (.cons (.for (.nm 5 "one" ⟨68, 8, 68, 11⟩) (.seq (.var 3 "parts" ⟨68, 15, 68, 20⟩)) (.cons (.asg [(6, "order", ⟨69, 8, 69, 13⟩), (7, "stuck", ⟨69, 15, 69, 20⟩)] 0 ⟨69, 8, 69, 20⟩ (.call 11 "read_part" ⟨69, 23, 69, 32⟩ (.var 0 "page" ⟨69, 33, 69, 37⟩) (.cons (.var 5 "one" ⟨69, 39, 69, 42⟩) (.cons (.var 2 "low" ⟨69, 44, 69, 47⟩) .nil)) ⟨69, 23, 69, 48⟩) ⟨69, 8, 69, 48⟩)
    (.cons (.iff (.cmp .isnot (.var 7 "stuck" ⟨70, 11, 70, 16⟩) (.cst .non 0 ⟨70, 24, 70, 28⟩) ⟨70, 11, 70, 28⟩) (.cons (.ret (.tup (.cons (.tup .nil 0 ⟨71, 20, 71, 22⟩) (.cons (.var 7 "stuck" ⟨71, 24, 71, 29⟩) .nil)) 0 ⟨71, 19, 71, 30⟩) ⟨71, 12, 71, 30⟩)
    .nil) .nil ⟨70, 8, 71, 30⟩)
    (.cons (.set 4 "found" ⟨72, 8, 72, 13⟩ (.bin .add (.var 4 "found" ⟨72, 16, 72, 21⟩) (.var 6 "order" ⟨72, 24, 72, 29⟩) ⟨72, 16, 72, 29⟩) ⟨72, 8, 72, 29⟩)
    .nil))) ⟨68, 4, 72, 29⟩)
    (.cons (.ret (.tup (.cons (.var 4 "found" ⟨73, 12, 73, 17⟩) (.cons (.cst .non 0 ⟨73, 19, 73, 23⟩) .nil)) 0 ⟨73, 11, 73, 24⟩) ⟨73, 4, 73, 24⟩)
    .nil)))))))
theorem py11 : s11.py = defBody (top 19) := by kernel_rfl
theorem ok11 : s11.ok g11 exs (defScope (top 19)) = true := by kernel_rfl
theorem sc11 : FnScope n11 ["page", "part", "low"] (defScope (top 19)) := scB_ok (by kernel_rfl)
def ds11 : List (List D → Rs D) := [d0, d1, d2, d3, d4, d5, d6, d7, d8, d9, d10]
def d11 : List D → Rs D := recD ds11 3 8 s11 12
def n12 : List Str := ["page", "low", "order", "stuck"]
def g12 : Sg := ⟨n12, fun _ => false, gls, [("is_int", 3), ("is_panel", 1), ("share_widths", 2), ("share_heights", 2), ("is_page", 1), ("check_page", 1), ("find_cuts", 3), ("find_parts", 3), ("check_part", 2), ("row_parts", 2), ("column_parts", 2), ("read_part", 3)], bls⟩
def s12 : Ss := (.cons (.asg [(2, "order", ⟨75, 4, 75, 9⟩), (3, "stuck", ⟨75, 11, 75, 16⟩)] 0 ⟨75, 4, 75, 16⟩ (.call 11 "read_part" ⟨75, 19, 75, 28⟩ (.var 0 "page" ⟨75, 29, 75, 33⟩) (.cons (.trng1 (.prim .len ⟨75, 47, 75, 50⟩ (.var 0 "page" ⟨75, 51, 75, 55⟩) .nil ⟨75, 47, 75, 56⟩) ⟨75, 35, 75, 40⟩ ⟨75, 41, 75, 46⟩ ⟨75, 41, 75, 57⟩ ⟨75, 35, 75, 58⟩) (.cons (.var 1 "low" ⟨75, 60, 75, 63⟩) .nil)) ⟨75, 19, 75, 64⟩) ⟨75, 4, 75, 64⟩)
    (.cons (.ret (.ite (.cmp .is (.var 3 "stuck" ⟨76, 20, 76, 25⟩) (.cst .non 0 ⟨76, 29, 76, 33⟩) ⟨76, 20, 76, 33⟩) (.var 2 "order" ⟨76, 11, 76, 16⟩) (.cst .non 0 ⟨76, 39, 76, 43⟩) ⟨76, 11, 76, 43⟩) ⟨76, 4, 76, 43⟩)
    .nil))
theorem py12 : s12.py = defBody (top 20) := by kernel_rfl
theorem ok12 : s12.ok g12 exs (defScope (top 20)) = true := by kernel_rfl
theorem sc12 : FnScope n12 ["page", "low"] (defScope (top 20)) := scB_ok (by kernel_rfl)
def ds12 : List (List D → Rs D) := [d0, d1, d2, d3, d4, d5, d6, d7, d8, d9, d10, d11]
def d12 : List D → Rs D := defD (tbl ds12) 2 4 s12
def n13 : List Str := ["page"]
def g13 : Sg := ⟨n13, fun _ => false, gls, [("is_int", 3), ("is_panel", 1), ("share_widths", 2), ("share_heights", 2), ("is_page", 1), ("check_page", 1), ("find_cuts", 3), ("find_parts", 3), ("check_part", 2), ("row_parts", 2), ("column_parts", 2), ("read_part", 3), ("find_reading", 2)], bls⟩
def s13 : Ss := (.cons (.expr (.call 5 "check_page" ⟨78, 4, 78, 14⟩ (.var 0 "page" ⟨78, 15, 78, 19⟩) .nil ⟨78, 4, 78, 20⟩) ⟨78, 4, 78, 20⟩)
    (.cons (.ret (.call 12 "find_reading" ⟨79, 11, 79, 23⟩ (.var 0 "page" ⟨79, 24, 79, 28⟩) (.cons (.cst (.int 1) 0 ⟨79, 30, 79, 31⟩) .nil) ⟨79, 11, 79, 32⟩) ⟨79, 4, 79, 32⟩)
    .nil))
theorem py13 : s13.py = defBody (top 21) := by kernel_rfl
theorem ok13 : s13.ok g13 exs (defScope (top 21)) = true := by kernel_rfl
theorem sc13 : FnScope n13 ["page"] (defScope (top 21)) := scB_ok (by kernel_rfl)
def ds13 : List (List D → Rs D) := [d0, d1, d2, d3, d4, d5, d6, d7, d8, d9, d10, d11, d12]
def d13 : List D → Rs D := defD (tbl ds13) 1 1 s13
def n14 : List Str := ["page"]
def g14 : Sg := ⟨n14, fun _ => false, gls, [("is_int", 3), ("is_panel", 1), ("share_widths", 2), ("share_heights", 2), ("is_page", 1), ("check_page", 1), ("find_cuts", 3), ("find_parts", 3), ("check_part", 2), ("row_parts", 2), ("column_parts", 2), ("read_part", 3), ("find_reading", 2), ("by_rows", 1)], bls⟩
def s14 : Ss := (.cons (.expr (.call 5 "check_page" ⟨81, 4, 81, 14⟩ (.var 0 "page" ⟨81, 15, 81, 19⟩) .nil ⟨81, 4, 81, 20⟩) ⟨81, 4, 81, 20⟩)
    (.cons (.ret (.call 12 "find_reading" ⟨82, 11, 82, 23⟩ (.var 0 "page" ⟨82, 24, 82, 28⟩) (.cons (.cst (.int 0) 0 ⟨82, 30, 82, 31⟩) .nil) ⟨82, 11, 82, 32⟩) ⟨82, 4, 82, 32⟩)
    .nil))
theorem py14 : s14.py = defBody (top 22) := by kernel_rfl
theorem ok14 : s14.ok g14 exs (defScope (top 22)) = true := by kernel_rfl
theorem sc14 : FnScope n14 ["page"] (defScope (top 22)) := scB_ok (by kernel_rfl)
def ds14 : List (List D → Rs D) := [d0, d1, d2, d3, d4, d5, d6, d7, d8, d9, d10, d11, d12, d13]
def d14 : List D → Rs D := defD (tbl ds14) 1 1 s14
def n15 : List Str := ["page"]
def g15 : Sg := ⟨n15, fun _ => false, gls, [("is_int", 3), ("is_panel", 1), ("share_widths", 2), ("share_heights", 2), ("is_page", 1), ("check_page", 1), ("find_cuts", 3), ("find_parts", 3), ("check_part", 2), ("row_parts", 2), ("column_parts", 2), ("read_part", 3), ("find_reading", 2), ("by_rows", 1), ("by_columns", 1)], bls⟩
def s15 : Ss := (.cons (.expr (.call 5 "check_page" ⟨84, 4, 84, 14⟩ (.var 0 "page" ⟨84, 15, 84, 19⟩) .nil ⟨84, 4, 84, 20⟩) ⟨84, 4, 84, 20⟩)
    (.cons (.ret (.ix (.call 11 "read_part" ⟨85, 11, 85, 20⟩ (.var 0 "page" ⟨85, 21, 85, 25⟩) (.cons (.trng1 (.prim .len ⟨85, 39, 85, 42⟩ (.var 0 "page" ⟨85, 43, 85, 47⟩) .nil ⟨85, 39, 85, 48⟩) ⟨85, 27, 85, 32⟩ ⟨85, 33, 85, 38⟩ ⟨85, 33, 85, 49⟩ ⟨85, 27, 85, 50⟩) (.cons (.cst (.int 1) 0 ⟨85, 52, 85, 53⟩) .nil)) ⟨85, 11, 85, 54⟩) (.cst (.int 1) 0 ⟨85, 55, 85, 56⟩) ⟨85, 11, 85, 57⟩) ⟨85, 4, 85, 57⟩)
    .nil))
theorem py15 : s15.py = defBody (top 23) := by kernel_rfl
theorem ok15 : s15.ok g15 exs (defScope (top 23)) = true := by kernel_rfl
theorem sc15 : FnScope n15 ["page"] (defScope (top 23)) := scB_ok (by kernel_rfl)
def ds15 : List (List D → Rs D) := [d0, d1, d2, d3, d4, d5, d6, d7, d8, d9, d10, d11, d12, d13, d14]
def d15 : List D → Rs D := defD (tbl ds15) 1 1 s15
def n16 : List Str := ["page"]
def g16 : Sg := ⟨n16, fun _ => false, gls, [("is_int", 3), ("is_panel", 1), ("share_widths", 2), ("share_heights", 2), ("is_page", 1), ("check_page", 1), ("find_cuts", 3), ("find_parts", 3), ("check_part", 2), ("row_parts", 2), ("column_parts", 2), ("read_part", 3), ("find_reading", 2), ("by_rows", 1), ("by_columns", 1), ("stuck_part", 1)], bls⟩
def s16 : Ss := (.cons (.expr (.call 5 "check_page" ⟨87, 4, 87, 14⟩ (.var 0 "page" ⟨87, 15, 87, 19⟩) .nil ⟨87, 4, 87, 20⟩) ⟨87, 4, 87, 20⟩)
    (.cons (.ret (.cmp .isnot (.call 12 "find_reading" ⟨88, 11, 88, 23⟩ (.var 0 "page" ⟨88, 24, 88, 28⟩) (.cons (.cst (.int 1) 0 ⟨88, 30, 88, 31⟩) .nil) ⟨88, 11, 88, 32⟩) (.cst .non 0 ⟨88, 40, 88, 44⟩) ⟨88, 11, 88, 44⟩) ⟨88, 4, 88, 44⟩)
    .nil))
theorem py16 : s16.py = defBody (top 24) := by kernel_rfl
theorem ok16 : s16.ok g16 exs (defScope (top 24)) = true := by kernel_rfl
theorem sc16 : FnScope n16 ["page"] (defScope (top 24)) := scB_ok (by kernel_rfl)
def ds16 : List (List D → Rs D) := [d0, d1, d2, d3, d4, d5, d6, d7, d8, d9, d10, d11, d12, d13, d14, d15]
def d16 : List D → Rs D := defD (tbl ds16) 1 1 s16
def n17 : List Str := ["_law_script", "_law_k", "_law_many", "_law_cell", "_law_turn", "_law_rest"]
def g17 : Sg := ⟨n17, fun _ => false, gls, [("is_int", 3), ("is_panel", 1), ("share_widths", 2), ("share_heights", 2), ("is_page", 1), ("check_page", 1), ("find_cuts", 3), ("find_parts", 3), ("check_part", 2), ("row_parts", 2), ("column_parts", 2), ("read_part", 3), ("find_reading", 2), ("by_rows", 1), ("by_columns", 1), ("stuck_part", 1), ("is_cuttable", 1)], bls⟩
def s17 : Ss := (.cons (.set 3 "_law_cell" ⟨91, 4, 91, 13⟩ (.bin .mul (.cst (.int 7) 0 ⟨91, 16, 91, 17⟩) (.var 1 "_law_k" ⟨91, 20, 91, 26⟩) ⟨91, 16, 91, 26⟩) ⟨91, 4, 91, 26⟩)
    (.cons (.iff (.cmp .ne (.var 0 "_law_script" ⟨92, 7, 92, 18⟩) (.lst .nil ⟨92, 22, 92, 24⟩) ⟨92, 7, 92, 24⟩) (.cons (.set 3 "_law_cell" ⟨93, 8, 93, 17⟩ (.ix (.var 0 "_law_script" ⟨93, 20, 93, 31⟩) (.bin .mod (.var 1 "_law_k" ⟨93, 32, 93, 38⟩) (.prim .len ⟨93, 41, 93, 44⟩ (.var 0 "_law_script" ⟨93, 45, 93, 56⟩) .nil ⟨93, 41, 93, 57⟩) ⟨93, 32, 93, 57⟩) ⟨93, 20, 93, 58⟩) ⟨93, 8, 93, 58⟩)
    (.cons (.set 4 "_law_turn" ⟨94, 8, 94, 17⟩ (.bin .div (.var 1 "_law_k" ⟨94, 20, 94, 26⟩) (.prim .len ⟨94, 30, 94, 33⟩ (.var 0 "_law_script" ⟨94, 34, 94, 45⟩) .nil ⟨94, 30, 94, 46⟩) ⟨94, 20, 94, 46⟩) ⟨94, 8, 94, 46⟩)
    (.cons (.iff (.and (.cmp .ge (.var 3 "_law_cell" ⟨95, 11, 95, 20⟩) (.bin .pow (.cst (.int 10) 0 ⟨95, 24, 95, 26⟩) (.cst (.int 18) 0 ⟨95, 30, 95, 32⟩) ⟨95, 24, 95, 32⟩) ⟨95, 11, 95, 32⟩) (.cons (.cmp .lt (.var 4 "_law_turn" ⟨95, 37, 95, 46⟩) (.cst (.int 60) 0 ⟨95, 49, 95, 51⟩) ⟨95, 37, 95, 51⟩) .nil) ⟨95, 11, 95, 51⟩) (.cons (.set 5 "_law_rest" ⟨96, 12, 96, 21⟩ (.bin .div (.var 3 "_law_cell" ⟨96, 24, 96, 33⟩) (.bin .pow (.cst (.int 10) 0 ⟨96, 37, 96, 39⟩) (.cst (.int 18) 0 ⟨96, 43, 96, 45⟩) ⟨96, 37, 96, 45⟩) ⟨96, 24, 96, 45⟩) ⟨96, 12, 96, 45⟩)
    (.cons (.whl 1000 (.and (.cmp .gt (.var 5 "_law_rest" ⟨97, 18, 97, 27⟩) (.cst (.int 0) 0 ⟨97, 30, 97, 31⟩) ⟨97, 18, 97, 31⟩) (.cons (.cmp .gt (.var 4 "_law_turn" ⟨97, 36, 97, 45⟩) (.cst (.int 0) 0 ⟨97, 48, 97, 49⟩) ⟨97, 36, 97, 49⟩) .nil) ⟨97, 18, 97, 49⟩) (.cons (.set 5 "_law_rest" ⟨98, 16, 98, 25⟩ (.bin .div (.var 5 "_law_rest" ⟨98, 28, 98, 37⟩) (.cst (.int 1000000) 0 ⟨98, 41, 98, 48⟩) ⟨98, 28, 98, 48⟩) ⟨98, 16, 98, 48⟩)
    (.cons (.set 4 "_law_turn" ⟨99, 16, 99, 25⟩ (.bin .sub (.var 4 "_law_turn" ⟨99, 28, 99, 37⟩) (.cst (.int 1) 0 ⟨99, 40, 99, 41⟩) ⟨99, 28, 99, 41⟩) ⟨99, 16, 99, 41⟩)
    .nil)) ⟨97, 12, 99, 41⟩)
    (.cons (.iff (.cmp .gt (.var 5 "_law_rest" ⟨100, 15, 100, 24⟩) (.cst (.int 0) 0 ⟨100, 27, 100, 28⟩) ⟨100, 15, 100, 28⟩) (.cons (.ret (.bin .mod (.bin .mod (.var 5 "_law_rest" ⟨101, 23, 101, 32⟩) (.cst (.int 1000000) 0 ⟨101, 35, 101, 42⟩) ⟨101, 23, 101, 42⟩) (.var 2 "_law_many" ⟨101, 45, 101, 54⟩) ⟨101, 23, 101, 54⟩) ⟨101, 16, 101, 54⟩)
    .nil) .nil ⟨100, 12, 101, 54⟩)
    .nil))) .nil ⟨95, 8, 101, 54⟩)
    (.cons (.set 3 "_law_cell" ⟨102, 8, 102, 17⟩ (.bin .add (.var 3 "_law_cell" ⟨102, 20, 102, 29⟩) (.bin .mul (.cst (.int 6553) 0 ⟨102, 32, 102, 36⟩) (.bin .div (.var 1 "_law_k" ⟨102, 40, 102, 46⟩) (.prim .len ⟨102, 50, 102, 53⟩ (.var 0 "_law_script" ⟨102, 54, 102, 65⟩) .nil ⟨102, 50, 102, 66⟩) ⟨102, 40, 102, 66⟩) ⟨102, 32, 102, 67⟩) ⟨102, 20, 102, 67⟩) ⟨102, 8, 102, 67⟩)
    .nil)))) .nil ⟨92, 4, 102, 67⟩)
    (.cons (.set 3 "_law_cell" ⟨103, 4, 103, 13⟩ (.bin .mod (.bin .add (.bin .mul (.bin .mod (.var 3 "_law_cell" ⟨103, 17, 103, 26⟩) (.cst (.int 2147483563) 0 ⟨103, 29, 103, 39⟩) ⟨103, 17, 103, 39⟩) (.cst (.int 69069) 0 ⟨103, 42, 103, 47⟩) ⟨103, 17, 103, 47⟩) (.bin .mul (.cst (.int 104723) 0 ⟨103, 50, 103, 56⟩) (.bin .add (.var 1 "_law_k" ⟨103, 60, 103, 66⟩) (.cst (.int 1) 0 ⟨103, 69, 103, 70⟩) ⟨103, 60, 103, 70⟩) ⟨103, 50, 103, 71⟩) ⟨103, 17, 103, 71⟩) (.cst (.int 2147483563) 0 ⟨103, 75, 103, 85⟩) ⟨103, 16, 103, 85⟩) ⟨103, 4, 103, 85⟩)
    (.cons (.set 3 "_law_cell" ⟨104, 4, 104, 13⟩ (.bin .mod (.bin .add (.bin .mul (.var 3 "_law_cell" ⟨104, 17, 104, 26⟩) (.var 3 "_law_cell" ⟨104, 29, 104, 38⟩) ⟨104, 17, 104, 38⟩) (.bin .div (.var 3 "_law_cell" ⟨104, 41, 104, 50⟩) (.cst (.int 3) 0 ⟨104, 54, 104, 55⟩) ⟨104, 41, 104, 55⟩) ⟨104, 17, 104, 55⟩) (.cst (.int 2147483399) 0 ⟨104, 59, 104, 69⟩) ⟨104, 16, 104, 69⟩) ⟨104, 4, 104, 69⟩)
    (.cons (.ret (.bin .mod (.bin .div (.bin .mod (.bin .add (.bin .mul (.var 3 "_law_cell" ⟨105, 12, 105, 21⟩) (.var 3 "_law_cell" ⟨105, 24, 105, 33⟩) ⟨105, 12, 105, 33⟩) (.bin .div (.var 3 "_law_cell" ⟨105, 36, 105, 45⟩) (.cst (.int 7) 0 ⟨105, 49, 105, 50⟩) ⟨105, 36, 105, 50⟩) ⟨105, 12, 105, 50⟩) (.cst (.int 2147483647) 0 ⟨105, 54, 105, 64⟩) ⟨105, 11, 105, 64⟩) (.cst (.int 11) 0 ⟨105, 68, 105, 70⟩) ⟨105, 11, 105, 70⟩) (.var 2 "_law_many" ⟨105, 73, 105, 82⟩) ⟨105, 11, 105, 82⟩) ⟨105, 4, 105, 82⟩)
    .nil)))))
theorem py17 : s17.py = defBody (top 26) := by kernel_rfl
theorem ok17 : s17.ok g17 exs (defScope (top 26)) = true := by kernel_rfl
theorem sc17 : FnScope n17 ["_law_script", "_law_k", "_law_many"] (defScope (top 26)) := scB_ok (by kernel_rfl)
def ds17 : List (List D → Rs D) := [d0, d1, d2, d3, d4, d5, d6, d7, d8, d9, d10, d11, d12, d13, d14, d15, d16]
def d17 : List D → Rs D := defD (tbl ds17) 3 6 s17
def n18 : List Str := ["_law_script", "_law_at", "_law_most", "_law_found", "_law_kept", "_law_k", "_law_place", "_law_way", "_law_left", "_law_top", "_law_right", "_law_bottom", "_law_size", "_law_line", "_law_first", "_law_second", "_law_turn", "_law_panel"]
def g18 : Sg := ⟨n18, fun i => i == 4, gls, [("is_int", 3), ("is_panel", 1), ("share_widths", 2), ("share_heights", 2), ("is_page", 1), ("check_page", 1), ("find_cuts", 3), ("find_parts", 3), ("check_part", 2), ("row_parts", 2), ("column_parts", 2), ("read_part", 3), ("find_reading", 2), ("by_rows", 1), ("by_columns", 1), ("stuck_part", 1), ("is_cuttable", 1), ("_law_drawn", 3)], bls⟩
def s18 : Ss := (.cons (.par [(3, "_law_found", ⟨107, 4, 107, 14⟩), (4, "_law_kept", ⟨107, 16, 107, 25⟩)] 0 ⟨107, 4, 107, 25⟩ (.cons (.lst (.cons (.tup (.cons (.cst (.int 0) 0 ⟨107, 31, 107, 32⟩) (.cons (.cst (.int 0) 0 ⟨107, 34, 107, 35⟩) (.cons (.cst (.int 12) 0 ⟨107, 37, 107, 39⟩) (.cons (.cst (.int 12) 0 ⟨107, 41, 107, 43⟩) .nil)))) 0 ⟨107, 30, 107, 44⟩) .nil) ⟨107, 29, 107, 45⟩) (.cons (.lst .nil ⟨107, 47, 107, 49⟩) .nil)) 0 ⟨107, 28, 107, 50⟩ ⟨107, 4, 107, 50⟩)
    (.cons (.for (.nm 5 "_law_k" ⟨108, 8, 108, 14⟩) (.rng1 (.call 17 "_law_drawn" ⟨108, 24, 108, 34⟩ (.var 0 "_law_script" ⟨108, 35, 108, 46⟩) (.cons (.var 1 "_law_at" ⟨108, 48, 108, 55⟩) (.cons (.var 2 "_law_most" ⟨108, 57, 108, 66⟩) .nil)) ⟨108, 24, 108, 67⟩) ⟨108, 18, 108, 23⟩ ⟨108, 18, 108, 68⟩) (.cons (.par [(6, "_law_place", ⟨109, 8, 109, 18⟩), (7, "_law_way", ⟨109, 20, 109, 28⟩)] 0 ⟨109, 8, 109, 28⟩ (.cons (.call 17 "_law_drawn" ⟨109, 32, 109, 42⟩ (.var 0 "_law_script" ⟨109, 43, 109, 54⟩) (.cons (.bin .add (.bin .add (.var 1 "_law_at" ⟨109, 56, 109, 63⟩) (.cst (.int 1) 0 ⟨109, 66, 109, 67⟩) ⟨109, 56, 109, 67⟩) (.bin .mul (.cst (.int 4) 0 ⟨109, 70, 109, 71⟩) (.var 5 "_law_k" ⟨109, 74, 109, 80⟩) ⟨109, 70, 109, 80⟩) ⟨109, 56, 109, 80⟩) (.cons (.prim .len ⟨109, 82, 109, 85⟩ (.var 3 "_law_found" ⟨109, 86, 109, 96⟩) .nil ⟨109, 82, 109, 97⟩) .nil)) ⟨109, 32, 109, 98⟩) (.cons (.call 17 "_law_drawn" ⟨109, 100, 109, 110⟩ (.var 0 "_law_script" ⟨109, 111, 109, 122⟩) (.cons (.bin .add (.bin .add (.var 1 "_law_at" ⟨109, 124, 109, 131⟩) (.cst (.int 2) 0 ⟨109, 134, 109, 135⟩) ⟨109, 124, 109, 135⟩) (.bin .mul (.cst (.int 4) 0 ⟨109, 138, 109, 139⟩) (.var 5 "_law_k" ⟨109, 142, 109, 148⟩) ⟨109, 138, 109, 148⟩) ⟨109, 124, 109, 148⟩) (.cons (.cst (.int 2) 0 ⟨109, 150, 109, 151⟩) .nil)) ⟨109, 100, 109, 152⟩) .nil)) 0 ⟨109, 31, 109, 153⟩ ⟨109, 8, 109, 153⟩)
    (.cons (.asg [(8, "_law_left", ⟨110, 8, 110, 17⟩), (9, "_law_top", ⟨110, 19, 110, 27⟩), (10, "_law_right", ⟨110, 29, 110, 39⟩), (11, "_law_bottom", ⟨110, 41, 110, 52⟩)] 0 ⟨110, 8, 110, 52⟩ (.ix (.var 3 "_law_found" ⟨110, 55, 110, 65⟩) (.var 6 "_law_place" ⟨110, 66, 110, 76⟩) ⟨110, 55, 110, 77⟩) ⟨110, 8, 110, 77⟩)
    (.cons (.set 12 "_law_size" ⟨111, 8, 111, 17⟩ (.ite (.cmp .eq (.var 7 "_law_way" ⟨111, 46, 111, 54⟩) (.cst (.int 0) 0 ⟨111, 58, 111, 59⟩) ⟨111, 46, 111, 59⟩) (.bin .sub (.var 10 "_law_right" ⟨111, 20, 111, 30⟩) (.var 8 "_law_left" ⟨111, 33, 111, 42⟩) ⟨111, 20, 111, 42⟩) (.bin .sub (.var 11 "_law_bottom" ⟨111, 65, 111, 76⟩) (.var 9 "_law_top" ⟨111, 79, 111, 87⟩) ⟨111, 65, 111, 87⟩) ⟨111, 20, 111, 87⟩) ⟨111, 8, 111, 87⟩)
    (.cons (.iff (.cmp .gt (.var 12 "_law_size" ⟨112, 11, 112, 20⟩) (.cst (.int 1) 0 ⟨112, 23, 112, 24⟩) ⟨112, 11, 112, 24⟩) (.cons (.set 13 "_law_line" ⟨113, 12, 113, 21⟩ (.bin .add (.cst (.int 1) 0 ⟨113, 24, 113, 25⟩) (.call 17 "_law_drawn" ⟨113, 28, 113, 38⟩ (.var 0 "_law_script" ⟨113, 39, 113, 50⟩) (.cons (.bin .add (.bin .add (.var 1 "_law_at" ⟨113, 52, 113, 59⟩) (.cst (.int 3) 0 ⟨113, 62, 113, 63⟩) ⟨113, 52, 113, 63⟩) (.bin .mul (.cst (.int 4) 0 ⟨113, 66, 113, 67⟩) (.var 5 "_law_k" ⟨113, 70, 113, 76⟩) ⟨113, 66, 113, 76⟩) ⟨113, 52, 113, 76⟩) (.cons (.bin .sub (.var 12 "_law_size" ⟨113, 78, 113, 87⟩) (.cst (.int 1) 0 ⟨113, 90, 113, 91⟩) ⟨113, 78, 113, 91⟩) .nil)) ⟨113, 28, 113, 92⟩) ⟨113, 24, 113, 92⟩) ⟨113, 12, 113, 92⟩)
    (.cons (.set 14 "_law_first" ⟨114, 12, 114, 22⟩ (.ite (.cmp .eq (.var 7 "_law_way" ⟨114, 86, 114, 94⟩) (.cst (.int 0) 0 ⟨114, 98, 114, 99⟩) ⟨114, 86, 114, 99⟩) (.tup (.cons (.var 8 "_law_left" ⟨114, 26, 114, 35⟩) (.cons (.var 9 "_law_top" ⟨114, 37, 114, 45⟩) (.cons (.bin .add (.var 8 "_law_left" ⟨114, 47, 114, 56⟩) (.var 13 "_law_line" ⟨114, 59, 114, 68⟩) ⟨114, 47, 114, 68⟩) (.cons (.var 11 "_law_bottom" ⟨114, 70, 114, 81⟩) .nil)))) 0 ⟨114, 25, 114, 82⟩) (.tup (.cons (.var 8 "_law_left" ⟨114, 106, 114, 115⟩) (.cons (.var 9 "_law_top" ⟨114, 117, 114, 125⟩) (.cons (.var 10 "_law_right" ⟨114, 127, 114, 137⟩) (.cons (.bin .add (.var 9 "_law_top" ⟨114, 139, 114, 147⟩) (.var 13 "_law_line" ⟨114, 150, 114, 159⟩) ⟨114, 139, 114, 159⟩) .nil)))) 0 ⟨114, 105, 114, 160⟩) ⟨114, 25, 114, 160⟩) ⟨114, 12, 114, 160⟩)
    (.cons (.set 15 "_law_second" ⟨115, 12, 115, 23⟩ (.ite (.cmp .eq (.var 7 "_law_way" ⟨115, 88, 115, 96⟩) (.cst (.int 0) 0 ⟨115, 100, 115, 101⟩) ⟨115, 88, 115, 101⟩) (.tup (.cons (.bin .add (.var 8 "_law_left" ⟨115, 27, 115, 36⟩) (.var 13 "_law_line" ⟨115, 39, 115, 48⟩) ⟨115, 27, 115, 48⟩) (.cons (.var 9 "_law_top" ⟨115, 50, 115, 58⟩) (.cons (.var 10 "_law_right" ⟨115, 60, 115, 70⟩) (.cons (.var 11 "_law_bottom" ⟨115, 72, 115, 83⟩) .nil)))) 0 ⟨115, 26, 115, 84⟩) (.tup (.cons (.var 8 "_law_left" ⟨115, 108, 115, 117⟩) (.cons (.bin .add (.var 9 "_law_top" ⟨115, 119, 115, 127⟩) (.var 13 "_law_line" ⟨115, 130, 115, 139⟩) ⟨115, 119, 115, 139⟩) (.cons (.var 10 "_law_right" ⟨115, 141, 115, 151⟩) (.cons (.var 11 "_law_bottom" ⟨115, 153, 115, 164⟩) .nil)))) 0 ⟨115, 107, 115, 165⟩) ⟨115, 26, 115, 165⟩) ⟨115, 12, 115, 165⟩)
    (.cons (.set 16 "_law_turn" ⟨116, 12, 116, 21⟩ (.call 17 "_law_drawn" ⟨116, 24, 116, 34⟩ (.var 0 "_law_script" ⟨116, 35, 116, 46⟩) (.cons (.bin .add (.bin .add (.var 1 "_law_at" ⟨116, 48, 116, 55⟩) (.cst (.int 4) 0 ⟨116, 58, 116, 59⟩) ⟨116, 48, 116, 59⟩) (.bin .mul (.cst (.int 4) 0 ⟨116, 62, 116, 63⟩) (.var 5 "_law_k" ⟨116, 66, 116, 72⟩) ⟨116, 62, 116, 72⟩) ⟨116, 48, 116, 72⟩) (.cons (.cst (.int 2) 0 ⟨116, 74, 116, 75⟩) .nil)) ⟨116, 24, 116, 76⟩) ⟨116, 12, 116, 76⟩)
    (.cons (.set 3 "_law_found" ⟨117, 12, 117, 22⟩ (.bin .add (.bin .add (.bin .add (.shi (.var 3 "_law_found" ⟨117, 25, 117, 35⟩) (.var 6 "_law_place" ⟨117, 37, 117, 47⟩) ⟨117, 36, 117, 47⟩ ⟨117, 25, 117, 48⟩) (.lst (.cons (.ix (.lst (.cons (.var 14 "_law_first" ⟨117, 53, 117, 63⟩) (.cons (.var 15 "_law_second" ⟨117, 65, 117, 76⟩) .nil)) ⟨117, 52, 117, 77⟩) (.var 16 "_law_turn" ⟨117, 78, 117, 87⟩) ⟨117, 52, 117, 88⟩) .nil) ⟨117, 51, 117, 89⟩) ⟨117, 25, 117, 89⟩) (.slo (.var 3 "_law_found" ⟨117, 92, 117, 102⟩) (.bin .add (.var 6 "_law_place" ⟨117, 103, 117, 113⟩) (.cst (.int 1) 0 ⟨117, 116, 117, 117⟩) ⟨117, 103, 117, 117⟩) ⟨117, 103, 117, 118⟩ ⟨117, 92, 117, 119⟩) ⟨117, 25, 117, 119⟩) (.lst (.cons (.ix (.lst (.cons (.var 15 "_law_second" ⟨117, 124, 117, 135⟩) (.cons (.var 14 "_law_first" ⟨117, 137, 117, 147⟩) .nil)) ⟨117, 123, 117, 148⟩) (.var 16 "_law_turn" ⟨117, 149, 117, 158⟩) ⟨117, 123, 117, 159⟩) .nil) ⟨117, 122, 117, 160⟩) ⟨117, 25, 117, 160⟩) ⟨117, 12, 117, 160⟩)
    .nil))))) .nil ⟨112, 8, 117, 160⟩)
    .nil)))) ⟨108, 4, 117, 160⟩)
    (.cons (.for (.tp [(5, "_law_k", ⟨118, 8, 118, 14⟩), (17, "_law_panel", ⟨118, 16, 118, 26⟩)] 0 ⟨118, 8, 118, 26⟩) (.enu (.var 3 "_law_found" ⟨118, 40, 118, 50⟩) ⟨118, 30, 118, 39⟩ ⟨118, 30, 118, 51⟩) (.cons (.set 4 "_law_kept" ⟨119, 8, 119, 17⟩ (.lad (.var 4 "_law_kept" ⟨119, 20, 119, 29⟩) (.ite (.cmp .gt (.call 17 "_law_drawn" ⟨119, 49, 119, 59⟩ (.var 0 "_law_script" ⟨119, 60, 119, 71⟩) (.cons (.bin .add (.bin .add (.var 1 "_law_at" ⟨119, 73, 119, 80⟩) (.cst (.int 40) 0 ⟨119, 83, 119, 85⟩) ⟨119, 73, 119, 85⟩) (.var 5 "_law_k" ⟨119, 88, 119, 94⟩) ⟨119, 73, 119, 94⟩) (.cons (.cst (.int 5) 0 ⟨119, 96, 119, 97⟩) .nil)) ⟨119, 49, 119, 98⟩) (.cst (.int 0) 0 ⟨119, 101, 119, 102⟩) ⟨119, 49, 119, 102⟩) (.lst (.cons (.var 17 "_law_panel" ⟨119, 34, 119, 44⟩) .nil) ⟨119, 33, 119, 45⟩) (.lst .nil ⟨119, 108, 119, 110⟩) ⟨119, 33, 119, 110⟩) ⟨119, 20, 119, 111⟩) ⟨119, 8, 119, 111⟩)
    .nil) ⟨118, 4, 119, 111⟩)
    (.cons (.iff (.cmp .eq (.call 17 "_law_drawn" ⟨120, 7, 120, 17⟩ (.var 0 "_law_script" ⟨120, 18, 120, 29⟩) (.cons (.bin .add (.var 1 "_law_at" ⟨120, 31, 120, 38⟩) (.cst (.int 50) 0 ⟨120, 41, 120, 43⟩) ⟨120, 31, 120, 43⟩) (.cons (.cst (.int 4) 0 ⟨120, 45, 120, 46⟩) .nil)) ⟨120, 7, 120, 47⟩) (.cst (.int 0) 0 ⟨120, 51, 120, 52⟩) ⟨120, 7, 120, 52⟩) (.cons (.set 4 "_law_kept" ⟨121, 8, 121, 17⟩ (.lst (.cons (.tup (.cons (.cst (.int 2) 0 ⟨121, 22, 121, 23⟩) (.cons (.cst (.int 0) 0 ⟨121, 25, 121, 26⟩) (.cons (.cst (.int 8) 0 ⟨121, 28, 121, 29⟩) (.cons (.cst (.int 2) 0 ⟨121, 31, 121, 32⟩) .nil)))) 0 ⟨121, 21, 121, 33⟩) (.cons (.tup (.cons (.cst (.int 6) 0 ⟨121, 36, 121, 37⟩) (.cons (.cst (.int 2) 0 ⟨121, 39, 121, 40⟩) (.cons (.cst (.int 8) 0 ⟨121, 42, 121, 43⟩) (.cons (.cst (.int 8) 0 ⟨121, 45, 121, 46⟩) .nil)))) 0 ⟨121, 35, 121, 47⟩) (.cons (.tup (.cons (.cst (.int 0) 0 ⟨121, 50, 121, 51⟩) (.cons (.cst (.int 6) 0 ⟨121, 53, 121, 54⟩) (.cons (.cst (.int 6) 0 ⟨121, 56, 121, 57⟩) (.cons (.cst (.int 8) 0 ⟨121, 59, 121, 60⟩) .nil)))) 0 ⟨121, 49, 121, 61⟩) (.cons (.tup (.cons (.cst (.int 0) 0 ⟨121, 64, 121, 65⟩) (.cons (.cst (.int 0) 0 ⟨121, 67, 121, 68⟩) (.cons (.cst (.int 2) 0 ⟨121, 70, 121, 71⟩) (.cons (.cst (.int 6) 0 ⟨121, 73, 121, 74⟩) .nil)))) 0 ⟨121, 63, 121, 75⟩) (.cons (.tup (.cons (.cst (.int 3) 0 ⟨121, 78, 121, 79⟩) (.cons (.cst (.int 3) 0 ⟨121, 81, 121, 82⟩) (.cons (.cst (.int 5) 0 ⟨121, 84, 121, 85⟩) (.cons (.cst (.int 5) 0 ⟨121, 87, 121, 88⟩) .nil)))) 0 ⟨121, 77, 121, 89⟩) .nil))))) ⟨121, 20, 121, 90⟩) ⟨121, 8, 121, 90⟩)
    (.cons (.set 4 "_law_kept" ⟨122, 8, 122, 17⟩ (.lshi (.var 4 "_law_kept" ⟨122, 20, 122, 29⟩) (.bin .add (.cst (.int 2) 0 ⟨122, 31, 122, 32⟩) (.call 17 "_law_drawn" ⟨122, 35, 122, 45⟩ (.var 0 "_law_script" ⟨122, 46, 122, 57⟩) (.cons (.bin .add (.var 1 "_law_at" ⟨122, 59, 122, 66⟩) (.cst (.int 51) 0 ⟨122, 69, 122, 71⟩) ⟨122, 59, 122, 71⟩) (.cons (.cst (.int 4) 0 ⟨122, 73, 122, 74⟩) .nil)) ⟨122, 35, 122, 75⟩) ⟨122, 31, 122, 75⟩) ⟨122, 30, 122, 75⟩ ⟨122, 20, 122, 76⟩) ⟨122, 8, 122, 76⟩)
    .nil)) .nil ⟨120, 4, 122, 76⟩)
    (.cons (.iff (.cmp .eq (.call 17 "_law_drawn" ⟨123, 7, 123, 17⟩ (.var 0 "_law_script" ⟨123, 18, 123, 29⟩) (.cons (.bin .add (.var 1 "_law_at" ⟨123, 31, 123, 38⟩) (.cst (.int 52) 0 ⟨123, 41, 123, 43⟩) ⟨123, 31, 123, 43⟩) (.cons (.cst (.int 4) 0 ⟨123, 45, 123, 46⟩) .nil)) ⟨123, 7, 123, 47⟩) (.cst (.int 0) 0 ⟨123, 51, 123, 52⟩) ⟨123, 7, 123, 52⟩) (.cons (.set 4 "_law_kept" ⟨124, 8, 124, 17⟩ (.lshi (.lst (.cons (.tup (.cons (.cst (.int 9) 0 ⟨124, 22, 124, 23⟩) (.cons (.cst (.int 0) 0 ⟨124, 25, 124, 26⟩) (.cons (.cst (.int 11) 0 ⟨124, 28, 124, 30⟩) (.cons (.cst (.int 2) 0 ⟨124, 32, 124, 33⟩) .nil)))) 0 ⟨124, 21, 124, 34⟩) (.cons (.tup (.cons (.cst (.int 6) 0 ⟨124, 37, 124, 38⟩) (.cons (.cst (.int 2) 0 ⟨124, 40, 124, 41⟩) (.cons (.cst (.int 8) 0 ⟨124, 43, 124, 44⟩) (.cons (.cst (.int 4) 0 ⟨124, 46, 124, 47⟩) .nil)))) 0 ⟨124, 36, 124, 48⟩) (.cons (.tup (.cons (.cst (.int 3) 0 ⟨124, 51, 124, 52⟩) (.cons (.cst (.int 4) 0 ⟨124, 54, 124, 55⟩) (.cons (.cst (.int 5) 0 ⟨124, 57, 124, 58⟩) (.cons (.cst (.int 6) 0 ⟨124, 60, 124, 61⟩) .nil)))) 0 ⟨124, 50, 124, 62⟩) (.cons (.tup (.cons (.cst (.int 0) 0 ⟨124, 65, 124, 66⟩) (.cons (.cst (.int 6) 0 ⟨124, 68, 124, 69⟩) (.cons (.cst (.int 2) 0 ⟨124, 71, 124, 72⟩) (.cons (.cst (.int 8) 0 ⟨124, 74, 124, 75⟩) .nil)))) 0 ⟨124, 64, 124, 76⟩) .nil)))) ⟨124, 20, 124, 77⟩) (.bin .add (.cst (.int 2) 0 ⟨124, 79, 124, 80⟩) (.call 17 "_law_drawn" ⟨124, 83, 124, 93⟩ (.var 0 "_law_script" ⟨124, 94, 124, 105⟩) (.cons (.bin .add (.var 1 "_law_at" ⟨124, 107, 124, 114⟩) (.cst (.int 53) 0 ⟨124, 117, 124, 119⟩) ⟨124, 107, 124, 119⟩) (.cons (.cst (.int 3) 0 ⟨124, 121, 124, 122⟩) .nil)) ⟨124, 83, 124, 123⟩) ⟨124, 79, 124, 123⟩) ⟨124, 78, 124, 123⟩ ⟨124, 20, 124, 124⟩) ⟨124, 8, 124, 124⟩)
    .nil) .nil ⟨123, 4, 124, 124⟩)
    (.cons (.iff (.and (.cmp .lt (.prim .len ⟨125, 7, 125, 10⟩ (.var 4 "_law_kept" ⟨125, 11, 125, 20⟩) .nil ⟨125, 7, 125, 21⟩) (.var 2 "_law_most" ⟨125, 24, 125, 33⟩) ⟨125, 7, 125, 33⟩) (.cons (.cmp .lt (.prim .max ⟨125, 38, 125, 41⟩ (.bin .add (.lst (.cons (.cst (.int 0) 0 ⟨125, 43, 125, 44⟩) .nil) ⟨125, 42, 125, 45⟩) (.comp (.ix (.var 17 "_law_panel" ⟨125, 49, 125, 59⟩) (.cst (.int 3) 0 ⟨125, 60, 125, 61⟩) ⟨125, 49, 125, 62⟩) (.nm 17 "_law_panel" ⟨125, 67, 125, 77⟩) (.seq (.var 4 "_law_kept" ⟨125, 81, 125, 90⟩)) .nil ⟨.function, [(".0", .local), ("_law_panel", .local)], false, false, []⟩ [("_law_panel", 17)] ⟨125, 48, 125, 91⟩) ⟨125, 42, 125, 91⟩) .nil ⟨125, 38, 125, 92⟩) (.cst (.int 9) 0 ⟨125, 95, 125, 96⟩) ⟨125, 38, 125, 96⟩) (.cons (.cmp .eq (.call 17 "_law_drawn" ⟨125, 102, 125, 112⟩ (.var 0 "_law_script" ⟨125, 113, 125, 124⟩) (.cons (.bin .add (.var 1 "_law_at" ⟨125, 126, 125, 133⟩) (.cst (.int 54) 0 ⟨125, 136, 125, 138⟩) ⟨125, 126, 125, 138⟩) (.cons (.cst (.int 2) 0 ⟨125, 140, 125, 141⟩) .nil)) ⟨125, 102, 125, 142⟩) (.cst (.int 0) 0 ⟨125, 146, 125, 147⟩) ⟨125, 102, 125, 147⟩) .nil)) ⟨125, 7, 125, 148⟩) (.cons (.app 4 "_law_kept" ⟨126, 8, 126, 17⟩ ⟨126, 8, 126, 24⟩ ⟨126, 8, 126, 40⟩ (.tup (.cons (.cst (.int 0) 0 ⟨126, 26, 126, 27⟩) (.cons (.cst (.int 9) 0 ⟨126, 29, 126, 30⟩) (.cons (.cst (.int 12) 0 ⟨126, 32, 126, 34⟩) (.cons (.cst (.int 12) 0 ⟨126, 36, 126, 38⟩) .nil)))) 0 ⟨126, 25, 126, 39⟩) ⟨126, 8, 126, 40⟩)
    .nil) .nil ⟨125, 4, 126, 40⟩)
    (.cons (.ret (.prim .tuple ⟨127, 11, 127, 16⟩ (.var 4 "_law_kept" ⟨127, 17, 127, 26⟩) .nil ⟨127, 11, 127, 27⟩) ⟨127, 4, 127, 27⟩)
    .nil)))))))
theorem py18 : s18.py = defBody (top 27) := by kernel_rfl
theorem ok18 : s18.ok g18 exs (defScope (top 27)) = true := by kernel_rfl
theorem sc18 : FnScope n18 ["_law_script", "_law_at", "_law_most"] (defScope (top 27)) := scB_ok (by kernel_rfl)
def ds18 : List (List D → Rs D) := [d0, d1, d2, d3, d4, d5, d6, d7, d8, d9, d10, d11, d12, d13, d14, d15, d16, d17]
def d18 : List D → Rs D := defD (tbl ds18) 3 18 s18
def n19 : List Str := ["_law_script", "_law_at", "_law_bad", "_law_k"]
def g19 : Sg := ⟨n19, fun _ => false, gls, [("is_int", 3), ("is_panel", 1), ("share_widths", 2), ("share_heights", 2), ("is_page", 1), ("check_page", 1), ("find_cuts", 3), ("find_parts", 3), ("check_part", 2), ("row_parts", 2), ("column_parts", 2), ("read_part", 3), ("find_reading", 2), ("by_rows", 1), ("by_columns", 1), ("stuck_part", 1), ("is_cuttable", 1), ("_law_drawn", 3), ("_law_page", 3)], bls⟩
def s19 : Ss := (.cons (.set 2 "_law_bad" ⟨129, 4, 129, 12⟩ (.lst (.cons (.cst .non 0 ⟨129, 16, 129, 20⟩) (.cons (.lst .nil ⟨129, 22, 129, 24⟩) (.cons (.lst (.cons (.tup (.cons (.cst (.int 0) 0 ⟨129, 28, 129, 29⟩) (.cons (.cst (.int 0) 0 ⟨129, 31, 129, 32⟩) (.cons (.cst (.int 1) 0 ⟨129, 34, 129, 35⟩) (.cons (.cst (.int 1) 0 ⟨129, 37, 129, 38⟩) .nil)))) 0 ⟨129, 27, 129, 39⟩) .nil) ⟨129, 26, 129, 40⟩) (.cons (.tup (.cons (.tup (.cons (.cst (.int 0) 0 ⟨129, 44, 129, 45⟩) (.cons (.cst (.int 0) 0 ⟨129, 47, 129, 48⟩) (.cons (.cst (.int 0) 0 ⟨129, 50, 129, 51⟩) (.cons (.cst (.int 1) 0 ⟨129, 53, 129, 54⟩) .nil)))) 0 ⟨129, 43, 129, 55⟩) .nil) 0 ⟨129, 42, 129, 57⟩) (.cons (.tup (.cons (.tup (.cons (.cst (.int 0) 0 ⟨129, 61, 129, 62⟩) (.cons (.cst (.int 0) 0 ⟨129, 64, 129, 65⟩) (.cons (.cst (.int 21) 0 ⟨129, 67, 129, 69⟩) (.cons (.cst (.int 1) 0 ⟨129, 71, 129, 72⟩) .nil)))) 0 ⟨129, 60, 129, 73⟩) .nil) 0 ⟨129, 59, 129, 75⟩) .nil))))) ⟨129, 15, 129, 76⟩) ⟨129, 4, 129, 76⟩)
    (.cons (.set 2 "_law_bad" ⟨130, 4, 130, 12⟩ (.bin .add (.var 2 "_law_bad" ⟨130, 15, 130, 23⟩) (.lst (.cons (.tup (.cons (.tup (.cons (.cst (.int 0) 0 ⟨130, 29, 130, 30⟩) (.cons (.cst (.int 0) 0 ⟨130, 32, 130, 33⟩) (.cons (.cst (.int 2) 0 ⟨130, 35, 130, 36⟩) (.cons (.cst (.int 2) 0 ⟨130, 38, 130, 39⟩) .nil)))) 0 ⟨130, 28, 130, 40⟩) (.cons (.tup (.cons (.cst (.int 1) 0 ⟨130, 43, 130, 44⟩) (.cons (.cst (.int 1) 0 ⟨130, 46, 130, 47⟩) (.cons (.cst (.int 3) 0 ⟨130, 49, 130, 50⟩) (.cons (.cst (.int 3) 0 ⟨130, 52, 130, 53⟩) .nil)))) 0 ⟨130, 42, 130, 54⟩) .nil)) 0 ⟨130, 27, 130, 55⟩) .nil) ⟨130, 26, 130, 56⟩) ⟨130, 15, 130, 56⟩) ⟨130, 4, 130, 56⟩)
    (.cons (.set 2 "_law_bad" ⟨131, 4, 131, 12⟩ (.bin .add (.var 2 "_law_bad" ⟨131, 15, 131, 23⟩) (.lst (.cons (.tup (.cons (.tup (.cons (.cst (.int 0) 0 ⟨131, 29, 131, 30⟩) (.cons (.cst (.int 0) 0 ⟨131, 32, 131, 33⟩) (.cons (.cst (.int 1) 0 ⟨131, 35, 131, 36⟩) .nil))) 0 ⟨131, 28, 131, 37⟩) .nil) 0 ⟨131, 27, 131, 39⟩) (.cons (.tup (.cons (.tup (.cons (.cst (.int 0) 0 ⟨131, 43, 131, 44⟩) (.cons (.cst (.int 0) 0 ⟨131, 46, 131, 47⟩) (.cons (.cst (.int 1) 0 ⟨131, 49, 131, 50⟩) (.cons (.cst (.str "1") 0 ⟨131, 52, 131, 55⟩) .nil)))) 0 ⟨131, 42, 131, 56⟩) .nil) 0 ⟨131, 41, 131, 58⟩) (.cons (.tup (.cons (.tup (.cons (.cst (.bl true) 0 ⟨131, 62, 131, 66⟩) (.cons (.cst (.int 0) 0 ⟨131, 68, 131, 69⟩) (.cons (.cst (.int 2) 0 ⟨131, 71, 131, 72⟩) (.cons (.cst (.int 2) 0 ⟨131, 74, 131, 75⟩) .nil)))) 0 ⟨131, 61, 131, 76⟩) .nil) 0 ⟨131, 60, 131, 78⟩) (.cons (.tup (.cons (.cst (.int 0) 0 ⟨131, 81, 131, 82⟩) (.cons (.cst (.int 0) 0 ⟨131, 84, 131, 85⟩) (.cons (.cst (.int 1) 0 ⟨131, 87, 131, 88⟩) (.cons (.cst (.int 1) 0 ⟨131, 90, 131, 91⟩) .nil)))) 0 ⟨131, 80, 131, 92⟩) .nil)))) ⟨131, 26, 131, 93⟩) ⟨131, 15, 131, 93⟩) ⟨131, 4, 131, 93⟩)
    (.cons (.ret (.ix (.bin .add (.var 2 "_law_bad" ⟨132, 12, 132, 20⟩) (.lst (.cons (.prim .tuple ⟨132, 24, 132, 29⟩ (.comp (.tup (.cons (.var 3 "_law_k" ⟨132, 32, 132, 38⟩) (.cons (.cst (.int 0) 0 ⟨132, 40, 132, 41⟩) (.cons (.bin .add (.var 3 "_law_k" ⟨132, 43, 132, 49⟩) (.cst (.int 1) 0 ⟨132, 52, 132, 53⟩) ⟨132, 43, 132, 53⟩) (.cons (.cst (.int 1) 0 ⟨132, 55, 132, 56⟩) .nil)))) 0 ⟨132, 31, 132, 57⟩) (.nm 3 "_law_k" ⟨132, 62, 132, 68⟩) (.rng1 (.cst (.int 9) 0 ⟨132, 78, 132, 79⟩) ⟨132, 72, 132, 77⟩ ⟨132, 72, 132, 80⟩) .nil ⟨.function, [(".0", .local), ("_law_k", .local)], false, false, []⟩ [("_law_k", 3)] ⟨132, 30, 132, 81⟩) .nil ⟨132, 24, 132, 82⟩) .nil) ⟨132, 23, 132, 83⟩) ⟨132, 12, 132, 83⟩) (.call 17 "_law_drawn" ⟨132, 85, 132, 95⟩ (.var 0 "_law_script" ⟨132, 96, 132, 107⟩) (.cons (.var 1 "_law_at" ⟨132, 109, 132, 116⟩) (.cons (.cst (.int 11) 0 ⟨132, 118, 132, 120⟩) .nil)) ⟨132, 85, 132, 121⟩) ⟨132, 11, 132, 122⟩) ⟨132, 4, 132, 122⟩)
    .nil))))
theorem py19 : s19.py = defBody (top 28) := by kernel_rfl
theorem ok19 : s19.ok g19 exs (defScope (top 28)) = true := by kernel_rfl
theorem sc19 : FnScope n19 ["_law_script", "_law_at"] (defScope (top 28)) := scB_ok (by kernel_rfl)
def ds19 : List (List D → Rs D) := [d0, d1, d2, d3, d4, d5, d6, d7, d8, d9, d10, d11, d12, d13, d14, d15, d16, d17, d18]
def d19 : List D → Rs D := defD (tbl ds19) 2 4 s19
def n20 : List Str := ["_law_way", "_law_one", "_law_two", "e"]
def g20 : Sg := ⟨n20, fun _ => false, gls, [("is_int", 3), ("is_panel", 1), ("share_widths", 2), ("share_heights", 2), ("is_page", 1), ("check_page", 1), ("find_cuts", 3), ("find_parts", 3), ("check_part", 2), ("row_parts", 2), ("column_parts", 2), ("read_part", 3), ("find_reading", 2), ("by_rows", 1), ("by_columns", 1), ("stuck_part", 1), ("is_cuttable", 1), ("_law_drawn", 3), ("_law_page", 3), ("_law_badpage", 2)], bls⟩
def s20 : Ss := (.cons (.tryI (.cons (.iff (.cmp .lt (.var 0 "_law_way" ⟨135, 11, 135, 19⟩) (.cst (.int 4) 0 ⟨135, 22, 135, 23⟩) ⟨135, 11, 135, 23⟩) (.cons (.expr (.ccall [(14, "by_columns", ⟨136, 13, 136, 23⟩), (13, "by_rows", ⟨136, 25, 136, 32⟩), (16, "is_cuttable", ⟨136, 34, 136, 45⟩), (15, "stuck_part", ⟨136, 47, 136, 57⟩)] ⟨136, 12, 136, 58⟩ (.var 0 "_law_way" ⟨136, 59, 136, 67⟩) ⟨136, 12, 136, 68⟩ (.var 1 "_law_one" ⟨136, 69, 136, 77⟩) .nil ⟨136, 12, 136, 78⟩) ⟨136, 12, 136, 78⟩)
    .nil) (.cons (.expr (.ccall [(10, "column_parts", ⟨138, 13, 138, 25⟩), (9, "row_parts", ⟨138, 27, 138, 36⟩)] ⟨138, 12, 138, 37⟩ (.bin .sub (.var 0 "_law_way" ⟨138, 38, 138, 46⟩) (.cst (.int 4) 0 ⟨138, 49, 138, 50⟩) ⟨138, 38, 138, 50⟩) ⟨138, 12, 138, 51⟩ (.var 1 "_law_one" ⟨138, 52, 138, 60⟩) (.cons (.var 2 "_law_two" ⟨138, 62, 138, 70⟩) .nil) ⟨138, 12, 138, 71⟩) ⟨138, 12, 138, 71⟩)
    .nil) ⟨135, 8, 138, 71⟩)
    .nil) 3 "e" [("InvalidPage", ⟨140, 16, 140, 26⟩, ⟨140, 27, 140, 28⟩, ⟨140, 30, 140, 41⟩, ⟨140, 16, 140, 42⟩), ("InvalidPart", ⟨140, 44, 140, 54⟩, ⟨140, 55, 140, 56⟩, ⟨140, 58, 140, 69⟩, ⟨140, 44, 140, 70⟩)] ⟨139, 11, 139, 21⟩ ⟨140, 15, 140, 71⟩ ⟨140, 15, 140, 77⟩ 0 ⟨140, 78, 140, 82⟩ ⟨140, 15, 140, 83⟩ ⟨140, 8, 140, 83⟩ ⟨139, 4, 140, 83⟩ ⟨134, 4, 140, 83⟩)
    (.cons (.ret (.cst .non 0 ⟨141, 11, 141, 15⟩) ⟨141, 4, 141, 15⟩)
    .nil))
theorem py20 : s20.py = defBody (top 29) := by kernel_rfl
theorem ok20 : s20.ok g20 exs (defScope (top 29)) = true := by kernel_rfl
theorem sc20 : FnScope n20 ["_law_way", "_law_one", "_law_two"] (defScope (top 29)) := scB_ok (by kernel_rfl)
def ds20 : List (List D → Rs D) := [d0, d1, d2, d3, d4, d5, d6, d7, d8, d9, d10, d11, d12, d13, d14, d15, d16, d17, d18, d19]
def d20 : List D → Rs D := defD (tbl ds20) 3 4 s20
def n21 : List Str := ["_law_page_here", "_law_part", "_law_side", "_law_found", "_law_held", "_law_line", "_law_above", "_law_below", "_law_number"]
def g21 : Sg := ⟨n21, fun i => i == 3, gls, [("is_int", 3), ("is_panel", 1), ("share_widths", 2), ("share_heights", 2), ("is_page", 1), ("check_page", 1), ("find_cuts", 3), ("find_parts", 3), ("check_part", 2), ("row_parts", 2), ("column_parts", 2), ("read_part", 3), ("find_reading", 2), ("by_rows", 1), ("by_columns", 1), ("stuck_part", 1), ("is_cuttable", 1), ("_law_drawn", 3), ("_law_page", 3), ("_law_badpage", 2), ("_law_error", 3)], bls⟩
def s21 : Ss := (.cons (.par [(3, "_law_found", ⟨143, 4, 143, 14⟩), (4, "_law_held", ⟨143, 16, 143, 25⟩)] 0 ⟨143, 4, 143, 25⟩ (.cons (.lst .nil ⟨143, 29, 143, 31⟩) (.cons (.var 1 "_law_part" ⟨143, 33, 143, 42⟩) .nil)) 0 ⟨143, 28, 143, 43⟩ ⟨143, 4, 143, 43⟩)
    (.cons (.for (.nm 5 "_law_line" ⟨144, 8, 144, 17⟩) (.rng2 (.cst (.int 1) 0 ⟨144, 27, 144, 28⟩) (.cst (.int 20) 0 ⟨144, 30, 144, 32⟩) ⟨144, 21, 144, 26⟩ ⟨144, 21, 144, 33⟩) (.cons (.set 6 "_law_above" ⟨145, 8, 145, 18⟩ (.prim .tuple ⟨145, 21, 145, 26⟩ (.comp (.var 8 "_law_number" ⟨145, 28, 145, 39⟩) (.nm 8 "_law_number" ⟨145, 44, 145, 55⟩) (.seq (.var 4 "_law_held" ⟨145, 59, 145, 68⟩)) (.cons (.cmp .le (.ix (.ix (.var 0 "_law_page_here" ⟨145, 72, 145, 86⟩) (.var 8 "_law_number" ⟨145, 87, 145, 98⟩) ⟨145, 72, 145, 99⟩) (.bin .add (.var 2 "_law_side" ⟨145, 100, 145, 109⟩) (.cst (.int 2) 0 ⟨145, 112, 145, 113⟩) ⟨145, 100, 145, 113⟩) ⟨145, 72, 145, 114⟩) (.var 5 "_law_line" ⟨145, 118, 145, 127⟩) ⟨145, 72, 145, 127⟩) .nil) ⟨.function, [(".0", .local), ("_law_number", .local), ("_law_line", .free), ("_law_page_here", .free), ("_law_side", .free)], false, false, []⟩ [("_law_number", 8)] ⟨145, 27, 145, 128⟩) .nil ⟨145, 21, 145, 129⟩) ⟨145, 8, 145, 129⟩)
    (.cons (.set 7 "_law_below" ⟨146, 8, 146, 18⟩ (.prim .tuple ⟨146, 21, 146, 26⟩ (.comp (.var 8 "_law_number" ⟨146, 28, 146, 39⟩) (.nm 8 "_law_number" ⟨146, 44, 146, 55⟩) (.seq (.var 4 "_law_held" ⟨146, 59, 146, 68⟩)) (.cons (.cmp .ge (.ix (.ix (.var 0 "_law_page_here" ⟨146, 72, 146, 86⟩) (.var 8 "_law_number" ⟨146, 87, 146, 98⟩) ⟨146, 72, 146, 99⟩) (.var 2 "_law_side" ⟨146, 100, 146, 109⟩) ⟨146, 72, 146, 110⟩) (.var 5 "_law_line" ⟨146, 114, 146, 123⟩) ⟨146, 72, 146, 123⟩) .nil) ⟨.function, [(".0", .local), ("_law_number", .local), ("_law_line", .free), ("_law_page_here", .free), ("_law_side", .free)], false, false, []⟩ [("_law_number", 8)] ⟨146, 27, 146, 124⟩) .nil ⟨146, 21, 146, 125⟩) ⟨146, 8, 146, 125⟩)
    (.cons (.iff (.and (.cmp .ne (.var 6 "_law_above" ⟨147, 11, 147, 21⟩) (.tup .nil 0 ⟨147, 25, 147, 27⟩) ⟨147, 11, 147, 27⟩) (.cons (.cmp .ne (.var 7 "_law_below" ⟨147, 32, 147, 42⟩) (.tup .nil 0 ⟨147, 46, 147, 48⟩) ⟨147, 32, 147, 48⟩) (.cons (.cmp .eq (.bin .add (.prim .len ⟨147, 54, 147, 57⟩ (.var 6 "_law_above" ⟨147, 58, 147, 68⟩) .nil ⟨147, 54, 147, 69⟩) (.prim .len ⟨147, 72, 147, 75⟩ (.var 7 "_law_below" ⟨147, 76, 147, 86⟩) .nil ⟨147, 72, 147, 87⟩) ⟨147, 54, 147, 87⟩) (.prim .len ⟨147, 91, 147, 94⟩ (.var 4 "_law_held" ⟨147, 95, 147, 104⟩) .nil ⟨147, 91, 147, 105⟩) ⟨147, 54, 147, 105⟩) .nil)) ⟨147, 11, 147, 106⟩) (.cons (.app 3 "_law_found" ⟨148, 12, 148, 22⟩ ⟨148, 12, 148, 29⟩ ⟨148, 12, 148, 41⟩ (.var 6 "_law_above" ⟨148, 30, 148, 40⟩) ⟨148, 12, 148, 41⟩)
    (.cons (.set 4 "_law_held" ⟨149, 12, 149, 21⟩ (.var 7 "_law_below" ⟨149, 24, 149, 34⟩) ⟨149, 12, 149, 34⟩)
    .nil)) .nil ⟨147, 8, 149, 34⟩)
    .nil))) ⟨144, 4, 149, 34⟩)
    (.cons (.ret (.bin .add (.var 3 "_law_found" ⟨150, 11, 150, 21⟩) (.lst (.cons (.var 4 "_law_held" ⟨150, 25, 150, 34⟩) .nil) ⟨150, 24, 150, 35⟩) ⟨150, 11, 150, 35⟩) ⟨150, 4, 150, 35⟩)
    .nil)))
theorem py21 : s21.py = defBody (top 30) := by kernel_rfl
theorem ok21 : s21.ok g21 exs (defScope (top 30)) = true := by kernel_rfl
theorem sc21 : FnScope n21 ["_law_page_here", "_law_part", "_law_side"] (defScope (top 30)) := scB_ok (by kernel_rfl)
def ds21 : List (List D → Rs D) := [d0, d1, d2, d3, d4, d5, d6, d7, d8, d9, d10, d11, d12, d13, d14, d15, d16, d17, d18, d19, d20]
def d21 : List D → Rs D := defD (tbl ds21) 3 9 s21
def n22 : List Str := ["_law_page_here", "_law_part", "_law_side", "_law_way", "_law_parts_here", "_law_found", "_law_one", "_law_order", "_law_stuck"]
def g22 : Sg := ⟨n22, fun _ => false, gls, [("is_int", 3), ("is_panel", 1), ("share_widths", 2), ("share_heights", 2), ("is_page", 1), ("check_page", 1), ("find_cuts", 3), ("find_parts", 3), ("check_part", 2), ("row_parts", 2), ("column_parts", 2), ("read_part", 3), ("find_reading", 2), ("by_rows", 1), ("by_columns", 1), ("stuck_part", 1), ("is_cuttable", 1), ("_law_drawn", 3), ("_law_page", 3), ("_law_badpage", 2), ("_law_error", 3), ("_law_parts", 3), ("_law_read", 3)], bls⟩
def s22 : Ss := (.cons (.iff (.cmp .lt (.prim .len ⟨152, 7, 152, 10⟩ (.var 1 "_law_part" ⟨152, 11, 152, 20⟩) .nil ⟨152, 7, 152, 21⟩) (.cst (.int 2) 0 ⟨152, 24, 152, 25⟩) ⟨152, 7, 152, 25⟩) (.cons (.ret (.tup (.cons (.var 1 "_law_part" ⟨153, 16, 153, 25⟩) (.cons (.cst .non 0 ⟨153, 27, 153, 31⟩) .nil)) 0 ⟨153, 15, 153, 32⟩) ⟨153, 8, 153, 32⟩)
    .nil) .nil ⟨152, 4, 153, 32⟩)
    (.cons (.for (.nm 3 "_law_way" ⟨154, 8, 154, 16⟩) (.seq (.tup (.cons (.var 2 "_law_side" ⟨154, 21, 154, 30⟩) (.cons (.bin .sub (.cst (.int 1) 0 ⟨154, 32, 154, 33⟩) (.var 2 "_law_side" ⟨154, 36, 154, 45⟩) ⟨154, 32, 154, 45⟩) .nil)) 0 ⟨154, 20, 154, 46⟩)) (.cons (.set 4 "_law_parts_here" ⟨155, 8, 155, 23⟩ (.call 21 "_law_parts" ⟨155, 26, 155, 36⟩ (.var 0 "_law_page_here" ⟨155, 37, 155, 51⟩) (.cons (.var 1 "_law_part" ⟨155, 53, 155, 62⟩) (.cons (.var 3 "_law_way" ⟨155, 64, 155, 72⟩) .nil)) ⟨155, 26, 155, 73⟩) ⟨155, 8, 155, 73⟩)
    (.cons (.iff (.cmp .gt (.prim .len ⟨156, 11, 156, 14⟩ (.var 4 "_law_parts_here" ⟨156, 15, 156, 30⟩) .nil ⟨156, 11, 156, 31⟩) (.cst (.int 1) 0 ⟨156, 34, 156, 35⟩) ⟨156, 11, 156, 35⟩) (.cons (.set 5 "_law_found" ⟨157, 12, 157, 22⟩ (.tup .nil 0 ⟨157, 25, 157, 27⟩) ⟨157, 12, 157, 27⟩)
    (.cons (.for (.nm 6 "_law_one" ⟨158, 16, 158, 24⟩) (.seq (.var 4 "_law_parts_here" ⟨158, 28, 158, 43⟩)) (.cons (.asg [(7, "_law_order", ⟨159, 16, 159, 26⟩), (8, "_law_stuck", ⟨159, 28, 159, 38⟩)] 0 ⟨159, 16, 159, 38⟩ (.call 22 "_law_read" ⟨159, 41, 159, 50⟩ (.var 0 "_law_page_here" ⟨159, 51, 159, 65⟩) (.cons (.var 6 "_law_one" ⟨159, 67, 159, 75⟩) (.cons (.var 2 "_law_side" ⟨159, 77, 159, 86⟩) .nil)) ⟨159, 41, 159, 87⟩) ⟨159, 16, 159, 87⟩)
    (.cons (.iff (.cmp .isnot (.var 8 "_law_stuck" ⟨160, 19, 160, 29⟩) (.cst .non 0 ⟨160, 37, 160, 41⟩) ⟨160, 19, 160, 41⟩) (.cons (.ret (.tup (.cons (.tup .nil 0 ⟨161, 28, 161, 30⟩) (.cons (.var 8 "_law_stuck" ⟨161, 32, 161, 42⟩) .nil)) 0 ⟨161, 27, 161, 43⟩) ⟨161, 20, 161, 43⟩)
    .nil) .nil ⟨160, 16, 161, 43⟩)
    (.cons (.set 5 "_law_found" ⟨162, 16, 162, 26⟩ (.bin .add (.var 5 "_law_found" ⟨162, 29, 162, 39⟩) (.var 7 "_law_order" ⟨162, 42, 162, 52⟩) ⟨162, 29, 162, 52⟩) ⟨162, 16, 162, 52⟩)
    .nil))) ⟨158, 12, 162, 52⟩)
    (.cons (.ret (.tup (.cons (.var 5 "_law_found" ⟨163, 20, 163, 30⟩) (.cons (.cst .non 0 ⟨163, 32, 163, 36⟩) .nil)) 0 ⟨163, 19, 163, 37⟩) ⟨163, 12, 163, 37⟩)
    .nil))) .nil ⟨156, 8, 163, 37⟩)
    .nil)) ⟨154, 4, 163, 37⟩)
    (.cons (.ret (.tup (.cons (.tup .nil 0 ⟨164, 12, 164, 14⟩) (.cons (.var 1 "_law_part" ⟨164, 16, 164, 25⟩) .nil)) 0 ⟨164, 11, 164, 26⟩) ⟨164, 4, 164, 26⟩)
    .nil)))
theorem py22 : s22.py = defBody (top 31) := by kernel_rfl
theorem ok22 : s22.ok g22 exs (defScope (top 31)) = true := by kernel_rfl
theorem sc22 : FnScope n22 ["_law_page_here", "_law_part", "_law_side"] (defScope (top 31)) := scB_ok (by kernel_rfl)
def ds22 : List (List D → Rs D) := [d0, d1, d2, d3, d4, d5, d6, d7, d8, d9, d10, d11, d12, d13, d14, d15, d16, d17, d18, d19, d20, d21]
def d22 : List D → Rs D := recD ds22 3 9 s22 12
def n23 : List Str := ["_law_script", "_law_page_here", "_law_whole", "_law_order", "_law_stuck", "_law_other", "_law_held", "_law_k", "_law_part", "_law_wheel", "_law_odd", "_law_bad", "_law_told", "_law_number", "_law_way"]
def g23 : Sg := ⟨n23, fun _ => false, gls, [("is_int", 3), ("is_panel", 1), ("share_widths", 2), ("share_heights", 2), ("is_page", 1), ("check_page", 1), ("find_cuts", 3), ("find_parts", 3), ("check_part", 2), ("row_parts", 2), ("column_parts", 2), ("read_part", 3), ("find_reading", 2), ("by_rows", 1), ("by_columns", 1), ("stuck_part", 1), ("is_cuttable", 1), ("_law_drawn", 3), ("_law_page", 3), ("_law_badpage", 2), ("_law_error", 3), ("_law_parts", 3), ("_law_read", 3)], bls⟩
def s23 : Ss := (.cons (.set 1 "_law_page_here" ⟨166, 4, 166, 18⟩ (.call 18 "_law_page" ⟨166, 21, 166, 30⟩ (.var 0 "_law_script" ⟨166, 31, 166, 42⟩) (.cons (.cst (.int 10) 0 ⟨166, 44, 166, 46⟩) (.cons (.cst (.int 8) 0 ⟨166, 48, 166, 49⟩) .nil)) ⟨166, 21, 166, 50⟩) ⟨166, 4, 166, 50⟩)
    (.cons (.set 2 "_law_whole" ⟨167, 4, 167, 14⟩ (.trng1 (.prim .len ⟨167, 29, 167, 32⟩ (.var 1 "_law_page_here" ⟨167, 33, 167, 47⟩) .nil ⟨167, 29, 167, 48⟩) ⟨167, 17, 167, 22⟩ ⟨167, 23, 167, 28⟩ ⟨167, 23, 167, 49⟩ ⟨167, 17, 167, 50⟩) ⟨167, 4, 167, 50⟩)
    (.cons (.asg [(3, "_law_order", ⟨168, 4, 168, 14⟩), (4, "_law_stuck", ⟨168, 16, 168, 26⟩)] 0 ⟨168, 4, 168, 26⟩ (.call 22 "_law_read" ⟨168, 29, 168, 38⟩ (.var 1 "_law_page_here" ⟨168, 39, 168, 53⟩) (.cons (.var 2 "_law_whole" ⟨168, 55, 168, 65⟩) (.cons (.cst (.int 1) 0 ⟨168, 67, 168, 68⟩) .nil)) ⟨168, 29, 168, 69⟩) ⟨168, 4, 168, 69⟩)
    (.cons (.iff (.or (.cmp .ne (.call 13 "by_rows" ⟨169, 7, 169, 14⟩ (.var 1 "_law_page_here" ⟨169, 15, 169, 29⟩) .nil ⟨169, 7, 169, 30⟩) (.ite (.cmp .is (.var 4 "_law_stuck" ⟨169, 49, 169, 59⟩) (.cst .non 0 ⟨169, 63, 169, 67⟩) ⟨169, 49, 169, 67⟩) (.var 3 "_law_order" ⟨169, 35, 169, 45⟩) (.cst .non 0 ⟨169, 73, 169, 77⟩) ⟨169, 35, 169, 77⟩) ⟨169, 7, 169, 78⟩) (.cons (.cmp .ne (.call 15 "stuck_part" ⟨169, 82, 169, 92⟩ (.var 1 "_law_page_here" ⟨169, 93, 169, 107⟩) .nil ⟨169, 82, 169, 108⟩) (.var 4 "_law_stuck" ⟨169, 112, 169, 122⟩) ⟨169, 82, 169, 122⟩) .nil) ⟨169, 7, 169, 122⟩) (.cons (.ret (.cst (.bl false) 0 ⟨170, 15, 170, 20⟩) ⟨170, 8, 170, 20⟩)
    .nil) .nil ⟨169, 4, 170, 20⟩)
    (.cons (.iff (.cmp .ne (.call 16 "is_cuttable" ⟨171, 7, 171, 18⟩ (.var 1 "_law_page_here" ⟨171, 19, 171, 33⟩) .nil ⟨171, 7, 171, 34⟩) (.cmp .is (.var 4 "_law_stuck" ⟨171, 39, 171, 49⟩) (.cst .non 0 ⟨171, 53, 171, 57⟩) ⟨171, 39, 171, 57⟩) ⟨171, 7, 171, 58⟩) (.cons (.ret (.cst (.bl false) 0 ⟨172, 15, 172, 20⟩) ⟨172, 8, 172, 20⟩)
    .nil) .nil ⟨171, 4, 172, 20⟩)
    (.cons (.asg [(5, "_law_other", ⟨173, 4, 173, 14⟩), (6, "_law_held", ⟨173, 16, 173, 25⟩)] 0 ⟨173, 4, 173, 25⟩ (.call 22 "_law_read" ⟨173, 28, 173, 37⟩ (.var 1 "_law_page_here" ⟨173, 38, 173, 52⟩) (.cons (.var 2 "_law_whole" ⟨173, 54, 173, 64⟩) (.cons (.cst (.int 0) 0 ⟨173, 66, 173, 67⟩) .nil)) ⟨173, 28, 173, 68⟩) ⟨173, 4, 173, 68⟩)
    (.cons (.iff (.cmp .ne (.call 14 "by_columns" ⟨174, 7, 174, 17⟩ (.var 1 "_law_page_here" ⟨174, 18, 174, 32⟩) .nil ⟨174, 7, 174, 33⟩) (.ite (.cmp .is (.var 6 "_law_held" ⟨174, 52, 174, 61⟩) (.cst .non 0 ⟨174, 65, 174, 69⟩) ⟨174, 52, 174, 69⟩) (.var 5 "_law_other" ⟨174, 38, 174, 48⟩) (.cst .non 0 ⟨174, 75, 174, 79⟩) ⟨174, 38, 174, 79⟩) ⟨174, 7, 174, 80⟩) (.cons (.ret (.cst (.bl false) 0 ⟨175, 15, 175, 20⟩) ⟨175, 8, 175, 20⟩)
    .nil) .nil ⟨174, 4, 175, 20⟩)
    (.cons (.for (.nm 7 "_law_k" ⟨176, 8, 176, 14⟩) (.rng1 (.cst (.int 4) 0 ⟨176, 24, 176, 25⟩) ⟨176, 18, 176, 23⟩ ⟨176, 18, 176, 26⟩) (.cons (.set 8 "_law_part" ⟨177, 8, 177, 17⟩ (.prim .tuple ⟨177, 20, 177, 25⟩ (.comp (.var 13 "_law_number" ⟨177, 27, 177, 38⟩) (.nm 13 "_law_number" ⟨177, 43, 177, 54⟩) (.seq (.var 2 "_law_whole" ⟨177, 58, 177, 68⟩)) (.cons (.cmp .gt (.call 17 "_law_drawn" ⟨177, 72, 177, 82⟩ (.var 0 "_law_script" ⟨177, 83, 177, 94⟩) (.cons (.bin .add (.bin .add (.cst (.int 70) 0 ⟨177, 96, 177, 98⟩) (.bin .mul (.cst (.int 8) 0 ⟨177, 101, 177, 102⟩) (.var 7 "_law_k" ⟨177, 105, 177, 111⟩) ⟨177, 101, 177, 111⟩) ⟨177, 96, 177, 111⟩) (.var 13 "_law_number" ⟨177, 114, 177, 125⟩) ⟨177, 96, 177, 125⟩) (.cons (.cst (.int 3) 0 ⟨177, 127, 177, 128⟩) .nil)) ⟨177, 72, 177, 129⟩) (.cst (.int 0) 0 ⟨177, 132, 177, 133⟩) ⟨177, 72, 177, 133⟩) .nil) ⟨.function, [(".0", .local), ("_law_number", .local), ("_law_drawn", .globalImplicit), ("_law_k", .free), ("_law_script", .free)], false, false, []⟩ [("_law_number", 13)] ⟨177, 26, 177, 134⟩) .nil ⟨177, 20, 177, 135⟩) ⟨177, 8, 177, 135⟩)
    (.cons (.iff (.cmp .ne (.var 8 "_law_part" ⟨178, 11, 178, 20⟩) (.tup .nil 0 ⟨178, 24, 178, 26⟩) ⟨178, 11, 178, 26⟩) (.cons (.iff (.cmp .ne (.call 9 "row_parts" ⟨179, 15, 179, 24⟩ (.var 1 "_law_page_here" ⟨179, 25, 179, 39⟩) (.cons (.var 8 "_law_part" ⟨179, 41, 179, 50⟩) .nil) ⟨179, 15, 179, 51⟩) (.call 21 "_law_parts" ⟨179, 55, 179, 65⟩ (.var 1 "_law_page_here" ⟨179, 66, 179, 80⟩) (.cons (.var 8 "_law_part" ⟨179, 82, 179, 91⟩) (.cons (.cst (.int 1) 0 ⟨179, 93, 179, 94⟩) .nil)) ⟨179, 55, 179, 95⟩) ⟨179, 15, 179, 95⟩) (.cons (.ret (.cst (.bl false) 0 ⟨180, 23, 180, 28⟩) ⟨180, 16, 180, 28⟩)
    .nil) .nil ⟨179, 12, 180, 28⟩)
    (.cons (.iff (.cmp .ne (.call 10 "column_parts" ⟨181, 15, 181, 27⟩ (.var 1 "_law_page_here" ⟨181, 28, 181, 42⟩) (.cons (.var 8 "_law_part" ⟨181, 44, 181, 53⟩) .nil) ⟨181, 15, 181, 54⟩) (.call 21 "_law_parts" ⟨181, 58, 181, 68⟩ (.var 1 "_law_page_here" ⟨181, 69, 181, 83⟩) (.cons (.var 8 "_law_part" ⟨181, 85, 181, 94⟩) (.cons (.cst (.int 0) 0 ⟨181, 96, 181, 97⟩) .nil)) ⟨181, 58, 181, 98⟩) ⟨181, 15, 181, 98⟩) (.cons (.ret (.cst (.bl false) 0 ⟨182, 23, 182, 28⟩) ⟨182, 16, 182, 28⟩)
    .nil) .nil ⟨181, 12, 182, 28⟩)
    .nil)) .nil ⟨178, 8, 182, 28⟩)
    .nil)) ⟨176, 4, 182, 28⟩)
    (.cons (.set 9 "_law_wheel" ⟨183, 4, 183, 14⟩ (.tup (.cons (.tup (.cons (.cst (.int 2) 0 ⟨183, 19, 183, 20⟩) (.cons (.cst (.int 0) 0 ⟨183, 22, 183, 23⟩) (.cons (.cst (.int 8) 0 ⟨183, 25, 183, 26⟩) (.cons (.cst (.int 2) 0 ⟨183, 28, 183, 29⟩) .nil)))) 0 ⟨183, 18, 183, 30⟩) (.cons (.tup (.cons (.cst (.int 6) 0 ⟨183, 33, 183, 34⟩) (.cons (.cst (.int 2) 0 ⟨183, 36, 183, 37⟩) (.cons (.cst (.int 8) 0 ⟨183, 39, 183, 40⟩) (.cons (.cst (.int 8) 0 ⟨183, 42, 183, 43⟩) .nil)))) 0 ⟨183, 32, 183, 44⟩) (.cons (.tup (.cons (.cst (.int 0) 0 ⟨183, 47, 183, 48⟩) (.cons (.cst (.int 6) 0 ⟨183, 50, 183, 51⟩) (.cons (.cst (.int 6) 0 ⟨183, 53, 183, 54⟩) (.cons (.cst (.int 8) 0 ⟨183, 56, 183, 57⟩) .nil)))) 0 ⟨183, 46, 183, 58⟩) (.cons (.tup (.cons (.cst (.int 0) 0 ⟨183, 61, 183, 62⟩) (.cons (.cst (.int 0) 0 ⟨183, 64, 183, 65⟩) (.cons (.cst (.int 2) 0 ⟨183, 67, 183, 68⟩) (.cons (.cst (.int 6) 0 ⟨183, 70, 183, 71⟩) .nil)))) 0 ⟨183, 60, 183, 72⟩) .nil)))) 0 ⟨183, 17, 183, 73⟩) ⟨183, 4, 183, 73⟩)
    (.cons (.iff (.or (.cmp .ne (.call 15 "stuck_part" ⟨184, 7, 184, 17⟩ (.var 9 "_law_wheel" ⟨184, 18, 184, 28⟩) .nil ⟨184, 7, 184, 29⟩) (.tup (.cons (.cst (.int 0) 0 ⟨184, 34, 184, 35⟩) (.cons (.cst (.int 1) 0 ⟨184, 37, 184, 38⟩) (.cons (.cst (.int 2) 0 ⟨184, 40, 184, 41⟩) (.cons (.cst (.int 3) 0 ⟨184, 43, 184, 44⟩) .nil)))) 0 ⟨184, 33, 184, 45⟩) ⟨184, 7, 184, 45⟩) (.cons (.cmp .isnot (.call 13 "by_rows" ⟨184, 49, 184, 56⟩ (.var 9 "_law_wheel" ⟨184, 57, 184, 67⟩) .nil ⟨184, 49, 184, 68⟩) (.cst .non 0 ⟨184, 76, 184, 80⟩) ⟨184, 49, 184, 80⟩) (.cons (.cmp .ne (.call 13 "by_rows" ⟨184, 84, 184, 91⟩ (.tup .nil 0 ⟨184, 92, 184, 94⟩) .nil ⟨184, 84, 184, 95⟩) (.tup .nil 0 ⟨184, 99, 184, 101⟩) ⟨184, 84, 184, 101⟩) .nil)) ⟨184, 7, 184, 101⟩) (.cons (.ret (.cst (.bl false) 0 ⟨185, 15, 185, 20⟩) ⟨185, 8, 185, 20⟩)
    .nil) .nil ⟨184, 4, 185, 20⟩)
    (.cons (.set 10 "_law_odd" ⟨186, 4, 186, 12⟩ (.call 19 "_law_badpage" ⟨186, 15, 186, 27⟩ (.var 0 "_law_script" ⟨186, 28, 186, 39⟩) (.cons (.cst (.int 1) 0 ⟨186, 41, 186, 42⟩) .nil) ⟨186, 15, 186, 43⟩) ⟨186, 4, 186, 43⟩)
    (.cons (.set 11 "_law_bad" ⟨187, 4, 187, 12⟩ (.ix (.lst (.cons (.cst .non 0 ⟨187, 16, 187, 20⟩) (.cons (.tup .nil 0 ⟨187, 22, 187, 24⟩) (.cons (.lst (.cons (.cst (.int 0) 0 ⟨187, 27, 187, 28⟩) .nil) ⟨187, 26, 187, 29⟩) (.cons (.tup (.cons (.cst (.int 0) 0 ⟨187, 32, 187, 33⟩) (.cons (.cst (.int 0) 0 ⟨187, 35, 187, 36⟩) .nil)) 0 ⟨187, 31, 187, 37⟩) (.cons (.tup (.cons (.cst (.int 1) 0 ⟨187, 40, 187, 41⟩) (.cons (.cst (.int 0) 0 ⟨187, 43, 187, 44⟩) .nil)) 0 ⟨187, 39, 187, 45⟩) (.cons (.tup (.cons (.prim .len ⟨187, 48, 187, 51⟩ (.var 1 "_law_page_here" ⟨187, 52, 187, 66⟩) .nil ⟨187, 48, 187, 67⟩) .nil) 0 ⟨187, 47, 187, 69⟩) (.cons (.tup (.cons (.neg (.cst (.int 1) 0 ⟨187, 73, 187, 74⟩) ⟨187, 72, 187, 74⟩) .nil) 0 ⟨187, 71, 187, 76⟩) (.cons (.tup (.cons (.cst (.bl true) 0 ⟨187, 79, 187, 83⟩) .nil) 0 ⟨187, 78, 187, 85⟩) (.cons (.cst (.str "0") 0 ⟨187, 87, 187, 90⟩) .nil))))))))) ⟨187, 15, 187, 91⟩) (.call 17 "_law_drawn" ⟨187, 92, 187, 102⟩ (.var 0 "_law_script" ⟨187, 103, 187, 114⟩) (.cons (.cst (.int 2) 0 ⟨187, 116, 187, 117⟩) (.cons (.cst (.int 9) 0 ⟨187, 119, 187, 120⟩) .nil)) ⟨187, 92, 187, 121⟩) ⟨187, 15, 187, 122⟩) ⟨187, 4, 187, 122⟩)
    (.cons (.set 12 "_law_told" ⟨188, 4, 188, 13⟩ (.bin .add (.comp (.call 20 "_law_error" ⟨188, 17, 188, 27⟩ (.var 14 "_law_way" ⟨188, 28, 188, 36⟩) (.cons (.var 10 "_law_odd" ⟨188, 38, 188, 46⟩) (.cons (.var 11 "_law_bad" ⟨188, 48, 188, 56⟩) .nil)) ⟨188, 17, 188, 57⟩) (.nm 14 "_law_way" ⟨188, 62, 188, 70⟩) (.rng1 (.cst (.int 6) 0 ⟨188, 80, 188, 81⟩) ⟨188, 74, 188, 79⟩ ⟨188, 74, 188, 82⟩) .nil ⟨.function, [(".0", .local), ("_law_way", .local), ("_law_error", .globalImplicit), ("_law_bad", .free), ("_law_odd", .free)], false, false, []⟩ [("_law_way", 14)] ⟨188, 16, 188, 83⟩) (.comp (.call 20 "_law_error" ⟨188, 87, 188, 97⟩ (.var 14 "_law_way" ⟨188, 98, 188, 106⟩) (.cons (.var 1 "_law_page_here" ⟨188, 108, 188, 122⟩) (.cons (.var 11 "_law_bad" ⟨188, 124, 188, 132⟩) .nil)) ⟨188, 87, 188, 133⟩) (.nm 14 "_law_way" ⟨188, 138, 188, 146⟩) (.seq (.tup (.cons (.cst (.int 4) 0 ⟨188, 151, 188, 152⟩) (.cons (.cst (.int 5) 0 ⟨188, 154, 188, 155⟩) .nil)) 0 ⟨188, 150, 188, 156⟩)) .nil ⟨.function, [(".0", .local), ("_law_way", .local), ("_law_error", .globalImplicit), ("_law_bad", .free), ("_law_page_here", .free)], false, false, []⟩ [("_law_way", 14)] ⟨188, 86, 188, 157⟩) ⟨188, 16, 188, 157⟩) ⟨188, 4, 188, 157⟩)
    (.cons (.ret (.cmp .eq (.var 12 "_law_told" ⟨189, 11, 189, 20⟩) (.bin .add (.rep (.cons (.cst (.int 0) 0 ⟨189, 25, 189, 26⟩) .nil) ⟨189, 24, 189, 27⟩ (.cst (.int 6) 0 ⟨189, 30, 189, 31⟩) ⟨189, 24, 189, 31⟩) (.rep (.cons (.cst (.int 1) 0 ⟨189, 35, 189, 36⟩) .nil) ⟨189, 34, 189, 37⟩ (.cst (.int 2) 0 ⟨189, 40, 189, 41⟩) ⟨189, 34, 189, 41⟩) ⟨189, 24, 189, 41⟩) ⟨189, 11, 189, 41⟩) ⟨189, 4, 189, 41⟩)
    .nil))))))))))))))
theorem py23 : s23.py = defBody (top 32) := by kernel_rfl
theorem ok23 : s23.ok g23 exs (defScope (top 32)) = true := by kernel_rfl
theorem sc23 : FnScope n23 ["_law_script"] (defScope (top 32)) := scB_ok (by kernel_rfl)
def ds23 : List (List D → Rs D) := [d0, d1, d2, d3, d4, d5, d6, d7, d8, d9, d10, d11, d12, d13, d14, d15, d16, d17, d18, d19, d20, d21, d22]
def d23 : List D → Rs D := defD (tbl ds23) 1 15 s23
def D0 : He.DefD := ⟨("is_int", none), "is_int", "is_int", defArgs (top 7), defBody (top 7), defScope (top 7), [], []⟩
def D1 : He.DefD := ⟨("is_panel", none), "is_panel", "is_panel", defArgs (top 8), defBody (top 8), defScope (top 8), [], []⟩
def D2 : He.DefD := ⟨("share_widths", none), "share_widths", "share_widths", defArgs (top 9), defBody (top 9), defScope (top 9), [], []⟩
def D3 : He.DefD := ⟨("share_heights", none), "share_heights", "share_heights", defArgs (top 10), defBody (top 10), defScope (top 10), [], []⟩
def D4 : He.DefD := ⟨("is_page", none), "is_page", "is_page", defArgs (top 11), defBody (top 11), defScope (top 11), [], []⟩
def D5 : He.DefD := ⟨("check_page", none), "check_page", "check_page", defArgs (top 12), defBody (top 12), defScope (top 12), [], []⟩
def D6 : He.DefD := ⟨("find_cuts", none), "find_cuts", "find_cuts", defArgs (top 14), defBody (top 14), defScope (top 14), [], []⟩
def D7 : He.DefD := ⟨("find_parts", none), "find_parts", "find_parts", defArgs (top 15), defBody (top 15), defScope (top 15), [], []⟩
def D8 : He.DefD := ⟨("check_part", none), "check_part", "check_part", defArgs (top 16), defBody (top 16), defScope (top 16), [], []⟩
def D9 : He.DefD := ⟨("row_parts", none), "row_parts", "row_parts", defArgs (top 17), defBody (top 17), defScope (top 17), [], []⟩
def D10 : He.DefD := ⟨("column_parts", none), "column_parts", "column_parts", defArgs (top 18), defBody (top 18), defScope (top 18), [], []⟩
def D11 : He.DefD := ⟨("read_part", none), "read_part", "read_part", defArgs (top 19), defBody (top 19), defScope (top 19), [], []⟩
def D12 : He.DefD := ⟨("find_reading", none), "find_reading", "find_reading", defArgs (top 20), defBody (top 20), defScope (top 20), [], []⟩
def D13 : He.DefD := ⟨("by_rows", none), "by_rows", "by_rows", defArgs (top 21), defBody (top 21), defScope (top 21), [], []⟩
def D14 : He.DefD := ⟨("by_columns", none), "by_columns", "by_columns", defArgs (top 22), defBody (top 22), defScope (top 22), [], []⟩
def D15 : He.DefD := ⟨("stuck_part", none), "stuck_part", "stuck_part", defArgs (top 23), defBody (top 23), defScope (top 23), [], []⟩
def D16 : He.DefD := ⟨("is_cuttable", none), "is_cuttable", "is_cuttable", defArgs (top 24), defBody (top 24), defScope (top 24), [], []⟩
def D17 : He.DefD := ⟨("_law_drawn", none), "_law_drawn", "_law_drawn", defArgs (top 26), defBody (top 26), defScope (top 26), [], []⟩
def D18 : He.DefD := ⟨("_law_page", none), "_law_page", "_law_page", defArgs (top 27), defBody (top 27), defScope (top 27), [], []⟩
def D19 : He.DefD := ⟨("_law_badpage", none), "_law_badpage", "_law_badpage", defArgs (top 28), defBody (top 28), defScope (top 28), [], []⟩
def D20 : He.DefD := ⟨("_law_error", none), "_law_error", "_law_error", defArgs (top 29), defBody (top 29), defScope (top 29), [], []⟩
def D21 : He.DefD := ⟨("_law_parts", none), "_law_parts", "_law_parts", defArgs (top 30), defBody (top 30), defScope (top 30), [], []⟩
def D22 : He.DefD := ⟨("_law_read", none), "_law_read", "_law_read", defArgs (top 31), defBody (top 31), defScope (top 31), [], []⟩
def D23 : He.DefD := ⟨("law", none), "law", "law", defArgs (top 32), defBody (top 32), defScope (top 32), [], []⟩
def fns : List He.DefD := [D0, D1, D2, D3, D4, D5, D6, D7, D8, D9, D10, D11, D12, D13, D14, D15, D16, D17, D18, D19, D20, D21, D22, D23]
def names : List Str := ["is_int", "is_panel", "share_widths", "share_heights", "is_page", "check_page", "find_cuts", "find_parts", "check_part", "row_parts", "column_parts", "read_part", "find_reading", "by_rows", "by_columns", "stuck_part", "is_cuttable", "_law_drawn", "_law_page", "_law_badpage", "_law_error", "_law_parts", "_law_read", "law"]
def fas : List He.Fa := faOf names bls gls exs
section
variable {P : Program} {w : World} {K : PySem.W.Frag} {mg : Str → Option Value} {base h : Heap}
theorem all1 (X : K.In h) (G : h.Ns mainGlobals mg) (c : He.SaysD fas fns K) (M : Mods K mg (clE K exs) bls gls exs) : AllP P w K mg base (clE K exs) 1 [("is_int", 3)] [d0] := by
  obtain ⟨fd, F⟩ := c.def_ 0 (d := D0) rfl
  exact (allP_nil).step M F sc0 py0 ok0 rfl rfl rfl (He.glo_ok X G (c.fact 0 (f := .glo "is_int") rfl)) (F.bindsN (ps := ["value", "least", "most"]) fun _ _ _ _ _ _ us hl => match us, hl with | [_, _, _], _ => rfl)
theorem all2 (X : K.In h) (G : h.Ns mainGlobals mg) (c : He.SaysD fas fns K) (M : Mods K mg (clE K exs) bls gls exs) : AllP P w K mg base (clE K exs) 2 [("is_int", 3), ("is_panel", 1)] [d0, d1] := by
  obtain ⟨fd, F⟩ := c.def_ 1 (d := D1) rfl
  exact (all1 X G c M).step M F sc1 py1 ok1 rfl rfl rfl (He.glo_ok X G (c.fact 1 (f := .glo "is_panel") rfl)) (F.bindsN (ps := ["value"]) fun _ _ _ _ _ _ us hl => match us, hl with | [_], _ => rfl)
theorem all3 (X : K.In h) (G : h.Ns mainGlobals mg) (c : He.SaysD fas fns K) (M : Mods K mg (clE K exs) bls gls exs) : AllP P w K mg base (clE K exs) 3 [("is_int", 3), ("is_panel", 1), ("share_widths", 2)] [d0, d1, d2] := by
  obtain ⟨fd, F⟩ := c.def_ 2 (d := D2) rfl
  exact (all2 X G c M).step M F sc2 py2 ok2 rfl rfl rfl (He.glo_ok X G (c.fact 2 (f := .glo "share_widths") rfl)) (F.bindsN (ps := ["one", "other"]) fun _ _ _ _ _ _ us hl => match us, hl with | [_, _], _ => rfl)
theorem all4 (X : K.In h) (G : h.Ns mainGlobals mg) (c : He.SaysD fas fns K) (M : Mods K mg (clE K exs) bls gls exs) : AllP P w K mg base (clE K exs) 4 [("is_int", 3), ("is_panel", 1), ("share_widths", 2), ("share_heights", 2)] [d0, d1, d2, d3] := by
  obtain ⟨fd, F⟩ := c.def_ 3 (d := D3) rfl
  exact (all3 X G c M).step M F sc3 py3 ok3 rfl rfl rfl (He.glo_ok X G (c.fact 3 (f := .glo "share_heights") rfl)) (F.bindsN (ps := ["one", "other"]) fun _ _ _ _ _ _ us hl => match us, hl with | [_, _], _ => rfl)
theorem all5 (X : K.In h) (G : h.Ns mainGlobals mg) (c : He.SaysD fas fns K) (M : Mods K mg (clE K exs) bls gls exs) : AllP P w K mg base (clE K exs) 5 [("is_int", 3), ("is_panel", 1), ("share_widths", 2), ("share_heights", 2), ("is_page", 1)] [d0, d1, d2, d3, d4] := by
  obtain ⟨fd, F⟩ := c.def_ 4 (d := D4) rfl
  exact (all4 X G c M).step M F sc4 py4 ok4 rfl rfl rfl (He.glo_ok X G (c.fact 4 (f := .glo "is_page") rfl)) (F.bindsN (ps := ["candidate"]) fun _ _ _ _ _ _ us hl => match us, hl with | [_], _ => rfl)
theorem all6 (X : K.In h) (G : h.Ns mainGlobals mg) (c : He.SaysD fas fns K) (M : Mods K mg (clE K exs) bls gls exs) : AllP P w K mg base (clE K exs) 6 [("is_int", 3), ("is_panel", 1), ("share_widths", 2), ("share_heights", 2), ("is_page", 1), ("check_page", 1)] [d0, d1, d2, d3, d4, d5] := by
  obtain ⟨fd, F⟩ := c.def_ 5 (d := D5) rfl
  exact (all5 X G c M).step M F sc5 py5 ok5 rfl rfl rfl (He.glo_ok X G (c.fact 5 (f := .glo "check_page") rfl)) (F.bindsN (ps := ["value"]) fun _ _ _ _ _ _ us hl => match us, hl with | [_], _ => rfl)
theorem all7 (X : K.In h) (G : h.Ns mainGlobals mg) (c : He.SaysD fas fns K) (M : Mods K mg (clE K exs) bls gls exs) : AllP P w K mg base (clE K exs) 7 [("is_int", 3), ("is_panel", 1), ("share_widths", 2), ("share_heights", 2), ("is_page", 1), ("check_page", 1), ("find_cuts", 3)] [d0, d1, d2, d3, d4, d5, d6] := by
  obtain ⟨fd, F⟩ := c.def_ 6 (d := D6) rfl
  exact (all6 X G c M).step M F sc6 py6 ok6 rfl rfl rfl (He.glo_ok X G (c.fact 6 (f := .glo "find_cuts") rfl)) (F.bindsN (ps := ["page", "part", "low"]) fun _ _ _ _ _ _ us hl => match us, hl with | [_, _, _], _ => rfl)
theorem all8 (X : K.In h) (G : h.Ns mainGlobals mg) (c : He.SaysD fas fns K) (M : Mods K mg (clE K exs) bls gls exs) : AllP P w K mg base (clE K exs) 8 [("is_int", 3), ("is_panel", 1), ("share_widths", 2), ("share_heights", 2), ("is_page", 1), ("check_page", 1), ("find_cuts", 3), ("find_parts", 3)] [d0, d1, d2, d3, d4, d5, d6, d7] := by
  obtain ⟨fd, F⟩ := c.def_ 7 (d := D7) rfl
  exact (all7 X G c M).step M F sc7 py7 ok7 rfl rfl rfl (He.glo_ok X G (c.fact 7 (f := .glo "find_parts") rfl)) (F.bindsN (ps := ["page", "part", "low"]) fun _ _ _ _ _ _ us hl => match us, hl with | [_, _, _], _ => rfl)
theorem all9 (X : K.In h) (G : h.Ns mainGlobals mg) (c : He.SaysD fas fns K) (M : Mods K mg (clE K exs) bls gls exs) : AllP P w K mg base (clE K exs) 9 [("is_int", 3), ("is_panel", 1), ("share_widths", 2), ("share_heights", 2), ("is_page", 1), ("check_page", 1), ("find_cuts", 3), ("find_parts", 3), ("check_part", 2)] [d0, d1, d2, d3, d4, d5, d6, d7, d8] := by
  obtain ⟨fd, F⟩ := c.def_ 8 (d := D8) rfl
  exact (all8 X G c M).step M F sc8 py8 ok8 rfl rfl rfl (He.glo_ok X G (c.fact 8 (f := .glo "check_part") rfl)) (F.bindsN (ps := ["page", "value"]) fun _ _ _ _ _ _ us hl => match us, hl with | [_, _], _ => rfl)
theorem all10 (X : K.In h) (G : h.Ns mainGlobals mg) (c : He.SaysD fas fns K) (M : Mods K mg (clE K exs) bls gls exs) : AllP P w K mg base (clE K exs) 10 [("is_int", 3), ("is_panel", 1), ("share_widths", 2), ("share_heights", 2), ("is_page", 1), ("check_page", 1), ("find_cuts", 3), ("find_parts", 3), ("check_part", 2), ("row_parts", 2)] [d0, d1, d2, d3, d4, d5, d6, d7, d8, d9] := by
  obtain ⟨fd, F⟩ := c.def_ 9 (d := D9) rfl
  exact (all9 X G c M).step M F sc9 py9 ok9 rfl rfl rfl (He.glo_ok X G (c.fact 9 (f := .glo "row_parts") rfl)) (F.bindsN (ps := ["page", "part"]) fun _ _ _ _ _ _ us hl => match us, hl with | [_, _], _ => rfl)
theorem all11 (X : K.In h) (G : h.Ns mainGlobals mg) (c : He.SaysD fas fns K) (M : Mods K mg (clE K exs) bls gls exs) : AllP P w K mg base (clE K exs) 11 [("is_int", 3), ("is_panel", 1), ("share_widths", 2), ("share_heights", 2), ("is_page", 1), ("check_page", 1), ("find_cuts", 3), ("find_parts", 3), ("check_part", 2), ("row_parts", 2), ("column_parts", 2)] [d0, d1, d2, d3, d4, d5, d6, d7, d8, d9, d10] := by
  obtain ⟨fd, F⟩ := c.def_ 10 (d := D10) rfl
  exact (all10 X G c M).step M F sc10 py10 ok10 rfl rfl rfl (He.glo_ok X G (c.fact 10 (f := .glo "column_parts") rfl)) (F.bindsN (ps := ["page", "part"]) fun _ _ _ _ _ _ us hl => match us, hl with | [_, _], _ => rfl)
theorem all12 (X : K.In h) (G : h.Ns mainGlobals mg) (c : He.SaysD fas fns K) (M : Mods K mg (clE K exs) bls gls exs) : AllP P w K mg base (clE K exs) 24 [("is_int", 3), ("is_panel", 1), ("share_widths", 2), ("share_heights", 2), ("is_page", 1), ("check_page", 1), ("find_cuts", 3), ("find_parts", 3), ("check_part", 2), ("row_parts", 2), ("column_parts", 2), ("read_part", 3)] [d0, d1, d2, d3, d4, d5, d6, d7, d8, d9, d10, d11] := by
  obtain ⟨fd, F⟩ := c.def_ 11 (d := D11) rfl
  exact (all11 X G c M).stepRec M F sc11 py11 ok11 rfl rfl rfl (He.glo_ok X G (c.fact 11 (f := .glo "read_part") rfl)) (F.bindsN (ps := ["page", "part", "low"]) fun _ _ _ _ _ _ us hl => match us, hl with | [_, _, _], _ => rfl) 12
theorem all13 (X : K.In h) (G : h.Ns mainGlobals mg) (c : He.SaysD fas fns K) (M : Mods K mg (clE K exs) bls gls exs) : AllP P w K mg base (clE K exs) 25 [("is_int", 3), ("is_panel", 1), ("share_widths", 2), ("share_heights", 2), ("is_page", 1), ("check_page", 1), ("find_cuts", 3), ("find_parts", 3), ("check_part", 2), ("row_parts", 2), ("column_parts", 2), ("read_part", 3), ("find_reading", 2)] [d0, d1, d2, d3, d4, d5, d6, d7, d8, d9, d10, d11, d12] := by
  obtain ⟨fd, F⟩ := c.def_ 12 (d := D12) rfl
  exact (all12 X G c M).step M F sc12 py12 ok12 rfl rfl rfl (He.glo_ok X G (c.fact 12 (f := .glo "find_reading") rfl)) (F.bindsN (ps := ["page", "low"]) fun _ _ _ _ _ _ us hl => match us, hl with | [_, _], _ => rfl)
theorem all14 (X : K.In h) (G : h.Ns mainGlobals mg) (c : He.SaysD fas fns K) (M : Mods K mg (clE K exs) bls gls exs) : AllP P w K mg base (clE K exs) 26 [("is_int", 3), ("is_panel", 1), ("share_widths", 2), ("share_heights", 2), ("is_page", 1), ("check_page", 1), ("find_cuts", 3), ("find_parts", 3), ("check_part", 2), ("row_parts", 2), ("column_parts", 2), ("read_part", 3), ("find_reading", 2), ("by_rows", 1)] [d0, d1, d2, d3, d4, d5, d6, d7, d8, d9, d10, d11, d12, d13] := by
  obtain ⟨fd, F⟩ := c.def_ 13 (d := D13) rfl
  exact (all13 X G c M).step M F sc13 py13 ok13 rfl rfl rfl (He.glo_ok X G (c.fact 13 (f := .glo "by_rows") rfl)) (F.bindsN (ps := ["page"]) fun _ _ _ _ _ _ us hl => match us, hl with | [_], _ => rfl)
theorem all15 (X : K.In h) (G : h.Ns mainGlobals mg) (c : He.SaysD fas fns K) (M : Mods K mg (clE K exs) bls gls exs) : AllP P w K mg base (clE K exs) 27 [("is_int", 3), ("is_panel", 1), ("share_widths", 2), ("share_heights", 2), ("is_page", 1), ("check_page", 1), ("find_cuts", 3), ("find_parts", 3), ("check_part", 2), ("row_parts", 2), ("column_parts", 2), ("read_part", 3), ("find_reading", 2), ("by_rows", 1), ("by_columns", 1)] [d0, d1, d2, d3, d4, d5, d6, d7, d8, d9, d10, d11, d12, d13, d14] := by
  obtain ⟨fd, F⟩ := c.def_ 14 (d := D14) rfl
  exact (all14 X G c M).step M F sc14 py14 ok14 rfl rfl rfl (He.glo_ok X G (c.fact 14 (f := .glo "by_columns") rfl)) (F.bindsN (ps := ["page"]) fun _ _ _ _ _ _ us hl => match us, hl with | [_], _ => rfl)
theorem all16 (X : K.In h) (G : h.Ns mainGlobals mg) (c : He.SaysD fas fns K) (M : Mods K mg (clE K exs) bls gls exs) : AllP P w K mg base (clE K exs) 28 [("is_int", 3), ("is_panel", 1), ("share_widths", 2), ("share_heights", 2), ("is_page", 1), ("check_page", 1), ("find_cuts", 3), ("find_parts", 3), ("check_part", 2), ("row_parts", 2), ("column_parts", 2), ("read_part", 3), ("find_reading", 2), ("by_rows", 1), ("by_columns", 1), ("stuck_part", 1)] [d0, d1, d2, d3, d4, d5, d6, d7, d8, d9, d10, d11, d12, d13, d14, d15] := by
  obtain ⟨fd, F⟩ := c.def_ 15 (d := D15) rfl
  exact (all15 X G c M).step M F sc15 py15 ok15 rfl rfl rfl (He.glo_ok X G (c.fact 15 (f := .glo "stuck_part") rfl)) (F.bindsN (ps := ["page"]) fun _ _ _ _ _ _ us hl => match us, hl with | [_], _ => rfl)
theorem all17 (X : K.In h) (G : h.Ns mainGlobals mg) (c : He.SaysD fas fns K) (M : Mods K mg (clE K exs) bls gls exs) : AllP P w K mg base (clE K exs) 29 [("is_int", 3), ("is_panel", 1), ("share_widths", 2), ("share_heights", 2), ("is_page", 1), ("check_page", 1), ("find_cuts", 3), ("find_parts", 3), ("check_part", 2), ("row_parts", 2), ("column_parts", 2), ("read_part", 3), ("find_reading", 2), ("by_rows", 1), ("by_columns", 1), ("stuck_part", 1), ("is_cuttable", 1)] [d0, d1, d2, d3, d4, d5, d6, d7, d8, d9, d10, d11, d12, d13, d14, d15, d16] := by
  obtain ⟨fd, F⟩ := c.def_ 16 (d := D16) rfl
  exact (all16 X G c M).step M F sc16 py16 ok16 rfl rfl rfl (He.glo_ok X G (c.fact 16 (f := .glo "is_cuttable") rfl)) (F.bindsN (ps := ["page"]) fun _ _ _ _ _ _ us hl => match us, hl with | [_], _ => rfl)
theorem all18 (X : K.In h) (G : h.Ns mainGlobals mg) (c : He.SaysD fas fns K) (M : Mods K mg (clE K exs) bls gls exs) : AllP P w K mg base (clE K exs) 30 [("is_int", 3), ("is_panel", 1), ("share_widths", 2), ("share_heights", 2), ("is_page", 1), ("check_page", 1), ("find_cuts", 3), ("find_parts", 3), ("check_part", 2), ("row_parts", 2), ("column_parts", 2), ("read_part", 3), ("find_reading", 2), ("by_rows", 1), ("by_columns", 1), ("stuck_part", 1), ("is_cuttable", 1), ("_law_drawn", 3)] [d0, d1, d2, d3, d4, d5, d6, d7, d8, d9, d10, d11, d12, d13, d14, d15, d16, d17] := by
  obtain ⟨fd, F⟩ := c.def_ 17 (d := D17) rfl
  exact (all17 X G c M).step M F sc17 py17 ok17 rfl rfl rfl (He.glo_ok X G (c.fact 17 (f := .glo "_law_drawn") rfl)) (F.bindsN (ps := ["_law_script", "_law_k", "_law_many"]) fun _ _ _ _ _ _ us hl => match us, hl with | [_, _, _], _ => rfl)
theorem all19 (X : K.In h) (G : h.Ns mainGlobals mg) (c : He.SaysD fas fns K) (M : Mods K mg (clE K exs) bls gls exs) : AllP P w K mg base (clE K exs) 31 [("is_int", 3), ("is_panel", 1), ("share_widths", 2), ("share_heights", 2), ("is_page", 1), ("check_page", 1), ("find_cuts", 3), ("find_parts", 3), ("check_part", 2), ("row_parts", 2), ("column_parts", 2), ("read_part", 3), ("find_reading", 2), ("by_rows", 1), ("by_columns", 1), ("stuck_part", 1), ("is_cuttable", 1), ("_law_drawn", 3), ("_law_page", 3)] [d0, d1, d2, d3, d4, d5, d6, d7, d8, d9, d10, d11, d12, d13, d14, d15, d16, d17, d18] := by
  obtain ⟨fd, F⟩ := c.def_ 18 (d := D18) rfl
  exact (all18 X G c M).step M F sc18 py18 ok18 rfl rfl rfl (He.glo_ok X G (c.fact 18 (f := .glo "_law_page") rfl)) (F.bindsN (ps := ["_law_script", "_law_at", "_law_most"]) fun _ _ _ _ _ _ us hl => match us, hl with | [_, _, _], _ => rfl)
theorem all20 (X : K.In h) (G : h.Ns mainGlobals mg) (c : He.SaysD fas fns K) (M : Mods K mg (clE K exs) bls gls exs) : AllP P w K mg base (clE K exs) 32 [("is_int", 3), ("is_panel", 1), ("share_widths", 2), ("share_heights", 2), ("is_page", 1), ("check_page", 1), ("find_cuts", 3), ("find_parts", 3), ("check_part", 2), ("row_parts", 2), ("column_parts", 2), ("read_part", 3), ("find_reading", 2), ("by_rows", 1), ("by_columns", 1), ("stuck_part", 1), ("is_cuttable", 1), ("_law_drawn", 3), ("_law_page", 3), ("_law_badpage", 2)] [d0, d1, d2, d3, d4, d5, d6, d7, d8, d9, d10, d11, d12, d13, d14, d15, d16, d17, d18, d19] := by
  obtain ⟨fd, F⟩ := c.def_ 19 (d := D19) rfl
  exact (all19 X G c M).step M F sc19 py19 ok19 rfl rfl rfl (He.glo_ok X G (c.fact 19 (f := .glo "_law_badpage") rfl)) (F.bindsN (ps := ["_law_script", "_law_at"]) fun _ _ _ _ _ _ us hl => match us, hl with | [_, _], _ => rfl)
theorem all21 (X : K.In h) (G : h.Ns mainGlobals mg) (c : He.SaysD fas fns K) (M : Mods K mg (clE K exs) bls gls exs) : AllP P w K mg base (clE K exs) 33 [("is_int", 3), ("is_panel", 1), ("share_widths", 2), ("share_heights", 2), ("is_page", 1), ("check_page", 1), ("find_cuts", 3), ("find_parts", 3), ("check_part", 2), ("row_parts", 2), ("column_parts", 2), ("read_part", 3), ("find_reading", 2), ("by_rows", 1), ("by_columns", 1), ("stuck_part", 1), ("is_cuttable", 1), ("_law_drawn", 3), ("_law_page", 3), ("_law_badpage", 2), ("_law_error", 3)] [d0, d1, d2, d3, d4, d5, d6, d7, d8, d9, d10, d11, d12, d13, d14, d15, d16, d17, d18, d19, d20] := by
  obtain ⟨fd, F⟩ := c.def_ 20 (d := D20) rfl
  exact (all20 X G c M).step M F sc20 py20 ok20 rfl rfl rfl (He.glo_ok X G (c.fact 20 (f := .glo "_law_error") rfl)) (F.bindsN (ps := ["_law_way", "_law_one", "_law_two"]) fun _ _ _ _ _ _ us hl => match us, hl with | [_, _, _], _ => rfl)
theorem all22 (X : K.In h) (G : h.Ns mainGlobals mg) (c : He.SaysD fas fns K) (M : Mods K mg (clE K exs) bls gls exs) : AllP P w K mg base (clE K exs) 34 [("is_int", 3), ("is_panel", 1), ("share_widths", 2), ("share_heights", 2), ("is_page", 1), ("check_page", 1), ("find_cuts", 3), ("find_parts", 3), ("check_part", 2), ("row_parts", 2), ("column_parts", 2), ("read_part", 3), ("find_reading", 2), ("by_rows", 1), ("by_columns", 1), ("stuck_part", 1), ("is_cuttable", 1), ("_law_drawn", 3), ("_law_page", 3), ("_law_badpage", 2), ("_law_error", 3), ("_law_parts", 3)] [d0, d1, d2, d3, d4, d5, d6, d7, d8, d9, d10, d11, d12, d13, d14, d15, d16, d17, d18, d19, d20, d21] := by
  obtain ⟨fd, F⟩ := c.def_ 21 (d := D21) rfl
  exact (all21 X G c M).step M F sc21 py21 ok21 rfl rfl rfl (He.glo_ok X G (c.fact 21 (f := .glo "_law_parts") rfl)) (F.bindsN (ps := ["_law_page_here", "_law_part", "_law_side"]) fun _ _ _ _ _ _ us hl => match us, hl with | [_, _, _], _ => rfl)
theorem all23 (X : K.In h) (G : h.Ns mainGlobals mg) (c : He.SaysD fas fns K) (M : Mods K mg (clE K exs) bls gls exs) : AllP P w K mg base (clE K exs) 47 [("is_int", 3), ("is_panel", 1), ("share_widths", 2), ("share_heights", 2), ("is_page", 1), ("check_page", 1), ("find_cuts", 3), ("find_parts", 3), ("check_part", 2), ("row_parts", 2), ("column_parts", 2), ("read_part", 3), ("find_reading", 2), ("by_rows", 1), ("by_columns", 1), ("stuck_part", 1), ("is_cuttable", 1), ("_law_drawn", 3), ("_law_page", 3), ("_law_badpage", 2), ("_law_error", 3), ("_law_parts", 3), ("_law_read", 3)] [d0, d1, d2, d3, d4, d5, d6, d7, d8, d9, d10, d11, d12, d13, d14, d15, d16, d17, d18, d19, d20, d21, d22] := by
  obtain ⟨fd, F⟩ := c.def_ 22 (d := D22) rfl
  exact (all22 X G c M).stepRec M F sc22 py22 ok22 rfl rfl rfl (He.glo_ok X G (c.fact 22 (f := .glo "_law_read") rfl)) (F.bindsN (ps := ["_law_page_here", "_law_part", "_law_side"]) fun _ _ _ _ _ _ us hl => match us, hl with | [_, _, _], _ => rfl) 12
theorem all24 (X : K.In h) (G : h.Ns mainGlobals mg) (c : He.SaysD fas fns K) (M : Mods K mg (clE K exs) bls gls exs) : AllP P w K mg base (clE K exs) 48 [("is_int", 3), ("is_panel", 1), ("share_widths", 2), ("share_heights", 2), ("is_page", 1), ("check_page", 1), ("find_cuts", 3), ("find_parts", 3), ("check_part", 2), ("row_parts", 2), ("column_parts", 2), ("read_part", 3), ("find_reading", 2), ("by_rows", 1), ("by_columns", 1), ("stuck_part", 1), ("is_cuttable", 1), ("_law_drawn", 3), ("_law_page", 3), ("_law_badpage", 2), ("_law_error", 3), ("_law_parts", 3), ("_law_read", 3), ("law", 1)] [d0, d1, d2, d3, d4, d5, d6, d7, d8, d9, d10, d11, d12, d13, d14, d15, d16, d17, d18, d19, d20, d21, d22, d23] := by
  obtain ⟨fd, F⟩ := c.def_ 23 (d := D23) rfl
  exact (all23 X G c M).step M F sc23 py23 ok23 rfl rfl rfl (He.glo_ok X G (c.fact 23 (f := .glo "law") rfl)) (F.bindsN (ps := ["_law_script"]) fun _ _ _ _ _ _ us hl => match us, hl with | [_], _ => rfl)
end
abbrev R : PySem.W.OpenRow := PySem.W.OpenLaw.row PySem.Challenge.rw_panelorder_k13_cutting
abbrev hk : PySem.W.Hook := hookQ 4 fas fns (exsB exs)
def ob (s : PySem.W.SharedT) : AlE := obsQ 4 fas fns (exsB exs) (HandSHeadRun.getT s)
theorem ob_eq (s : PySem.W.SharedT) : ob s = hk.obs s.abs := obsQ_eq (HandSHeadRun.getT_eq s)
def loose : List PySem.Str := ["PanelError", "InvalidPage", "InvalidPart", "SIZE", "MAX_PANELS", "is_int", "is_panel", "share_widths", "share_heights", "is_page", "check_page", "find_cuts", "find_parts", "check_part", "row_parts", "column_parts", "read_part", "find_reading", "by_rows", "by_columns", "stuck_part", "is_cuttable", "_law_drawn", "_law_page", "_law_badpage", "_law_error", "_law_parts", "_law_read"]
abbrev place : Nat := 32
abbrev K0 : Nat := 48
abbrev dLaw : List D → Rs D := d23
end K13
namespace K13
open PySem PySem.Spec Den
def inR (x a b : Int) : Bool := decide (a ≤ x) && decide (x ≤ b)
theorem v0 (x a b : Int) : d0 [.int x, .int a, .int b] = .ok (.bool (inR x a b)) := by
  simp [d0, defD, s0, startD, seqS, isiD, inR]
  by_cases h : a ≤ x <;> simp [h]
def okP (p : Pan) : Bool := inR p.a 0 20 && inR p.b 0 20 && inR p.c 0 20 && inR p.d 0 20 && decide (p.a < p.c) && decide (p.b < p.d)
theorem neI (i j : Int) : neD (.int i) (.int j) = .ok (.bool (!decide (i = j))) := neD_e (α := Int) (by decide) i j
theorem eqI (i j : Int) : eqD (.int i) (.int j) = .ok (.bool (decide (i = j))) := eqD_e (α := Int) (by decide) i j
theorem v1 (p : Pan) : d1 [pD p] = .ok (.bool (okP p)) := by
  have e : compL (setN 1) (fun x => Rs.ok true) (appE (tbl ds1 0) (consArg (vaR 1) (consArg (fun x => Rs.ok (PyData.int 0)) (consArg (fun x => Rs.ok (PyData.int 20)) noArg)))) [some (pD p), none] ([p.a, p.b, p.c, p.d].map PyData.int) = .ok ([p.a, p.b, p.c, p.d].map fun x => PyData.bool (inR x 0 20)) := by
    refine compL_all _ fun x _ => ?_
    simp [tbl, ds1, v0]
  have e2 := allD_bs (bs := [p.a, p.b, p.c, p.d].map fun x => inR x 0 20)
  simp at e e2
  simp [pD] at e
  simp [d1, defD, s1, startD, seqS, isiD, okP, pD, neI, e, e2]
  by_cases h1 : inR p.a 0 20 = true <;> by_cases h2 : inR p.b 0 20 = true <;> by_cases h3 : inR p.c 0 20 = true <;> by_cases h4 : inR p.d 0 20 = true <;> by_cases h5 : p.a < p.c <;> simp [h1, h2, h3, h4, h5]
theorem v2 (p q : Pan) : d2 [pD p, pD q] = .ok (.bool (decide (p.a < q.c) && decide (q.a < p.c))) := by
  simp [d2, defD, s2, startD, seqS, pD]
  by_cases h : p.a < q.c <;> simp [h]
theorem v3 (p q : Pan) : d3 [pD p, pD q] = .ok (.bool (decide (p.b < q.d) && decide (q.b < p.d))) := by
  simp [d3, defD, s3, startD, seqS, pD]
  by_cases h : p.b < q.d <;> simp [h]
def shW (p q : Pan) : Bool := decide (p.a < q.c) && decide (q.a < p.c)
def shH (p q : Pan) : Bool := decide (p.b < q.d) && decide (q.b < p.d)
def lap (p q : Pan) : Bool := shW p q && shH p q
def apart : List Pan → Bool
  | [] => true
  | p :: r => !(r.any (lap p)) && apart r
def okPage (P : List Pan) : Bool := decide (P.length ≤ 8) && P.all okP && apart P
theorem enuL_map (P : List Pan) : ∀ n, enuL n (P.map pD) = ((P.zipIdx n).map fun x => PyData.tuple [.int ((x.2 : Nat) : Int), pD x.1]) := by
  induction P with
  | nil => intro n; rfl
  | cons p r ih => intro n; simp only [List.map_cons, enuL, List.zipIdx_cons, ih]
theorem any_lap (p : Pan) (r : List Pan) : compL (setN 4) (fun _ => Rs.ok true) (andE (appE (tbl ds4 2) (consArg (vaR 2) (consArg (vaR 4) noArg))) (appE (tbl ds4 3) (consArg (vaR 2) (consArg (vaR 4) noArg)))) [c, x, some (pD p), u, none] (r.map pD) = .ok (r.map fun q => PyData.bool (lap p q)) := by
  refine compL_all _ fun q _ => ?_
  simp [tbl, ds4, v2, v3, lap, shW, shH]
  by_cases h1 : p.a < q.c <;> by_cases h2 : q.a < p.c <;> simp [h1, h2]
theorem v4 (P : List Pan) : d4 [.tuple (P.map pD)] = .ok (.bool (okPage P)) := by
  refine Wp.eq (wp_def rfl ?_)
  have e1 : compL (setN 3) (fun x => Rs.ok true) (appE (tbl ds4 1) (consArg (vaR 3) noArg)) [some (.tuple (P.map pD)), none, none, none, none] (P.map pD) = .ok (P.map fun p => PyData.bool (okP p)) := by
    refine compL_all _ fun p _ => ?_
    simp [tbl, ds4, v1]
  simp [s4, startD, isiD]
  split
  · rename_i h; simp [okPage]; omega
  · rename_i h
    simp [e1]
    by_cases h2 : ∀ p ∈ P, okP p = true
    · have h2' : P.all okP = true := by simpa using h2
      rw [if_pos h2, enuL_map]
      refine wp_for (fun k ρ => apart P = apart (P.drop k) ∧ ∃ x y, ρ = [some (.tuple (P.map pD)), x, y, none, none]) _ _ 0 ⟨rfl, _, _, rfl⟩ (fun i a ρ hi hI => ?_) fun ρ hI => ?_
      · obtain ⟨h3, x, y, rfl⟩ := hI
        have hlt : i < P.length := by
          have := (List.getElem?_eq_some_iff.mp hi).1
          simpa using this
        have ha : a = (P[i], i) := by
          have := (List.getElem?_eq_some_iff.mp hi).2
          simpa using this.symm
        subst ha
        have hc : cutD (P.map pD) (some ((i : Int) + 1)) none = (P.drop (i + 1)).map pD := by
          have := cut_from (P.map pD) (i + 1)
          rw [List.map_drop]; exact this
        rw [Nat.zero_add, List.drop_eq_getElem_cons hlt] at h3
        simp [-List.map_drop, hc, any_lap]
        split
        · rename_i h4
          have : apart P = false := by rw [h3]; simp [apart]; intro h5; obtain ⟨q, h6, h7⟩ := h4; rw [h5 q h6] at h7; cases h7
          simp [okPage, this]
        · rename_i h4
          rw [h3]
          have h5 : (List.drop (i + 1) P).any (lap P[i]) = false := by simpa using h4
          show (!(List.drop (i + 1) P).any (lap P[i]) && apart (List.drop (i + 1) P)) = _
          rw [h5]
          simp
      · obtain ⟨h3, x, y, rfl⟩ := hI
        have : P.drop (0 + P.zipIdx.length) = [] := List.drop_eq_nil_of_le (by simp)
        rw [this] at h3
        simp [okPage, h2', h3, apart]
        omega
    · have h2' : P.all okP = false := by simpa using h2
      rw [if_neg h2]
      simp [okPage, h2']
theorem v5 {v : D} {b : Bool} (h : d4 [v] = .ok (.bool b)) : d5 [v] = if b = true then .ok .none else .exc 0 := by
  have e : tbl ds5 4 = d4 := rfl
  simp [d5, defD, s5, startD, e, h]
  cases b <;> simp [seqS, h]
def bef (p q : Pan) : Bool := (decide (p.c ≤ q.a) && shH p q) || (decide (p.d ≤ q.b) && shW p q)
theorem at_map {P : List Pan} {i : Nat} (h : i < P.length) : L2.atI (P.map pD) (i : Int) = some (pD P[i]) := by
  rw [atI_nn (by simpa using h)]
  simp
def befI (P : List Pan) (i j : Nat) : Bool := match P[i]?, P[j]? with
  | some p, some q => bef p q
  | _, _ => false
theorem befI_eq {P : List Pan} {i j : Nat} (hi : i < P.length) (hj : j < P.length) : befI P i j = bef P[i] P[j] := by
  unfold befI
  rw [List.getElem?_eq_getElem hi, List.getElem?_eq_getElem hj]
def row (P : List Pan) (i : Nat) : List (Nat × Nat) := ((List.range P.length).filter (befI P i)).map fun j => (i, j)
def prs (P : List Pan) : List (Nat × Nat) := (List.range P.length).flatMap (row P)
theorem row_len (P : List Pan) (a : Nat) : (row P a).length ≤ P.length := by
  unfold row
  rw [List.length_map]
  have := List.length_filter_le (befI P a) (List.range P.length)
  simpa using this
theorem rows_len (P : List Pan) : ∀ k : Nat, ((List.range k).flatMap (row P)).length ≤ k * P.length := fun k => by
  induction k with
  | zero => simp
  | succ k ih =>
    rw [List.range_succ, List.flatMap_append, List.length_append, Nat.succ_mul]
    have := row_len P k
    simp [-List.length_flatMap]
    omega
theorem prs_len (P : List Pan) : (prs P).length ≤ P.length * P.length := rows_len P P.length
theorem okLen {P : List Pan} (h : okPage P = true) : P.length ≤ 8 := by
  unfold okPage at h
  simp at h
  exact h.1.1
theorem v5ok {P : List Pan} (h : okPage P = true) : d5 [.tuple (P.map pD)] = .ok .none := by
  have h5 := v5 (v4 P)
  rw [h, if_pos rfl] at h5
  exact h5
theorem pair_e (l : List (Nat × Nat)) : (Enc.e l : D) = .list (l.map fun p => PyData.tuple [.int (p.1 : Int), .int (p.2 : Int)]) := rfl
theorem nats_e (l : List Nat) : (Enc.e l : D) = .list (l.map fun p : Nat => PyData.int (p : Int)) := rfl
def intsD (ns : List Int) : D := .list (ns.map PyData.int)
theorem intsD_at {ns : List Int} {i : Nat} (h : i < ns.length) : L2.atI (ns.map PyData.int) (i : Int) = some (.int ns[i]) := by
  rw [atI_nn (by simpa using h)]
  simp
theorem v13 (ns : List Int) (k : Nat) (m : Int) (hlen : ns.length ≤ 63) (hm : 0 < m) : ∃ r : Int, d17 [intsD ns, .int k, .int m] = .ok (.int r) ∧ 0 ≤ r ∧ r < m := by
  have : Wp (d17 [intsD ns, .int k, .int m]) fun d => ∃ r : Int, d = .int r ∧ 0 ≤ r ∧ r < m := by
    refine wp_def rfl ?_
    have e1 : neD (intsD ns) (.list []) = .ok (.bool (!decide (ns = []))) := neD_e (α := List Int) (by decide) ns []
    simp only [s17, x_Ss_den_cons]
    refine wp_cut (R := fun ρ => ρ = [some (intsD ns), some (.int k), some (.int m), some (.int (7 * k)), none, none]) ?_ fun ρ1 h => ?_
    · simp [startD]
    · subst h
      refine wp_cut (R := fun ρ => ∃ c x y, ρ = [some (intsD ns), some (.int k), some (.int m), some (.int c), x, y]) ?_ fun ρ1 h => ?_
      · simp [e1]
        intro hn
        have hl : 0 < ns.length := List.length_pos_iff.mpr hn
        obtain ⟨j, hl2, e2⟩ : ∃ j : Nat, j < ns.length ∧ (k : Int) % (ns.length : Int) = (j : Int) := ⟨k % ns.length, Nat.mod_lt _ hl, by omega⟩
        obtain ⟨t, e3⟩ : ∃ t : Nat, (k : Int) / (ns.length : Int) = (t : Int) := ⟨k / ns.length, by omega⟩
        have hat : L2.atI (ns.map PyData.int) (j : Int) = some (.int ns[j]) := intsD_at hl2
        generalize ns[j] = cell at hat
        have hle : (0 : Int) < ns.length ∧ (ns.length : Int) < 18446744073709551616 := ⟨by omega, by omega⟩
        by_cases c1 : (1000000000000000000 : Int) ≤ cell
        · by_cases c2 : (t : Int) < 60
          · simp [intsD, e2, hat, e3, hle, c1, c2]
            refine ⟨hl, ?_⟩
            refine wp_while (fun n ρ => ∃ r u : Int, n = u.toNat ∧ 0 ≤ u ∧ u ≤ 60 ∧ ρ = [some (.list (ns.map PyData.int)), some (.int k), some (.int m), some (.int cell), some (.int u), some (.int r)]) t _ _ (by omega) ⟨_, _, by omega, by omega, by omega, rfl⟩ ?_
            rintro n ρ ⟨r, u, hn', hu, hu2, rfl⟩
            by_cases h1 : 0 < r
            · by_cases h2 : 0 < u
              · simp [h1, h2]
                exact ⟨(u - 1).toNat, by omega, r / 1000000, u - 1, rfl, by omega, by omega, rfl, rfl⟩
              · simp [h1, h2]
                exact ⟨hm, Int.emod_nonneg _ (by omega), Int.emod_lt_of_pos _ hm⟩
            · simp [h1, e3, hle, hl]
          · simp [intsD, e2, hat, e3, hle, c1, c2]
            exact hn
        · simp [intsD, e2, hat, e3, hle, c1]
          exact hn
      · obtain ⟨c, x, y, rfl⟩ := h
        have hu : ∀ u : Int, 0 ≤ u % 2147483563 ∧ u % 2147483563 < 2147483563 := fun u => ⟨Int.emod_nonneg _ (by decide), Int.emod_lt_of_pos _ (by decide)⟩
        have hv : ∀ u : Int, 0 ≤ u % 2147483399 ∧ u % 2147483399 < 2147483399 := fun u => ⟨Int.emod_nonneg _ (by decide), Int.emod_lt_of_pos _ (by decide)⟩
        simp
        have h1 := hu (c % 2147483563 * 69069 + 104723 * (↑k + 1))
        generalize (c % 2147483563 * 69069 + 104723 * (↑k + 1)) % 2147483563 = u at *
        have h2 := hv (u * u + u / 3)
        generalize (u * u + u / 3) % 2147483399 = v at *
        exact ⟨⟨by omega, by omega⟩, ⟨by omega, by omega⟩, hm, Int.emod_nonneg _ (by omega), Int.emod_lt_of_pos _ hm⟩
  obtain ⟨d, e, r, rfl, h⟩ := wp_iff.mp this
  exact ⟨r, e, h⟩
theorem drawn (ns : List Int) (hlen : ns.length ≤ 63) (k : Nat) (m : Nat) (hm : 0 < m) : ∃ r : Nat, d17 [intsD ns, .int k, .int m] = .ok (.int r) ∧ r < m := by
  obtain ⟨r, e, h1, h2⟩ := v13 ns k m hlen (by omega)
  exact ⟨r.toNat, by rw [e]; congr 2; omega, by omega⟩
theorem drawnI (ns : List Int) (hlen : ns.length ≤ 63) (x m : Int) (hx : 0 ≤ x) (hm : 0 < m) : ∃ r : Nat, d17 [intsD ns, .int x, .int m] = .ok (.int r) ∧ (r : Int) < m := by
  obtain ⟨r, e, h⟩ := drawn ns hlen x.toNat m.toNat (by omega)
  have hx' : ((x.toNat : Nat) : Int) = x := by omega
  have hm' : ((m.toNat : Nat) : Int) = m := by omega
  rw [hx', hm'] at e
  exact ⟨r, e, by omega⟩
structure Sheet (F : List Pan) : Prop where
  box : ∀ p ∈ F, 0 ≤ p.a ∧ p.a < p.c ∧ p.c ≤ 12 ∧ 0 ≤ p.b ∧ p.b < p.d ∧ p.d ≤ 12
  ap : F.Pairwise fun p q => lap p q = false
theorem lap_symm (p q : Pan) : lap p q = lap q p := by
  unfold lap shW shH
  rw [Bool.and_comm (decide (p.a < q.c)), Bool.and_comm (decide (p.b < q.d))]
theorem lap_false {p q : Pan} : lap p q = false ↔ q.c ≤ p.a ∨ p.c ≤ q.a ∨ q.d ≤ p.b ∨ p.d ≤ q.b := by
  unfold lap shW shH
  rw [Bool.eq_false_iff]
  simp
  omega
theorem apart_iff (F : List Pan) : apart F = true ↔ F.Pairwise fun p q => lap p q = false := by
  induction F with
  | nil => simp [apart]
  | cons p r ih =>
    unfold apart
    rw [Bool.and_eq_true, ih, List.pairwise_cons]
    simp
theorem Sheet.page {F : List Pan} (h : Sheet F) (hl : F.length ≤ 8) : okPage F = true := by
  unfold okPage
  rw [(apart_iff F).mpr h.ap]
  simp [hl]
  intro p hp
  have := h.box p hp
  simp [okP, inR]
  omega
theorem Sheet.cut {F : List Pan} (h : Sheet F) {i : Nat} (hi : i < F.length) {x y : Pan} (hx : (F[i]).a ≤ x.a ∧ x.a < x.c ∧ x.c ≤ (F[i]).c ∧ (F[i]).b ≤ x.b ∧ x.b < x.d ∧ x.d ≤ (F[i]).d) (hy : (F[i]).a ≤ y.a ∧ y.a < y.c ∧ y.c ≤ (F[i]).c ∧ (F[i]).b ≤ y.b ∧ y.b < y.d ∧ y.d ≤ (F[i]).d)
    (hxy : lap x y = false) : Sheet (F.take i ++ [x] ++ F.drop (i + 1) ++ [y]) := by
  have e : F = F.take i ++ F[i] :: F.drop (i + 1) := by rw [← List.drop_eq_getElem_cons hi, List.take_append_drop]
  have hb := h.box F[i] (List.getElem_mem hi)
  have hap := h.ap
  rw [e, List.pairwise_append] at hap
  obtain ⟨a1, a2, a3⟩ := hap
  rw [List.pairwise_cons] at a2
  obtain ⟨a4, a5⟩ := a2
  refine ⟨fun p hp => ?_, ?_⟩
  · simp only [List.mem_append, List.mem_singleton] at hp
    rcases hp with ((hp | rfl) | hp) | rfl
    · exact h.box p (List.mem_of_mem_take hp)
    · omega
    · exact h.box p (List.mem_of_mem_drop hp)
    · omega
  · have k1 : ∀ p ∈ F.take i, lap p x = false ∧ lap p y = false := fun p hp => by
      have := lap_false.mp (a3 p hp F[i] List.mem_cons_self)
      exact ⟨lap_false.mpr (by omega), lap_false.mpr (by omega)⟩
    have k2 : ∀ p ∈ F.drop (i + 1), lap x p = false ∧ lap p y = false := fun p hp => by
      have := lap_false.mp (a4 p hp)
      exact ⟨lap_false.mpr (by omega), lap_false.mpr (by omega)⟩
    simp only [List.pairwise_append, List.pairwise_cons, List.mem_append, List.mem_singleton, List.Pairwise.nil, List.not_mem_nil]
    refine ⟨⟨⟨a1, ⟨fun _ z => z.elim, trivial⟩, fun p hp q hq => hq ▸ (k1 p hp).1⟩, a5, fun p hp q hq => ?_⟩, ⟨fun _ z => z.elim, trivial⟩, fun p hp q hq => ?_⟩
    · rcases hp with hp | rfl
      · exact a3 p hp q (List.mem_cons_of_mem _ hq)
      · exact (k2 q hq).1
    · subst hq
      rcases hp with (hp | rfl) | hp
      · exact (k1 p hp).2
      · exact hxy
      · exact (k2 p hp).2
theorem Sheet.sub {F K : List Pan} (h : Sheet F) (s : K.Sublist F) : Sheet K := ⟨fun p hp => h.box p (s.subset hp), h.ap.sublist s⟩
theorem cutAt (F : List Pan) (i : Nat) : cutD (F.map pD) none (some (i : Int)) = (F.take i).map pD ∧ cutD (F.map pD) (some ((i : Int) + 1)) none = (F.drop (i + 1)).map pD := by
  refine ⟨by rw [cut_to, List.map_take], ?_⟩
  have := cut_from (F.map pD) (i + 1)
  rw [List.map_drop]
  exact this
def PgI (ns : List Int) (at_ most : Nat) (n : Nat) (ρ : Ro) : Prop := ∃ (F : List Pan) (x5 x6 x7 x8 x9 x10 x11 x12 x13 x14 x15 x16 x17 : Option D), ρ = [some (intsD ns), some (.int at_), some (.int most), some (.list (F.map pD)), some (.list []), x5, x6, x7, x8, x9, x10, x11, x12, x13, x14, x15, x16, x17] ∧ Sheet F ∧ 0 < F.length ∧ F.length ≤ n
def PgJ (ns : List Int) (at_ most : Nat) (n k : Nat) (ρ : Ro) : Prop := ∃ (F : List Pan) (i w : Nat) (hi : i < F.length) (x13 x14 x15 x16 x17 : Option D), ρ = [some (intsD ns), some (.int at_), some (.int most), some (.list (F.map pD)), some (.list []), some (.int k), some (.int i), some (.int w), some (.int F[i].a), some (.int F[i].b), some (.int F[i].c), some (.int F[i].d), some (.int (if w = 0 then F[i].c - F[i].a else F[i].d - F[i].b)), x13, x14, x15, x16, x17] ∧ Sheet F ∧ 0 < F.length ∧ F.length ≤ n ∧ w < 2
def PgK (ns : List Int) (at_ most : Nat) (ρ : Ro) : Prop := ∃ (F K : List Pan) (x5 x6 x7 x8 x9 x10 x11 x12 x13 x14 x15 x16 x17 : Option D), ρ = [some (intsD ns), some (.int at_), some (.int most), some (.list (F.map pD)), some (.list (K.map pD)), x5, x6, x7, x8, x9, x10, x11, x12, x13, x14, x15, x16, x17] ∧ Sheet K ∧ K.length ≤ 8
theorem max_d (K : List Pan) : maxD [.list (.int 0 :: K.map fun p => PyData.int p.d)] = .ok (.int (maxL 0 (K.map (·.d)))) := by
  have : intsO (.int 0 :: K.map fun p => PyData.int p.d) = some (0 :: K.map (·.d)) := by
    have := ints_map (0 :: K.map (·.d))
    rw [List.map_cons, List.map_map] at this
    exact this
  simp [maxD, this]
theorem sheetA : Sheet [⟨2, 0, 8, 2⟩, ⟨6, 2, 8, 8⟩, ⟨0, 6, 6, 8⟩, ⟨0, 0, 2, 6⟩, ⟨3, 3, 5, 5⟩] := ⟨by decide, by decide⟩
theorem sheetB : Sheet [⟨9, 0, 11, 2⟩, ⟨6, 2, 8, 4⟩, ⟨3, 4, 5, 6⟩, ⟨0, 6, 2, 8⟩] := ⟨by decide, by decide⟩
theorem Sheet.add {K : List Pan} (h : Sheet K) (hk : ∀ p ∈ K, p.d < 9) : Sheet (K ++ [⟨0, 9, 12, 12⟩]) := by
  refine ⟨fun p hp => ?_, ?_⟩
  · rcases List.mem_append.mp hp with hp | hp
    · exact h.box p hp
    · rw [List.mem_singleton.mp hp]; decide
  · rw [List.pairwise_append]
    refine ⟨h.ap, by simp, fun p hp q hq => ?_⟩
    rw [List.mem_singleton.mp hq, lap_false]
    have := hk p hp
    simp
    omega
theorem v14 (ns : List Int) (hlen : ns.length ≤ 63) (at_ most : Nat) (hm : 0 < most) (hm8 : most ≤ 8) : ∃ P : List Pan, d18 [intsD ns, .int at_, .int most] = .ok (.tuple (P.map pD)) ∧ Sheet P ∧ P.length ≤ 8 := by
  have e13 : tbl ds18 17 = d17 := rfl
  have : Wp (d18 [intsD ns, .int at_, .int most]) fun d => ∃ P : List Pan, d = .tuple (P.map pD) ∧ Sheet P ∧ P.length ≤ 8 := by
    refine wp_def rfl ?_
    simp only [s18, x_Ss_den_cons]
    refine wp_cut (R := fun ρ => ρ = [some (intsD ns), some (.int at_), some (.int most), some (.list [pD ⟨0, 0, 12, 12⟩]), some (.list []), none, none, none, none, none, none, none, none, none, none, none, none, none]) ?_ fun ρ1 h => ?_
    · simp [startD, pD]
    · subst h
      refine wp_cut (R := PgI ns at_ most 8) ?_ fun ρ1 h => ?_
      · obtain ⟨r, hr, hr2⟩ := drawnI ns hlen at_ most (by omega) (by omega)
        simp only [x_S_den_for, forS_eq, wp_bind]
        simp only [x_Ss_den_cons]
        rw [show (I.den (tbl ds18) _ _ : Rs (List D)) = .ok ((List.range r).map fun i : Nat => PyData.int (i : Int)) by simp [e13, hr, rng0_map]; omega, wp_ok]
        refine wp_for (fun k ρ => PgI ns at_ most (k + 1) ρ) _ _ 0 ?_ (fun i a ρ hi hI => ?_) fun ρ hI => ?_
        · refine ⟨[⟨0, 0, 12, 12⟩], _, _, _, _, _, _, _, _, _, _, _, _, _, rfl, ⟨by simp, by simp⟩, by simp, by simp⟩
        · obtain ⟨F, x5, x6, x7, x8, x9, x10, x11, x12, x13, x14, x15, x16, x17, rfl, hF, hF0, hFl⟩ := hI
          have ha : a = i := by
            have := List.getElem?_eq_some_iff.mp hi
            simp at this
            exact this.2.symm
          subst ha
          have har : a < r := by
            have := List.getElem?_eq_some_iff.mp hi
            simp at this
            exact this
          simp only [tg1, setN_eq, wp_ok]
          refine wp_cut (R := fun ρ => ∃ (i w : Nat), i < F.length ∧ w < 2 ∧ ρ = [some (intsD ns), some (.int at_), some (.int most), some (.list (F.map pD)), some (.list []), some (.int a), some (.int i), some (.int w), x8, x9, x10, x11, x12, x13, x14, x15, x16, x17]) ?_ fun ρ1 h => ?_
          · obtain ⟨p, hp, hp2⟩ := drawnI ns hlen (at_ + 1 + 4 * a) F.length (by omega) (by omega)
            obtain ⟨q, hq, hq2⟩ := drawnI ns hlen (at_ + 2 + 4 * a) 2 (by omega) (by omega)
            simp [e13, hp, hq]
            exact ⟨p, by omega, q, by omega, rfl, rfl⟩
          · obtain ⟨i, w, hi', hw, rfl⟩ := h
            refine wp_cut (R := fun ρ => ρ = [some (intsD ns), some (.int at_), some (.int most), some (.list (F.map pD)), some (.list []), some (.int a), some (.int i), some (.int w), some (.int F[i].a), some (.int F[i].b), some (.int F[i].c), some (.int F[i].d), x12, x13, x14, x15, x16, x17]) ?_ fun ρ1 h => ?_
            · simp [at_map hi', pD]
            · subst h
              refine wp_cut (R := PgJ ns at_ most (0 + a + 1) a) ?_ fun ρ1 h => ?_
              · have e0 : eqD (.int (w : Int)) (.int 0) = .ok (.bool (decide ((w : Int) = 0))) := eqI _ _
                simp [e0]
                split
                · rename_i hw0
                  exact ⟨F, i, w, hi', x13, x14, x15, x16, x17, by simp [hw0], hF, hF0, by omega, hw⟩
                · rename_i hw0
                  exact ⟨F, i, w, hi', x13, x14, x15, x16, x17, by simp [hw0], hF, hF0, by omega, hw⟩
              · obtain ⟨F, i, w, hi', x13, x14, x15, x16, x17, rfl, hF, hF0, hFl, hw⟩ := h
                have hb := hF.box F[i] (List.getElem_mem hi')
                generalize hsz : (if w = 0 then F[i].c - F[i].a else F[i].d - F[i].b) = sz
                by_cases h1 : 1 < sz
                · refine wp_cut0 (R := PgI ns at_ most (0 + a + 1 + 1)) ?_ fun ρ1 h => h
                  refine wp_if true (by simp [h1]) ?_
                  rw [if_pos rfl]
                  refine wp_cons (R := fun ρ => ∃ ln : Int, 1 ≤ ln ∧ ln < sz ∧ ρ = [some (intsD ns), some (.int at_), some (.int most), some (.list (F.map pD)), some (.list []), some (.int a), some (.int i), some (.int w), some (.int F[i].a), some (.int F[i].b), some (.int F[i].c), some (.int F[i].d), some (.int sz), some (.int ln), x14, x15, x16, x17]) ?_ fun ρ1 h => ?_
                  · obtain ⟨q, hq, hq2⟩ := drawnI ns hlen (at_ + 3 + 4 * a) (sz - 1) (by omega) (by omega)
                    simp [e13, hq]
                    omega
                  · obtain ⟨ln, hln, hln2, rfl⟩ := h
                    refine wp_cons (R := fun ρ => ∃ X : Pan, X = (if w = 0 then ⟨F[i].a, F[i].b, F[i].a + ln, F[i].d⟩ else ⟨F[i].a, F[i].b, F[i].c, F[i].b + ln⟩) ∧ ρ = [some (intsD ns), some (.int at_), some (.int most), some (.list (F.map pD)), some (.list []), some (.int a), some (.int i), some (.int w), some (.int F[i].a), some (.int F[i].b), some (.int F[i].c), some (.int F[i].d), some (.int sz), some (.int ln), some (pD X), x15, x16, x17]) ?_ fun ρ1 h => ?_
                    · by_cases hw0 : w = 0 <;> simp [eqI, hw0, pD]
                    · obtain ⟨X, hX, rfl⟩ := h
                      refine wp_cons (R := fun ρ => ∃ Y : Pan, Y = (if w = 0 then ⟨F[i].a + ln, F[i].b, F[i].c, F[i].d⟩ else ⟨F[i].a, F[i].b + ln, F[i].c, F[i].d⟩) ∧ ρ = [some (intsD ns), some (.int at_), some (.int most), some (.list (F.map pD)), some (.list []), some (.int a), some (.int i), some (.int w), some (.int F[i].a), some (.int F[i].b), some (.int F[i].c), some (.int F[i].d), some (.int sz), some (.int ln), some (pD X), some (pD Y), x16, x17]) ?_ fun ρ1 h => ?_
                      · by_cases hw0 : w = 0 <;> simp [eqI, hw0, pD]
                      · obtain ⟨Y, hY, rfl⟩ := h
                        have hXp : (F[i]).a ≤ X.a ∧ X.a < X.c ∧ X.c ≤ (F[i]).c ∧ (F[i]).b ≤ X.b ∧ X.b < X.d ∧ X.d ≤ (F[i]).d := by
                          by_cases hw0 : w = 0 <;> simp [hw0] at hX hsz <;> subst hX <;> simp <;> omega
                        have hYp : (F[i]).a ≤ Y.a ∧ Y.a < Y.c ∧ Y.c ≤ (F[i]).c ∧ (F[i]).b ≤ Y.b ∧ Y.b < Y.d ∧ Y.d ≤ (F[i]).d := by
                          by_cases hw0 : w = 0 <;> simp [hw0] at hY hsz <;> subst hY <;> simp <;> omega
                        have hXY : lap X Y = false := by
                          rw [lap_false]
                          by_cases hw0 : w = 0 <;> simp [hw0] at hX hY <;> subst hX hY <;> simp
                        obtain ⟨q, hq, hq2⟩ := drawnI ns hlen (at_ + 4 + 4 * a) 2 (by omega) (by omega)
                        refine wp_cons (R := fun ρ => ρ = [some (intsD ns), some (.int at_), some (.int most), some (.list (F.map pD)), some (.list []), some (.int a), some (.int i), some (.int w), some (.int F[i].a), some (.int F[i].b), some (.int F[i].c), some (.int F[i].d), some (.int sz), some (.int ln), some (pD X), some (pD Y), some (.int q), x17]) ?_ fun ρ1 h => ?_
                        · simp [e13, hq]
                        · subst h
                          have hlt : (F.take i ++ [X] ++ F.drop (i + 1) ++ [Y]).length = F.length + 1 := by
                            simp; omega
                          have cu1 := hF.cut hi' hXp hYp hXY
                          have cu2 := hF.cut hi' hYp hXp (by rw [lap_symm]; exact hXY)
                          have hq3 : q = 0 ∨ q = 1 := by omega
                          have hl4 : (List.take i F).length + 1 + (List.drop (i + 1) F).length + 1 ≤ 9 := by simp; omega
                          simp at hl4
                          rcases hq3 with rfl | rfl
                          · simp [-List.map_take, -List.map_drop, (cutAt F i).1, (cutAt F i).2]
                            rw [show List.map pD (List.take i F) ++ pD X :: (List.map pD (List.drop (i + 1) F) ++ [pD Y]) = List.map pD (F.take i ++ [X] ++ F.drop (i + 1) ++ [Y]) by simp]
                            have hlt' : (F.take i ++ [X] ++ F.drop (i + 1) ++ [Y]).length = F.length + 1 := by
                              simp; omega
                            exact ⟨by unfold big; omega, by unfold big; omega, by unfold big; omega, F.take i ++ [X] ++ F.drop (i + 1) ++ [Y], _, _, _, _, _, _, _, _, _, _, _, _, _, rfl, cu1, by omega, by omega⟩
                          · simp [-List.map_take, -List.map_drop, (cutAt F i).1, (cutAt F i).2]
                            rw [show List.map pD (List.take i F) ++ pD Y :: (List.map pD (List.drop (i + 1) F) ++ [pD X]) = List.map pD (F.take i ++ [Y] ++ F.drop (i + 1) ++ [X]) by simp]
                            have hlt' : (F.take i ++ [Y] ++ F.drop (i + 1) ++ [X]).length = F.length + 1 := by
                              simp; omega
                            exact ⟨by unfold big; omega, by unfold big; omega, by unfold big; omega, F.take i ++ [Y] ++ F.drop (i + 1) ++ [X], _, _, _, _, _, _, _, _, _, _, _, _, _, rfl, cu2, by omega, by omega⟩
                · simp [h1]
                  exact ⟨F, _, _, _, _, _, _, _, _, _, _, _, _, _, rfl, hF, hF0, by omega⟩
        · obtain ⟨F, x5, x6, x7, x8, x9, x10, x11, x12, x13, x14, x15, x16, x17, rfl, hF, hF0, hFl⟩ := hI
          exact ⟨F, _, _, _, _, _, _, _, _, _, _, _, _, _, rfl, hF, hF0, by simp at hFl; omega⟩
      · obtain ⟨F, x5, x6, x7, x8, x9, x10, x11, x12, x13, x14, x15, x16, x17, rfl, hF, hF0, hFl⟩ := h
        refine wp_cut (R := PgK ns at_ most) ?_ fun ρ1 h => ?_
        · simp only [x_S_den_for, forS_eq, wp_bind]
          rw [show (I.den (tbl ds18) _ _ : Rs (List D)) = .ok ((F.zipIdx 0).map fun x => PyData.tuple [.int ((x.2 : Nat) : Int), pD x.1]) by simp [enuL_map], wp_ok]
          refine wp_for (fun k ρ => ∃ (K : List Pan) (x5 x6 x7 x8 x9 x10 x11 x12 x13 x14 x15 x16 x17 : Option D), ρ = [some (intsD ns), some (.int at_), some (.int most), some (.list (F.map pD)), some (.list (K.map pD)), x5, x6, x7, x8, x9, x10, x11, x12, x13, x14, x15, x16, x17] ∧ K.Sublist (F.take k)) _ _ 0 ?_ (fun i a ρ hi hI => ?_) fun ρ hI => ?_
          · exact ⟨[], _, _, _, _, _, _, _, _, _, _, _, _, _, rfl, by simp⟩
          · obtain ⟨K, x5, x6, x7, x8, x9, x10, x11, x12, x13, x14, x15, x16, x17, rfl, hK⟩ := hI
            have hlt : i < F.length := by
              have := (List.getElem?_eq_some_iff.mp hi).1
              simpa using this
            have ha : a = (F[i], i) := by
              have := (List.getElem?_eq_some_iff.mp hi).2
              simpa using this.symm
            subst ha
            obtain ⟨q, hq, hq2⟩ := drawnI ns hlen (at_ + 40 + i) 5 (by omega) (by omega)
            have hKl := hK.length_le
            simp at hKl
            have hs : F.take (0 + i + 1) = F.take (0 + i) ++ [F[i]] := by
              rw [Nat.zero_add, List.take_succ, List.getElem?_eq_getElem hlt]; rfl
            have k1 : (K ++ [F[i]]).Sublist (F.take (i + 1)) := by
              have := hK.append (List.Sublist.refl [F[i]])
              rw [← hs] at this
              simpa using this
            have k2 : K.Sublist (F.take (i + 1)) := (List.sublist_append_left K [F[i]]).trans k1
            by_cases h0 : 0 < q
            · simp [e13, hq, h0]
              exact ⟨by unfold big; omega, K ++ [F[i]], by simp, k1⟩
            · simp [e13, hq, h0]
              exact ⟨by unfold big; omega, K, rfl, k2⟩
          · obtain ⟨K, x5, x6, x7, x8, x9, x10, x11, x12, x13, x14, x15, x16, x17, rfl, hK⟩ := hI
            exact ⟨F, K, _, _, _, _, _, _, _, _, _, _, _, _, _, rfl, hF.sub (hK.trans (List.take_sublist _ _)), Nat.le_trans (hK.trans (List.take_sublist _ _)).length_le hFl⟩
        · clear hF hF0 hFl
          obtain ⟨F, K, x5, x6, x7, x8, x9, x10, x11, x12, x13, x14, x15, x16, x17, rfl, hK, hKl⟩ := h
          refine wp_cut (R := PgK ns at_ most) ?_ fun ρ1 h => ?_
          · obtain ⟨q, hq, hq2⟩ := drawnI ns hlen (at_ + 50) 4 (by omega) (by omega)
            obtain ⟨u, hu, hu2⟩ := drawnI ns hlen (at_ + 51) 4 (by omega) (by omega)
            by_cases h0 : q = 0
            · refine wp_if true (by simp [e13, hq, eqI, h0]) ?_
              rw [if_pos rfl]
              refine wp_cons (R := fun ρ => ρ = [some (intsD ns), some (.int at_), some (.int most), some (.list (F.map pD)), some (.list (List.map pD [⟨2, 0, 8, 2⟩, ⟨6, 2, 8, 8⟩, ⟨0, 6, 6, 8⟩, ⟨0, 0, 2, 6⟩, ⟨3, 3, 5, 5⟩])), x5, x6, x7, x8, x9, x10, x11, x12, x13, x14, x15, x16, x17]) ?_ fun ρ1 h => ?_
              · simp [pD]
              · subst h
                have hc := cut_to (List.map pD [⟨2, 0, 8, 2⟩, ⟨6, 2, 8, 8⟩, ⟨0, 6, 6, 8⟩, ⟨0, 0, 2, 6⟩, ⟨3, 3, 5, 5⟩]) (2 + u)
                rw [← List.map_take] at hc
                have hc' : cutD (List.map pD [⟨2, 0, 8, 2⟩, ⟨6, 2, 8, 8⟩, ⟨0, 6, 6, 8⟩, ⟨0, 0, 2, 6⟩, ⟨3, 3, 5, 5⟩]) none (some (2 + (u : Int))) = _ := hc
                generalize hL : ([⟨2, 0, 8, 2⟩, ⟨6, 2, 8, 8⟩, ⟨0, 6, 6, 8⟩, ⟨0, 0, 2, 6⟩, ⟨3, 3, 5, 5⟩] : List Pan) = L at *
                have hs : Sheet L := hL ▸ sheetA
                have hll : L.length = 5 := by rw [← hL]; rfl
                simp [-List.map_take, e13, hu, hc']
                exact ⟨F, L.take (2 + u), _, _, _, _, _, _, _, _, _, _, _, _, _, rfl, hs.sub (List.take_sublist _ _), by rw [List.length_take]; omega⟩
            · refine wp_if false (by simp [e13, hq, eqI]; omega) ?_
              exact ⟨F, K, _, _, _, _, _, _, _, _, _, _, _, _, _, rfl, hK, hKl⟩
          · clear hK hKl
            obtain ⟨F, K, x5, x6, x7, x8, x9, x10, x11, x12, x13, x14, x15, x16, x17, rfl, hK, hKl⟩ := h
            refine wp_cut (R := PgK ns at_ most) ?_ fun ρ1 h => ?_
            · obtain ⟨q, hq, hq2⟩ := drawnI ns hlen (at_ + 52) 4 (by omega) (by omega)
              obtain ⟨u, hu, hu2⟩ := drawnI ns hlen (at_ + 53) 3 (by omega) (by omega)
              by_cases h0 : q = 0
              · refine wp_if true (by simp [e13, hq, eqI, h0]) ?_
                rw [if_pos rfl]
                have hc := cut_to (List.map pD [⟨9, 0, 11, 2⟩, ⟨6, 2, 8, 4⟩, ⟨3, 4, 5, 6⟩, ⟨0, 6, 2, 8⟩]) (2 + u)
                rw [← List.map_take] at hc
                have hc' : cutD (List.map pD [⟨9, 0, 11, 2⟩, ⟨6, 2, 8, 4⟩, ⟨3, 4, 5, 6⟩, ⟨0, 6, 2, 8⟩]) none (some (2 + (u : Int))) = _ := hc
                have hL' : List.map pD [⟨9, 0, 11, 2⟩, ⟨6, 2, 8, 4⟩, ⟨3, 4, 5, 6⟩, ⟨0, 6, 2, 8⟩] = [.tuple [.int 9, .int 0, .int 11, .int 2], .tuple [.int 6, .int 2, .int 8, .int 4], .tuple [.int 3, .int 4, .int 5, .int 6], .tuple [.int 0, .int 6, .int 2, .int 8]] := rfl
                generalize hL : ([⟨9, 0, 11, 2⟩, ⟨6, 2, 8, 4⟩, ⟨3, 4, 5, 6⟩, ⟨0, 6, 2, 8⟩] : List Pan) = L at *
                have hs : Sheet L := hL ▸ sheetB
                have hll : L.length = 4 := by rw [← hL]; rfl
                simp [-List.map_take, -List.map_cons, e13, hu, ← hL', hc']
                exact ⟨F, L.take (2 + u), _, _, _, _, _, _, _, _, _, _, _, _, _, rfl, hs.sub (List.take_sublist _ _), by rw [List.length_take]; omega⟩
              · refine wp_if false (by simp [e13, hq, eqI]; omega) ?_
                exact ⟨F, K, _, _, _, _, _, _, _, _, _, _, _, _, _, rfl, hK, hKl⟩
            · clear hK hKl
              obtain ⟨F, K, x5, x6, x7, x8, x9, x10, x11, x12, x13, x14, x15, x16, x17, rfl, hK, hKl⟩ := h
              refine wp_cut (R := PgK ns at_ most) ?_ fun ρ1 h => ?_
              · obtain ⟨q, hq, hq2⟩ := drawnI ns hlen (at_ + 54) 2 (by omega) (by omega)
                have e1 : compL (setN 17) (fun _ => Rs.ok true) (bi ixD (vaR 17) fun _ => Rs.ok (PyData.int 3)) [some (intsD ns), some (.int at_), some (.int most), some (.list (F.map pD)), some (.list (K.map pD)), x5, x6, x7, x8, x9, x10, x11, x12, x13, x14, x15, x16, none] (K.map pD) = .ok (K.map fun p => PyData.int p.d) := by
                  refine compL_all _ fun p _ => ?_
                  simp [pD]
                have hlb : 1 + K.length ≤ big := by unfold big; omega
                refine wp_if (decide (K.length < most) && (decide (maxL 0 (K.map (·.d)) < 9) && decide (q = 0))) ?_ ?_
                · by_cases h1 : K.length < most
                  · by_cases h2 : maxL 0 (K.map (·.d)) < 9
                    · simp [e13, hq, eqI, e1, hlb, max_d, h1, h2]
                    · simp [e13, hq, eqI, e1, hlb, max_d, h1, h2]
                  · simp [h1]
                · cases hb : (decide (K.length < most) && (decide (maxL 0 (K.map (·.d)) < 9) && decide (q = 0))) with
                  | false =>
                    rw [if_neg (by decide)]
                    exact ⟨F, K, _, _, _, _, _, _, _, _, _, _, _, _, _, rfl, hK, hKl⟩
                  | true =>
                    rw [if_pos rfl]
                    simp at hb
                    have hmx := (maxL_spec (K.map (·.d)) 0).2.2
                    have hk9 : ∀ p ∈ K, p.d < 9 := fun p hp => by
                      have := hmx p.d (List.mem_map_of_mem hp)
                      omega
                    have e2 : appS 4 (tupA (consArg (fun _ => Rs.ok (PyData.int 0)) (consArg (fun _ => Rs.ok (PyData.int 9)) (consArg (fun _ => Rs.ok (PyData.int 12)) (consArg (fun _ => Rs.ok (PyData.int 12)) noArg))))) [some (intsD ns), some (.int at_), some (.int most), some (.list (F.map pD)), some (.list (K.map pD)), x5, x6, x7, x8, x9, x10, x11, x12, x13, x14, x15, x16, x17] = .ok (.nx, [some (intsD ns), some (.int at_), some (.int most), some (.list (F.map pD)), some (.list ((K ++ [(⟨0, 9, 12, 12⟩ : Pan)]).map pD)), x5, x6, x7, x8, x9, x10, x11, x12, x13, x14, x15, x16, x17]) := by
                      have hkb : K.length < big := by unfold big; omega
                      simp [appS, pD, hkb]
                    simp [-List.map_append, e2]
                    exact ⟨F, K ++ [⟨0, 9, 12, 12⟩], _, _, _, _, _, _, _, _, _, _, _, _, _, rfl, hK.add hk9, by simp; omega⟩
              · obtain ⟨F, K, x5, x6, x7, x8, x9, x10, x11, x12, x13, x14, x15, x16, x17, rfl, hK, hKl⟩ := h
                simp
                exact ⟨K, rfl, hK, hKl⟩
  obtain ⟨d, e, P, rfl, h⟩ := wp_iff.mp this
  exact ⟨P, e, h⟩
def tI (l : List Int) : D := .tuple (l.map PyData.int)
def bads : List D := [.none, .list [], .list [tI [0, 0, 1, 1]], .tuple [tI [0, 0, 0, 1]], .tuple [tI [0, 0, 21, 1]], .tuple [tI [0, 0, 2, 2], tI [1, 1, 3, 3]], .tuple [tI [0, 0, 1]], .tuple [.tuple [.int 0, .int 0, .int 1, .str "1"]], .tuple [.tuple [.bool true, .int 0, .int 2, .int 2]], tI [0, 0, 1, 1],
  .tuple ((List.range 9).map fun k : Nat => tI [(k : Int), 0, (k : Int) + 1, 1])]
theorem bad_page : ∀ b ∈ bads, d4 [b] = .ok (.bool false) := by
  intro b hb
  simp only [bads, List.mem_cons, List.not_mem_nil, or_false] at hb
  rcases hb with rfl | rfl | rfl | rfl | rfl | rfl | rfl | rfl | rfl | rfl | rfl <;> kernel_rfl
theorem v17 (ns : List Int) (hlen : ns.length ≤ 63) (at_ : Nat) : ∃ b, d19 [intsD ns, .int at_] = .ok b ∧ d4 [b] = .ok (.bool false) := by
  have e13 : tbl ds19 17 = d17 := rfl
  have : Wp (d19 [intsD ns, .int at_]) fun d => d ∈ bads := by
    refine wp_def rfl ?_
    obtain ⟨q, hq, hq2⟩ := drawnI ns hlen at_ 11 (by omega) (by omega)
    have e1 : compL (setN 3) (fun _ => Rs.ok true) (tupA (consArg (vaR 3) (consArg (fun _ => Rs.ok (PyData.int 0)) (consArg (bi addD (vaR 3) fun _ => Rs.ok (PyData.int 1)) (consArg (fun _ => Rs.ok (PyData.int 1)) noArg))))) [some (intsD ns), some (.int at_), some (.list (bads.take 10)), none] ((List.range 9).map fun i : Nat => PyData.int (i : Int)) = .ok ((List.range 9).map fun k : Nat => tI [(k : Int), 0, (k : Int) + 1, 1]) := by
      refine compL_all _ fun k _ => ?_
      simp [tI]
    simp only [s19, x_Ss_den_cons]
    refine wp_cut (R := fun ρ => ρ = [some (intsD ns), some (.int at_), some (.list (bads.take 5)), none]) ?_ fun ρ1 h => ?_
    · simp [startD, bads, tI]
    subst h
    refine wp_cut (R := fun ρ => ρ = [some (intsD ns), some (.int at_), some (.list (bads.take 6)), none]) ?_ fun ρ1 h => ?_
    · simp [bads, tI]; unfold big; omega
    subst h
    refine wp_cut (R := fun ρ => ρ = [some (intsD ns), some (.int at_), some (.list (bads.take 10)), none]) ?_ fun ρ1 h => ?_
    · simp [bads, tI]; unfold big; omega
    subst h
    have hb : bads = bads.take 10 ++ [.tuple ((List.range 9).map fun k : Nat => tI [(k : Int), 0, (k : Int) + 1, 1])] := rfl
    have hl10 : (bads.take 10).length = 10 := rfl
    have hl11 : bads.length = 11 := rfl
    rw [hb] at hl11
    have hq11 : q < (bads.take 10 ++ [PyData.tuple ((List.range 9).map fun k : Nat => tI [(k : Int), 0, (k : Int) + 1, 1])]).length := by rw [hl11]; omega
    obtain ⟨el, hmem, hat⟩ : ∃ el, el ∈ bads ∧ L2.atI (bads.take 10 ++ [PyData.tuple ((List.range 9).map fun k : Nat => tI [(k : Int), 0, (k : Int) + 1, 1])]) (q : Int) = some el := by
      refine ⟨_, ?_, atI_nn hq11⟩
      have h := List.getElem_mem hq11
      revert h
      generalize (bads.take 10 ++ [PyData.tuple ((List.range 9).map fun k : Nat => tI [(k : Int), 0, (k : Int) + 1, 1])])[q] = el
      intro h
      rw [hb]
      exact h
    clear hb
    generalize bads.take 10 = L at *
    have h9 : (-(big : Int) ≤ 9 ∧ (9 : Int) ≤ big) := by decide
    have hbig : L.length + 1 ≤ big := by rw [hl10]; decide
    simp [rng0_map, e1, e13, hq, hbig, hat]
    exact hmem
  obtain ⟨d, e, h⟩ := wp_iff.mp this
  exact ⟨d, e, bad_page d h⟩
theorem notnum : ∀ v ∈ ([.none, .bool true, .str "0"] : List D), ∀ a b : Int, d0 [v, .int a, .int b] = .ok (.bool false) := by
  intro v hv a b
  simp only [List.mem_cons, List.not_mem_nil, or_false] at hv
  rcases hv with rfl | rfl | rfl <;> simp [d0, defD, s0, startD, seqS, isiD]
theorem v5x {v : D} (h : d4 [v] = .ok (.bool false)) : d5 [v] = .exc 0 := by
  have := v5 h
  rw [this, if_neg (by decide)]
instance encBool : Enc Bool := ⟨.bool, 0, sh_bool, fun a b => by
  show (a == b) = _
  cases a <;> cases b <;> rfl⟩
theorem neB (a b : Bool) : neD (.bool a) (.bool b) = .ok (.bool (!decide (a = b))) := neD_e (α := Bool) (by decide) a b
theorem mem_prs {P : List Pan} {i j : Nat} (hi : i < P.length) (hj : j < P.length) : (i, j) ∈ prs P ↔ befI P i j = true := by
  unfold prs row
  simp only [List.mem_flatMap, List.mem_range, List.mem_map, List.mem_filter, Prod.mk.injEq]
  constructor
  · rintro ⟨a, _, b, ⟨_, h⟩, rfl, rfl⟩
    exact h
  · intro h
    exact ⟨i, hi, j, ⟨hj, h⟩, rfl, rfl⟩
theorem page_e (P : List Pan) : (.tuple (P.map pD) : D) = Enc.e (Tu.mk P) := rfl
end K13
namespace K13
open PySem PySem.Spec Den
def lo (w : Nat) (p : Pan) : Int := if w = 0 then p.a else p.b
def hi (w : Nat) (p : Pan) : Int := if w = 0 then p.c else p.d
def loN (P : List Pan) (w n : Nat) : Int := match P[n]? with | some p => lo w p | none => 0
def hiN (P : List Pan) (w n : Nat) : Int := match P[n]? with | some p => hi w p | none => 0
def nT (N : List Nat) : D := .tuple (N.map fun n : Nat => PyData.int (n : Int))
theorem ixlo {w : Nat} (hw : w < 2) (p : Pan) : ixD (pD p) (.int (w : Int)) = .ok (.int (lo w p)) := by
  have : w = 0 ∨ w = 1 := by omega
  rcases this with rfl | rfl <;> simp [pD, lo]
theorem ixhi {w : Nat} (hw : w < 2) (p : Pan) : ixD (pD p) (.int ((w : Int) + 2)) = .ok (.int (hi w p)) := by
  have : w = 0 ∨ w = 1 := by omega
  rcases this with rfl | rfl <;> simp [pD, hi]
theorem loN_eq {P : List Pan} {w n : Nat} (h : n < P.length) : loN P w n = lo w P[n] := by
  unfold loN; rw [List.getElem?_eq_getElem h]
theorem hiN_eq {P : List Pan} {w n : Nat} (h : n < P.length) : hiN P w n = hi w P[n] := by
  unfold hiN; rw [List.getElem?_eq_getElem h]
def isCut (P : List Pan) (w : Nat) (N : List Nat) (t : Int) : Bool := (N.all fun n => decide (hiN P w n ≤ t) || decide (t ≤ loN P w n)) && N.any fun n => decide (hiN P w n ≤ t)
def los (P : List Pan) (w : Nat) (N : List Nat) : List Int := srtI (dedI (N.map (loN P w)))
def cuts (P : List Pan) (w : Nat) (N : List Nat) : List Int := (los P w N).filter (isCut P w N)
theorem c6 {P : List Pan} {w : Nat} {N : List Nat} (hw : w < 2) (hN : ∀ n ∈ N, n < P.length) (hl : N.length ≤ 8) : d6 [.tuple (P.map pD), nT N, .int w] = .ok (.list ((cuts P w N).map PyData.int)) := by
  refine Wp.eq (wp_def rfl ?_)
  unfold s6
  refine wp_cons (R := fun ρ => ρ = [some (.tuple (P.map pD)), some (nT N), some (.int w), some (.list []), none, none, none]) ?_ fun ρ1 h => ?_
  · simp [startD]
  subst h
  have e1 : compL (setN 6) (fun _ => Rs.ok true) (bi ixD (bi ixD (vaR 0) (vaR 6)) (vaR 2)) [some (.tuple (P.map pD)), some (nT N), some (.int w), some (.list []), none, none, none] (N.map fun n : Nat => PyData.int (n : Int)) = .ok (N.map fun n => PyData.int (loN P w n)) := by
    refine compL_all _ fun n hn => ?_
    have h := hN n hn
    simp [at_map h, ixlo hw, loN_eq h]
  have e2 : srtD (.list (N.map fun n => PyData.int (loN P w n))) = .ok (.list ((los P w N).map PyData.int)) := by
    have h1 : intsO (N.map fun n => PyData.int (loN P w n)) = some (N.map (loN P w)) := by
      have := ints_map (N.map (loN P w))
      rw [List.map_map] at this
      exact this
    unfold srtD
    dsimp only
    rw [h1]
    dsimp only
    rw [if_pos (by rw [List.length_map]; omega)]
    rfl
  have hlos : (los P w N).length ≤ 8 := by
    unfold los
    rw [(srtI_perm _).length_eq]
    have := dedI_len (N.map (loN P w))
    rw [List.length_map] at this
    omega
  have e0 : seqD (nT N) = .ok (N.map fun n : Nat => PyData.int (n : Int)) := rfl
  refine wp_cons (R := fun ρ => ∃ x4 x5 x6 : Option D, ρ = [some (.tuple (P.map pD)), some (nT N), some (.int w), some (.list ((cuts P w N).map PyData.int)), x4, x5, x6]) ?_ fun ρ1 h => ?_
  · simp only [x_S_den_for, forS_eq, wp_bind]
    rw [show (I.den (tbl ds6) _ _ : Rs (List D)) = .ok ((los P w N).map PyData.int) by simp [e0, e1, e2], wp_ok]
    refine wp_for (fun k ρ => ∃ x4 x5 x6 : Option D, ρ = [some (.tuple (P.map pD)), some (nT N), some (.int w), some (.list ((((los P w N).take k).filter (isCut P w N)).map PyData.int)), x4, x5, x6]) _ _ 0 ⟨none, none, none, by simp⟩ (fun i t ρ hi' hI => ?_) fun ρ hI => ?_
    · obtain ⟨x4, x5, x6, rfl⟩ := hI
      have hil := (List.getElem?_eq_some_iff.mp hi').1
      have ht : (los P w N).take (0 + i + 1) = (los P w N).take (0 + i) ++ [t] := by
        rw [Nat.zero_add, List.take_succ, hi']; rfl
      rw [ht, List.filter_append]
      have hF : (((los P w N).take (0 + i)).filter (isCut P w N)).length ≤ 8 := by
        refine Nat.le_trans (List.length_filter_le _ _) ?_
        simp; omega
      generalize ((los P w N).take (0 + i)).filter (isCut P w N) = F at *
      have hFb : F.length < big := by unfold big; omega
      have k1 : ∀ x5 : Option D, compL (setN 6) (fun _ => Rs.ok true) (orE (bi (ordD fun i j => decide (i ≤ j)) (bi ixD (bi ixD (vaR 0) (vaR 6)) (bi addD (vaR 2) fun _ => Rs.ok (PyData.int 2))) (vaR 4)) (bi (ordD fun i j => decide (j ≤ i)) (bi ixD (bi ixD (vaR 0) (vaR 6)) (vaR 2)) (vaR 4))) [some (.tuple (P.map pD)), some (nT N), some (.int w), some (.list (F.map PyData.int)), some (.int t), x5, none] (N.map fun n : Nat => PyData.int (n : Int)) = .ok (N.map fun n => PyData.bool (decide (hiN P w n ≤ t) || decide (t ≤ loN P w n))) := fun x5 => by
        refine compL_all _ fun n hn => ?_
        have h := hN n hn
        by_cases a1 : hi w P[n] ≤ t <;> simp [at_map h, ixlo hw, ixhi hw, loN_eq h, hiN_eq h, a1]
      have k2 : ∀ x5 : Option D, compL (setN 6) (fun _ => Rs.ok true) (bi (ordD fun i j => decide (i ≤ j)) (bi ixD (bi ixD (vaR 0) (vaR 6)) (bi addD (vaR 2) fun _ => Rs.ok (PyData.int 2))) (vaR 4)) [some (.tuple (P.map pD)), some (nT N), some (.int w), some (.list (F.map PyData.int)), some (.int t), x5, none] (N.map fun n : Nat => PyData.int (n : Int)) = .ok (N.map fun n => PyData.bool (decide (hiN P w n ≤ t))) := fun x5 => by
        refine compL_all _ fun n hn => ?_
        have h := hN n hn
        simp [at_map h, ixhi hw, hiN_eq h]
      simp only [tg1, setN_eq, wp_ok]
      refine wp_cons (R := fun ρ => ρ = [some (.tuple (P.map pD)), some (nT N), some (.int w), some (.list (F.map PyData.int)), some (.int t), some (.bool (N.all fun n => decide (hiN P w n ≤ t) || decide (t ≤ loN P w n))), x6]) ?_ fun ρ1 h => ?_
      · simp [e0, k1, -List.all_eq_true]
      subst h
      have hc : isCut P w N t = ((N.all fun n => decide (hiN P w n ≤ t) || decide (t ≤ loN P w n)) && N.any fun n => decide (hiN P w n ≤ t)) := rfl
      have hk : List.filter (isCut P w N) [t] = if isCut P w N t = true then [t] else [] := by
        by_cases hh : isCut P w N t = true <;> simp [hh]
      rw [hk]
      generalize isCut P w N t = gb at *
      have k2' := allD_map (fun n => decide (hiN P w n ≤ t)) N
      have k3 := anyD_map (fun n => decide (hiN P w n ≤ t)) N
      generalize (N.all fun n => decide (hiN P w n ≤ t) || decide (t ≤ loN P w n)) = b1 at *
      generalize (N.any fun n => decide (hiN P w n ≤ t)) = b2 at *
      refine wp_cut0 (R := fun ρ => ∃ x4 x5 x6 : Option D, ρ = [some (.tuple (P.map pD)), some (nT N), some (.int w), some (.list ((F ++ if gb = true then [t] else []).map PyData.int)), x4, x5, x6]) ?_ fun ρ1 h => h
      refine wp_if gb ?_ ?_
      · rw [hc]
        cases b1 <;> cases b2 <;> simp [e0, k2, k3]
      · cases gb with
        | false => exact ⟨some (.int t), some (.bool b1), x6, by simp⟩
        | true =>
          simp [appS, hFb]
    · obtain ⟨x4, x5, x6, rfl⟩ := hI
      refine ⟨x4, x5, x6, ?_⟩
      rw [Nat.zero_add, List.take_length]
      rfl
  obtain ⟨x4, x5, x6, rfl⟩ := h
  simp
end K13
namespace K13
open PySem PySem.Spec Den
def upto (P : List Pan) (w : Nat) (t : Int) (N : List Nat) : List Nat := N.filter fun n => decide (hiN P w n ≤ t)
def from_ (P : List Pan) (w : Nat) (t : Int) (N : List Nat) : List Nat := N.filter fun n => decide (t ≤ loN P w n)
def stepP (P : List Pan) (w : Nat) (s : List (List Nat) × List Nat) (t : Int) : List (List Nat) × List Nat := (s.1 ++ [upto P w t s.2], from_ P w t s.2)
def runP (P : List Pan) (w : Nat) (N : List Nat) (l : List Int) : List (List Nat) × List Nat := l.foldl (stepP P w) ([], N)
def partsP (P : List Pan) (w : Nat) (N : List Nat) : List (List Nat) := (runP P w N (cuts P w N)).1 ++ [(runP P w N (cuts P w N)).2]
theorem runP_snoc (P : List Pan) (w : Nat) (N : List Nat) (l : List Int) (t : Int) : runP P w N (l ++ [t]) = stepP P w (runP P w N l) t := by
  unfold runP
  rw [List.foldl_append]
  rfl
theorem from_sub (P : List Pan) (w : Nat) (t : Int) (N : List Nat) : (from_ P w t N).Sublist N := List.filter_sublist
theorem fold_sub (P : List Pan) (w : Nat) : ∀ (l : List Int) (s : List (List Nat) × List Nat), (l.foldl (stepP P w) s).2.Sublist s.2 ∧ (l.foldl (stepP P w) s).1.length = s.1.length + l.length
  | [], s => ⟨List.Sublist.refl _, rfl⟩
  | t :: l, s => by
    obtain ⟨h1, h2⟩ := fold_sub P w l (stepP P w s t)
    rw [List.foldl_cons]
    refine ⟨h1.trans (from_sub P w t s.2), ?_⟩
    rw [h2]
    simp [stepP]
    omega
theorem runP_sub (P : List Pan) (w : Nat) (N : List Nat) (l : List Int) : (runP P w N l).2.Sublist N ∧ (runP P w N l).1.length = l.length := by
  have := fold_sub P w l ([], N)
  simpa [runP] using this
theorem cuts_len {P : List Pan} {w : Nat} {N : List Nat} (hl : N.length ≤ 8) : (cuts P w N).length ≤ 8 := by
  unfold cuts los
  refine Nat.le_trans (List.length_filter_le _ _) ?_
  rw [(srtI_perm _).length_eq]
  have := dedI_len (N.map (loN P w))
  rw [List.length_map] at this
  omega
theorem c7 {P : List Pan} {w : Nat} {N : List Nat} (hw : w < 2) (hN : ∀ n ∈ N, n < P.length) (hl : N.length ≤ 8) : d7 [.tuple (P.map pD), nT N, .int w] = .ok (.list ((partsP P w N).map nT)) := by
  have e6 : tbl ds7 6 = d6 := rfl
  refine Wp.eq (wp_def rfl ?_)
  unfold s7
  refine wp_cons (R := fun ρ => ρ = [some (.tuple (P.map pD)), some (nT N), some (.int w), some (.list []), some (nT N), none, none]) ?_ fun ρ1 h => ?_
  · simp [startD]
  subst h
  have hcl := cuts_len (P := P) (w := w) hl
  refine wp_cons (R := fun ρ => ∃ x5 x6 : Option D, ρ = [some (.tuple (P.map pD)), some (nT N), some (.int w), some (.list ((runP P w N (cuts P w N)).1.map nT)), some (nT (runP P w N (cuts P w N)).2), x5, x6]) ?_ fun ρ1 h => ?_
  · simp only [x_S_den_for, forS_eq, wp_bind]
    rw [show (I.den (tbl ds7) _ _ : Rs (List D)) = .ok ((cuts P w N).map PyData.int) by simp [e6, c6 hw hN hl], wp_ok]
    refine wp_for (fun k ρ => ∃ x5 x6 : Option D, ρ = [some (.tuple (P.map pD)), some (nT N), some (.int w), some (.list ((runP P w N ((cuts P w N).take k)).1.map nT)), some (nT (runP P w N ((cuts P w N).take k)).2), x5, x6]) _ _ 0 ⟨none, none, by simp [runP]⟩ (fun i t ρ hi' hI => ?_) fun ρ hI => ?_
    · obtain ⟨x5, x6, rfl⟩ := hI
      have hil := (List.getElem?_eq_some_iff.mp hi').1
      have ht : (cuts P w N).take (0 + i + 1) = (cuts P w N).take (0 + i) ++ [t] := by
        rw [Nat.zero_add, List.take_succ, hi']; rfl
      rw [ht, runP_snoc]
      obtain ⟨q1, q2⟩ := runP_sub P w N ((cuts P w N).take (0 + i))
      rw [List.length_take] at q2
      generalize runP P w N ((cuts P w N).take (0 + i)) = st at *
      obtain ⟨F, R⟩ := st
      dsimp only at q1 q2 ⊢
      have hR : ∀ n ∈ R, n < P.length := fun n hn => hN n (q1.subset hn)
      have hFb : F.length < big := by unfold big; omega
      have e0 : seqD (nT R) = .ok (R.map fun n : Nat => PyData.int (n : Int)) := rfl
      have k1 : ∀ (x3 : Option D), compL (setN 6) (tstE (bi (ordD fun i j => decide (i ≤ j)) (bi ixD (bi ixD (vaR 0) (vaR 6)) (bi addD (vaR 2) fun _ => Rs.ok (PyData.int 2))) (vaR 5))) (vaR 6) [some (.tuple (P.map pD)), some (nT N), some (.int w), x3, some (nT R), some (.int t), none] (R.map fun n : Nat => PyData.int (n : Int)) = .ok ((upto P w t R).map fun n : Nat => PyData.int (n : Int)) := fun x3 => by
        refine compL_map _ fun n hn => ?_
        have h := hR n hn
        simp [at_map h, ixhi hw, hiN_eq h]
      have k2 : ∀ (x3 : Option D), compL (setN 6) (tstE (bi (ordD fun i j => decide (j ≤ i)) (bi ixD (bi ixD (vaR 0) (vaR 6)) (vaR 2)) (vaR 5))) (vaR 6) [some (.tuple (P.map pD)), some (nT N), some (.int w), x3, some (nT R), some (.int t), none] (R.map fun n : Nat => PyData.int (n : Int)) = .ok ((from_ P w t R).map fun n : Nat => PyData.int (n : Int)) := fun x3 => by
        refine compL_map _ fun n hn => ?_
        have h := hR n hn
        simp [at_map h, ixlo hw, loN_eq h]
      simp only [tg1, setN_eq, wp_ok]
      refine wp_cons (R := fun ρ => ρ = [some (.tuple (P.map pD)), some (nT N), some (.int w), some (.list ((F ++ [upto P w t R]).map nT)), some (nT R), some (.int t), x6]) ?_ fun ρ1 h => ?_
      · simp [appS, hFb, e0, k1]
        rfl
      subst h
      simp [e0, k2, stepP]
      rfl
    · obtain ⟨x5, x6, rfl⟩ := hI
      refine ⟨x5, x6, ?_⟩
      rw [Nat.zero_add, List.take_length]
  obtain ⟨x5, x6, rfl⟩ := h
  have q2 := (runP_sub P w N (cuts P w N)).2
  have hb : (runP P w N (cuts P w N)).1.length + 1 ≤ big := by unfold big; omega
  simp [hb, partsP]
end K13
namespace K13
open PySem PySem.Spec Den
def splitB (P : List Pan) (w : Nat) (H : List Nat) (t : Int) : Bool := (!decide (upto P w t H = [])) && ((!decide (from_ P w t H = [])) && decide ((upto P w t H).length + (from_ P w t H).length = H.length))
def stepL (P : List Pan) (w : Nat) (s : List (List Nat) × List Nat) (t : Int) : List (List Nat) × List Nat := if splitB P w s.2 t = true then (s.1 ++ [upto P w t s.2], from_ P w t s.2) else s
def lines (k : Nat) : List Int := (List.range k).map fun i : Nat => 1 + (i : Int)
def runL (P : List Pan) (w : Nat) (N : List Nat) (k : Nat) : List (List Nat) × List Nat := (lines k).foldl (stepL P w) ([], N)
def partsL (P : List Pan) (w : Nat) (N : List Nat) : List (List Nat) := (runL P w N 19).1 ++ [(runL P w N 19).2]
theorem runL_succ (P : List Pan) (w : Nat) (N : List Nat) (k : Nat) : runL P w N (k + 1) = stepL P w (runL P w N k) (1 + (k : Int)) := by
  unfold runL lines
  rw [List.range_succ, List.map_append, List.foldl_append]
  rfl
theorem runL_sub (P : List Pan) (w : Nat) (N : List Nat) : ∀ k, (runL P w N k).2.Sublist N ∧ (runL P w N k).1.length ≤ k
  | 0 => ⟨List.Sublist.refl _, Nat.le_refl _⟩
  | k + 1 => by
    obtain ⟨h1, h2⟩ := runL_sub P w N k
    rw [runL_succ]
    unfold stepL
    split
    · exact ⟨(from_sub P w _ _).trans h1, by simp; omega⟩
    · exact ⟨h1, by omega⟩
theorem nT_ne (N : List Nat) : neD (nT N) (.tuple []) = .ok (.bool (!decide (N = []))) := by
  have := neD_e (α := Tu Nat) (by decide) ⟨N⟩ ⟨[]⟩
  have e : decide ((⟨N⟩ : Tu Nat) = ⟨[]⟩) = decide (N = []) := by
    rw [decide_eq_decide]
    constructor
    · intro h; injection h
    · intro h; rw [h]
  rw [e] at this
  exact this
theorem c21 {P : List Pan} {w : Nat} {N : List Nat} (hw : w < 2) (hN : ∀ n ∈ N, n < P.length) (hl : N.length ≤ 8) : d21 [.tuple (P.map pD), nT N, .int w] = .ok (.list ((partsL P w N).map nT)) := by
  refine Wp.eq (wp_def rfl ?_)
  unfold s21
  refine wp_cons (R := fun ρ => ρ = [some (.tuple (P.map pD)), some (nT N), some (.int w), some (.list []), some (nT N), none, none, none, none]) ?_ fun ρ1 h => ?_
  · simp [startD]
  subst h
  refine wp_cons (R := fun ρ => ∃ x5 x6 x7 x8 : Option D, ρ = [some (.tuple (P.map pD)), some (nT N), some (.int w), some (.list ((runL P w N 19).1.map nT)), some (nT (runL P w N 19).2), x5, x6, x7, x8]) ?_ fun ρ1 h => ?_
  · simp only [x_S_den_for, forS_eq, wp_bind]
    rw [show (I.den (tbl ds21) _ _ : Rs (List D)) = .ok ((lines 19).map PyData.int) by
      have : rngD 1 19 = (lines 19).map PyData.int := by
        unfold lines rngD
        rw [List.map_map]; rfl
      simp [this], wp_ok]
    refine wp_for (fun k ρ => ∃ x5 x6 x7 x8 : Option D, ρ = [some (.tuple (P.map pD)), some (nT N), some (.int w), some (.list ((runL P w N k).1.map nT)), some (nT (runL P w N k).2), x5, x6, x7, x8]) _ _ 0 ⟨none, none, none, none, rfl⟩ (fun i t ρ hi' hI => ?_) fun ρ hI => ?_
    · obtain ⟨x5, x6, x7, x8, rfl⟩ := hI
      have hil : i < 19 ∧ t = 1 + (i : Int) := by
        have := List.getElem?_eq_some_iff.mp hi'
        simp [lines] at this
        exact ⟨this.1, this.2.symm⟩
      obtain ⟨hi19, rfl⟩ := hil
      rw [Nat.zero_add, runL_succ]
      obtain ⟨q1, q2⟩ := runL_sub P w N i
      generalize runL P w N i = st at *
      obtain ⟨F, R⟩ := st
      dsimp only at q1 q2 ⊢
      generalize (1 + (i : Int)) = t at *
      have hR : ∀ n ∈ R, n < P.length := fun n hn => hN n (q1.subset hn)
      have hFb : F.length < big := by unfold big; omega
      have e0 : seqD (nT R) = .ok (R.map fun n : Nat => PyData.int (n : Int)) := rfl
      have k1 : compL (setN 8) (tstE (bi (ordD fun i j => decide (i ≤ j)) (bi ixD (bi ixD (vaR 0) (vaR 8)) (bi addD (vaR 2) fun _ => Rs.ok (PyData.int 2))) (vaR 5))) (vaR 8) [some (.tuple (P.map pD)), some (nT N), some (.int w), some (.list (F.map nT)), some (nT R), some (.int t), x6, x7, none] (R.map fun n : Nat => PyData.int (n : Int)) = .ok ((upto P w t R).map fun n : Nat => PyData.int (n : Int)) := by
        refine compL_map _ fun n hn => ?_
        have h := hR n hn
        simp [at_map h, ixhi hw, hiN_eq h]
      have k2 : ∀ x6 : Option D, compL (setN 8) (tstE (bi (ordD fun i j => decide (j ≤ i)) (bi ixD (bi ixD (vaR 0) (vaR 8)) (vaR 2)) (vaR 5))) (vaR 8) [some (.tuple (P.map pD)), some (nT N), some (.int w), some (.list (F.map nT)), some (nT R), some (.int t), x6, x7, none] (R.map fun n : Nat => PyData.int (n : Int)) = .ok ((from_ P w t R).map fun n : Nat => PyData.int (n : Int)) := fun x6 => by
        refine compL_map _ fun n hn => ?_
        have h := hR n hn
        simp [at_map h, ixlo hw, loN_eq h]
      simp only [tg1, setN_eq, wp_ok]
      refine wp_cons (R := fun ρ => ρ = [some (.tuple (P.map pD)), some (nT N), some (.int w), some (.list (F.map nT)), some (nT R), some (.int t), some (nT (upto P w t R)), x7, x8]) ?_ fun ρ1 h => ?_
      · simp [e0, k1]
        rfl
      subst h
      refine wp_cons (R := fun ρ => ρ = [some (.tuple (P.map pD)), some (nT N), some (.int w), some (.list (F.map nT)), some (nT R), some (.int t), some (nT (upto P w t R)), some (nT (from_ P w t R)), x8]) ?_ fun ρ1 h => ?_
      · simp [e0, k2]
        rfl
      subst h
      have n1 := nT_ne (upto P w t R)
      have n2 := nT_ne (from_ P w t R)
      have n3 : ∀ N, lenD [nT N] = .ok (.int (N.length : Nat)) := fun N => by unfold nT; simp
      have n4 := eqI ((upto P w t R).length + (from_ P w t R).length : Nat) (R.length : Nat)
      have n5 : decide ((((upto P w t R).length + (from_ P w t R).length : Nat) : Int) = (R.length : Nat)) = decide ((upto P w t R).length + (from_ P w t R).length = R.length) := by
        rw [decide_eq_decide]; omega
      rw [n5] at n4
      have hs : stepL P w (F, R) t = if splitB P w R t = true then (F ++ [upto P w t R], from_ P w t R) else (F, R) := rfl
      have hsb : splitB P w R t = ((!decide (upto P w t R = [])) && ((!decide (from_ P w t R = [])) && decide ((upto P w t R).length + (from_ P w t R).length = R.length))) := rfl
      rw [hs]
      refine wp_cut0 (R := fun ρ => ∃ x5 x6 x7 x8 : Option D, ρ = [some (.tuple (P.map pD)), some (nT N), some (.int w), some (.list ((if splitB P w R t = true then (F ++ [upto P w t R], from_ P w t R) else (F, R)).1.map nT)), some (nT (if splitB P w R t = true then (F ++ [upto P w t R], from_ P w t R) else (F, R)).2), x5, x6, x7, x8]) ?_ fun ρ1 h => h
      generalize upto P w t R = A at *
      generalize from_ P w t R = B at *
      generalize splitB P w R t = gb at *
      refine wp_if gb ?_ ?_
      · rw [hsb]
        have n4' : eqD (.int ((A.length : Int) + (B.length : Int))) (.int (R.length : Int)) = .ok (.bool (decide (A.length + B.length = R.length))) := n4
        generalize decide (A.length + B.length = R.length) = b3 at *
        generalize decide (A = []) = b1 at *
        generalize decide (B = []) = b2 at *
        cases b1 <;> cases b2 <;> cases b3 <;> simp at n1 n2 <;> simp [n1, n2, n3, n4']
      · cases gb with
        | false => exact ⟨_, _, _, _, rfl⟩
        | true =>
          simp [appS, hFb]
    · exact hI
  obtain ⟨x5, x6, x7, x8, rfl⟩ := h
  have q2 := (runL_sub P w N 19).2
  have hb : (runL P w N 19).1.length + 1 ≤ big := by unfold big; omega
  simp [hb, partsL]
end K13
namespace K13
open PySem PySem.Spec Den
theorem two_filters {α : Type} {p q : α → Bool} : ∀ {l : List α}, (∀ x ∈ l, ¬ (p x = true ∧ q x = true)) → ((l.filter p).length + (l.filter q).length = l.length ↔ ∀ x ∈ l, p x = true ∨ q x = true)
  | [], _ => by simp
  | a :: l, h => by
    have ih := two_filters (l := l) fun x hx => h x (List.mem_cons_of_mem _ hx)
    have ha := h a List.mem_cons_self
    have h1 : (l.filter p).length + (l.filter q).length ≤ l.length := by
      have key : ∀ l : List α, (∀ x ∈ l, ¬ (p x = true ∧ q x = true)) → (l.filter p).length + (l.filter q).length ≤ l.length := fun l hl => by
        induction l with
        | nil => simp
        | cons b l ih2 =>
          have := ih2 (fun x hx => hl x (List.mem_cons_of_mem _ hx))
          have hb := hl b List.mem_cons_self
          by_cases hp : p b = true <;> by_cases hq : q b = true <;> simp [hp, hq] at hb ⊢ <;> omega
      exact key l fun x hx => h x (List.mem_cons_of_mem _ hx)
    by_cases hp : p a = true <;> by_cases hq : q a = true
    · exact absurd ⟨hp, hq⟩ ha
    · simp only [List.filter_cons_of_pos hp, List.filter_cons_of_neg (p := q) (by simpa using hq), List.length_cons, List.forall_mem_cons]
      constructor
      · intro e; exact ⟨.inl hp, ih.mp (by omega)⟩
      · rintro ⟨_, e⟩; have := ih.mpr e; omega
    · simp only [List.filter_cons_of_pos hq, List.filter_cons_of_neg (p := p) (by simpa using hp), List.length_cons, List.forall_mem_cons]
      constructor
      · intro e; exact ⟨.inr hq, ih.mp (by omega)⟩
      · rintro ⟨_, e⟩; have := ih.mpr e; omega
    · simp only [List.filter_cons_of_neg (p := p) (by simpa using hp), List.filter_cons_of_neg (p := q) (by simpa using hq), List.length_cons, List.forall_mem_cons]
      constructor
      · intro e; omega
      · rintro ⟨e, _⟩; exact absurd e (by simp [hp, hq])
section
variable {P : List Pan} {w : Nat} {N : List Nat}
theorem mem_upto {t : Int} {n : Nat} {R : List Nat} : n ∈ upto P w t R ↔ n ∈ R ∧ hiN P w n ≤ t := by unfold upto; simp
theorem mem_from {t : Int} {n : Nat} {R : List Nat} : n ∈ from_ P w t R ↔ n ∈ R ∧ t ≤ loN P w n := by unfold from_; simp
theorem split_iff {R : List Nat} {u : Int} (h : ∀ n ∈ R, loN P w n < hiN P w n) : splitB P w R u = true ↔ (∃ n ∈ R, hiN P w n ≤ u) ∧ (∃ n ∈ R, u ≤ loN P w n) ∧ ∀ n ∈ R, hiN P w n ≤ u ∨ u ≤ loN P w n := by
  unfold splitB
  have h2 := two_filters (p := fun n => decide (hiN P w n ≤ u)) (q := fun n => decide (u ≤ loN P w n)) (l := R) fun n hn ⟨a, b⟩ => by
    have := h n hn
    simp at a b
    omega
  simp only [Bool.and_eq_true, Bool.not_eq_true', decide_eq_false_iff_not, decide_eq_true_iff]
  have h3 : ¬ upto P w u R = [] ↔ ∃ n ∈ R, hiN P w n ≤ u := by
    rw [List.eq_nil_iff_forall_not_mem]
    simp [mem_upto]
  have h4 : ¬ from_ P w u R = [] ↔ ∃ n ∈ R, u ≤ loN P w n := by
    rw [List.eq_nil_iff_forall_not_mem]
    simp [mem_from]
  rw [h3, h4]
  refine and_congr_right fun _ => and_congr_right fun _ => ?_
  refine h2.trans ?_
  simp
theorem mem_cuts {x : Int} : x ∈ cuts P w N ↔ (∃ n ∈ N, loN P w n = x) ∧ (∀ n ∈ N, hiN P w n ≤ x ∨ x ≤ loN P w n) ∧ ∃ n ∈ N, hiN P w n ≤ x := by
  unfold cuts los isCut
  rw [List.mem_filter, (srtI_perm _).mem_iff, dedI_mem]
  simp
def stepC (P : List Pan) (w : Nat) (N : List Nat) (s : List (List Nat) × List Nat) (t : Int) : List (List Nat) × List Nat := if t ∈ cuts P w N then stepP P w s t else s
def runC (P : List Pan) (w : Nat) (N : List Nat) (k : Nat) : List (List Nat) × List Nat := (lines k).foldl (stepC P w N) ([], N)
theorem runC_succ (k : Nat) : runC P w N (k + 1) = stepC P w N (runC P w N k) (1 + (k : Int)) := by
  unfold runC lines
  rw [List.range_succ, List.map_append, List.foldl_append]
  rfl
theorem lines_lt (k : Nat) : (lines k).Pairwise (· < ·) := by
  unfold lines
  rw [List.pairwise_map]
  exact List.pairwise_lt_range.imp fun h => by omega
theorem cuts_lines (h0 : ∀ n ∈ N, 0 ≤ loN P w n ∧ loN P w n < hiN P w n ∧ hiN P w n ≤ 20) : cuts P w N = (lines 19).filter fun t => decide (t ∈ cuts P w N) := by
  refine lt_unique (fun k => ?_) ?_ ((lines_lt 19).filter _)
  · rw [List.mem_filter, decide_eq_true_iff]
    refine ⟨fun h => ⟨?_, h⟩, fun h => h.2⟩
    obtain ⟨⟨n, hn, e⟩, _, m, hm, e2⟩ := mem_cuts.mp h
    have h1 := h0 n hn
    have h2 := h0 m hm
    unfold lines
    refine List.mem_map.mpr ⟨(k - 1).toNat, List.mem_range.mpr (by omega), by omega⟩
  · unfold cuts los
    exact (srt_lt (dedI_nd _)).filter _
theorem fold_filter {α β : Type} (f : β → α → β) (p : α → Bool) : ∀ (l : List α) (s : β), (l.filter p).foldl f s = l.foldl (fun s t => if p t = true then f s t else s) s
  | [], s => rfl
  | a :: l, s => by
    by_cases h : p a = true
    · rw [List.filter_cons_of_pos h, List.foldl_cons, List.foldl_cons, if_pos h]
      exact fold_filter f p l _
    · rw [List.filter_cons_of_neg h, List.foldl_cons, if_neg h]
      exact fold_filter f p l s
theorem runP_runC (h0 : ∀ n ∈ N, 0 ≤ loN P w n ∧ loN P w n < hiN P w n ∧ hiN P w n ≤ 20) : runP P w N (cuts P w N) = runC P w N 19 := by
  unfold runP runC
  conv => lhs; rw [cuts_lines h0]
  rw [fold_filter]
  congr 1
  funext s t
  unfold stepC
  simp
end
end K13
namespace K13
open PySem PySem.Spec Den
section
variable {P : List Pan} {w : Nat} {N : List Nat}
def LS (P : List Pan) (w : Nat) (N : List Nat) (t : Int) (sL sP : List (List Nat) × List Nat) : Prop :=
  (∀ n ∈ sP.2, n ∈ N) ∧ (∀ n ∈ N, n ∈ sP.2 ∨ hiN P w n ≤ t) ∧
  ((sL = sP ∧ (sP.2 = N ∨ ∃ n ∈ sP.2, loN P w n ≤ t)) ∨
   (sL = (sP.1 ++ [upto P w t sP.2], from_ P w (t + 1) sP.2) ∧ (∃ n ∈ sP.2, hiN P w n ≤ t) ∧ (∃ n ∈ sP.2, t + 1 ≤ loN P w n) ∧ ∀ n ∈ sP.2, hiN P w n ≤ t ∨ t + 1 ≤ loN P w n))
theorem ls_step (h0 : ∀ n ∈ N, loN P w n < hiN P w n) {t : Int} {sL sP : List (List Nat) × List Nat} (h : LS P w N t sL sP) : LS P w N (t + 1) (stepL P w sL (t + 1)) (stepC P w N sP (t + 1)) := by
  obtain ⟨F, R⟩ := sP
  obtain ⟨hs, hc, h⟩ := h
  dsimp only at hs hc h
  have hR : ∀ n ∈ R, loN P w n < hiN P w n := fun n hn => h0 n (hs n hn)
  have back : ∀ n ∈ N, t + 1 ≤ loN P w n → n ∈ R := fun n hn h1 => by
    rcases hc n hn with h2 | h2
    · exact h2
    · have := h0 n hn; omega
  rcases h with ⟨rfl, h⟩ | ⟨rfl, hA, hB, hcl⟩
  · by_cases hsp : splitB P w R (t + 1) = true
    · have eL : stepL P w (F, R) (t + 1) = (F ++ [upto P w (t + 1) R], from_ P w (t + 1) R) := by
        unfold stepL
        rw [if_pos hsp]
      obtain ⟨s1, s2, s3⟩ := (split_iff hR).mp hsp
      by_cases hlo : ∃ n ∈ N, loN P w n = t + 1
      · have hcut : (t + 1) ∈ cuts P w N := mem_cuts.mpr ⟨hlo, fun n hn => by
          rcases hc n hn with h2 | h2
          · exact s3 n h2
          · exact .inl (by omega), by
          obtain ⟨n, hn, h2⟩ := s1
          exact ⟨n, hs n hn, h2⟩⟩
        have eC : stepC P w N (F, R) (t + 1) = (F ++ [upto P w (t + 1) R], from_ P w (t + 1) R) := by
          unfold stepC
          rw [if_pos hcut]
          rfl
        rw [eL, eC]
        refine ⟨fun n hn => hs n (mem_from.mp hn).1, fun n hn => ?_, .inl ⟨rfl, .inr ?_⟩⟩
        · rcases hc n hn with h2 | h2
          · rcases s3 n h2 with h3 | h3
            · exact .inr h3
            · exact .inl (mem_from.mpr ⟨h2, h3⟩)
          · exact .inr (by omega)
        · obtain ⟨n, hn, e⟩ := hlo
          exact ⟨n, mem_from.mpr ⟨back n hn (by omega), by omega⟩, by omega⟩
      · have hcut : ¬ (t + 1) ∈ cuts P w N := fun z => hlo (mem_cuts.mp z).1
        have eC : stepC P w N (F, R) (t + 1) = (F, R) := by
          unfold stepC
          rw [if_neg hcut]
        rw [eL, eC]
        have no : ∀ n ∈ R, loN P w n ≠ t + 1 := fun n hn e => hlo ⟨n, hs n hn, e⟩
        have ef : from_ P w (t + 1) R = from_ P w (t + 1 + 1) R := by
          unfold from_
          refine List.filter_congr fun n hn => ?_
          have := no n hn
          rw [decide_eq_decide]
          omega
        refine ⟨hs, fun n hn => (hc n hn).imp id fun h2 => by omega, .inr ⟨by rw [ef], s1, ?_, fun n hn => ?_⟩⟩
        · obtain ⟨n, hn, h2⟩ := s2
          have := no n hn
          exact ⟨n, hn, by omega⟩
        · have := no n hn
          rcases s3 n hn with h3 | h3
          · exact .inl h3
          · exact .inr (by omega)
    · have eL : stepL P w (F, R) (t + 1) = (F, R) := by
        unfold stepL
        rw [if_neg hsp]
      have hcut : ¬ (t + 1) ∈ cuts P w N := fun z => by
        obtain ⟨⟨n0, hn0, e0⟩, hcl, m, hm, hm2⟩ := mem_cuts.mp z
        have hn0R := back n0 hn0 (by omega)
        have none : ¬ ∃ n ∈ R, hiN P w n ≤ t + 1 := fun s1 => hsp ((split_iff hR).mpr ⟨s1, ⟨n0, hn0R, by omega⟩, fun n hn => hcl n (hs n hn)⟩)
        rcases h with h | ⟨n, hn, h2⟩
        · exact none ⟨m, by rw [h]; exact hm, hm2⟩
        · rcases hcl n (hs n hn) with h3 | h3
          · exact none ⟨n, hn, h3⟩
          · omega
      have eC : stepC P w N (F, R) (t + 1) = (F, R) := by
        unfold stepC
        rw [if_neg hcut]
      rw [eL, eC]
      refine ⟨hs, fun n hn => (hc n hn).imp id fun h2 => by omega, .inl ⟨rfl, h.imp id ?_⟩⟩
      rintro ⟨n, hn, h2⟩
      exact ⟨n, hn, by omega⟩
  · have hns : ¬ splitB P w (from_ P w (t + 1) R) (t + 1) = true := fun z => by
      obtain ⟨⟨n, hn, h2⟩, _⟩ := (split_iff fun n hn => hR n (mem_from.mp hn).1).mp z
      have h3 := mem_from.mp hn
      have := hR n h3.1
      omega
    have eL : stepL P w (F ++ [upto P w t R], from_ P w (t + 1) R) (t + 1) = (F ++ [upto P w t R], from_ P w (t + 1) R) := by
      unfold stepL
      rw [if_neg hns]
    have eu : upto P w (t + 1) R = upto P w t R := by
      unfold upto
      refine List.filter_congr fun n hn => ?_
      have h1 := hR n hn
      rw [decide_eq_decide]
      rcases hcl n hn with h3 | h3 <;> omega
    by_cases hlo : ∃ n ∈ N, loN P w n = t + 1
    · have hcut : (t + 1) ∈ cuts P w N := mem_cuts.mpr ⟨hlo, fun n hn => by
        rcases hc n hn with h2 | h2
        · rcases hcl n h2 with h3 | h3
          · exact .inl (by omega)
          · exact .inr h3
        · exact .inl (by omega), by
        obtain ⟨n, hn, h2⟩ := hA
        exact ⟨n, hs n hn, by omega⟩⟩
      have eC : stepC P w N (F, R) (t + 1) = (F ++ [upto P w t R], from_ P w (t + 1) R) := by
        unfold stepC
        rw [if_pos hcut]
        unfold stepP
        rw [eu]
      rw [eC]
      show LS P w N (t + 1) (stepL P w (F ++ [upto P w t R], from_ P w (t + 1) R) (t + 1)) _
      rw [eL]
      refine ⟨fun n hn => hs n (mem_from.mp hn).1, fun n hn => ?_, .inl ⟨rfl, .inr ?_⟩⟩
      · rcases hc n hn with h2 | h2
        · rcases hcl n h2 with h3 | h3
          · exact .inr (by omega)
          · exact .inl (mem_from.mpr ⟨h2, h3⟩)
        · exact .inr (by omega)
      · obtain ⟨n, hn, e⟩ := hlo
        exact ⟨n, mem_from.mpr ⟨back n hn (by omega), by omega⟩, by omega⟩
    · have hcut : ¬ (t + 1) ∈ cuts P w N := fun z => hlo (mem_cuts.mp z).1
      have eC : stepC P w N (F, R) (t + 1) = (F, R) := by
        unfold stepC
        rw [if_neg hcut]
      have no : ∀ n ∈ R, loN P w n ≠ t + 1 := fun n hn e => hlo ⟨n, hs n hn, e⟩
      have ef : from_ P w (t + 1) R = from_ P w (t + 1 + 1) R := by
        unfold from_
        refine List.filter_congr fun n hn => ?_
        have := no n hn
        rw [decide_eq_decide]
        omega
      rw [eC]
      show LS P w N (t + 1) (stepL P w (F ++ [upto P w t R], from_ P w (t + 1) R) (t + 1)) _
      rw [eL]
      refine ⟨hs, fun n hn => (hc n hn).imp id fun h2 => by omega, .inr ⟨?_, ?_, ?_, fun n hn => ?_⟩⟩
      · dsimp only
        rw [eu, ef]
      · obtain ⟨n, hn, h2⟩ := hA
        exact ⟨n, hn, by omega⟩
      · obtain ⟨n, hn, h2⟩ := hB
        have := no n hn
        exact ⟨n, hn, by omega⟩
      · have := no n hn
        rcases hcl n hn with h3 | h3
        · exact .inl (by omega)
        · exact .inr (by omega)
theorem ls_all (h0 : ∀ n ∈ N, 0 ≤ loN P w n ∧ loN P w n < hiN P w n ∧ hiN P w n ≤ 20) : ∀ k : Nat, LS P w N (k : Int) (runL P w N k) (runC P w N k)
  | 0 => ⟨fun n h => h, fun n h => .inl h, .inl ⟨rfl, .inl rfl⟩⟩
  | k + 1 => by
    have ih := ls_all h0 k
    rw [runL_succ, runC_succ]
    have := ls_step (fun n hn => (h0 n hn).2.1) ih
    rw [show (1 : Int) + (k : Int) = (k : Int) + 1 by omega]
    exact this
theorem parts_eq (h0 : ∀ n ∈ N, 0 ≤ loN P w n ∧ loN P w n < hiN P w n ∧ hiN P w n ≤ 20) : partsP P w N = partsL P w N := by
  unfold partsP partsL
  rw [runP_runC h0]
  obtain ⟨h1, h2, h3⟩ := ls_all h0 19
  rcases h3 with ⟨h3, _⟩ | ⟨_, _, ⟨n, hn, h4⟩, _⟩
  · rw [h3]
  · have := h0 n (h1 n hn)
    omega
end
end K13
namespace K13
open PySem PySem.Spec Den
section
variable {P : List Pan} {w : Nat} {N : List Nat}
theorem runL_short (k : Nat) : (∀ p ∈ (runL P w N k).1, p.Sublist N ∧ p.length < N.length) ∧ (runL P w N k).2.Sublist N ∧ ((runL P w N k).1 ≠ [] → (runL P w N k).2.length < N.length) := by
  induction k with
  | zero => exact ⟨fun p hp => by simp [runL, lines] at hp, List.Sublist.refl _, fun h => absurd rfl h⟩
  | succ k ih =>
    rw [runL_succ]
    generalize (1 + (k : Int)) = t
    generalize runL P w N k = st at *
    obtain ⟨F, H⟩ := st
    obtain ⟨h1, h2, h3⟩ := ih
    dsimp only at h1 h2 h3
    unfold stepL
    split
    · rename_i hs
      dsimp only at hs ⊢
      unfold splitB at hs
      simp only [Bool.and_eq_true, Bool.not_eq_true', decide_eq_false_iff_not, decide_eq_true_iff] at hs
      obtain ⟨ha, hb, hc⟩ := hs
      have la := List.length_pos_iff.mpr ha
      have lb := List.length_pos_iff.mpr hb
      have sa : (upto P w t H).Sublist N := (show (upto P w t H).Sublist H from List.filter_sublist).trans h2
      have sb : (from_ P w t H).Sublist N := (from_sub P w t H).trans h2
      have lH := h2.length_le
      refine ⟨fun p hp => ?_, sb, fun _ => by omega⟩
      rcases List.mem_append.mp hp with hp | hp
      · exact h1 p hp
      · rw [List.mem_singleton.mp hp]
        exact ⟨sa, by omega⟩
    · exact ⟨h1, h2, h3⟩
theorem parts_short {p : List Nat} (hp : p ∈ partsL P w N) : p.Sublist N ∧ ((partsL P w N).length ≠ 1 → p.length < N.length) := by
  obtain ⟨h1, h2, h3⟩ := runL_short (P := P) (w := w) (N := N) 19
  unfold partsL at hp ⊢
  rcases List.mem_append.mp hp with hp | hp
  · exact ⟨(h1 p hp).1, fun _ => (h1 p hp).2⟩
  · rw [List.mem_singleton.mp hp]
    refine ⟨h2, fun hl => h3 fun e => ?_⟩
    rw [e] at hl
    simp at hl
theorem parts_len : (partsL P w N).length ≤ 20 := by
  unfold partsL
  have := (runL_sub P w N 19).2
  simp
  omega
end
def chosen (P : List Pan) (w : Nat) (N : List Nat) : List (List Nat) := if (partsL P w N).length = 1 then partsL P (1 - w) N else partsL P w N
def goM (f : List Nat → List Nat × Option (List Nat)) : List (List Nat) → List Nat → List Nat × Option (List Nat)
  | [], acc => (acc, none)
  | p :: r, acc => match f p with
    | (_, some s) => ([], some s)
    | (o, none) => goM f r (acc ++ o)
def readM (P : List Pan) (w : Nat) : Nat → List Nat → List Nat × Option (List Nat)
  | 0, N => ([], none)
  | m + 1, N => if N.length < 2 then (N, none) else if (chosen P w N).length = 1 then ([], some N) else goM (readM P w m) (chosen P w N) []
def optD : Option (List Nat) → D
  | none => .none
  | some l => nT l
def resD (r : List Nat × Option (List Nat)) : D := .tuple [nT r.1, optD r.2]
theorem chosen_short {P : List Pan} {w : Nat} {N p : List Nat} (hp : p ∈ chosen P w N) : p.Sublist N ∧ ((chosen P w N).length ≠ 1 → p.length < N.length) := by
  unfold chosen at hp ⊢
  split at hp
  · rename_i h; rw [if_pos h]; exact parts_short hp
  · rename_i h; rw [if_neg h]; exact parts_short hp
theorem goM_len {f : List Nat → List Nat × Option (List Nat)} {b : Nat} : ∀ (l : List (List Nat)) (acc : List Nat), (∀ p ∈ l, (f p).1.length ≤ b) → (goM f l acc).1.length ≤ acc.length + l.length * b
  | [], acc, _ => by simp [goM]
  | p :: r, acc, h => by
    have hp := h p List.mem_cons_self
    unfold goM
    cases e : f p with
    | mk o s =>
      rw [e] at hp
      cases s with
      | some s => simp
      | none =>
        have := goM_len r (acc ++ o) fun q hq => h q (List.mem_cons_of_mem _ hq)
        dsimp only at hp ⊢
        rw [List.length_append] at this
        rw [List.length_cons, Nat.succ_mul]
        omega
end K13
namespace K13
open PySem PySem.Spec Den
theorem runL_sum (P : List Pan) (w : Nat) (N : List Nat) (k : Nat) : ((runL P w N k).1.map List.length).sum + (runL P w N k).2.length = N.length := by
  induction k with
  | zero => simp [runL, lines]
  | succ k ih =>
    rw [runL_succ]
    generalize (1 + (k : Int)) = t
    generalize runL P w N k = st at *
    obtain ⟨F, H⟩ := st
    dsimp only at ih
    unfold stepL
    split
    · rename_i hs
      unfold splitB at hs
      simp only [Bool.and_eq_true, Bool.not_eq_true', decide_eq_false_iff_not, decide_eq_true_iff] at hs
      obtain ⟨_, _, hc⟩ := hs
      dsimp only at hc ⊢
      rw [List.map_append, List.sum_append]
      simp
      omega
    · exact ih
theorem chosen_sum (P : List Pan) (w : Nat) (N : List Nat) : ((chosen P w N).map List.length).sum = N.length := by
  have key : ∀ w, ((partsL P w N).map List.length).sum = N.length := fun w => by
    have := runL_sum P w N 19
    unfold partsL
    rw [List.map_append, List.sum_append]
    simpa using this
  unfold chosen
  split <;> exact key _
theorem goM_sum {f : List Nat → List Nat × Option (List Nat)} : ∀ (l : List (List Nat)) (acc : List Nat), (∀ p ∈ l, (f p).1.length ≤ p.length) → (goM f l acc).1.length ≤ acc.length + (l.map List.length).sum
  | [], acc, _ => by simp [goM]
  | p :: r, acc, h => by
    have hp := h p List.mem_cons_self
    unfold goM
    cases e : f p with
    | mk o s =>
      rw [e] at hp
      cases s with
      | some s => simp
      | none =>
        have := goM_sum r (acc ++ o) fun q hq => h q (List.mem_cons_of_mem _ hq)
        dsimp only at hp ⊢
        rw [List.length_append] at this
        rw [List.map_cons, List.sum_cons]
        omega
theorem readM_len (P : List Pan) (w : Nat) : ∀ (m : Nat) (N : List Nat), (readM P w m N).1.length ≤ N.length
  | 0, N => by simp [readM]
  | m + 1, N => by
    unfold readM
    split
    · exact Nat.le_refl _
    · split
      · simp
      · have := goM_sum (f := readM P w m) (chosen P w N) [] fun p _ => readM_len P w m p
        rw [chosen_sum] at this
        simpa using this
def Good (P : List Pan) : Prop := ∀ w n, w < 2 → n < P.length → 0 ≤ loN P w n ∧ loN P w n < hiN P w n ∧ hiN P w n ≤ 20
theorem isn (o : Option (List Nat)) : isD false (optD o) .none = .ok (.bool (decide (o = none))) := by
  cases o <;> rfl
theorem isnn (o : Option (List Nat)) : isD true (optD o) .none = .ok (.bool (!decide (o = none))) := by
  cases o <;> rfl
theorem lenT (N : List Nat) : lenD [nT N] = .ok (.int (N.length : Nat)) := by unfold nT; simp
theorem r11 {P : List Pan} {w : Nat} (hP : Good P) (hw : w < 2) : ∀ (m : Nat) (N : List Nat), N.length < m → (∀ n ∈ N, n < P.length) → N.length ≤ 8 → recD ds11 3 8 s11 m [.tuple (P.map pD), nT N, .int w] = .ok (resD (readM P w m N))
  | 0, N, h, _, _ => by omega
  | m + 1, N, hm, hN, hl => by
    have ih := r11 hP hw m
    have e7 : tbl (ds11 ++ [recD ds11 3 8 s11 m]) 7 = d7 := rfl
    have e11 : tbl (ds11 ++ [recD ds11 3 8 s11 m]) 11 = recD ds11 3 8 s11 m := rfl
    have k1 := c7 hw hN hl
    have k2' := c7 (P := P) (w := 1 - w) (N := N) (by omega) hN hl
    rw [parts_eq fun n hn => hP w n hw (hN n hn)] at k1
    rw [parts_eq fun n hn => hP (1 - w) n (by omega) (hN n hn)] at k2'
    have k2 : d7 [.tuple (P.map pD), nT N, .int (1 - (w : Int))] = .ok (.list ((partsL P (1 - w) N).map nT)) := by
      rw [show (1 : Int) - (w : Int) = ((1 - w : Nat) : Int) by omega]
      exact k2'
    clear k2'
    show defD (tbl (ds11 ++ [recD ds11 3 8 s11 m])) 3 8 s11 _ = _
    have hC : chosen P w N = if (partsL P w N).length = 1 then partsL P (1 - w) N else partsL P w N := rfl
    have hsub := fun p (hp : p ∈ chosen P w N) => chosen_short hp
    have hsum := chosen_sum P w N
    have hrd : readM P w (m + 1) N = if N.length < 2 then (N, none) else if (chosen P w N).length = 1 then ([], some N) else goM (readM P w m) (chosen P w N) [] := rfl
    rw [hrd]
    clear hrd
    generalize chosen P w N = C at *
    generalize partsL P w N = A at *
    generalize partsL P (1 - w) N = B at *
    generalize hT : tbl (ds11 ++ [recD ds11 3 8 s11 m]) = T at *
    refine Wp.eq (wp_def rfl ?_)
    by_cases h2 : N.length < 2
    · have h2' : (N.length : Int) < 2 := by omega
      rw [if_pos h2]
      simp [s11, startD, lenT, h2', resD, optD]
    · have h2' : ¬ (N.length : Int) < 2 := by omega
      rw [if_neg h2]
      unfold s11
      refine wp_cons (R := fun ρ => ρ = [some (.tuple (P.map pD)), some (nT N), some (.int w), none, none, none, none, none]) ?_ fun ρ1 h => ?_
      · simp [startD, lenT, h2']
      subst h
      refine wp_cons (R := fun ρ => ρ = [some (.tuple (P.map pD)), some (nT N), some (.int w), some (.list (A.map nT)), none, none, none, none]) ?_ fun ρ1 h => ?_
      · simp [e7, k1]
      subst h
      refine wp_cons (R := fun ρ => ρ = [some (.tuple (P.map pD)), some (nT N), some (.int w), some (.list (C.map nT)), none, none, none, none]) ?_ fun ρ1 h => ?_
      · rw [hC]
        by_cases h3 : A.length = 1
        · simp [eqI, h3, e7, k2]
        · have h3' : ¬ (A.length : Int) = 1 := by omega
          simp [eqI, h3, h3']
      subst h
      by_cases h4 : C.length = 1
      · rw [if_pos h4]
        refine wp_cons (R := fun _ => False) ?_ fun ρ1 h => h.elim
        simp [eqI, h4, resD, optD]
        rfl
      · rw [if_neg h4]
        have h4' : ¬ (C.length : Int) = 1 := by omega
        refine wp_cons (R := fun ρ => ρ = [some (.tuple (P.map pD)), some (nT N), some (.int w), some (.list (C.map nT)), none, none, none, none]) ?_ fun ρ1 h => ?_
        · simp [eqI, h4']
        subst h
        refine wp_cons (R := fun ρ => ρ = [some (.tuple (P.map pD)), some (nT N), some (.int w), some (.list (C.map nT)), some (nT []), none, none, none]) ?_ fun ρ1 h => ?_
        · simp [nT]
        subst h
        have hlen : ∀ p ∈ C, p.length < m := fun p hp => by
          have := (hsub p hp).2 h4
          omega
        have hrl := readM_len P w m
        generalize hf : readM P w m = f at *
        refine wp_cons (R := fun ρ => ∃ (acc : List Nat) (x5 x6 x7 : Option D), ρ = [some (.tuple (P.map pD)), some (nT N), some (.int w), some (.list (C.map nT)), some (nT acc), x5, x6, x7] ∧ goM f C [] = (acc, none)) ?_ fun ρ1 h => ?_
        · simp only [x_S_den_for, forS_eq, wp_bind]
          rw [show (I.den T _ _ : Rs (List D)) = .ok (C.map nT) by simp, wp_ok]
          refine wp_for (fun k ρ => ∃ (acc : List Nat) (x5 x6 x7 : Option D), ρ = [some (.tuple (P.map pD)), some (nT N), some (.int w), some (.list (C.map nT)), some (nT acc), x5, x6, x7] ∧ goM f C [] = goM f (C.drop k) acc ∧ acc.length + ((C.drop k).map List.length).sum ≤ N.length) _ _ 0 ⟨[], none, none, none, rfl, rfl, by simp [hsum]⟩ (fun i p ρ hi hI => ?_) fun ρ hI => ?_
          · obtain ⟨acc, x5, x6, x7, rfl, hg, hb⟩ := hI
            obtain ⟨hil, he⟩ := List.getElem?_eq_some_iff.mp hi
            have hd : C.drop (0 + i) = p :: C.drop (i + 1) := by rw [Nat.zero_add, List.drop_eq_getElem_cons hil, he]
            rw [hd] at hg hb
            have hp : p ∈ C := he ▸ List.getElem_mem hil
            have hr := ih p (hlen p hp) (fun n hn => hN n ((hsub p hp).1.subset hn)) (by have := (hsub p hp).1.length_le; omega)
            have hpl := hrl p
            rw [List.map_cons, List.sum_cons] at hb
            have hstep : goM f (p :: C.drop (i + 1)) acc = (match f p with
              | (_, some s) => ([], some s)
              | (o, none) => goM f (C.drop (i + 1)) (acc ++ o)) := rfl
            rw [hstep] at hg
            clear hstep
            cases e : f p with
            | mk o s =>
              rw [e] at hg hr hpl
              dsimp only at hpl hg
              cases s with
              | some s =>
                have hr' : recD ds11 3 8 s11 m [.tuple (P.map pD), nT p, .int w] = .ok (.tuple [nT o, nT s]) := hr
                have hin : isD true (nT s) .none = .ok (.bool true) := rfl
                dsimp only at hg
                simp [e11, hr', hin, hg, resD, optD]
                rfl
              | none =>
                dsimp only at hg
                have hr' : recD ds11 3 8 s11 m [.tuple (P.map pD), nT p, .int w] = .ok (.tuple [nT o, .none]) := hr
                have hin : isD true .none .none = .ok (.bool false) := rfl
                have hab : addD (nT acc) (nT o) = .ok (nT (acc ++ o)) := by
                  unfold nT
                  have : acc.length + o.length ≤ big := by unfold big; omega
                  simp [this]
                simp [e11, hr', hin, hab]
                refine ⟨acc ++ o, rfl, ?_, ?_⟩
                · rw [hg]
                · simp at hb ⊢
                  omega
          · obtain ⟨acc, x5, x6, x7, rfl, hg, hb⟩ := hI
            have : C.drop (0 + C.length) = [] := List.drop_eq_nil_of_le (by omega)
            rw [this] at hg
            exact ⟨acc, x5, x6, x7, rfl, hg⟩
        obtain ⟨acc, x5, x6, x7, rfl, hg⟩ := h
        simp [hg, resD, optD]
end K13
namespace K13
open PySem PySem.Spec Den
def ordD' (r : List Nat × Option (List Nat)) : D := match r with
  | (o, none) => nT o
  | (_, some _) => .none
theorem r11w {P : List Pan} {w : Nat} (hP : Good P) (hw : w < 2) (hl : P.length ≤ 8) : d11 [.tuple (P.map pD), nT (List.range P.length), .int w] = .ok (resD (readM P w 12 (List.range P.length))) :=
  r11 hP hw 12 (List.range P.length) (by simp; omega) (fun n hn => by simpa using hn) (by simpa using hl)
theorem c12 {P : List Pan} {w : Nat} (hP : Good P) (hw : w < 2) (hl : P.length ≤ 8) : d12 [.tuple (P.map pD), .int w] = .ok (ordD' (readM P w 12 (List.range P.length))) := by
  have e11 : tbl ds12 11 = d11 := rfl
  have h := r11w hP hw hl
  have e0 : (PyData.tuple ((List.range P.length).map fun i : Nat => PyData.int (i : Int))) = nT (List.range P.length) := rfl
  generalize readM P w 12 (List.range P.length) = r at *
  obtain ⟨o, s⟩ := r
  refine Wp.eq (wp_def rfl ?_)
  have hb : (P.length : Int) ≤ 1000000 := by omega
  have in1 : isD false .none .none = .ok (.bool true) := rfl
  have in2 : ∀ s, isD false (nT s) .none = .ok (.bool false) := fun s => rfl
  cases s with
  | none =>
    have h' : d11 [.tuple (P.map pD), nT (List.range P.length), .int w] = .ok (.tuple [nT o, .none]) := h
    simp [s12, startD, e11, rng0_map, e0, h', hb, in1, ordD']
  | some s =>
    have h' : d11 [.tuple (P.map pD), nT (List.range P.length), .int w] = .ok (.tuple [nT o, nT s]) := h
    simp [s12, startD, e11, rng0_map, e0, h', hb, in2, ordD']
theorem c13 {P : List Pan} (hP : Good P) (ok : okPage P = true) : d13 [.tuple (P.map pD)] = .ok (ordD' (readM P 1 12 (List.range P.length))) := by
  have e5 : tbl ds13 5 = d5 := rfl
  have e12 : tbl ds13 12 = d12 := rfl
  have h := c12 hP (w := 1) (by omega) (okLen ok)
  have h' : d12 [.tuple (P.map pD), .int 1] = _ := h
  refine Wp.eq (wp_def rfl ?_)
  simp [s13, startD, e5, e12, v5ok ok, h']
theorem c14 {P : List Pan} (hP : Good P) (ok : okPage P = true) : d14 [.tuple (P.map pD)] = .ok (ordD' (readM P 0 12 (List.range P.length))) := by
  have e5 : tbl ds14 5 = d5 := rfl
  have e12 : tbl ds14 12 = d12 := rfl
  have h := c12 hP (w := 0) (by omega) (okLen ok)
  have h' : d12 [.tuple (P.map pD), .int 0] = _ := h
  refine Wp.eq (wp_def rfl ?_)
  simp [s14, startD, e5, e12, v5ok ok, h']
end K13
namespace K13
open PySem PySem.Spec Den
theorem c15 {P : List Pan} (hP : Good P) (ok : okPage P = true) : d15 [.tuple (P.map pD)] = .ok (optD (readM P 1 12 (List.range P.length)).2) := by
  have e5 : tbl ds15 5 = d5 := rfl
  have e11 : tbl ds15 11 = d11 := rfl
  have hl := okLen ok
  have h := r11w hP (w := 1) (by omega) hl
  have h' : d11 [.tuple (P.map pD), nT (List.range P.length), .int 1] = _ := h
  have e0 : (PyData.tuple ((List.range P.length).map fun i : Nat => PyData.int (i : Int))) = nT (List.range P.length) := rfl
  have hb : (P.length : Int) ≤ 1000000 := by omega
  generalize readM P 1 12 (List.range P.length) = r at *
  refine Wp.eq (wp_def rfl ?_)
  simp [s15, startD, e5, e11, v5ok ok, rng0_map, e0, h', hb, resD]
theorem c16 {P : List Pan} (hP : Good P) (ok : okPage P = true) : d16 [.tuple (P.map pD)] = .ok (.bool (decide ((readM P 1 12 (List.range P.length)).2 = none))) := by
  have e5 : tbl ds16 5 = d5 := rfl
  have e12 : tbl ds16 12 = d12 := rfl
  have h := c12 hP (w := 1) (by omega) (okLen ok)
  have h' : d12 [.tuple (P.map pD), .int 1] = _ := h
  generalize readM P 1 12 (List.range P.length) = r at *
  obtain ⟨o, s⟩ := r
  refine Wp.eq (wp_def rfl ?_)
  have in1 : isD true .none .none = .ok (.bool false) := rfl
  have in2 : ∀ s, isD true (nT s) .none = .ok (.bool true) := fun s => rfl
  cases s with
  | none => simp [s16, startD, e5, e12, v5ok ok, h', ordD', in2]
  | some s => simp [s16, startD, e5, e12, v5ok ok, h', ordD', in1]
end K13
namespace K13
open PySem PySem.Spec Den
theorem parts_pos (P : List Pan) (w : Nat) (N : List Nat) : 1 ≤ (partsL P w N).length := by
  unfold partsL
  simp
theorem r22 {P : List Pan} {w : Nat} (hw : w < 2) : ∀ (m : Nat) (N : List Nat), N.length < m → (∀ n ∈ N, n < P.length) → N.length ≤ 8 → recD ds22 3 9 s22 m [.tuple (P.map pD), nT N, .int w] = .ok (resD (readM P w m N))
  | 0, N, h, _, _ => by omega
  | m + 1, N, hm, hN, hl => by
    have ih := r22 (P := P) hw m
    have e21 : tbl (ds22 ++ [recD ds22 3 9 s22 m]) 21 = d21 := rfl
    have e22 : tbl (ds22 ++ [recD ds22 3 9 s22 m]) 22 = recD ds22 3 9 s22 m := rfl
    have k1 := c21 hw hN hl
    have k2' := c21 (P := P) (w := 1 - w) (N := N) (by omega) hN hl
    have k2 : d21 [.tuple (P.map pD), nT N, .int (1 - (w : Int))] = .ok (.list ((partsL P (1 - w) N).map nT)) := by
      rw [show (1 : Int) - (w : Int) = ((1 - w : Nat) : Int) by omega]
      exact k2'
    clear k2'
    have pA := parts_pos P w N
    have pB := parts_pos P (1 - w) N
    show defD (tbl (ds22 ++ [recD ds22 3 9 s22 m])) 3 9 s22 _ = _
    have hC : chosen P w N = if (partsL P w N).length = 1 then partsL P (1 - w) N else partsL P w N := rfl
    have hsub := fun p (hp : p ∈ chosen P w N) => chosen_short hp
    have hsum := chosen_sum P w N
    have hrl := readM_len P w m
    have hrd : readM P w (m + 1) N = if N.length < 2 then (N, none) else if (chosen P w N).length = 1 then ([], some N) else goM (readM P w m) (chosen P w N) [] := rfl
    rw [hrd]
    clear hrd
    generalize chosen P w N = C at *
    generalize partsL P w N = A at *
    generalize partsL P (1 - w) N = B at *
    generalize readM P w m = f at *
    generalize hT : tbl (ds22 ++ [recD ds22 3 9 s22 m]) = T at *
    refine Wp.eq (wp_def rfl ?_)
    by_cases h2 : N.length < 2
    · have h2' : (N.length : Int) < 2 := by omega
      rw [if_pos h2]
      simp [s22, startD, lenT, h2', resD, optD]
    · have h2' : ¬ (N.length : Int) < 2 := by omega
      rw [if_neg h2]
      unfold s22
      refine wp_cons (R := fun ρ => ρ = [some (.tuple (P.map pD)), some (nT N), some (.int w), none, none, none, none, none, none]) ?_ fun ρ1 h => ?_
      · simp [startD, lenT, h2']
      subst h
      refine wp_cons (R := fun ρ => A.length = 1 ∧ B.length = 1 ∧ ∃ x3 x4 x5 x6 x7 x8 : Option D, ρ = [some (.tuple (P.map pD)), some (nT N), some (.int w), x3, x4, x5, x6, x7, x8]) ?_ fun ρ1 h => ?_
      · simp only [x_S_den_for, forS_eq, wp_bind]
        rw [show (I.den T _ _ : Rs (List D)) = .ok ([(w : Int), 1 - (w : Int)].map PyData.int) by simp, wp_ok]
        refine wp_for (fun k ρ => (∃ x3 x4 x5 x6 x7 x8 : Option D, ρ = [some (.tuple (P.map pD)), some (nT N), some (.int w), x3, x4, x5, x6, x7, x8]) ∧ (1 ≤ k → A.length = 1) ∧ (2 ≤ k → B.length = 1)) _ _ 0 ⟨⟨_, _, _, _, _, _, rfl⟩, fun h => by omega, fun h => by omega⟩ (fun i v ρ hi hI => ?_) fun ρ hI => ?_
        · obtain ⟨⟨x3, x4, x5, x6, x7, x8, rfl⟩, hA, hB⟩ := hI
          obtain ⟨E, hE, hEp, hEC, hE1⟩ : ∃ E : List (List Nat), d21 [.tuple (P.map pD), nT N, .int v] = .ok (.list (E.map nT)) ∧ 1 ≤ E.length ∧ (1 < E.length → C = E) ∧ (E.length = 1 → (1 ≤ 0 + i + 1 → A.length = 1) ∧ (2 ≤ 0 + i + 1 → B.length = 1)) := by
            have hi2 : i = 0 ∨ i = 1 := by
              have := (List.getElem?_eq_some_iff.mp hi).1
              simp at this
              omega
            rcases hi2 with rfl | rfl
            · have hv : v = (w : Int) := by simpa using hi.symm
              rw [hv]
              exact ⟨A, k1, pA, fun h => by rw [hC, if_neg (by omega)], fun h => ⟨fun _ => h, fun h => by omega⟩⟩
            · have hv : v = 1 - (w : Int) := by simpa using hi.symm
              rw [hv]
              have a1 := hA (by omega)
              exact ⟨B, k2, pB, fun h => by rw [hC, if_pos a1], fun h => ⟨fun _ => a1, fun _ => h⟩⟩
          simp only [tg1, setN_eq, wp_ok]
          refine wp_cons (R := fun ρ => ρ = [some (.tuple (P.map pD)), some (nT N), some (.int w), some (.int v), some (.list (E.map nT)), x5, x6, x7, x8]) ?_ fun ρ1 h => ?_
          · simp [e21, hE]
          subst h
          by_cases h1 : 1 < E.length
          · have hCE := hEC h1
            have hlen : ∀ p ∈ C, p.length < m := fun p hp => by
              have := (hsub p hp).2 (by rw [hCE]; omega)
              omega
            have hn1 : ¬ C.length = 1 := by rw [hCE]; omega
            rw [← hCE]
            rw [if_neg hn1]
            have h1' : (1 : Int) < (C.length : Int) := by rw [hCE]; omega
            refine wp_cons (R := fun _ => False) ?_ fun ρ1 h => h.elim
            refine wp_if true (by simp [h1']) ?_
            rw [if_pos rfl]
            refine wp_cons (R := fun ρ => ρ = [some (.tuple (P.map pD)), some (nT N), some (.int w), some (.int v), some (.list (C.map nT)), some (nT []), x6, x7, x8]) ?_ fun ρ1 h => ?_
            · simp [nT]
            subst h
            refine wp_cons (R := fun ρ => ∃ (acc : List Nat) (x6 x7 x8 : Option D), ρ = [some (.tuple (P.map pD)), some (nT N), some (.int w), some (.int v), some (.list (C.map nT)), some (nT acc), x6, x7, x8] ∧ goM f C [] = (acc, none)) ?_ fun ρ1 h => ?_
            · simp only [x_S_den_for, forS_eq, wp_bind]
              rw [show (I.den T _ _ : Rs (List D)) = .ok (C.map nT) by simp, wp_ok]
              refine wp_for (fun k ρ => ∃ (acc : List Nat) (x6 x7 x8 : Option D), ρ = [some (.tuple (P.map pD)), some (nT N), some (.int w), some (.int v), some (.list (C.map nT)), some (nT acc), x6, x7, x8] ∧ goM f C [] = goM f (C.drop k) acc ∧ acc.length + ((C.drop k).map List.length).sum ≤ N.length) _ _ 0 ⟨[], x6, x7, x8, rfl, rfl, by simp [hsum]⟩ (fun i p ρ hi hI => ?_) fun ρ hI => ?_
              · obtain ⟨acc, x6, x7, x8, rfl, hg, hb⟩ := hI
                obtain ⟨hil, he⟩ := List.getElem?_eq_some_iff.mp hi
                have hd : C.drop (0 + i) = p :: C.drop (i + 1) := by rw [Nat.zero_add, List.drop_eq_getElem_cons hil, he]
                rw [hd] at hg hb
                have hp : p ∈ C := he ▸ List.getElem_mem hil
                have hr := ih p (hlen p hp) (fun n hn => hN n ((hsub p hp).1.subset hn)) (by have := (hsub p hp).1.length_le; omega)
                have hpl := hrl p
                rw [List.map_cons, List.sum_cons] at hb
                have hstep : goM f (p :: C.drop (i + 1)) acc = (match f p with
                  | (_, some s) => ([], some s)
                  | (o, none) => goM f (C.drop (i + 1)) (acc ++ o)) := rfl
                rw [hstep] at hg
                clear hstep
                cases e : f p with
                | mk o s =>
                  rw [e] at hg hr hpl
                  dsimp only at hpl hg
                  cases s with
                  | some s =>
                    dsimp only at hg
                    have hr' : recD ds22 3 9 s22 m [.tuple (P.map pD), nT p, .int w] = .ok (.tuple [nT o, nT s]) := hr
                    have hin : isD true (nT s) .none = .ok (.bool true) := rfl
                    simp [e22, hr', hin, hg, resD, optD]
                    rfl
                  | none =>
                    dsimp only at hg
                    have hr' : recD ds22 3 9 s22 m [.tuple (P.map pD), nT p, .int w] = .ok (.tuple [nT o, .none]) := hr
                    have hin : isD true .none .none = .ok (.bool false) := rfl
                    have hab : addD (nT acc) (nT o) = .ok (nT (acc ++ o)) := by
                      unfold nT
                      have : acc.length + o.length ≤ big := by unfold big; omega
                      simp [this]
                    simp [e22, hr', hin, hab]
                    refine ⟨acc ++ o, rfl, ?_, ?_⟩
                    · rw [hg]
                    · simp at hb ⊢
                      omega
              · obtain ⟨acc, x6, x7, x8, rfl, hg, hb⟩ := hI
                have : C.drop (0 + C.length) = [] := List.drop_eq_nil_of_le (by omega)
                rw [this] at hg
                exact ⟨acc, x6, x7, x8, rfl, hg⟩
            obtain ⟨acc, x6, x7, x8, rfl, hg⟩ := h
            simp [hg, resD, optD]
          · have h1' : ¬ (1 : Int) < (E.length : Int) := by omega
            have h9 := hE1 (by omega)
            simp at h9
            simp [h1']
            first | exact h9 | simpa using h9
        · obtain ⟨h1, h3, h4⟩ := hI
          exact ⟨h3 (by simp), h4 (by simp), h1⟩
      · obtain ⟨a1, b1, x3, x4, x5, x6, x7, x8, rfl⟩ := h
        have hC1 : C.length = 1 := by rw [hC, if_pos a1]; exact b1
        rw [if_pos hC1]
        simp [resD, optD]
        rfl
end K13
namespace K13
open PySem PySem.Spec Den
theorem c8x {v a : D} (h : d4 [v] = .ok (.bool false)) : d8 [v, a] = .exc 0 := by
  have e5 : tbl ds8 5 = d5 := rfl
  simp [d8, defD, s8, startD, seqS, e5, v5x h]
theorem c9x {v a : D} (h : d4 [v] = .ok (.bool false)) : d9 [v, a] = .exc 0 := by
  have e8 : tbl ds9 8 = d8 := rfl
  simp [d9, defD, s9, startD, seqS, e8, c8x h]
theorem c10x {v a : D} (h : d4 [v] = .ok (.bool false)) : d10 [v, a] = .exc 0 := by
  have e8 : tbl ds10 8 = d8 := rfl
  simp [d10, defD, s10, startD, seqS, e8, c8x h]
theorem c13x {v : D} (h : d4 [v] = .ok (.bool false)) : d13 [v] = .exc 0 ∧ d14 [v] = .exc 0 ∧ d15 [v] = .exc 0 ∧ d16 [v] = .exc 0 := by
  have a1 : tbl ds13 5 = d5 := rfl
  have a2 : tbl ds14 5 = d5 := rfl
  have a3 : tbl ds15 5 = d5 := rfl
  have a4 : tbl ds16 5 = d5 := rfl
  refine ⟨?_, ?_, ?_, ?_⟩
  · simp [d13, defD, s13, startD, seqS, a1, v5x h]
  · simp [d14, defD, s14, startD, seqS, a2, v5x h]
  · simp [d15, defD, s15, startD, seqS, a3, v5x h]
  · simp [d16, defD, s16, startD, seqS, a4, v5x h]
end K13
namespace K13
open PySem PySem.Spec Den
def ascB : List Nat → Bool
  | a :: b :: r => decide (a < b) && ascB (b :: r)
  | _ => true
def prsN : List Nat → List (Nat × Nat)
  | a :: b :: r => (a, b) :: prsN (b :: r)
  | _ => []
theorem zip_prs : ∀ N : List Nat, zipL (N.map fun n : Nat => PyData.int (n : Int)) ((N.map fun n : Nat => PyData.int (n : Int)).drop 1) = (prsN N).map fun p => PyData.tuple [.int (p.1 : Int), .int (p.2 : Int)]
  | [] => rfl
  | [a] => rfl
  | a :: b :: r => by
    have ih := zip_prs (b :: r)
    simp only [List.map_cons, List.drop_succ_cons, List.drop_zero] at ih ⊢
    simp only [zipL, prsN, List.map_cons]
    rw [← ih]
theorem asc_prs : ∀ N : List Nat, ascB N = (prsN N).all fun p => decide (p.1 < p.2)
  | [] => rfl
  | [a] => rfl
  | a :: b :: r => by
    unfold ascB prsN
    rw [List.all_cons, asc_prs (b :: r)]
end K13
namespace K13
open PySem PySem.Spec Den
theorem nT_eq (N : List Nat) : eqD (nT N) (.tuple []) = .ok (.bool (decide (N = []))) := by
  have := eqD_e (α := Tu Nat) (by decide) ⟨N⟩ ⟨[]⟩
  have e : decide ((⟨N⟩ : Tu Nat) = ⟨[]⟩) = decide (N = []) := by
    rw [decide_eq_decide]
    constructor
    · intro h; injection h
    · intro h; rw [h]
  rw [e] at this
  exact this
theorem c8 {P : List Pan} (ok : okPage P = true) {N : List Nat} (h0 : N ≠ []) (hN : ∀ n ∈ N, n < P.length) (ha : ascB N = true) (hl : N.length ≤ 8) : d8 [.tuple (P.map pD), nT N] = .ok .none := by
  have e5 : tbl ds8 5 = d5 := rfl
  have e0 : tbl ds8 0 = d0 := rfl
  have h1 := nT_eq N
  rw [decide_eq_false h0] at h1
  have k1 : compL (setN 2) (fun _ => Rs.ok true) (appE d0 (consArg (vaR 2) (consArg (fun _ => Rs.ok (PyData.int 0)) (consArg (bi subD (appE lenD (consArg (vaR 0) noArg)) fun _ => Rs.ok (PyData.int 1)) noArg)))) [some (.tuple (P.map pD)), some (nT N), none, none] (N.map fun n : Nat => PyData.int (n : Int)) = .ok (N.map fun n => PyData.bool true) := by
    refine compL_all _ fun n hn => ?_
    have := hN n hn
    have h2 : (n : Int) ≤ (P.length : Int) - 1 := by omega
    simp [v0, inR, h2]
  have k2 := allD_map (fun _ : Nat => true) N
  have k3 : compL (setT [2, 3]) (fun _ => Rs.ok true) (bi (ordD fun i j => decide (i < j)) (vaR 2) (vaR 3)) [some (.tuple (P.map pD)), some (nT N), none, none] ((prsN N).map fun p => PyData.tuple [.int (p.1 : Int), .int (p.2 : Int)]) = .ok ((prsN N).map fun p => PyData.bool (decide (p.1 < p.2))) := by
    refine compL_all _ fun p _ => ?_
    simp
  have k4 := allD_map (fun p : Nat × Nat => decide (p.1 < p.2)) (prsN N)
  rw [← asc_prs, ha] at k4
  have k5 := zip_prs N
  have s0 : seqD (nT N) = .ok (N.map fun n : Nat => PyData.int (n : Int)) := rfl
  have i0 : isiD .tuple (nT N) = true := rfl
  have sl : slD (some 1) none (nT N) = .ok (.tuple ((N.map fun n : Nat => PyData.int (n : Int)).drop 1)) := by
    have := cut_from (N.map fun n : Nat => PyData.int (n : Int)) 1
    show Rs.ok (PyData.tuple (cutD _ (some 1) none)) = _
    rw [show (1 : Int) = ((1 : Nat) : Int) from rfl, this]
  refine Wp.eq (wp_def rfl ?_)
  unfold s8
  refine wp_cons (R := fun ρ => ρ = [some (.tuple (P.map pD)), some (nT N), none, none]) ?_ fun ρ1 h => ?_
  · simp [startD, e5, v5ok ok]
  subst h
  refine wp_cons (R := fun ρ => ρ = [some (.tuple (P.map pD)), some (nT N), none, none]) ?_ fun ρ1 h => ?_
  · refine wp_if false ?_ rfl
    simp at k2
    simp [i0, h1, s0, e0, k1, k2]
  subst h
  refine wp_cons (R := fun ρ => ρ = [some (.tuple (P.map pD)), some (nT N), none, none]) ?_ fun ρ1 h => ?_
  · refine wp_if false ?_ rfl
    have zd : zipD [nT N, .tuple ((N.map fun n : Nat => PyData.int (n : Int)).drop 1)] = .ok ((prsN N).map fun p => PyData.tuple [.int (p.1 : Int), .int (p.2 : Int)]) := by
      rw [← k5]
      have : (N.map fun n : Nat => PyData.int (n : Int)).length ≤ big := by rw [List.length_map]; unfold big; omega
      show (if _ then _ else _) = _
      rw [if_pos this]
    rw [List.drop_one] at sl zd
    simp [zipE, sl, zd, k3, k4]
  subst h
  rfl
theorem c9 {P : List Pan} (hP : Good P) (ok : okPage P = true) {N : List Nat} (h0 : N ≠ []) (hN : ∀ n ∈ N, n < P.length) (ha : ascB N = true) (hl : N.length ≤ 8) : d9 [.tuple (P.map pD), nT N] = .ok (.list ((partsL P 1 N).map nT)) := by
  have e8 : tbl ds9 8 = d8 := rfl
  have e7 : tbl ds9 7 = d7 := rfl
  have k := c7 (P := P) (w := 1) (by omega) hN hl
  rw [parts_eq fun n hn => hP 1 n (by omega) (hN n hn)] at k
  have k' : d7 [.tuple (P.map pD), nT N, .int 1] = _ := k
  refine Wp.eq (wp_def rfl ?_)
  simp [s9, startD, e8, e7, c8 ok h0 hN ha hl, k']
theorem c10 {P : List Pan} (hP : Good P) (ok : okPage P = true) {N : List Nat} (h0 : N ≠ []) (hN : ∀ n ∈ N, n < P.length) (ha : ascB N = true) (hl : N.length ≤ 8) : d10 [.tuple (P.map pD), nT N] = .ok (.list ((partsL P 0 N).map nT)) := by
  have e8 : tbl ds10 8 = d8 := rfl
  have e7 : tbl ds10 7 = d7 := rfl
  have k := c7 (P := P) (w := 0) (by omega) hN hl
  rw [parts_eq fun n hn => hP 0 n (by omega) (hN n hn)] at k
  have k' : d7 [.tuple (P.map pD), nT N, .int 0] = _ := k
  refine Wp.eq (wp_def rfl ?_)
  simp [s10, startD, e8, e7, c8 ok h0 hN ha hl, k']
def badsP (m : Nat) : List D := [.none, .tuple [], .list [.int 0], .tuple [.int 0, .int 0], .tuple [.int 1, .int 0], .tuple [.int m], .tuple [.int (-1)], .tuple [.bool true], .str "0"]
theorem c8b {P : List Pan} (ok : okPage P = true) {b : D} (hb : b ∈ badsP P.length) : d8 [.tuple (P.map pD), b] = .exc 1 := by
  have e5 : tbl ds8 5 = d5 := rfl
  have e0 : tbl ds8 0 = d0 := rfl
  have k5 := v5ok ok
  have i1 : isiD .tuple .none = false := rfl
  have i2 : isiD .tuple (.list [.int 0]) = false := rfl
  have i3 : isiD .tuple (.str "0") = false := rfl
  have i4 : ∀ l, isiD .tuple (.tuple l) = true := fun _ => rfl
  have q1 : eqD (.tuple []) (.tuple []) = .ok (.bool true) := nT_eq []
  have q2 : eqD (.tuple [.int 0, .int 0]) (.tuple []) = .ok (.bool false) := nT_eq [0, 0]
  have q3 : eqD (.tuple [.int 1, .int 0]) (.tuple []) = .ok (.bool false) := nT_eq [1, 0]
  have q4 : eqD (.tuple [.int P.length]) (.tuple []) = .ok (.bool false) := nT_eq [P.length]
  have q5 : eqD (.tuple [.int (-1)]) (.tuple []) = .ok (.bool false) := rfl
  have q6 : eqD (.tuple [.bool true]) (.tuple []) = .ok (.bool false) := rfl
  have nb : ∀ a b, d0 [.bool true, .int a, .int b] = .ok (.bool false) := notnum _ (by simp)
  simp only [badsP, List.mem_cons, List.not_mem_nil, or_false] at hb
  rcases hb with rfl | rfl | rfl | rfl | rfl | rfl | rfl | rfl | rfl
  · simp [d8, defD, s8, startD, seqS, e5, k5, i1]
  · simp [d8, defD, s8, startD, seqS, e5, k5, i4, q1]
  · simp [d8, defD, s8, startD, seqS, e5, k5, i2]
  · have z1 : slD (some 1) none (.tuple [.int 0, .int 0]) = .ok (.tuple [.int 0]) := rfl
    have z2 : zipD [.tuple [.int 0, .int 0], .tuple [.int 0]] = .ok [.tuple [.int 0, .int 0]] := rfl
    by_cases hp : (P.length : Int) < 1
    · simp [d8, defD, s8, startD, seqS, e5, k5, i4, q2, e0, v0, inR, hp, compL, allD, blsO]
    · simp [d8, defD, s8, startD, seqS, e5, k5, i4, q2, e0, v0, inR, hp, compL, allD, blsO, zipE, z1, z2]
  · have z1 : slD (some 1) none (.tuple [.int 1, .int 0]) = .ok (.tuple [.int 0]) := rfl
    have z2 : zipD [.tuple [.int 1, .int 0], .tuple [.int 0]] = .ok [.tuple [.int 1, .int 0]] := rfl
    by_cases hp : (1 : Int) ≤ (P.length : Int) - 1
    · have hp' : ¬ (P.length : Int) < 1 := by omega
      simp [d8, defD, s8, startD, seqS, e5, k5, i4, q3, e0, v0, inR, hp, hp', compL, allD, blsO, zipE, z1, z2]
    · simp [d8, defD, s8, startD, seqS, e5, k5, i4, q3, e0, v0, inR, hp, compL, allD, blsO]
  · have : ¬ (P.length : Int) ≤ (P.length : Int) - 1 := by omega
    simp [d8, defD, s8, startD, seqS, e5, k5, i4, q4, e0, v0, inR, this, compL, allD, blsO]
  · simp [d8, defD, s8, startD, seqS, e5, k5, i4, q5, e0, v0, inR, compL, allD, blsO]
  · simp [d8, defD, s8, startD, seqS, e5, k5, i4, q6, e0, nb, inR, compL, allD, blsO]
  · simp [d8, defD, s8, startD, seqS, e5, k5, i3]
end K13
namespace K13
open PySem PySem.Spec Den
theorem c20x {v a : D} (h : d4 [v] = .ok (.bool false)) : ∀ k : Nat, k < 6 → d20 [.int k, v, a] = .ok (.int 0) := by
  have e1 : tbl ds20 14 = d14 := rfl
  have e2 : tbl ds20 13 = d13 := rfl
  have e3 : tbl ds20 16 = d16 := rfl
  have e4 : tbl ds20 15 = d15 := rfl
  have e5 : tbl ds20 10 = d10 := rfl
  have e6 : tbl ds20 9 = d9 := rfl
  obtain ⟨h1, h2, h3, h4⟩ := c13x h
  have h5 := c9x (a := a) h
  have h6 := c10x (a := a) h
  intro k hk
  have : k = 0 ∨ k = 1 ∨ k = 2 ∨ k = 3 ∨ k = 4 ∨ k = 5 := by omega
  rcases this with rfl | rfl | rfl | rfl | rfl | rfl <;> simp [d20, defD, s20, startD, seqS, tryD, ccD, e1, e2, e3, e4, e5, e6, h1, h2, h3, h4, h5, h6, intD]
theorem c9b {P : List Pan} (ok : okPage P = true) {b : D} (hb : b ∈ badsP P.length) : d9 [.tuple (P.map pD), b] = .exc 1 := by
  have e8 : tbl ds9 8 = d8 := rfl
  simp [d9, defD, s9, startD, seqS, e8, c8b ok hb]
theorem c10b {P : List Pan} (ok : okPage P = true) {b : D} (hb : b ∈ badsP P.length) : d10 [.tuple (P.map pD), b] = .exc 1 := by
  have e8 : tbl ds10 8 = d8 := rfl
  simp [d10, defD, s10, startD, seqS, e8, c8b ok hb]
theorem c20b {P : List Pan} (ok : okPage P = true) {b : D} (hb : b ∈ badsP P.length) : d20 [.int 4, .tuple (P.map pD), b] = .ok (.int 1) ∧ d20 [.int 5, .tuple (P.map pD), b] = .ok (.int 1) := by
  have e5 : tbl ds20 10 = d10 := rfl
  have e6 : tbl ds20 9 = d9 := rfl
  have h5 := c9b ok hb
  have h6 := c10b ok hb
  constructor <;> simp [d20, defD, s20, startD, seqS, tryD, ccD, e5, e6, h5, h6, intD]
theorem Good.of {P : List Pan} (h : Sheet P) : Good P := by
  intro w n hw hn
  rw [loN_eq hn, hiN_eq hn]
  have := h.box P[n] (List.getElem_mem hn)
  unfold lo hi
  have : w = 0 ∨ w = 1 := by omega
  rcases this with rfl | rfl <;> simp <;> omega
theorem optD_ne (o o' : Option (List Nat)) : neD (optD o) (optD o') = .ok (.bool (!decide (o = o'))) := by
  cases o with
  | none =>
    cases o' with
    | none => rfl
    | some b =>
      have : neD .none (nT b) = .ok (.bool true) := by
        unfold neD
        have h1 : SeqAt.shaped (nT b) = true := shaped_of (Enc.sh (Tu.mk b)) (by decide)
        rw [if_pos ⟨rfl, h1⟩]; rfl
      exact this
  | some a =>
    cases o' with
    | none =>
      have : neD (nT a) .none = .ok (.bool true) := by
        unfold neD
        have h1 : SeqAt.shaped (nT a) = true := shaped_of (Enc.sh (Tu.mk a)) (by decide)
        rw [if_pos ⟨h1, rfl⟩]; rfl
      exact this
    | some b =>
      have := neD_e (α := Tu Nat) (by decide) ⟨a⟩ ⟨b⟩
      have e : decide ((⟨a⟩ : Tu Nat) = ⟨b⟩) = decide (some a = some b) := by
        rw [decide_eq_decide]
        constructor
        · intro h; injection h with h; rw [h]
        · intro h; injection h with h; rw [h]
      rw [e] at this
      exact this
def ordO (r : List Nat × Option (List Nat)) : Option (List Nat) := if r.2 = none then some r.1 else none
theorem ordD_o (r : List Nat × Option (List Nat)) : ordD' r = optD (ordO r) := by
  obtain ⟨o, s⟩ := r
  cases s <;> rfl
theorem partsE_ne (A : List (List Nat)) : neD (.list (A.map nT)) (.list (A.map nT)) = .ok (.bool false) := by
  have := neD_e (α := List (Tu Nat)) (by decide) (A.map Tu.mk) (A.map Tu.mk)
  have e : (Enc.e (A.map Tu.mk) : D) = .list (A.map nT) := by
    show PyData.list ((A.map Tu.mk).map Enc.e) = _
    rw [List.map_map]; rfl
  rw [e] at this
  simpa using this
theorem r22w {P : List Pan} {w : Nat} (hw : w < 2) (hl : P.length ≤ 8) : d22 [.tuple (P.map pD), nT (List.range P.length), .int w] = .ok (resD (readM P w 12 (List.range P.length))) :=
  r22 hw 12 (List.range P.length) (by simp; omega) (fun n hn => by simpa using hn) (by simpa using hl)
theorem asc_filter (p : Nat → Bool) (n : Nat) : ascB ((List.range n).filter p) = true := by
  have key : ∀ N : List Nat, N.Pairwise (· < ·) → ascB N = true := by
    intro N h
    induction N with
    | nil => rfl
    | cons a r ih =>
      cases r with
      | nil => rfl
      | cons b r =>
        have h1 := List.pairwise_cons.mp h
        unfold ascB
        rw [ih h1.2]
        simp [h1.1 b List.mem_cons_self]
  exact key _ (List.pairwise_lt_range.filter p)
end K13
namespace K13
open PySem PySem.Spec Den
def wheel : List Pan := [⟨2, 0, 8, 2⟩, ⟨6, 2, 8, 8⟩, ⟨0, 6, 6, 8⟩, ⟨0, 0, 2, 6⟩]
theorem wheelS : Sheet wheel := ⟨by decide, by decide⟩
theorem nilS : Sheet [] := ⟨fun p h => (by cases h), .nil⟩
def loopA : Ss := (.cons (.set 8 "_law_part" ⟨177, 8, 177, 17⟩ (.prim .tuple ⟨177, 20, 177, 25⟩ (.comp (.var 13 "_law_number" ⟨177, 27, 177, 38⟩) (.nm 13 "_law_number" ⟨177, 43, 177, 54⟩) (.seq (.var 2 "_law_whole" ⟨177, 58, 177, 68⟩)) (.cons (.cmp .gt (.call 17 "_law_drawn" ⟨177, 72, 177, 82⟩ (.var 0 "_law_script" ⟨177, 83, 177, 94⟩) (.cons (.bin .add (.bin .add (.cst (.int 70) 0 ⟨177, 96, 177, 98⟩) (.bin .mul (.cst (.int 8) 0 ⟨177, 101, 177, 102⟩) (.var 7 "_law_k" ⟨177, 105, 177, 111⟩) ⟨177, 101, 177, 111⟩) ⟨177, 96, 177, 111⟩) (.var 13 "_law_number" ⟨177, 114, 177, 125⟩) ⟨177, 96, 177, 125⟩) (.cons (.cst (.int 3) 0 ⟨177, 127, 177, 128⟩) .nil)) ⟨177, 72, 177, 129⟩) (.cst (.int 0) 0 ⟨177, 132, 177, 133⟩) ⟨177, 72, 177, 133⟩) .nil) ⟨.function, [(".0", .local), ("_law_number", .local), ("_law_drawn", .globalImplicit), ("_law_k", .free), ("_law_script", .free)], false, false, []⟩ [("_law_number", 13)] ⟨177, 26, 177, 134⟩) .nil ⟨177, 20, 177, 135⟩) ⟨177, 8, 177, 135⟩)
    (.cons (.iff (.cmp .ne (.var 8 "_law_part" ⟨178, 11, 178, 20⟩) (.tup .nil 0 ⟨178, 24, 178, 26⟩) ⟨178, 11, 178, 26⟩) (.cons (.iff (.cmp .ne (.call 9 "row_parts" ⟨179, 15, 179, 24⟩ (.var 1 "_law_page_here" ⟨179, 25, 179, 39⟩) (.cons (.var 8 "_law_part" ⟨179, 41, 179, 50⟩) .nil) ⟨179, 15, 179, 51⟩) (.call 21 "_law_parts" ⟨179, 55, 179, 65⟩ (.var 1 "_law_page_here" ⟨179, 66, 179, 80⟩) (.cons (.var 8 "_law_part" ⟨179, 82, 179, 91⟩) (.cons (.cst (.int 1) 0 ⟨179, 93, 179, 94⟩) .nil)) ⟨179, 55, 179, 95⟩) ⟨179, 15, 179, 95⟩) (.cons (.ret (.cst (.bl false) 0 ⟨180, 23, 180, 28⟩) ⟨180, 16, 180, 28⟩)
    .nil) .nil ⟨179, 12, 180, 28⟩)
    (.cons (.iff (.cmp .ne (.call 10 "column_parts" ⟨181, 15, 181, 27⟩ (.var 1 "_law_page_here" ⟨181, 28, 181, 42⟩) (.cons (.var 8 "_law_part" ⟨181, 44, 181, 53⟩) .nil) ⟨181, 15, 181, 54⟩) (.call 21 "_law_parts" ⟨181, 58, 181, 68⟩ (.var 1 "_law_page_here" ⟨181, 69, 181, 83⟩) (.cons (.var 8 "_law_part" ⟨181, 85, 181, 94⟩) (.cons (.cst (.int 0) 0 ⟨181, 96, 181, 97⟩) .nil)) ⟨181, 58, 181, 98⟩) ⟨181, 15, 181, 98⟩) (.cons (.ret (.cst (.bl false) 0 ⟨182, 23, 182, 28⟩) ⟨182, 16, 182, 28⟩)
    .nil) .nil ⟨181, 12, 182, 28⟩)
    .nil)) .nil ⟨178, 8, 182, 28⟩)
    .nil))
theorem loop4 {ns : List Int} (hlen : ns.length ≤ 63) {P : List Pan} (hP : Good P) (ok : okPage P = true) (x3 x4 x5 x6 x7 x8 : Option D) (k : Nat) : Wp (Ss.den (tbl ds23) loopA [some (intsD ns), some (.tuple (P.map pD)), some (nT (List.range P.length)), x3, x4, x5, x6, some (.int k), x8, none, none, none, none, none, none]) fun p => match p with
      | (.nx, ρ2) => ∃ x7 x8 : Option D, ρ2 = [some (intsD ns), some (.tuple (P.map pD)), some (nT (List.range P.length)), x3, x4, x5, x6, x7, x8, none, none, none, none, none, none]
      | _ => False := by
  have hl := okLen ok
  have e17 : tbl ds23 17 = d17 := rfl
  have e9 : tbl ds23 9 = d9 := rfl
  have e10 : tbl ds23 10 = d10 := rfl
  have e21 : tbl ds23 21 = d21 := rfl
  have hd : ∀ n : Nat, ∃ r : Nat, d17 [intsD ns, .int (70 + 8 * (k : Int) + (n : Int)), .int 3] = .ok (.int r) ∧ (r : Int) < 3 := fun n => drawnI ns hlen _ 3 (by omega) (by omega)
  obtain ⟨f, hf⟩ : ∃ f : Nat → Nat, ∀ n : Nat, d17 [intsD ns, .int (70 + 8 * (k : Int) + (n : Int)), .int 3] = .ok (.int (f n)) := ⟨fun n => (hd n).choose, fun n => (hd n).choose_spec.1⟩
  have k0 : ∀ x8 : Option D, compL (setN 13) (tstE (bi (ordD fun i j => decide (j < i)) (appE d17 (consArg (vaR 0) (consArg (bi addD (bi addD (fun _ => Rs.ok (PyData.int 70)) (bi mulD (fun _ => Rs.ok (PyData.int 8)) (vaR 7))) (vaR 13)) (consArg (fun _ => Rs.ok (PyData.int 3)) noArg)))) fun _ => Rs.ok (PyData.int 0))) (vaR 13) [some (intsD ns), some (.tuple (P.map pD)), some (nT (List.range P.length)), x3, x4, x5, x6, some (.int k), x8, none, none, none, none, none, none] ((List.range P.length).map fun n : Nat => PyData.int (n : Int)) = .ok (((List.range P.length).filter fun n => decide (0 < f n)).map fun n : Nat => PyData.int (n : Int)) := fun x8 => by
    refine compL_map _ fun n hn => ?_
    simp [hf]
  have s0 : seqD (nT (List.range P.length)) = .ok ((List.range P.length).map fun n : Nat => PyData.int (n : Int)) := rfl
  have hN : ∀ n ∈ (List.range P.length).filter fun n => decide (0 < f n), n < P.length := fun n hn => by simpa using (List.mem_filter.mp hn).1
  have hNl : ((List.range P.length).filter fun n => decide (0 < f n)).length ≤ 8 := by
    refine Nat.le_trans (List.length_filter_le _ _) ?_
    simpa using hl
  have hNa := asc_filter (fun n => decide (0 < f n)) P.length
  unfold loopA
  generalize hG : (List.range P.length).filter (fun n => decide (0 < f n)) = N at *
  refine wp_cons (R := fun ρ => ρ = [some (intsD ns), some (.tuple (P.map pD)), some (nT (List.range P.length)), x3, x4, x5, x6, some (.int k), some (nT N), none, none, none, none, none, none]) ?_ fun ρ1 h => ?_
  · simp [e17, s0, k0]
    rfl
  subst h
  have n0 := nT_ne N
  by_cases h0 : N = []
  · refine wp_cut0 (R := fun ρ => ∃ x7 x8 : Option D, ρ = [some (intsD ns), some (.tuple (P.map pD)), some (nT (List.range P.length)), x3, x4, x5, x6, x7, x8, none, none, none, none, none, none]) ?_ fun ρ1 h => h
    rw [decide_eq_true h0] at n0
    refine wp_if false (by simp [n0]) ?_
    exact ⟨_, _, rfl⟩
  · refine wp_cut0 (R := fun ρ => ∃ x7 x8 : Option D, ρ = [some (intsD ns), some (.tuple (P.map pD)), some (nT (List.range P.length)), x3, x4, x5, x6, x7, x8, none, none, none, none, none, none]) ?_ fun ρ1 h => h
    rw [decide_eq_false h0] at n0
    refine wp_if true (by simp [n0]) ?_
    have a1 := c9 hP ok h0 hN hNa hNl
    have a2 := c10 hP ok h0 hN hNa hNl
    have b1 := c21 (P := P) (w := 1) (by omega) hN hNl
    have b2 := c21 (P := P) (w := 0) (by omega) hN hNl
    have b1' : d21 [.tuple (P.map pD), nT N, .int 1] = _ := b1
    have b2' : d21 [.tuple (P.map pD), nT N, .int 0] = _ := b2
    have q1 := partsE_ne (partsL P 1 N)
    have q2 := partsE_ne (partsL P 0 N)
    generalize partsL P 1 N = A1 at *
    generalize partsL P 0 N = A2 at *
    simp [e9, e10, e21, a1, a2, b1', b2', q1, q2]
end K13
namespace K13
open PySem PySem.Spec Den
theorem math (ns : List Int) (hlen : ns.length ≤ 63) : dLaw [.list (ns.map PyData.int)] = .ok (.bool true) := by
  obtain ⟨P, hPg, hS, hl⟩ := v14 ns hlen 10 8 (by decide) (by decide)
  have hPg' : d18 [intsD ns, .int 10, .int 8] = _ := hPg
  have hG := Good.of hS
  have ok := hS.page hl
  have e18 : tbl ds23 18 = d18 := rfl
  have e22 : tbl ds23 22 = d22 := rfl
  have e13 : tbl ds23 13 = d13 := rfl
  have e14 : tbl ds23 14 = d14 := rfl
  have e15 : tbl ds23 15 = d15 := rfl
  have e16 : tbl ds23 16 = d16 := rfl
  have e17 : tbl ds23 17 = d17 := rfl
  have e19 : tbl ds23 19 = d19 := rfl
  have e20 : tbl ds23 20 = d20 := rfl
  have r1 := r22w (P := P) (w := 1) (by decide) hl
  have r0 := r22w (P := P) (w := 0) (by decide) hl
  have r1' : d22 [.tuple (P.map pD), nT (List.range P.length), .int 1] = _ := r1
  have r0' : d22 [.tuple (P.map pD), nT (List.range P.length), .int 0] = _ := r0
  have k13 := c13 hG ok
  have k14 := c14 hG ok
  have k15 := c15 hG ok
  have k16 := c16 hG ok
  rw [ordD_o] at k13 k14
  have n1 := optD_ne (ordO (readM P 1 12 (List.range P.length))) (ordO (readM P 1 12 (List.range P.length)))
  have n2 := optD_ne (readM P 1 12 (List.range P.length)).2 (readM P 1 12 (List.range P.length)).2
  have n3 := optD_ne (ordO (readM P 0 12 (List.range P.length))) (ordO (readM P 0 12 (List.range P.length)))
  have hb : (P.length : Int) ≤ 1000000 := by omega
  have e0 : (PyData.tuple ((List.range P.length).map fun i : Nat => PyData.int (i : Int))) = nT (List.range P.length) := rfl
  have os : ∀ r, (if r.2 = none then nT r.1 else PyData.none) = optD (ordO r) := fun r => by
    obtain ⟨o, s⟩ := r
    cases s <;> rfl
  generalize readM P 1 12 (List.range P.length) = R1 at *
  generalize readM P 0 12 (List.range P.length) = R0 at *
  obtain ⟨o1, t1⟩ := R1
  obtain ⟨o0, t0⟩ := R0
  have i1 := isn t1
  have i0 := isn t0
  dsimp only at k16 k15 n2
  refine Wp.eq (wp_def rfl ?_)
  unfold s23
  refine wp_cons (R := fun ρ => ρ = [some (intsD ns), some (.tuple (P.map pD)), none, none, none, none, none, none, none, none, none, none, none, none, none]) ?_ fun ρ1 h => ?_
  · simp [startD, e18]
    rw [show PyData.list (ns.map PyData.int) = intsD ns from rfl, hPg']
    simp
  subst h
  refine wp_cons (R := fun ρ => ρ = [some (intsD ns), some (.tuple (P.map pD)), some (nT (List.range P.length)), none, none, none, none, none, none, none, none, none, none, none, none]) ?_ fun ρ1 h => ?_
  · simp [rng0_map, e0, hb]
  subst h
  refine wp_cons (R := fun ρ => ρ = [some (intsD ns), some (.tuple (P.map pD)), some (nT (List.range P.length)), some (nT o1), some (optD t1), none, none, none, none, none, none, none, none, none, none]) ?_ fun ρ1 h => ?_
  · simp [e22, r1', resD]
  subst h
  refine wp_cons (R := fun ρ => ρ = [some (intsD ns), some (.tuple (P.map pD)), some (nT (List.range P.length)), some (nT o1), some (optD t1), none, none, none, none, none, none, none, none, none, none]) ?_ fun ρ1 h => ?_
  · refine wp_if false ?_ rfl
    cases t1 with
    | none => simp [e13, e15, k13, k15, i1]; simp [optD, ordO] at n1 n2 ⊢; simp [n1, n2]
    | some t1 => simp [e13, e15, k13, k15, i1]; simp [optD, ordO] at n1 n2 ⊢; simp [n1, n2]
  subst h
  refine wp_cons (R := fun ρ => ρ = [some (intsD ns), some (.tuple (P.map pD)), some (nT (List.range P.length)), some (nT o1), some (optD t1), none, none, none, none, none, none, none, none, none, none]) ?_ fun ρ1 h => ?_
  · refine wp_if false ?_ rfl
    generalize decide (t1 = none) = b at *
    simp [e16, k16, i1, neB]
  subst h
  refine wp_cons (R := fun ρ => ρ = [some (intsD ns), some (.tuple (P.map pD)), some (nT (List.range P.length)), some (nT o1), some (optD t1), some (nT o0), some (optD t0), none, none, none, none, none, none, none, none]) ?_ fun ρ1 h => ?_
  · simp [e22, r0', resD]
  subst h
  refine wp_cons (R := fun ρ => ρ = [some (intsD ns), some (.tuple (P.map pD)), some (nT (List.range P.length)), some (nT o1), some (optD t1), some (nT o0), some (optD t0), none, none, none, none, none, none, none, none]) ?_ fun ρ1 h => ?_
  · refine wp_if false ?_ rfl
    cases t0 with
    | none => simp [e14, k14, i0]; simp [optD, ordO] at n3 ⊢; simp [n3]
    | some t0 => simp [e14, k14, i0]; simp [optD, ordO] at n3 ⊢; simp [n3]
  subst h
  generalize some (nT o1) = x3 at *
  generalize some (optD t1) = x4 at *
  generalize some (nT o0) = x5 at *
  generalize some (optD t0) = x6 at *
  refine wp_cons (R := fun ρ => ∃ x7 x8 : Option D, ρ = [some (intsD ns), some (.tuple (P.map pD)), some (nT (List.range P.length)), x3, x4, x5, x6, x7, x8, none, none, none, none, none, none]) ?_ fun ρ1 h => ?_
  · simp only [x_S_den_for, forS_eq, wp_bind]
    rw [show (I.den (tbl ds23) _ _ : Rs (List D)) = .ok ((List.range 4).map fun i : Nat => PyData.int (i : Int)) by simp [rng0_map], wp_ok]
    refine wp_for (fun k ρ => ∃ x7 x8 : Option D, ρ = [some (intsD ns), some (.tuple (P.map pD)), some (nT (List.range P.length)), x3, x4, x5, x6, x7, x8, none, none, none, none, none, none]) _ _ 0 ⟨_, _, rfl⟩ (fun i v ρ hi hI => ?_) fun ρ hI => hI
    obtain ⟨x7, x8, rfl⟩ := hI
    simp only [tg1, setN_eq, wp_ok]
    refine (loop4 hlen hG ok x3 x4 x5 x6 x7 x8 v).imp fun p hp => ?_
    obtain ⟨fl, ρ2⟩ := p
    cases fl with
    | nx => exact hp
    | rt d => exact hp.elim
    | bk => exact hp.elim
    | ct => exact hp.elim
  obtain ⟨x7, x8, rfl⟩ := h
  refine wp_cons (R := fun ρ => ρ = [some (intsD ns), some (.tuple (P.map pD)), some (nT (List.range P.length)), x3, x4, x5, x6, x7, x8, some (.tuple (wheel.map pD)), none, none, none, none, none]) ?_ fun ρ1 h => ?_
  · simp [wheel, pD]
  subst h
  refine wp_cons (R := fun ρ => ρ = [some (intsD ns), some (.tuple (P.map pD)), some (nT (List.range P.length)), x3, x4, x5, x6, x7, x8, some (.tuple (wheel.map pD)), none, none, none, none, none]) ?_ fun ρ1 h => ?_
  · refine wp_if false ?_ rfl
    have w1 := c15 (Good.of wheelS) (wheelS.page (by decide))
    have w2 := c13 (Good.of wheelS) (wheelS.page (by decide))
    have w3 := c13 (Good.of nilS) (nilS.page (by decide))
    have w4 : readM wheel 1 12 (List.range wheel.length) = ([], some [0, 1, 2, 3]) := by decide +kernel
    have w5 : readM [] 1 12 (List.range ([] : List Pan).length) = ([], none) := by decide +kernel
    rw [w4] at w1 w2
    rw [w5] at w3
    have z1 : neD (nT [0, 1, 2, 3]) (.tuple [.int 0, .int 1, .int 2, .int 3]) = .ok (.bool false) := rfl
    have z2 : neD (nT []) (.tuple []) = .ok (.bool false) := rfl
    have w3' : d13 [.tuple []] = .ok (nT []) := w3
    have z3 : isD true .none .none = .ok (.bool false) := rfl
    generalize PyData.tuple (wheel.map pD) = W at *
    simp [e13, e15, w1, w2, w3', optD, ordD', z1, z2, z3]
  subst h
  obtain ⟨b, hb1, hb2⟩ := v17 ns hlen 1
  have hb1' : d19 [intsD ns, .int 1] = .ok b := hb1
  refine wp_cons (R := fun ρ => ρ = [some (intsD ns), some (.tuple (P.map pD)), some (nT (List.range P.length)), x3, x4, x5, x6, x7, x8, some (.tuple (wheel.map pD)), some b, none, none, none, none]) ?_ fun ρ1 h => ?_
  · simp [e19, hb1']
  subst h
  obtain ⟨q, hq, hq2⟩ := drawnI ns hlen 2 9 (by omega) (by omega)
  refine wp_cons (R := fun ρ => ∃ v, v ∈ badsP P.length ∧ ρ = [some (intsD ns), some (.tuple (P.map pD)), some (nT (List.range P.length)), x3, x4, x5, x6, x7, x8, some (.tuple (wheel.map pD)), some b, some v, none, none, none]) ?_ fun ρ1 h => ?_
  · have hq9 : q < (badsP P.length).length := by
      show q < 9
      omega
    have hat : L2.atI (badsP P.length) (q : Int) = some (badsP P.length)[q] := atI_nn hq9
    have hmem : (badsP P.length)[q] ∈ badsP P.length := List.getElem_mem hq9
    generalize (badsP P.length)[q] = v at *
    have : ixD (.list (badsP P.length)) (.int q) = .ok v := by simp [hat]
    simp [e17, hq]
    simp [badsP] at this
    rw [this]
    simp
    exact hmem
  obtain ⟨v, hv, rfl⟩ := h
  generalize PyData.tuple (wheel.map pD) = W at *
  have k1 := c20x (a := v) hb2
  obtain ⟨k4, k5⟩ := c20b ok hv
  refine wp_cons (R := fun ρ => ρ = [some (intsD ns), some (.tuple (P.map pD)), some (nT (List.range P.length)), x3, x4, x5, x6, x7, x8, some W, some b, some v, some (.list [.int 0, .int 0, .int 0, .int 0, .int 0, .int 0, .int 1, .int 1]), none, none]) ?_ fun ρ1 h => ?_
  · have a0 : compL (setN 14) (fun _ => Rs.ok true) (appE d20 (consArg (vaR 14) (consArg (vaR 10) (consArg (vaR 11) noArg)))) [some (intsD ns), some (.tuple (P.map pD)), some (nT (List.range P.length)), x3, x4, x5, x6, x7, x8, some W, some b, some v, none, none, none] ((List.range 6).map fun i : Nat => PyData.int (i : Int)) = .ok ((List.range 6).map fun _ => PyData.int 0) := by
      refine compL_all _ fun n hn => ?_
      simp [k1 n (by simpa using hn)]
    have a1 : compL (setN 14) (fun _ => Rs.ok true) (appE d20 (consArg (vaR 14) (consArg (vaR 1) (consArg (vaR 11) noArg)))) [some (intsD ns), some (.tuple (P.map pD)), some (nT (List.range P.length)), x3, x4, x5, x6, x7, x8, some W, some b, some v, none, none, none] [.int 4, .int 5] = .ok [.int 1, .int 1] := by
      simp [compL, k4, k5]
    have hb8 : 8 ≤ big := by decide
    have b0 : compL (setN 14) (fun _ => Rs.ok true) (appE d20 (consArg (vaR 14) (consArg (vaR 10) (consArg (vaR 11) noArg)))) [some (intsD ns), some (.tuple (P.map pD)), some (nT (List.range P.length)), x3, x4, x5, x6, x7, x8, some W, some b, some v, none, none, none] (rngD 0 6) = .ok [.int 0, .int 0, .int 0, .int 0, .int 0, .int 0] := by
      rw [rng0_map, a0]; rfl
    simp [e20, b0, a1, hb8]
  subst h
  have z : eqD (.list [.int 0, .int 0, .int 0, .int 0, .int 0, .int 0, .int 1, .int 1]) (.list [.int 0, .int 0, .int 0, .int 0, .int 0, .int 0, .int 1, .int 1]) = .ok (.bool true) := rfl
  have hb8 : 8 ≤ big := by decide
  simp [List.replicate, hb8, z]
end K13
namespace K13
open PySem PySem.Spec PyProof.Rows L2 Den
theorem run (w : World) : HandSHeadRun.RunEq R (PySem.W.view R.prog [place]) hk ob 2000 loose w := by
  intro os
  kernel_rfl
end K13
open PySem PySem.W PySem.Calls PyProof.Rows
theorem PySem.Challenge.cw_panelorder_k13_cutting_holds : PySem.Challenge.rw_panelorder_k13_cutting.Holds := by
  w_on; o_law
  refine HandSHeadRun.head_any (r := OpenLaw.row PySem.Challenge.rw_panelorder_k13_cutting) (q := view (OpenLaw.row PySem.Challenge.rw_panelorder_k13_cutting).prog [K13.place]) (H := K13.hk) (ob := K13.ob) (M := 2000) (loose := K13.loose) (d := HandSHeadRun.topDef (OpenLaw.row PySem.Challenge.rw_panelorder_k13_cutting).prog K13.place) (kwd := []) K13.ob_eq
    (by kernel_rfl) (fun s => by kernel_rfl) K13.run (by kernel_rfl) (by kernel_rfl) (by kernel_rfl) (by rfl) (by first | assumption | decide +kernel) (by decide +kernel) ⟨rfl, rfl, rfl, rfl, rfl, by decide +kernel⟩ ?hw ?hc
  case hw => w_witness2
  case hc =>
    refine Den.walk_ofQ (l := PySem.Challenge.rw_panelorder_k13_cutting) (n := 63) (k := K13.K0) (x := "_law_script") (CX := fun w => L2.CX (PySem.Challenge.rw_panelorder_k13_cutting).prog w) rfl (by decide) (by kernel_rfl) ⟨rfl, by decide, by decide⟩ ?F (fun w H s e s' h => Den.cx_no H s e s' h)
    intro w mg fa h Y G hmg0
    obtain ⟨K, KX, c, cx⟩ := Y
    have hmg : mg ("law" : PySem.Str) = some (.ref fa) := by
      have e : (HandSHeadRun.topDef (OpenLaw.row PySem.Challenge.rw_panelorder_k13_cutting).prog K13.place).name = ("law" : PySem.Str) := by kernel_rfl
      rw [← e]
      exact hmg0
    have M := Den.mods_of KX G c cx rfl
    obtain ⟨fd, F⟩ := c.def_ 23 (d := K13.D23) rfl
    have e := hmg.symm.trans (He.glo_ok KX G (c.fact 23 (f := .glo "law") rfl))
    cases e
    have b := L2.FunD.bindsA (ps := ["_law_script"]) F fun _ _ _ _ _ _ us hl => match us, hl with | [_], _ => rfl
    refine ⟨K, fd, Den.spD K (Den.clE K K13.exs) 1 K13.dLaw, KX, fun s v => b s [v] rfl, fun H a ns hl hb hS => Den.law_pre (K13.math ns hl) hS, fun base _ _ => ?_⟩
    exact Den.def_ok (S := K13.g23) F K13.sc23 K13.py23 K13.ok23 rfl rfl rfl rfl M (K13.all23 KX G c M).at_
