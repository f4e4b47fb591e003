import PyProof.Rows.All
import HandS.ForMost
import HandS.ForExc
import HandS.TupAny
import HandS.Deep
import HandS.Style
import HandS.Zip
import HandS.Conv
import HandS.IsInst
import HandS.Wide
import HandS.Flow
import HandS.TupMul
import KE.GoesMore
import HandS.ExcIs
import HandS.Defaults
import HandS.Head0
import HandS.Head1
import HandS.Head2
import HandS.HeadEnd
import HandS.HeadHook1
import HandS.HeadHook2
import HandS.EndBits
import PySem.Challenge.RW_panelorder_k21_alike
set_option Elab.async false
set_option linter.all false
set_option maxRecDepth 100000
set_option maxHeartbeats 8000000
namespace Den
open PySem PySem.Spec PyProof.Rows L2
abbrev D := PyData
inductive Rs (α : Type) where
  | ok (a : α) | exc (c : Nat) | stuck
def Rs.bind {α β : Type} (r : Rs α) (f : α → Rs β) : Rs β :=
  match r with
  | .ok a => f a
  | .exc c => .exc c
  | .stuck => .stuck
instance : Monad Rs where
  pure := .ok
  bind := Rs.bind
@[simp] theorem Rs.ok_bind {α β : Type} (a : α) (f : α → Rs β) : (Rs.ok a >>= f) = f a := rfl
@[simp] theorem Rs.exc_bind {α β : Type} (c : Nat) (f : α → Rs β) : (Rs.exc c >>= f) = .exc c := rfl
@[simp] theorem Rs.stuck_bind {α β : Type} (f : α → Rs β) : ((Rs.stuck : Rs α) >>= f) = .stuck := rfl
@[simp] theorem Rs.pure_eq {α : Type} (a : α) : (pure a : Rs α) = .ok a := rfl
def Rs.noexc {α : Type} : Rs α → Rs α
  | .ok a => .ok a
  | _ => .stuck
@[simp] theorem Rs.noexc_ok {α : Type} (a : α) : (Rs.ok a).noexc = .ok a := rfl
mutual
def At (K : W.Frag) (H : Hp) (O : Addr → Prop) : D → V → Prop
  | .none, v => v = .non
  | .bool b, v => v = .bl b
  | .int i, v => v = .int i
  | .str x, v => v = .str x
  | .list ds, v => ∃ a vs, v = .ref a ∧ SqL K H a vs ∧ ¬ O a ∧ AtL K H O ds vs
  | .tuple ds, v => ∃ a vs, v = .ref a ∧ SqT K H a vs ∧ ¬ O a ∧ AtL K H O ds vs
  | .dict _, _ => False
def AtL (K : W.Frag) (H : Hp) (O : Addr → Prop) : List D → List V → Prop
  | [], vs => vs = []
  | d :: ds, vs => ∃ v r, vs = v :: r ∧ At K H O d v ∧ AtL K H O ds r
end
def Kp (O : Addr → Prop) (H H' : Hp) : Prop := ∀ b o, H b = some o → ¬ O b → H' b = some o
def KF (K : W.Frag) (H : Hp) : Prop := ∀ b o, K.lookup b = some o → H b = none
theorem Kp.of_same {O : Addr → Prop} {H H' : Hp} (s : Same H H') : Kp O H H' := fun b o e _ => s b o e
theorem sqL_kp {K : W.Frag} {O : Addr → Prop} {H H' : Hp} {a : Addr} {vs : List V} (k : Kp O H H') (n : ¬ O a) (h : SqL K H a vs) : SqL K H' a vs := by
  rcases h with (h | ⟨o, h⟩) | h
  · exact .inl (.inl (k _ _ h n))
  · exact .inl (.inr ⟨o, k _ _ h n⟩)
  · exact .inr h
theorem sqT_kp {K : W.Frag} {O : Addr → Prop} {H H' : Hp} {a : Addr} {vs : List V} (k : Kp O H H') (n : ¬ O a) (h : SqT K H a vs) : SqT K H' a vs := by
  rcases h with (h | ⟨o, h⟩) | h
  · exact .inl (.inl (k _ _ h n))
  · exact .inl (.inr ⟨o, k _ _ h n⟩)
  · exact .inr h
mutual
theorem At.keep {K : W.Frag} {O : Addr → Prop} {H H' : Hp} (k : Kp O H H') : ∀ {d : D} {v : V}, At K H O d v → At K H' O d v
  | .none, _, h => h
  | .bool _, _, h => h
  | .int _, _, h => h
  | .str _, _, h => h
  | .list _, _, h => by
    obtain ⟨a, vs, e, h1, h2, h3⟩ := h
    exact ⟨a, vs, e, sqL_kp k h2 h1, h2, AtL.keep k h3⟩
  | .tuple _, _, h => by
    obtain ⟨a, vs, e, h1, h2, h3⟩ := h
    exact ⟨a, vs, e, sqT_kp k h2 h1, h2, AtL.keep k h3⟩
  | .dict _, _, h => h.elim
theorem AtL.keep {K : W.Frag} {O : Addr → Prop} {H H' : Hp} (k : Kp O H H') : ∀ {ds : List D} {vs : List V}, AtL K H O ds vs → AtL K H' O ds vs
  | [], _, h => h
  | _ :: _, _, h => by
    obtain ⟨v, r, e, h1, h2⟩ := h
    exact ⟨v, r, e, At.keep k h1, AtL.keep k h2⟩
end
mutual
theorem At.less {K : W.Frag} {O O' : Addr → Prop} {H : Hp} (k : ∀ a, O' a → O a) : ∀ {d : D} {v : V}, At K H O d v → At K H O' d v
  | .none, _, h => h
  | .bool _, _, h => h
  | .int _, _, h => h
  | .str _, _, h => h
  | .list _, _, h => by
    obtain ⟨a, vs, e, h1, h2, h3⟩ := h
    exact ⟨a, vs, e, h1, fun z => h2 (k a z), AtL.less k h3⟩
  | .tuple _, _, h => by
    obtain ⟨a, vs, e, h1, h2, h3⟩ := h
    exact ⟨a, vs, e, h1, fun z => h2 (k a z), AtL.less k h3⟩
  | .dict _, _, h => h.elim
theorem AtL.less {K : W.Frag} {O O' : Addr → Prop} {H : Hp} (k : ∀ a, O' a → O a) : ∀ {ds : List D} {vs : List V}, AtL K H O ds vs → AtL K H O' ds vs
  | [], _, h => h
  | _ :: _, _, h => by
    obtain ⟨v, r, e, h1, h2⟩ := h
    exact ⟨v, r, e, At.less k h1, AtL.less k h2⟩
end
theorem sqL_there {K : W.Frag} {H : Hp} {a p : Addr} {vs : List V} (n : H p = none) (nk : K.lookup p = none) (h : SqL K H a vs) : a ≠ p := by
  rintro rfl
  rcases h with (h | ⟨o, h⟩) | ⟨o, _, _, h, _⟩
  · rw [n] at h; cases h
  · rw [n] at h; cases h
  · rw [nk] at h; cases h
theorem sqT_there {K : W.Frag} {H : Hp} {a p : Addr} {vs : List V} (n : H p = none) (nk : K.lookup p = none) (h : SqT K H a vs) : a ≠ p := by
  rintro rfl
  rcases h with (h | ⟨o, h⟩) | ⟨o, _, _, h, _⟩
  · rw [n] at h; cases h
  · rw [n] at h; cases h
  · rw [nk] at h; cases h
mutual
theorem At.grow {K : W.Frag} {O : Addr → Prop} {H : Hp} {p : Addr} (n : H p = none) (nk : K.lookup p = none) : ∀ {d : D} {v : V}, At K H O d v → At K H (fun a => O a ∨ a = p) d v
  | .none, _, h => h
  | .bool _, _, h => h
  | .int _, _, h => h
  | .str _, _, h => h
  | .list _, _, h => by
    obtain ⟨a, vs, e, h1, h2, h3⟩ := h
    exact ⟨a, vs, e, h1, fun z => z.elim h2 (sqL_there n nk h1), AtL.grow n nk h3⟩
  | .tuple _, _, h => by
    obtain ⟨a, vs, e, h1, h2, h3⟩ := h
    exact ⟨a, vs, e, h1, fun z => z.elim h2 (sqT_there n nk h1), AtL.grow n nk h3⟩
  | .dict _, _, h => h.elim
theorem AtL.grow {K : W.Frag} {O : Addr → Prop} {H : Hp} {p : Addr} (n : H p = none) (nk : K.lookup p = none) : ∀ {ds : List D} {vs : List V}, AtL K H O ds vs → AtL K H (fun a => O a ∨ a = p) ds vs
  | [], _, h => h
  | _ :: _, _, h => by
    obtain ⟨v, r, e, h1, h2⟩ := h
    exact ⟨v, r, e, At.grow n nk h1, AtL.grow n nk h2⟩
end
section
variable {K : W.Frag} {O : Addr → Prop} {H H' : Hp}
theorem AtL.length : ∀ {ds : List D} {vs : List V}, AtL K H O ds vs → vs.length = ds.length
  | [], _, h => by cases h; rfl
  | _ :: _, _, h => by
    obtain ⟨v, r, rfl, _, h2⟩ := h
    simp [AtL.length h2]
theorem AtL.append : ∀ {ds es : List D} {vs us : List V}, AtL K H O ds vs → AtL K H O es us → AtL K H O (ds ++ es) (vs ++ us)
  | [], _, _, _, h, g => by cases h; exact g
  | _ :: _, _, _, _, h, g => by
    obtain ⟨v, r, rfl, h1, h2⟩ := h
    exact ⟨v, _, rfl, h1, AtL.append h2 g⟩
theorem AtL.get : ∀ {ds : List D} {vs : List V} {i : Nat} {d : D}, AtL K H O ds vs → ds[i]? = some d → ∃ v, vs[i]? = some v ∧ At K H O d v
  | [], _, _, _, _, e => by simp at e
  | _ :: _, _, 0, _, h, e => by
    obtain ⟨v, r, rfl, h1, _⟩ := h
    simp at e; subst e
    exact ⟨v, rfl, h1⟩
  | _ :: _, _, i + 1, d, h, e => by
    obtain ⟨v, r, rfl, _, h2⟩ := h
    obtain ⟨u, e1, e2⟩ := AtL.get (i := i) h2 (by simpa using e)
    exact ⟨u, by simpa using e1, e2⟩
theorem AtL.get' : ∀ {ds : List D} {vs : List V} {i : Nat} {v : V}, AtL K H O ds vs → vs[i]? = some v → ∃ d, ds[i]? = some d ∧ At K H O d v
  | [], _, _, _, h, e => by cases h; simp at e
  | d :: _, _, 0, _, h, e => by
    obtain ⟨v, r, rfl, h1, _⟩ := h
    simp at e; subst e
    exact ⟨d, rfl, h1⟩
  | _ :: _, _, i + 1, v, h, e => by
    obtain ⟨w, r, rfl, _, h2⟩ := h
    obtain ⟨u, e1, e2⟩ := AtL.get' (i := i) h2 (by simpa using e)
    exact ⟨u, by simpa using e1, e2⟩
theorem AtL.take : ∀ {ds : List D} {vs : List V} (n : Nat), AtL K H O ds vs → AtL K H O (ds.take n) (vs.take n)
  | [], _, n, h => by cases h; simp [AtL]
  | _ :: _, _, 0, _ => by simp [AtL]
  | _ :: _, _, n + 1, h => by
    obtain ⟨v, r, rfl, h1, h2⟩ := h
    exact ⟨v, _, rfl, h1, AtL.take n h2⟩
theorem AtL.drop : ∀ {ds : List D} {vs : List V} (n : Nat), AtL K H O ds vs → AtL K H O (ds.drop n) (vs.drop n)
  | [], _, n, h => by cases h; simp [AtL]
  | _ :: _, _, 0, h => h
  | _ :: _, _, n + 1, h => by
    obtain ⟨v, r, rfl, _, h2⟩ := h
    exact AtL.drop n h2
theorem AtL.one {d : D} {v : V} (h : At K H O d v) : AtL K H O [d] [v] := ⟨v, [], rfl, h, rfl⟩
theorem AtL.reverse : ∀ {ds : List D} {vs : List V}, AtL K H O ds vs → AtL K H O ds.reverse vs.reverse
  | [], _, h => by cases h; simp [AtL]
  | _ :: _, _, h => by
    obtain ⟨v, r, rfl, h1, h2⟩ := h
    rw [List.reverse_cons, List.reverse_cons]
    exact (AtL.reverse h2).append (.one h1)
theorem At.same {d : D} {v : V} (s : Same H H') (h : At K H O d v) : At K H' O d v := h.keep (.of_same s)
theorem AtL.same {ds : List D} {vs : List V} (s : Same H H') (h : AtL K H O ds vs) : AtL K H' O ds vs := h.keep (.of_same s)
mutual
theorem At.dp : ∀ {d : D} {v : V}, At K H O d v → Dp K H v d
  | .none, _, h => by cases h; exact .non
  | .bool _, _, h => by cases h; exact .bl _
  | .int _, _, h => by cases h; exact .int _
  | .str _, _, h => by cases h; exact .str _
  | .list _, _, h => by
    obtain ⟨a, vs, rfl, h1, _, h3⟩ := h
    exact .lst h1 (AtL.dp h3)
  | .tuple _, _, h => by
    obtain ⟨a, vs, rfl, h1, _, h3⟩ := h
    exact .tup h1 (AtL.dp h3)
  | .dict _, _, h => h.elim
theorem AtL.dp : ∀ {ds : List D} {vs : List V}, AtL K H O ds vs → DpAll K H vs ds
  | [], _, h => by cases h; exact .nil
  | _ :: _, _, h => by
    obtain ⟨v, r, rfl, h1, h2⟩ := h
    exact .cons (At.dp h1) (AtL.dp h2)
end
theorem atL_ints : ∀ {ns : List Int} {vs : List V}, AtL K H O (ns.map PyData.int) vs → vs = ns.map V.int
  | [], _, h => h
  | n :: ns, _, h => by
    obtain ⟨v, r, rfl, h1, h2⟩ := h
    cases h1
    rw [atL_ints h2]; rfl
theorem atL_of_ints : ∀ (ns : List Int), AtL K H O (ns.map PyData.int) (ns.map V.int)
  | [] => rfl
  | n :: ns => ⟨_, _, rfl, rfl, atL_of_ints ns⟩
theorem atL_bls : ∀ {ns : List Bool} {vs : List V}, AtL K H O (ns.map PyData.bool) vs → vs = ns.map V.bl
  | [], _, h => h
  | n :: ns, _, h => by
    obtain ⟨v, r, rfl, h1, h2⟩ := h
    cases h1
    rw [atL_bls h2]; rfl
theorem atL_strs : ∀ {ns : List Str} {vs : List V}, AtL K H O (ns.map PyData.str) vs → vs = ns.map V.str
  | [], _, h => h
  | n :: ns, _, h => by
    obtain ⟨v, r, rfl, h1, h2⟩ := h
    cases h1
    rw [atL_strs h2]; rfl
end
def AtC (K : W.Frag) (H : Hp) (O : Addr → Prop) : D → V → Prop
  | .list ds, v => ∃ a vs, v = .ref a ∧ SqL K H a vs ∧ AtL K H O ds vs
  | d, v => At K H O d v
theorem At.c {K : W.Frag} {H : Hp} {O : Addr → Prop} : ∀ {d : D} {v : V}, At K H O d v → AtC K H O d v
  | .none, _, h => h
  | .bool _, _, h => h
  | .int _, _, h => h
  | .str _, _, h => h
  | .list _, _, h => by
    obtain ⟨a, vs, e, h1, _, h3⟩ := h
    exact ⟨a, vs, e, h1, h3⟩
  | .tuple _, _, h => h
  | .dict _, _, h => h.elim
theorem AtC.same {K : W.Frag} {H H' : Hp} {O : Addr → Prop} (s : Same H H') : ∀ {d : D} {v : V}, AtC K H O d v → AtC K H' O d v
  | .none, _, h => h
  | .bool _, _, h => h
  | .int _, _, h => h
  | .str _, _, h => h
  | .list _, _, h => by
    obtain ⟨a, vs, e, h1, h3⟩ := h
    exact ⟨a, vs, e, s.seq h1, h3.same s⟩
  | .tuple _, _, h => At.same s h
  | .dict _, _, h => h.elim
theorem AtC.dp {K : W.Frag} {H : Hp} {O : Addr → Prop} : ∀ {d : D} {v : V}, AtC K H O d v → Dp K H v d
  | .none, _, h => At.dp (O := O) (d := .none) h
  | .bool _, _, h => At.dp (O := O) (d := .bool _) h
  | .int _, _, h => At.dp (O := O) (d := .int _) h
  | .str _, _, h => At.dp (O := O) (d := .str _) h
  | .list _, _, h => by
    obtain ⟨a, vs, rfl, h1, h3⟩ := h
    exact .lst h1 (AtL.dp h3)
  | .tuple _, _, h => At.dp (d := .tuple _) h
  | .dict _, _, h => h.elim
abbrev Ro := List (Option D)
structure Gc where
  K : W.Frag
  O0 : Addr → Prop
  H0 : Hp
  own : Nat → Bool
  E : XK
  cl : Nat → Value
structure Rep (G : Gc) (O : Addr → Prop) (σ : L2.St) (H : Hp) (ρ : Ro) : Prop where
  base : Same G.H0 H
  sub : ∀ a, G.O0 a → O a
  trk : ∀ a, O a → ∃ o, H a = some o
  fre : ∀ a, O a → ¬ G.O0 a → G.H0 a = none
  len : ρ.length = σ.length
  slot : ∀ i d, ρ[i]? = some (some d) → G.own i = false → ∃ v, σ[i]? = some (some v) ∧ At G.K H O d v
  owns : ∀ i d, ρ[i]? = some (some d) → G.own i = true → ∃ a ds vs, d = .list ds ∧ σ[i]? = some (some (.ref a)) ∧ H a = some (.lst vs) ∧ AtL G.K H O ds vs ∧ O a ∧ ¬ G.O0 a
  dist : ∀ i j d e a, i ≠ j → G.own i = true → G.own j = true → ρ[i]? = some (some d) → ρ[j]? = some (some e) → σ[i]? = some (some (.ref a)) → σ[j]? = some (some (.ref a)) → False
theorem Rep.same {G : Gc} {O : Addr → Prop} {σ : L2.St} {H H' : Hp} {ρ : Ro} (R : Rep G O σ H ρ) (s : Same H H') : Rep G O σ H' ρ :=
  ⟨R.base.trans s, R.sub, fun a h => let ⟨o, e⟩ := R.trk a h; ⟨o, s _ _ e⟩, R.fre, R.len, fun i d e n => let ⟨v, e1, h⟩ := R.slot i d e n; ⟨v, e1, h.same s⟩,
    fun i d e n => let ⟨a, ds, vs, e1, e2, e3, h, h1, h2⟩ := R.owns i d e n; ⟨a, ds, vs, e1, e2, s _ _ e3, h.same s, h1, h2⟩, R.dist⟩
theorem Rep.var {G : Gc} {O : Addr → Prop} {σ : L2.St} {H : Hp} {ρ : Ro} (R : Rep G O σ H ρ) {i : Nat} {d : D} (e : ρ[i]? = some (some d)) : ∃ v, σ[i]? = some (some v) ∧ AtC G.K H O d v := by
  cases hw : G.own i with
  | false =>
    obtain ⟨v, e1, h⟩ := R.slot i d e hw
    exact ⟨v, e1, h.c⟩
  | true =>
    obtain ⟨a, ds, vs, rfl, e1, e2, h, _, _⟩ := R.owns i d e hw
    exact ⟨.ref a, e1, a, vs, rfl, .of e2, h⟩
abbrev DE := Ro → Rs D
def Post {α : Type} (G : Gc) (H : Hp) (r : Rs α) (Q : α → Prop) : Prop :=
  match r with
  | .ok a => Q a
  | .exc c => ∀ H', Same G.H0 H' → G.E (G.cl c) none H'
  | .stuck => False
theorem Post.bind {α β : Type} {G : Gc} {H : Hp} {r : Rs α} {f : α → Rs β} {Q : β → Prop} (h : Post G H (r >>= f) Q) : Post G H r fun a => Post G H (f a) Q := by
  cases r with
  | ok a => exact h
  | exc c => exact h
  | stuck => exact h
theorem Post.imp {α : Type} {G : Gc} {H H' : Hp} {r : Rs α} {Q Q' : α → Prop} (h : Post G H r Q) (k : ∀ a, r = .ok a → Q a → Q' a) : Post G H' r Q' := by
  cases r with
  | ok a => exact k a rfl h
  | exc c => exact h
  | stuck => exact h
def tS (G : Gc) (f : DE) : TE := fun σ H Q => KF G.K H → ∃ O ρ, Rep G O σ H ρ ∧ Post G H (f ρ) fun d => ∀ v H', Same H H' → KF G.K H' → At G.K H' O d v → Q v H'
def tW (G : Gc) (f : DE) : TE := fun σ H Q => KF G.K H → ∃ O ρ, Rep G O σ H ρ ∧ Post G H (f ρ) fun d => ∀ v H', Same H H' → KF G.K H' → AtC G.K H' O d v → Q v H'
def tF (G : Gc) (f : DE) : TE := fun σ H Q => KF G.K H → ∃ O ρ, Rep G O σ H ρ ∧ Post G H (f ρ) fun d => ∀ p ds vs H', d = .list ds → Same H H' → KF G.K H' → H p = none → H' p = some (.lst vs) → AtL G.K H' (fun a => O a ∨ a = p) ds vs → Q (.ref p) H'
def tTst (G : Gc) (f : Ro → Rs Bool) : TT := fun σ H Q => KF G.K H → ∃ O ρ, Rep G O σ H ρ ∧ Post G H (f ρ) fun b => ∀ H', Same H H' → KF G.K H' → Q b H'
def tArg (G : Gc) (f : Ro → Rs (List D)) : TA := fun σ H Q => KF G.K H → ∃ O ρ, Rep G O σ H ρ ∧ Post G H (f ρ) fun ds => ∀ vs H', Same H H' → KF G.K H' → AtL G.K H' O ds vs → Q vs H'
def AtCL (K : W.Frag) (H : Hp) (O : Addr → Prop) : List D → List V → Prop
  | [], vs => vs = []
  | d :: ds, vs => ∃ v r, vs = v :: r ∧ AtC K H O d v ∧ AtCL K H O ds r
theorem AtCL.same {K : W.Frag} {H H' : Hp} {O : Addr → Prop} (s : Same H H') : ∀ {ds : List D} {vs : List V}, AtCL K H O ds vs → AtCL K H' O ds vs
  | [], _, h => h
  | _ :: _, _, h => by
    obtain ⟨v, r, e, h1, h2⟩ := h
    exact ⟨v, r, e, h1.same s, AtCL.same s h2⟩
def tArgW (G : Gc) (f : Ro → Rs (List D)) : TA := fun σ H Q => KF G.K H → ∃ O ρ, Rep G O σ H ρ ∧ Post G H (f ρ) fun ds => ∀ vs H', Same H H' → KF G.K H' → AtCL G.K H' O ds vs → Q vs H'
section
variable {X : Cx} {G : Gc} {e : Expr} {f : DE}
theorem kf_inv {pins : List (Addr × Obj)} {σ : L2.St} {H : Hp} {s : Shared} (I : Inv X pins σ H s) : KF X.K H := fun b o e => (I.bs b o (I.mod.kin b o e)).2
theorem pe_imp {t t' : TE} (h : PE X e t) (hi : ∀ σ H Q, KF X.K H → t' σ H Q → t σ H fun v H' => KF X.K H' → Q v H') : PE X e t' :=
  ⟨fun pins s σ H Q I h' => thn (h.run pins s σ H _ I (hi σ H Q (kf_inv I) h')) fun u s1 ⟨v, H1, I1, r, q⟩ => ⟨v, H1, I1, r, q (kf_inv I1)⟩⟩
theorem pt_imp {t t' : TT} (h : PT X e t) (hi : ∀ σ H Q, KF X.K H → t' σ H Q → t σ H fun v H' => KF X.K H' → Q v H') : PT X e t' :=
  ⟨fun pins s σ H Q I h' => thn (h.run pins s σ H _ I (hi σ H Q (kf_inv I) h')) fun u s1 ⟨H1, I1, q⟩ => ⟨H1, I1, q (kf_inv I1)⟩⟩
theorem pa_imp {es : List Expr} {t t' : TA} (h : PA X es t) (hi : ∀ σ H Q, KF X.K H → t' σ H Q → t σ H fun v H' => KF X.K H' → Q v H') : PA X es t' :=
  ⟨fun pos pins s σ H Q I h' => thn (h.run pos pins s σ H _ I (hi σ H Q (kf_inv I) h')) fun u s1 ⟨v, H1, I1, r, q⟩ => ⟨v, H1, I1, r, q (kf_inv I1)⟩⟩
theorem ps_imp {st : Stmt} {t t' : TS} (h : PS X st t) (hi : ∀ D σ H, KF X.K H → t' D σ H → t D σ H) : PS X st t' :=
  ⟨fun pins s σ H D I h' => h.run pins s σ H D I (hi D σ H (kf_inv I) h')⟩
theorem pss_imp {st : List Stmt} {t t' : TS} (h : PSs X st t) (hi : ∀ D σ H, KF X.K H → t' D σ H → t D σ H) : PSs X st t' :=
  ⟨fun pins s σ H D I h' => h.run pins s σ H D I (hi D σ H (kf_inv I) h')⟩
theorem strong_weak (h : PE X e (tS G f)) : PE X e (tW G f) := pe_imp h fun σ H Q _ w k => by
  obtain ⟨O, ρ, R, p⟩ := w k
  exact ⟨O, ρ, R, p.imp fun d _ q v H' s k' a => fun _ => q v H' s k' a.c⟩
theorem fresh_strong (hK : X.K = G.K) (h : PE X e (tF G f)) (hl : ∀ ρ d, f ρ = .ok d → ∃ ds, d = .list ds) : PE X e (tS G f) := pe_imp h fun σ H Q _ w k => by
  obtain ⟨O, ρ, R, p⟩ := w k
  refine ⟨O, ρ, R, p.imp fun d e q p' ds vs H' e1 s k' n a b => fun _ => q (.ref p') H' s k' ?_⟩
  subst e1
  refine ⟨p', vs, rfl, .of a, fun z => ?_, b.less fun _ z => .inl z⟩
  obtain ⟨o, e2⟩ := R.trk _ z
  rw [n] at e2; cases e2
theorem test_of (hv : PE X e (tW G f)) (he : ∀ whole, isTrue e X.env whole = (do let v ← whole; standAt e.pos; holding [v] (truthy v))) : PT X e (tTst G fun ρ => do match ← f ρ with | .bool b => .ok b | _ => .stuck) := by
  refine pt_imp (pt_val hv he) fun σ H Q _ w k => ?_
  obtain ⟨O, ρ, R, p⟩ := w k
  refine ⟨O, ρ, R, p.bind.imp fun d _ q v H' s k' a => ?_⟩
  cases d with
  | bool b =>
    cases a
    exact ⟨b, rfl, fun _ => q H' s k'⟩
  | _ => exact q.elim
end
end Den
namespace Den
open PySem PySem.Spec PyProof.Rows L2
abbrev big : Nat := 1000000
theorem big_line {n : Nat} (h : n ≤ big) : n ≤ sizeLine := by rw [sizeLine_eq]; unfold big at h; omega
theorem big_lt {n : Nat} (h : n < big) : n < sizeLine := by rw [sizeLine_eq]; unfold big at h; omega
section
variable {X : Cx} {G : Gc} {a b c e : Expr} {f g h : DE} {pos : Pos}
abbrev PostV (G : Gc) (O : Addr → Prop) (H : Hp) (r : Rs D) (Q : VK) : Prop := Post G H r fun d => ∀ v H', Same H H' → KF G.K H' → At G.K H' O d v → Q v H'
theorem same_upd {H : Hp} {p : Addr} {o : HO} (h : H p = none) : Same H (upd H p o) := fun b x e => by
  rw [upd_ne (ne_of_none e h)]
  exact e
abbrev Trk (O : Addr → Prop) (H : Hp) : Prop := ∀ a, O a → ∃ o, H a = some o
theorem Trk.not {O : Addr → Prop} {H : Hp} {p : Addr} (t : Trk O H) (n : H p = none) : ¬ O p := fun z => by
  obtain ⟨o, e⟩ := t p z
  rw [n] at e; cases e
theorem new_list {K : W.Frag} {O : Addr → Prop} {H : Hp} {p : Addr} {ds : List D} {vs : List V} (t : Trk O H) (n : H p = none) (l : AtL K H O ds vs) : At K (upd H p (.lst vs)) O (.list ds) (.ref p) :=
  ⟨p, vs, rfl, .of upd_same, t.not n, l.same (same_upd n)⟩
theorem new_tup {K : W.Frag} {O : Addr → Prop} {H : Hp} {p : Addr} {ds : List D} {vs : List V} (t : Trk O H) (n : H p = none) (l : AtL K H O ds vs) : At K (upd H p (.tup vs)) O (.tuple ds) (.ref p) :=
  ⟨p, vs, rfl, .of upd_same, t.not n, l.same (same_upd n)⟩
theorem Trk.same {O : Addr → Prop} {H H' : Hp} (t : Trk O H) (s : Same H H') : Trk O H' := fun a h => let ⟨o, e⟩ := t a h; ⟨o, s _ _ e⟩
def Says (G : Gc) (r : R2) (F : D → D → Rs D) : Prop := ∀ (O : Addr → Prop) (H : Hp) (x y : V) (dx dy : D) (Q : VK), KF G.K H → Trk O H → AtC G.K H O dx x → AtC G.K H O dy y →
  PostV G O H (F dx dy) Q → r x y H fun v H' => KF G.K H' → Q v H'
theorem two (hK : X.K = G.K) {r : R2} {F : D → D → Rs D} (s : Says G r F) {t : TE} (h : PE X e (tOp r (tW G f) (tW G g))) : PE X e (tS G fun ρ => do let x ← f ρ; let y ← g ρ; F x y) := by
  refine pe_imp h fun σ H Q kf w => fun k0 => ?_
  obtain ⟨O, ρ, R, p⟩ := w k0
  refine ⟨O, ρ, R, p.bind.imp fun dx _ q x H1 s1 k1 ax => fun _ => ?_⟩
  refine ⟨O, ρ, R.same s1, q.bind.imp fun dy _ q2 y H2 s2 k2 ay => ?_⟩
  have R2 := R.same (s1.trans s2)
  rw [hK]
  exact s O H2 x y dx dy Q k2 R2.trk (ax.same s2) ay (q2.imp fun d _ q3 v H' s3 k3 a3 => q3 v H' (s1.trans (s2.trans s3)) k3 a3)
theorem d_bin (hK : X.K = G.K) {op : Operator} {r : R2} {F : D → D → Rs D} (ho : OpR X (binaryOp op) r) (s : Says G r F) (ha : PE X a (tW G f)) (hb : PE X b (tW G g)) : PE X (.BinOp a op b pos) (tS G fun ρ => do let x ← f ρ; let y ← g ρ; F x y) :=
  two hK s (t := fun _ _ _ => True) (pe_op ho ha hb)
theorem d_cmp (hK : X.K = G.K) {op : CmpOp} {r : R2} {F : D → D → Rs D} (ho : OpR X (compareOp op) r) (s : Says G r F) (hm : behindInMarks op b = false) (ha : PE X a (tW G f)) (hb : PE X b (tW G g)) : PE X (.Compare a [op] [b] pos) (tS G fun ρ => do let x ← f ρ; let y ← g ρ; F x y) :=
  two hK s (t := fun _ _ _ => True) (pe_cmpR ho ha hb hm)
theorem d_ix (hK : X.K = G.K) {r : R2} {F : D → D → Rs D} (hr : IxR X r) (s : Says G r F) (hs : PlainIx b) (ha : PE X a (tW G f)) (hb : PE X b (tW G g)) : PE X (.Subscript a b pos) (tS G fun ρ => do let x ← f ρ; let y ← g ρ; F x y) :=
  two hK s (t := fun _ _ _ => True) (pe_ix hr ha hb hs)
theorem post_sc {G : Gc} {O : Addr → Prop} {H : Hp} {d : D} {v : V} {Q : VK} (k : KF G.K H) (p : PostV G O H (.ok d) Q) (a : At G.K H O d v) : KF G.K H → Q v H := fun _ => p v H (Same.refl H) k a
def rCatS (K : W.Frag) : R2 := fun x y H Q => ∃ l b xs zs, x = .ref l ∧ y = .ref b ∧ SqL K H l xs ∧ SqL K H b zs ∧ xs.length + zs.length ≤ sizeLine ∧ ∀ p, H p = none → Q (.ref p) (upd H p (.lst (xs ++ zs)))
theorem op_catL : OpR X (binaryOp .Add) (rCatS X.K) := by
  intro pins s σ H x y v u Q I rx ry h
  obtain ⟨l, b, xs, zs, rfl, rfl, hx, hy, hz, q⟩ := h
  cases rx
  cases ry
  obtain ⟨its, r, p, _⟩ := I.list hx
  obtain ⟨its2, r2, p2, _⟩ := I.list hy
  have e1 := r.length
  have e2 := r2.length
  obtain ⟨⟨cls, dd, data, sl⟩, ho, hc, n, hd⟩ := p.isList
  obtain ⟨⟨cls2, dd2, data2, sl2⟩, ho2, hc2, n2, hd2⟩ := p2.isList
  simp only at hc hd hc2 hd2
  subst hc hd hc2 hd2
  refine concat_meets ⟨_, ho, rfl⟩ ⟨_, ho2, rfl⟩ noFill_list_add seq_list_add PySem.F.slot_list_add PySem.F.entry_list_add (PySem.F.args_list_add_2 _ _) (list_addW l b its.toArray its2.toArray n n2 dd dd2 sl sl2 (by rw [List.size_toArray, List.size_toArray]; omega)) ⟨ho, ho2, ?_⟩
  have ea : its.toArray ++ its2.toArray = (its ++ its2).toArray := by simp
  rw [ea]
  exact ⟨.ref _, _, I.lnew (t' := s.toks) (r.append r2) (by rw [List.length_append]; omega), rfl, q _ I.fresh⟩
def addD : D → D → Rs D
  | .int i, .int j => .ok (.int (i + j))
  | .int i, .bool j => .ok (.int (i + (if j then 1 else 0)))
  | .list xs, .list ys => if xs.length + ys.length ≤ big then .ok (.list (xs ++ ys)) else .stuck
  | .tuple xs, .tuple ys => if xs.length + ys.length ≤ big then .ok (.tuple (xs ++ ys)) else .stuck
  | .str x, .str y => if x.length + y.length ≤ big then .ok (.str (x ++ y)) else .stuck
  | _, _ => .stuck
def rAddD (K : W.Frag) : R2 := fun x y H Q => (((rI0 fun i j => .int (i + j)) x y H Q ∨ (∃ i k, x = .int i ∧ y = .bl k ∧ Q (.int (i + b2i k)) H)) ∨ rCatS K x y H Q) ∨ (rCatA K x y H Q ∨ (∃ i j, x = .str i ∧ y = .str j ∧ i.length + j.length ≤ sizeLine ∧ Q (.str (i ++ j)) H))
theorem op_addD : OpR X (binaryOp .Add) (rAddD X.K) := ((op_add.or op_add_ib).or op_catL).or (op_catA.or op_add_str)
theorem says_add : Says G (rAddD G.K) addD := by
  intro O H x y dx dy Q k t ax ay p
  unfold addD at p
  split at p
  · cases ax; cases ay
    exact .inl (.inl (.inl ⟨_, _, rfl, rfl, post_sc k p rfl⟩))
  · cases ax; cases ay
    exact .inl (.inl (.inr ⟨_, _, rfl, rfl, post_sc k p rfl⟩))
  · obtain ⟨a, vs, rfl, h1, h2⟩ := ax
    obtain ⟨b, us, rfl, h3, h4⟩ := ay
    split at p
    · rename_i hz
      refine .inl (.inr ⟨a, b, vs, us, rfl, rfl, h1, h3, by rw [h2.length, h4.length]; exact big_line hz, fun q hq k' => ?_⟩)
      exact p _ _ (same_upd hq) k' (new_list t hq (h2.append h4))
    · exact p.elim
  · obtain ⟨a, vs, rfl, h1, n1, h2⟩ := ax
    obtain ⟨b, us, rfl, h3, n3, h4⟩ := ay
    split at p
    · rename_i hz
      refine .inr (.inl ⟨a, b, vs, us, rfl, rfl, h1, h3, by rw [h2.length, h4.length]; exact big_line hz, fun e k' => ?_, fun _ e k' => ?_, fun _ _ q hq k' => ?_⟩)
      · subst e
        have e' := h2.length
        rename_i xs ys
        have : xs = [] := List.eq_nil_of_length_eq_zero (by simpa using e'.symm)
        subst this
        exact p _ _ (Same.refl _) k' ⟨b, us, rfl, h3, n3, h4⟩
      · subst e
        have e' := h4.length
        rename_i xs ys _
        have : ys = [] := List.eq_nil_of_length_eq_zero (by simpa using e'.symm)
        subst this
        rw [List.append_nil] at p
        exact p _ _ (Same.refl _) k' ⟨a, vs, rfl, h1, n1, h2⟩
      · exact p _ _ (same_upd hq) k' (new_tup t hq (h2.append h4))
    · exact p.elim
  · cases ax; cases ay
    split at p
    · rename_i hz
      exact .inr (.inr ⟨_, _, rfl, rfl, big_line hz, post_sc k p rfl⟩)
    · exact p.elim
  · exact p.elim
def subD : D → D → Rs D
  | .int i, .int j => .ok (.int (i - j))
  | _, _ => .stuck
theorem says_sub : Says G (rI0 fun i j => .int (i - j)) subD := by
  intro O H x y dx dy Q k t ax ay p
  unfold subD at p
  split at p
  · cases ax; cases ay
    exact ⟨_, _, rfl, rfl, post_sc k p rfl⟩
  · exact p.elim
def mulD : D → D → Rs D
  | .int i, .int j => if (-(2 ^ 64) < i ∧ i < 2 ^ 64) ∨ (-(2 ^ 64) < j ∧ j < 2 ^ 64) then .ok (.int (i * j)) else .stuck
  | _, _ => .stuck
theorem says_mul : Says G (rI CMul fun i j => .int (i * j)) mulD := by
  intro O H x y dx dy Q k t ax ay p
  unfold mulD at p
  split at p
  · cases ax; cases ay
    split at p
    · rename_i hc
      exact ⟨_, _, rfl, rfl, hc, post_sc k p rfl⟩
    · exact p.elim
  · exact p.elim
def divD : D → D → Rs D
  | .int i, .int j => if 0 < j ∧ j < 2 ^ 64 then .ok (.int (i / j)) else .stuck
  | _, _ => .stuck
theorem says_div : Says G (rI CDivW fun i j => .int (i / j)) divD := by
  intro O H x y dx dy Q k t ax ay p
  unfold divD at p
  split at p
  · cases ax; cases ay
    split at p
    · rename_i hc
      exact ⟨_, _, rfl, rfl, wide_div (b := 64) hc.1 (by omega) (by decide) (by decide), post_sc k p rfl⟩
    · exact p.elim
  · exact p.elim
def modD : D → D → Rs D
  | .int i, .int j => if 0 < j then .ok (.int (i % j)) else .stuck
  | _, _ => .stuck
theorem says_mod : Says G (rI (fun _ j => 0 < j) fun i j => .int (i % j)) modD := by
  intro O H x y dx dy Q k t ax ay p
  unfold modD at p
  split at p
  · cases ax; cases ay
    split at p
    · rename_i hc
      exact ⟨_, _, rfl, rfl, hc, post_sc k p rfl⟩
    · exact p.elim
  · exact p.elim
def powD : D → D → Rs D
  | .int i, .int j => if 0 ≤ j ∧ j ≤ 64 ∧ i.natAbs < 2 ^ 64 then .ok (.int (i ^ j.toNat)) else .stuck
  | _, _ => .stuck
theorem says_pow : Says G (rI CPow fun i j => .int (i ^ j.toNat)) powD := by
  intro O H x y dx dy Q k t ax ay p
  unfold powD at p
  split at p
  · cases ax; cases ay
    split at p
    · rename_i hc
      exact ⟨_, _, rfl, rfl, ⟨hc.1, by omega, hc.2.2⟩, post_sc k p rfl⟩
    · exact p.elim
  · exact p.elim
def eqD (dx dy : D) : Rs D := if SeqAt.shaped dx = true ∧ SeqAt.shaped dy = true then .ok (.bool (PyData.eqv dx dy)) else .stuck
def neD (dx dy : D) : Rs D := if SeqAt.shaped dx = true ∧ SeqAt.shaped dy = true then .ok (.bool (!PyData.eqv dx dy)) else .stuck
theorem says_eq : Says G (rEqD G.K) eqD := by
  intro O H x y dx dy Q k t ax ay p
  unfold eqD at p
  split at p
  · rename_i hc
    exact ⟨dx, dy, ax.dp, ay.dp, hc.1, hc.2, post_sc k p rfl⟩
  · exact p.elim
theorem says_ne : Says G (rNeD G.K) neD := by
  intro O H x y dx dy Q k t ax ay p
  unfold neD at p
  split at p
  · rename_i hc
    exact ⟨dx, dy, ax.dp, ay.dp, hc.1, hc.2, post_sc k p rfl⟩
  · exact p.elim
def ordD (q : Int → Int → Bool) : D → D → Rs D
  | .int i, .int j => .ok (.bool (q i j))
  | _, _ => .stuck
theorem says_ord (q : Int → Int → Bool) : Says G (rI0 fun i j => .bl (q i j)) (ordD q) := by
  intro O H x y dx dy Q k t ax ay p
  unfold ordD at p
  split at p
  · cases ax; cases ay
    exact ⟨_, _, rfl, rfl, post_sc k p rfl⟩
  · exact p.elim
def inL (dx : D) (ds : List D) : Bool := ds.any fun z => PyData.eqv z dx
def strIn (i j : Str) : Bool := !(Builtin.Str.occurrences j i 0 j.length 1).isEmpty
def inD (neg : Bool) : D → D → Rs D
  | dx, .list ds => if SeqAt.shaped dx = true ∧ SeqAt.shaped (.list ds) = true then .ok (.bool (if neg then !inL dx ds else inL dx ds)) else .stuck
  | dx, .tuple ds => if SeqAt.shaped dx = true ∧ SeqAt.shaped (.tuple ds) = true then .ok (.bool (if neg then !inL dx ds else inL dx ds)) else .stuck
  | .str i, .str j => .ok (.bool (if neg then !strIn i j else strIn i j))
  | _, _ => .stuck
end
end Den
namespace Den
open PySem PySem.Spec PyProof.Rows L2
section
variable {X : Cx} {G : Gc} {a b c e : Expr} {f g h : DE} {pos : Pos}
def rInT (K : W.Frag) (neg : Bool) : R2 := fun x y H Q => ∃ d ds, Dp K H x d ∧ Dp K H y (.tuple ds) ∧ SeqAt.shaped d = true ∧ SeqAt.shaped (.tuple ds) = true ∧ Q (.bl (if neg then !inL d ds else inL d ds)) H
theorem op_inT (hu : X.A.units + 65 < cLine) : OpR X (compareOp .In) (rInT X.K false) := by
  intro pins s σ H x y v u Q I rx ry h
  obtain ⟨d, ds, hd, he, sd, se, q⟩ := h
  obtain ⟨as, r1⟩ := Dp.reads I d x v hd rx
  obtain ⟨bs, r2⟩ := Dp.reads I (.tuple ds) y u he ry
  exact SeqAt.in_tuple_reads r2 r1 (SeqAt.canLay_of_shaped se) (SeqAt.canLay_of_shaped sd) (room_in_shaped sd hu) ⟨.bl _, H, I, rfl, q⟩
theorem op_notInT (hu : X.A.units + 65 < cLine) : OpR X (compareOp .NotIn) (rInT X.K true) := by
  intro pins s σ H x y v u Q I rx ry h
  obtain ⟨d, ds, hd, he, sd, se, q⟩ := h
  obtain ⟨as, r1⟩ := Dp.reads I d x v hd rx
  obtain ⟨bs, r2⟩ := Dp.reads I (.tuple ds) y u he ry
  exact SeqAt.notIn_tuple_reads r2 r1 (SeqAt.canLay_of_shaped se) (SeqAt.canLay_of_shaped sd) (room_in_shaped sd hu) ⟨.bl _, H, I, rfl, q⟩
def rInA (K : W.Frag) : R2 := fun x y H Q => (rInD K x y H Q ∨ rInT K false x y H Q) ∨ (∃ i j, x = .str i ∧ y = .str j ∧ Q (.bl (!(Builtin.Str.occurrences j i 0 j.length 1).isEmpty)) H)
def rNotInA (K : W.Frag) : R2 := fun x y H Q => (rNotInD K x y H Q ∨ rInT K true x y H Q) ∨ (∃ i j, x = .str i ∧ y = .str j ∧ Q (.bl (!(!(Builtin.Str.occurrences j i 0 j.length 1).isEmpty))) H)
theorem op_inA (hu : X.A.units + 65 < cLine) : OpR X (compareOp .In) (rInA X.K) := ((op_inD hu).or (op_inT hu)).or op_in_str
theorem op_notInA (hu : X.A.units + 65 < cLine) : OpR X (compareOp .NotIn) (rNotInA X.K) := ((op_notInD hu).or (op_notInT hu)).or op_notin_str
theorem says_in : Says G (rInA G.K) (inD false) := by
  intro O H x y dx dy Q k t ax ay p
  unfold inD at p
  split at p
  · split at p
    · rename_i hc
      exact .inl (.inl ⟨_, _, ax.dp, ay.dp, hc.1, hc.2, post_sc k p rfl⟩)
    · exact p.elim
  · split at p
    · rename_i hc
      exact .inl (.inr ⟨_, _, ax.dp, ay.dp, hc.1, hc.2, post_sc k p rfl⟩)
    · exact p.elim
  · cases ax; cases ay
    exact .inr ⟨_, _, rfl, rfl, post_sc k p rfl⟩
  · exact p.elim
theorem says_notIn : Says G (rNotInA G.K) (inD true) := by
  intro O H x y dx dy Q k t ax ay p
  unfold inD at p
  split at p
  · split at p
    · rename_i hc
      exact .inl (.inl ⟨_, _, ax.dp, ay.dp, hc.1, hc.2, post_sc k p rfl⟩)
    · exact p.elim
  · split at p
    · rename_i hc
      exact .inl (.inr ⟨_, _, ax.dp, ay.dp, hc.1, hc.2, post_sc k p rfl⟩)
    · exact p.elim
  · cases ax; cases ay
    exact .inr ⟨_, _, rfl, rfl, post_sc k p rfl⟩
  · exact p.elim
def isD (neg : Bool) : D → D → Rs D
  | .none, .none => .ok (.bool !neg)
  | _, .none => .ok (.bool neg)
  | .bool i, .bool j => .ok (.bool (if neg then !decide (i = j) else decide (i = j)))
  | _, _ => .stuck
def rIsA : R2 := fun x y H Q => (y = .non ∧ Q (.bl (decide (x = .non))) H) ∨ rIsB x y H Q
def rNotA : R2 := fun x y H Q => (y = .non ∧ Q (.bl (!decide (x = .non))) H) ∨ rNotB x y H Q
theorem op_isA : OpR X (compareOp .Is) rIsA := op_isN.or op_isBl
theorem op_notA : OpR X (compareOp .IsNot) rNotA := op_notN.or op_notBl
theorem ne_non {K : W.Frag} {H : Hp} {O : Addr → Prop} : ∀ {d : D} {x : V}, AtC K H O d x → (d ≠ .none) → decide (x = V.non) = false
  | .none, _, _, n => absurd rfl n
  | .bool _, _, h, _ => by cases h; rfl
  | .int _, _, h, _ => by cases h; rfl
  | .str _, _, h, _ => by cases h; rfl
  | .list _, _, h, _ => by obtain ⟨_, _, rfl, _⟩ := h; rfl
  | .tuple _, _, h, _ => by obtain ⟨_, _, rfl, _⟩ := h; rfl
  | .dict _, _, h, _ => h.elim
theorem says_is : Says G rIsA (isD false) := by
  intro O H x y dx dy Q k t ax ay p
  unfold isD at p
  split at p
  · cases ax; cases ay
    exact .inl ⟨rfl, post_sc k p rfl⟩
  · rename_i hn
    cases ay
    refine .inl ⟨rfl, ?_⟩
    rw [ne_non ax hn]
    exact post_sc k p rfl
  · cases ax; cases ay
    exact .inr ⟨_, _, rfl, rfl, post_sc k p rfl⟩
  · exact p.elim
theorem says_notIs : Says G rNotA (isD true) := by
  intro O H x y dx dy Q k t ax ay p
  unfold isD at p
  split at p
  · cases ax; cases ay
    exact .inl ⟨rfl, post_sc k p rfl⟩
  · rename_i hn
    cases ay
    refine .inl ⟨rfl, ?_⟩
    rw [ne_non ax hn]
    exact post_sc k p rfl
  · cases ax; cases ay
    exact .inr ⟨_, _, rfl, rfl, post_sc k p rfl⟩
  · exact p.elim
def ixD : D → D → Rs D
  | .list ds, .int i => match atI ds i with | some d => .ok d | none => .stuck
  | .tuple ds, .int i => match atI ds i with | some d => .ok d | none => .stuck
  | _, _ => .stuck
theorem atI_atL {K : W.Frag} {H : Hp} {O : Addr → Prop} {ds : List D} {vs : List V} {i : Int} {d : D} (h : AtL K H O ds vs) (e : atI ds i = some d) : ∃ v, atI vs i = some v ∧ At K H O d v := by
  unfold atI at e ⊢
  rw [h.length]
  cases q : ixN ds.length i with
  | none => rw [q] at e; cases e
  | some j =>
    rw [q] at e
    obtain ⟨v, e1, e2⟩ := h.get (show ds[j]? = some d from e)
    exact ⟨v, e1, e2⟩
def rIxLT (K : W.Frag) : R2 := fun x y H Q => rIxL K x y H Q ∨ rIxT K x y H Q
theorem ix_LT : IxR X (rIxLT X.K) := ix_list.or ix_tup
theorem says_ix : Says G (rIxLT G.K) ixD := by
  intro O H x y dx dy Q k t ax ay p
  unfold ixD at p
  split at p
  · obtain ⟨a, vs, rfl, h1, h2⟩ := ax
    cases ay
    split at p
    · rename_i e
      obtain ⟨v, e1, e2⟩ := atI_atL h2 e
      exact .inl ⟨a, vs, _, v, rfl, rfl, h1, e1, post_sc k p e2⟩
    · exact p.elim
  · obtain ⟨a, vs, rfl, h1, n1, h2⟩ := ax
    cases ay
    split at p
    · rename_i e
      obtain ⟨v, e1, e2⟩ := atI_atL h2 e
      exact .inr ⟨a, vs, _, v, rfl, rfl, h1, e1, post_sc k p e2⟩
    · exact p.elim
  · exact p.elim
def cutD (ds : List D) (lo hi : Option Int) : List D := (ds.drop (HT.sIx ds.length 0 lo)).take (HT.sIx ds.length ds.length hi - HT.sIx ds.length 0 lo)
def slD (lo hi : Option Int) : D → Rs D
  | .list ds => .ok (.list (cutD ds lo hi))
  | .tuple ds => .ok (.tuple (cutD ds lo hi))
  | _ => .stuck
theorem atL_cut {K : W.Frag} {H : Hp} {O : Addr → Prop} {ds : List D} {vs : List V} (h : AtL K H O ds vs) (lo hi : Option Int) : AtL K H O (cutD ds lo hi) (cutV vs lo hi) := by
  unfold cutD cutV
  rw [h.length]
  exact (h.drop _).take _
def rSlLT (K : W.Frag) : V → Option Int → Option Int → Hp → VK → Prop := fun x lo hi H Q => rSlL K x lo hi H Q ∨ rSlA K x lo hi H Q
theorem sl_LT : SlR X (rSlLT X.K) := sl_list.or sl_tupA
theorem cut_whole {ds : List D} {lo hi : Option Int} (h : HT.sIx ds.length 0 lo = 0 ∧ HT.sIx ds.length ds.length hi = ds.length) : cutD ds lo hi = ds := by
  unfold cutD
  rw [h.1, h.2]
  simp
theorem says_sl {O : Addr → Prop} {H : Hp} {x : V} {dx : D} {lo hi : Option Int} {Q : VK} (k : KF G.K H) (t : Trk O H) (ax : AtC G.K H O dx x) (p : PostV G O H (slD lo hi dx) Q) : rSlLT G.K x lo hi H fun v H' => KF G.K H' → Q v H' := by
  unfold slD at p
  split at p
  · obtain ⟨a, vs, rfl, h1, h2⟩ := ax
    exact .inl ⟨a, vs, rfl, h1, fun q hq k' => p _ _ (same_upd hq) k' (new_list t hq (atL_cut h2 lo hi))⟩
  · obtain ⟨a, vs, rfl, h1, n1, h2⟩ := ax
    have hl := h2.length
    refine .inr ⟨a, vs, rfl, h1, fun w k' => ?_, fun _ q hq k' => p _ _ (same_upd hq) k' (new_tup t hq (atL_cut h2 lo hi))⟩
    rw [hl] at w
    rw [cut_whole w] at p
    exact p _ _ (Same.refl _) k' ⟨a, vs, rfl, h1, n1, h2⟩
  · exact p.elim
def intD : D → Rs Int
  | .int i => .ok i
  | _ => .stuck
@[simp] theorem intD_int (i : Int) : intD (.int i) = .ok i := rfl
theorem d_slLo (hK : X.K = G.K) {p2 : Pos} (ha : PE X a (tW G f)) (hl : PE X b (tW G g)) : PE X (.Subscript a (.Slice (some b) none none p2) pos) (tS G fun ρ => do let x ← f ρ; let l ← g ρ; let i ← intD l; slD (some i) none x) := by
  refine pe_imp (pe_slice sl_LT ha (po_some hl) po_none) fun σ H Q kf w => fun k0 => ?_
  obtain ⟨O, ρ, R, p⟩ := w k0
  refine ⟨O, ρ, R, p.bind.imp fun dx _ q x H1 s1 k1 ax => fun k1' => ?_⟩
  refine ⟨O, ρ, R.same s1, q.bind.imp fun dl _ q2 l H2 s2 k2 al => ?_⟩
  cases dl with
  | int i =>
    cases al
    refine ⟨i, rfl, ?_⟩
    rw [hK]
    have R2 := R.same (s1.trans s2)
    exact says_sl (G := G) k2 R2.trk (ax.same s2) (Post.imp q2 fun d _ q3 v H' s3 k3 a3 => q3 v H' (s1.trans (s2.trans s3)) k3 a3)
  | _ => exact q2.elim
theorem d_slHi (hK : X.K = G.K) {p2 : Pos} (ha : PE X a (tW G f)) (hl : PE X b (tW G g)) : PE X (.Subscript a (.Slice none (some b) none p2) pos) (tS G fun ρ => do let x ← f ρ; let l ← g ρ; let i ← intD l; slD none (some i) x) := by
  refine pe_imp (pe_slice sl_LT ha po_none (po_some hl)) fun σ H Q kf w => fun k0 => ?_
  obtain ⟨O, ρ, R, p⟩ := w k0
  refine ⟨O, ρ, R, p.bind.imp fun dx _ q x H1 s1 k1 ax => fun k1' => ?_⟩
  refine ⟨O, ρ, R.same s1, q.bind.imp fun dl _ q2 l H2 s2 k2 al => ?_⟩
  cases dl with
  | int i =>
    cases al
    refine ⟨i, rfl, ?_⟩
    rw [hK]
    have R2 := R.same (s1.trans s2)
    exact says_sl (G := G) k2 R2.trk (ax.same s2) (Post.imp q2 fun d _ q3 v H' s3 k3 a3 => q3 v H' (s1.trans (s2.trans s3)) k3 a3)
  | _ => exact q2.elim
theorem d_slLH (hK : X.K = G.K) {p2 : Pos} (ha : PE X a (tW G f)) (hl : PE X b (tW G g)) (hh : PE X c (tW G h)) : PE X (.Subscript a (.Slice (some b) (some c) none p2) pos) (tS G fun ρ => do let x ← f ρ; let l ← g ρ; let i ← intD l; let u ← h ρ; let j ← intD u; slD (some i) (some j) x) := by
  refine pe_imp (pe_slice sl_LT ha (po_some hl) (po_some hh)) fun σ H Q kf w => fun k0 => ?_
  obtain ⟨O, ρ, R, p⟩ := w k0
  refine ⟨O, ρ, R, p.bind.imp fun dx _ q x H1 s1 k1 ax => fun k1' => ?_⟩
  refine ⟨O, ρ, R.same s1, q.bind.imp fun dl _ q2 l H2 s2 k2 al => ?_⟩
  cases dl with
  | int i =>
    cases al
    refine ⟨i, rfl, fun k2' => ⟨O, ρ, R.same (s1.trans s2), (show Post G H (h ρ >>= fun u => intD u >>= fun j => slD (some i) (some j) dx) _ from q2).bind.imp fun du _ q3 u H3 s3 k3 au => ?_⟩⟩
    cases du with
    | int j =>
      cases au
      refine ⟨j, rfl, ?_⟩
      rw [hK]
      have R2 := R.same (s1.trans (s2.trans s3))
      exact says_sl (G := G) k3 R2.trk (ax.same (s2.trans s3)) (Post.imp q3 fun d _ q4 v H' s4 k4 a4 => q4 v H' (s1.trans (s2.trans (s3.trans s4))) k4 a4)
    | _ => exact q3.elim
  | _ => exact q2.elim
end
end Den
namespace Den
open PySem PySem.Spec PyProof.Rows L2
section
variable {X : Cx} {G : Gc} {a b c e : Expr} {f g h : DE} {pos : Pos}
structure Ctx (X : Cx) (G : Gc) (L : Nat) (bl : List Str) : Prop where
  K : X.K = G.K
  pass : Passes (L2.CX X.prog X.w) X G.E
  room : Room L X.A
  calm : X.calm = true
  nd : X.N.Nodup
  blt : ∀ x ∈ bl, X.mg x = none
variable {L : Nat} {bl : List Str}
theorem Ctx.kf (C : Ctx X G L bl) {H : Hp} (k : KF X.K H) : KF G.K H := C.K ▸ k
theorem Ctx.hu (C : Ctx X G L bl) : X.A.units + 65 < cLine := by have := C.room.un; omega
theorem Ctx.hu0 (C : Ctx X G L bl) : X.A.units + 64 < cLine := by have := C.room.un; omega
theorem kf_no {K : W.Frag} {H : Hp} {p : Addr} {o : HO} (k : KF K H) (e : H p = some o) : K.lookup p = none := by
  cases q : K.lookup p with
  | none => rfl
  | some u => rw [k p u q] at e; cases e
def vaR (i : Nat) (ρ : Ro) : Rs D := match ρ[i]? with | some (some d) => .ok d | _ => .stuck
theorem d_var (C : Ctx X G L bl) {i : Nat} {x : Str} (hN : X.N[i]? = some x) (hv : Vis X.env.scope x) (hw : G.own i = false) (hd : (x == ("__debug__" : Str)) = false) (hcd : (x == ("__classdict__" : Str)) = false) : PE X (.Name x pos) (tS G (vaR i)) := by
  refine pe_imp (pe_var hN hv hd hcd) fun σ H Q kf w => ?_
  have k := C.kf kf
  obtain ⟨O, ρ, R, p⟩ := w k
  unfold vaR at p
  split at p
  · rename_i d e
    obtain ⟨v, e1, h1⟩ := R.slot i d e hw
    exact ⟨v, e1, fun _ => p v H (Same.refl H) k h1⟩
  · exact p.elim
theorem d_varW (C : Ctx X G L bl) {i : Nat} {x : Str} (hN : X.N[i]? = some x) (hv : Vis X.env.scope x) (hd : (x == ("__debug__" : Str)) = false) (hcd : (x == ("__classdict__" : Str)) = false) : PE X (.Name x pos) (tW G (vaR i)) := by
  refine pe_imp (pe_var hN hv hd hcd) fun σ H Q kf w => ?_
  have k := C.kf kf
  obtain ⟨O, ρ, R, p⟩ := w k
  unfold vaR at p
  split at p
  · rename_i d e
    obtain ⟨v, e1, h1⟩ := R.var e
    exact ⟨v, e1, fun _ => p v H (Same.refl H) k h1⟩
  · exact p.elim
theorem d_cst (C : Ctx X G L bl) {d : D} {v : V} (he : PE X e (tC v)) (hd : ∀ (K : W.Frag) (H : Hp) (O : Addr → Prop), At K H O d v) : PE X e (tS G fun _ => .ok d) := by
  refine pe_imp he fun σ H Q kf w => ?_
  have k := C.kf kf
  obtain ⟨O, ρ, R, p⟩ := w k
  exact fun _ => p v H (Same.refl H) k (hd _ _ _)
def noArg : Ro → Rs (List D) := fun _ => .ok []
def consArg (f : DE) (fs : Ro → Rs (List D)) : Ro → Rs (List D) := fun ρ => do let d ← f ρ; let ds ← fs ρ; pure (d :: ds)
theorem a_nil (C : Ctx X G L bl) : PA X [] (tArg G noArg) := by
  refine pa_imp pa_nil fun σ H Q kf w => ?_
  have k := C.kf kf
  obtain ⟨O, ρ, R, p⟩ := w k
  exact fun _ => p [] H (Same.refl H) k rfl
theorem a_cons (C : Ctx X G L bl) {es : List Expr} {fs : Ro → Rs (List D)} (ha : PE X e (tS G f)) (hs : PA X es (tArg G fs)) (hst : starEach (e :: es) X.env = (false, eval e X.env) :: starEach es X.env) : PA X (e :: es) (tArg G (consArg f fs)) := by
  refine pa_imp (pa_cons ha hs hst) fun σ H Q kf w => fun k => ?_
  obtain ⟨O, ρ, R, p⟩ := w k
  refine ⟨O, ρ, R, p.bind.imp fun d _ q v H1 s1 k1 a1 => fun _ => ?_⟩
  refine ⟨O, ρ, R.same s1, q.bind.imp fun ds _ q2 vs H2 s2 k2 a2 => fun _ => ?_⟩
  exact q2 (v :: vs) H2 (s1.trans s2) k2 ⟨v, vs, rfl, a1.same s2, a2⟩
theorem a_nilW (C : Ctx X G L bl) : PA X [] (tArgW G noArg) := by
  refine pa_imp pa_nil fun σ H Q kf w => ?_
  have k := C.kf kf
  obtain ⟨O, ρ, R, p⟩ := w k
  exact fun _ => p [] H (Same.refl H) k rfl
theorem a_consW (C : Ctx X G L bl) {es : List Expr} {fs : Ro → Rs (List D)} (ha : PE X e (tW G f)) (hs : PA X es (tArgW G fs)) (hst : starEach (e :: es) X.env = (false, eval e X.env) :: starEach es X.env) : PA X (e :: es) (tArgW G (consArg f fs)) := by
  refine pa_imp (pa_cons ha hs hst) fun σ H Q kf w => fun k => ?_
  obtain ⟨O, ρ, R, p⟩ := w k
  refine ⟨O, ρ, R, p.bind.imp fun d _ q v H1 s1 k1 a1 => fun _ => ?_⟩
  refine ⟨O, ρ, R.same s1, q.bind.imp fun ds _ q2 vs H2 s2 k2 a2 => fun _ => ?_⟩
  exact q2 (v :: vs) H2 (s1.trans s2) k2 ⟨v, vs, rfl, a1.same s2, a2⟩
def tupA (fs : Ro → Rs (List D)) : DE := fun ρ => do let ds ← fs ρ; pure (.tuple ds)
def lstA (fs : Ro → Rs (List D)) : DE := fun ρ => do let ds ← fs ρ; pure (.list ds)
theorem d_tup (C : Ctx X G L bl) {es : List Expr} {k : Nat} {fs : Ro → Rs (List D)} (hl : ∀ ρ ds, fs ρ = .ok ds → ds.length ≤ big) (ha : PA X es (tArg G fs)) : PE X (.Tuple es k pos) (tS G (tupA fs)) := by
  refine pe_imp (pe_tup ha) fun σ H Q kf w => fun k => ?_
  obtain ⟨O, ρ, R, p⟩ := w k
  refine ⟨O, ρ, R, p.bind.imp fun ds e q vs H1 s1 k1 a1 => ?_⟩
  refine ⟨by rw [a1.length]; exact big_line (hl ρ ds e), fun n hn k' => ?_⟩
  exact q _ _ (s1.trans (same_upd hn)) (C.kf k') (new_tup (R.same s1).trk hn a1)
theorem d_lst (C : Ctx X G L bl) {es : List Expr} {fs : Ro → Rs (List D)} (hl : ∀ ρ ds, fs ρ = .ok ds → ds.length ≤ big) (ha : PA X es (tArg G fs)) : PE X (.List es pos) (tF G (lstA fs)) := by
  refine pe_imp (pe_lst ha) fun σ H Q kf w => fun k => ?_
  obtain ⟨O, ρ, R, p⟩ := w k
  refine ⟨O, ρ, R, p.bind.imp fun ds e q vs H1 s1 k1 a1 => ?_⟩
  refine ⟨by rw [a1.length]; exact big_line (hl ρ ds e), fun n hn k' => ?_⟩
  exact q n ds vs _ rfl (s1.trans (same_upd hn)) (C.kf k') (s1.free hn) upd_same ((a1.grow hn (kf_no (C.kf k') upd_same)).same (same_upd hn))
def addL (x y : D) : Rs D := match x, y with
  | .list _, .list _ => addD x y
  | _, _ => .stuck
theorem f_add (C : Ctx X G L bl) (ha : PE X a (tW G f)) (hb : PE X b (tW G g)) : PE X (.BinOp a .Add b pos) (tF G fun ρ => do let x ← f ρ; let y ← g ρ; addL x y) := by
  refine pe_imp (pe_op op_catL ha hb) fun σ H Q kf w => fun k => ?_
  obtain ⟨O, ρ, R, p⟩ := w k
  refine ⟨O, ρ, R, p.bind.imp fun dx _ q x H1 s1 k1 ax => fun _ => ?_⟩
  refine ⟨O, ρ, R.same s1, q.bind.imp fun dy _ q2 y H2 s2 k2 ay => ?_⟩
  unfold addL at q2
  split at q2
  · unfold addD at q2
    simp only at q2
    split at q2
    · rename_i hz
      have ax' := ax.same s2
      obtain ⟨l, vs, rfl, h1, h2⟩ := ax'
      obtain ⟨l2, us, rfl, h3, h4⟩ := ay
      rw [C.K]
      refine ⟨l, l2, vs, us, rfl, rfl, h1, h3, by rw [h2.length, h4.length]; exact big_line hz, fun n hn k' => ?_⟩
      exact q2 n _ _ _ rfl (s1.trans (s2.trans (same_upd hn))) k' (s1.free (s2.free hn)) upd_same (((h2.append h4).grow hn (kf_no k' upd_same)).same (same_upd hn))
    · exact q2.elim
  · exact q2.elim
def negD : D → Rs D | .int i => .ok (.int (-i)) | _ => .stuck
theorem d_neg (C : Ctx X G L bl) (ha : PE X a (tW G f)) : PE X (.UnaryOp .USub a pos) (tS G fun ρ => do let x ← f ρ; negD x) := by
  refine pe_imp (pe_un un_neg ha) fun σ H Q kf w => fun k => ?_
  obtain ⟨O, ρ, R, p⟩ := w k
  refine ⟨O, ρ, R, p.bind.imp fun dx _ q x H1 s1 k1 ax => ?_⟩
  unfold negD at q
  split at q
  · cases ax
    exact ⟨_, rfl, fun _ => q _ H1 s1 k1 rfl⟩
  · exact q.elim
def blD : D → Rs Bool | .bool b => .ok b | _ => .stuck
@[simp] theorem blD_bool (b : Bool) : blD (.bool b) = .ok b := rfl
def notE (f : DE) : DE := fun ρ => do let x ← f ρ; let b ← blD x; pure (.bool !b)
theorem d_not (C : Ctx X G L bl) (ha : PE X a (tW G f)) : PE X (.UnaryOp .Not a pos) (tS G (notE f)) := by
  refine pe_imp (pe_not ha) fun σ H Q kf w => fun k => ?_
  obtain ⟨O, ρ, R, p⟩ := w k
  refine ⟨O, ρ, R, p.bind.imp fun dx _ q x H1 s1 k1 ax => ?_⟩
  cases dx with
  | bool b => cases ax; exact ⟨b, rfl, fun _ => q _ H1 s1 k1 rfl⟩
  | _ => exact q.elim
def andE (f g : DE) : DE := fun ρ => do let x ← f ρ; let b ← blD x; if b then g ρ else pure (.bool false)
def orE (f g : DE) : DE := fun ρ => do let x ← f ρ; let b ← blD x; if b then pure (.bool true) else g ρ
theorem d_and (C : Ctx X G L bl) {rest : List Expr} (ha : PE X a (tW G f)) (hb : PE X (.BoolOp .And (b :: rest) pos) (tS G g)) : PE X (.BoolOp .And (a :: b :: rest) pos) (tS G (andE f g)) := by
  refine pe_imp (pe_and ha hb) fun σ H Q kf w => fun k => ?_
  obtain ⟨O, ρ, R, p⟩ := w k
  refine ⟨O, ρ, R, p.bind.imp fun dx _ q x H1 s1 k1 ax => ?_⟩
  cases dx with
  | bool b =>
    cases ax
    refine ⟨b, rfl, ?_⟩
    cases b with
    | true => exact fun _ => ⟨O, ρ, R.same s1, Post.imp (H := H) (r := g ρ) q fun d _ q2 v H' s2 k2 a2 => fun _ => q2 v H' (s1.trans s2) k2 a2⟩
    | false => exact fun _ => q _ H1 s1 k1 rfl
  | _ => exact q.elim
theorem d_or (C : Ctx X G L bl) {rest : List Expr} (ha : PE X a (tW G f)) (hb : PE X (.BoolOp .Or (b :: rest) pos) (tS G g)) : PE X (.BoolOp .Or (a :: b :: rest) pos) (tS G (orE f g)) := by
  refine pe_imp (pe_or ha hb) fun σ H Q kf w => fun k => ?_
  obtain ⟨O, ρ, R, p⟩ := w k
  refine ⟨O, ρ, R, p.bind.imp fun dx _ q x H1 s1 k1 ax => ?_⟩
  cases dx with
  | bool b =>
    cases ax
    refine ⟨b, rfl, ?_⟩
    cases b with
    | false => exact fun _ => ⟨O, ρ, R.same s1, Post.imp (H := H) (r := g ρ) q fun d _ q2 v H' s2 k2 a2 => fun _ => q2 v H' (s1.trans s2) k2 a2⟩
    | true => exact fun _ => q _ H1 s1 k1 rfl
  | _ => exact q.elim
theorem d_one {op} (ha : PE X a (tS G f)) : PE X (.BoolOp op [a] pos) (tS G f) := pe_one ha
def tstE (f : DE) : Ro → Rs Bool := fun ρ => do let x ← f ρ; blD x
theorem t_val (ha : PE X a (tW G f)) (he : ∀ whole, isTrue a X.env whole = (do let v ← whole; standAt a.pos; holding [v] (truthy v))) : PT X a (tTst G (tstE f)) := by
  refine pt_imp (pt_val ha he) fun σ H Q _ w k => ?_
  obtain ⟨O, ρ, R, p⟩ := w k
  refine ⟨O, ρ, R, p.bind.imp fun d _ q v H' s k' a => ?_⟩
  cases d with
  | bool b =>
    cases a
    exact ⟨b, rfl, fun _ => q H' s k'⟩
  | _ => exact q.elim
theorem pt_cmpK {op : CmpOp} {r : R2} {ta tb : TE} (ho : OpR X (compareOp op) r) (ha : PE X a ta) (hb : PE X b tb) (hm : behindInMarks op b = false) :
    PT X (.Compare a [op] [b] pos) (fun σ H Q => tOp r ta tb σ H fun z H3 => KF X.K H3 → ∃ k, z = .bl k ∧ Q k H3) := by
  refine ⟨fun pins s σ H Q I h => ?_⟩
  refine wpAny_isTrue_Compare1 (thn (ha.run pins s σ H _ I h) fun v s1 ⟨x, H1, I1, r1, q1⟩ => thn (hb.run pins s1 σ H1 _ I1 q1) fun u s2 ⟨y, H2, I2, r2, q2⟩ =>
    thn (ho pins s2 σ H2 x y v u _ I2 r1 r2 q2) fun c s3 ⟨z, H3, I3, r3, q0⟩ => ?_) hm
  obtain ⟨k, e, q3⟩ := q0 (kf_inv I3)
  subst e
  cases r3
  exact wpAny_truthy_bool ⟨H3, I3, q3⟩
theorem t_cmp (C : Ctx X G L bl) {op : CmpOp} {r : R2} {F : D → D → Rs D} (ho : OpR X (compareOp op) r) (s : Says G r F) (hm : behindInMarks op b = false) (ha : PE X a (tW G f)) (hb : PE X b (tW G g)) : PT X (.Compare a [op] [b] pos) (tTst G (tstE fun ρ => do let x ← f ρ; let y ← g ρ; F x y)) := by
  refine pt_imp (pt_cmpK ho ha hb hm) fun σ H Q kf w => fun k0 => ?_
  obtain ⟨O, ρ, R, p⟩ := w k0
  refine ⟨O, ρ, R, p.bind.bind.imp fun dx _ q x H1 s1 k1 ax => fun _ => ?_⟩
  refine ⟨O, ρ, R.same s1, q.bind.imp fun dy _ q2 y H2 s2 k2 ay => ?_⟩
  have R2 := R.same (s1.trans s2)
  rw [C.K]
  exact s O H2 x y dx dy (fun v H' => ∃ k, v = .bl k ∧ (KF G.K H' → Q k H')) k2 R2.trk (ax.same s2) ay (Post.imp q2 fun d _ q3 v H' s3 k3 a3 => by
    cases d with
    | bool b => cases a3; exact ⟨b, rfl, fun _ => q3 H' (s1.trans (s2.trans s3)) k3⟩
    | _ => exact q3.elim)
def tChainK (K : W.Frag) (r r' : R2) (ta tb tc : TE) : TE := fun σ H Q => ta σ H fun x H1 => tb σ H1 fun y H2 => r x y H2 fun z H3 => KF K H3 → ∃ k, z = .bl k ∧
  (if k = true then tc σ H3 fun w' H4 => r' y w' H4 Q else Q (.bl false) H3)
theorem pe_chainK {op op' : CmpOp} {r r' : R2} {ta tb tc : TE} (ho : OpR X (compareOp op) r) (ho' : OpR X (compareOp op') r') (ha : PE X a ta) (hb : PE X b tb) (hc : PE X c tc)
    (hm : lastMarks [op, op'] [b, c] = false) : PE X (.Compare a [op, op'] [b, c] pos) (tChainK X.K r r' ta tb tc) := by
  refine ⟨fun pins s σ H Q I h => ?_⟩
  refine Compare_chain (thn (ha.run pins s σ H _ I h) fun v s1 ⟨x, H1, I1, r1, q1⟩ => chain_link (thn (hb.run pins s1 σ H1 _ I1 q1) fun u s2 ⟨y, H2, I2, r2, q2⟩ =>
    thn (ho pins s2 σ H2 x y v u _ I2 r1 r2 q2) fun d s3 ⟨z, H3, I3, r3, q0⟩ => ?_)) hm
  obtain ⟨k, e, q3⟩ := q0 (kf_inv I3)
  subst e
  cases r3
  refine wpAny_truthy_bool ?_
  cases k with
  | false => exact ite_ff ⟨.bl false, H3, I3, rfl, q3⟩
  | true => exact ite_tt (chain_last (thn (hc.run pins s3 σ H3 _ I3 q3) fun w' s4 ⟨z', H4, I4, r4, q4⟩ => ho' pins s4 σ H4 y z' u w' Q I4 r2 r4 q4))
theorem pt_chainK {op op' : CmpOp} {r r' : R2} {ta tb tc : TE} (ho : OpR X (compareOp op) r) (ho' : OpR X (compareOp op') r') (ha : PE X a ta) (hb : PE X b tb) (hc : PE X c tc)
    (hm : lastMarks [op, op'] [b, c] = false) : PT X (.Compare a [op, op'] [b, c] pos) (fun σ H Q => tChainK X.K r r' ta tb tc σ H fun z H3 => KF X.K H3 → ∃ k, z = .bl k ∧ Q k H3) := by
  refine ⟨fun pins s σ H Q I h => ?_⟩
  refine isTrue_chain (thn (ha.run pins s σ H _ I h) fun v s1 ⟨x, H1, I1, r1, q1⟩ => test_link (thn (hb.run pins s1 σ H1 _ I1 q1) fun u s2 ⟨y, H2, I2, r2, q2⟩ =>
    thn (ho pins s2 σ H2 x y v u _ I2 r1 r2 q2) fun d s3 ⟨z, H3, I3, r3, q0⟩ => ?_)) hm
  obtain ⟨k, e, q3⟩ := q0 (kf_inv I3)
  subst e
  cases r3
  refine wpAny_truthy_bool ?_
  cases k with
  | false =>
    rw [if_neg Bool.false_ne_true] at q3
    obtain ⟨k', e', q'⟩ := q3 (kf_inv I3)
    cases e'
    exact ite_ff ⟨H3, I3, q'⟩
  | true =>
    refine ite_tt (test_last (thn (hc.run pins s3 σ H3 _ I3 q3) fun w' s4 ⟨z', H4, I4, r4, q4⟩ => thn (ho' pins s4 σ H4 y z' u w' _ I4 r2 r4 q4) fun d' s5 ⟨z2, H5, I5, r5, q50⟩ => ?_))
    obtain ⟨k2, e2, q5⟩ := q50 (kf_inv I5)
    subst e2
    cases r5
    exact wpAny_truthy_bool ⟨H5, I5, q5⟩
def chnE (F F' : D → D → Rs D) (f g h : DE) : DE := fun ρ => do
  let x ← f ρ
  let y ← g ρ
  let r ← F x y
  let t ← blD r
  if t then (do let z ← h ρ; F' y z) else pure (.bool false)
theorem chain_core (C : Ctx X G L bl) {r r' : R2} {F F' : D → D → Rs D} (s : Says G r F) (s' : Says G r' F') {σ : L2.St} {H : Hp} {Q : VK} (w : tS G (chnE F F' f g h) σ H Q) : tChainK X.K r r' (tW G f) (tW G g) (tW G h) σ H fun v H' => KF X.K H' → Q v H' := fun k0 => by
  obtain ⟨O, ρ, R, p⟩ := w k0
  refine ⟨O, ρ, R, p.bind.imp fun dx _ q x H1 s1 k1 ax => fun _ => ?_⟩
  refine ⟨O, ρ, R.same s1, q.bind.imp fun dy _ q2 y H2 s2 k2 ay => ?_⟩
  have R2 := R.same (s1.trans s2)
  rw [C.K]
  refine s O H2 x y dx dy _ k2 R2.trk (ax.same s2) ay (q2.bind.imp fun d _ q3 v H' s3 k3 a3 => ?_)
  cases d with
  | bool b =>
    cases a3
    refine ⟨b, rfl, ?_⟩
    cases b with
    | false => exact fun _ => q3 _ H' (s1.trans (s2.trans s3)) k3 rfl
    | true =>
      refine fun _ => ⟨O, ρ, R2.same s3, (show Post G H (h ρ >>= fun z => F' dy z) _ from q3).bind.imp fun dz _ q4 z H4 s4 k4 az => ?_⟩
      exact s' O H4 y z dy dz Q k4 (R2.same (s3.trans s4)).trk (ay.same (s3.trans s4)) az (Post.imp q4 fun d _ q5 v H5 s5 k5 a5 => q5 v H5 (s1.trans (s2.trans (s3.trans (s4.trans s5)))) k5 a5)
  | _ => exact q3.elim
theorem d_chain (C : Ctx X G L bl) {op op' : CmpOp} {r r' : R2} {F F' : D → D → Rs D} (ho : OpR X (compareOp op) r) (ho' : OpR X (compareOp op') r') (s : Says G r F) (s' : Says G r' F') (hm : lastMarks [op, op'] [b, c] = false)
    (ha : PE X a (tW G f)) (hb : PE X b (tW G g)) (hc : PE X c (tW G h)) : PE X (.Compare a [op, op'] [b, c] pos) (tS G (chnE F F' f g h)) :=
  pe_imp (pe_chainK ho ho' ha hb hc hm) fun σ H Q kf w => chain_core C s s' w
theorem t_chain (C : Ctx X G L bl) {op op' : CmpOp} {r r' : R2} {F F' : D → D → Rs D} (ho : OpR X (compareOp op) r) (ho' : OpR X (compareOp op') r') (s : Says G r F) (s' : Says G r' F') (hm : lastMarks [op, op'] [b, c] = false)
    (ha : PE X a (tW G f)) (hb : PE X b (tW G g)) (hc : PE X c (tW G h)) : PT X (.Compare a [op, op'] [b, c] pos) (tTst G (tstE (chnE F F' f g h))) := by
  refine pt_imp (pt_chainK ho ho' ha hb hc hm) fun σ H Q kf w => ?_
  have w' : tS G (chnE F F' f g h) σ H fun z H3 => ∃ k, z = .bl k ∧ (KF X.K H3 → Q k H3) := fun k => by
    obtain ⟨O, ρ, R, p⟩ := w k
    refine ⟨O, ρ, R, p.bind.imp fun d _ q v H' s1 k1 a1 => ?_⟩
    cases d with
    | bool b => cases a1; exact ⟨b, rfl, fun _ => q H' s1 k1⟩
    | _ => exact q.elim
  exact chain_core C s s' w'
theorem t_not (C : Ctx X G L bl) (ha : PT X a (tTst G (tstE f))) : PT X (.UnaryOp .Not a pos) (tTst G (tstE (notE f))) := by
  refine pt_imp (pt_not ha) fun σ H Q kf w => fun k => ?_
  obtain ⟨O, ρ, R, p⟩ := w k
  refine ⟨O, ρ, R, ?_⟩
  have p1 : Post G H (f ρ >>= fun x => blD x >>= fun b => Rs.ok (!b)) fun b => ∀ H', Same H H' → KF G.K H' → Q b H' := by
    have e : tstE (notE f) ρ = (f ρ >>= fun x => blD x >>= fun b => Rs.ok (!b)) := by
      unfold tstE notE
      cases f ρ with
      | ok x => cases x <;> rfl
      | exc c => rfl
      | stuck => rfl
    rw [← e]; exact p
  have p2 := p1
  unfold tstE
  cases hf : f ρ with
  | ok x =>
    rw [hf] at p2
    cases x with
    | bool b => exact fun H' s1 k1 => fun _ => p2 H' s1 k1
    | _ => exact p2.elim
  | exc c => rw [hf] at p2; exact p2
  | stuck => rw [hf] at p2; exact p2
theorem t_and1 {op} (ha : PT X a (tTst G (tstE f))) : PW X (.BoolOp op [a] pos) (tTst G (tstE f)) := by
  cases op with
  | And => exact pw_and1 ha
  | Or => exact pw_or1 ha
theorem t_and (C : Ctx X G L bl) {rest : List Expr} (ha : PT X a (tTst G (tstE f))) (hb : PW X (.BoolOp .And (b :: rest) pos) (tTst G (tstE g))) : PW X (.BoolOp .And (a :: b :: rest) pos) (tTst G (tstE (andE f g))) := by
  have hi := pw_and ha hb
  refine ⟨fun whole pins s σ H Q I w => hi.run whole pins s σ H Q I fun k => ?_⟩
  obtain ⟨O, ρ, R, p⟩ := w k
  refine ⟨O, ρ, R, ?_⟩
  unfold tstE andE at p
  unfold tstE
  cases hf : f ρ with
  | ok x =>
    rw [hf] at p
    cases x with
    | bool b =>
      cases b with
      | true => exact fun H' s1 k1 => (if_pos rfl).mpr fun _ => ⟨O, ρ, R.same s1, Post.imp (H := H) (r := (g ρ >>= fun x => blD x)) p fun b' _ q H2 s2 k2 => q H2 (s1.trans s2) k2⟩
      | false => exact fun H' s1 k1 => (if_neg Bool.false_ne_true).mpr (p H' s1 k1)
    | _ => exact p.elim
  | exc c => rw [hf] at p; exact p
  | stuck => rw [hf] at p; exact p
theorem t_or (C : Ctx X G L bl) {rest : List Expr} (ha : PT X a (tTst G (tstE f))) (hb : PW X (.BoolOp .Or (b :: rest) pos) (tTst G (tstE g))) : PW X (.BoolOp .Or (a :: b :: rest) pos) (tTst G (tstE (orE f g))) := by
  have hi := pw_or ha hb
  refine ⟨fun whole pins s σ H Q I w => hi.run whole pins s σ H Q I fun k => ?_⟩
  obtain ⟨O, ρ, R, p⟩ := w k
  refine ⟨O, ρ, R, ?_⟩
  unfold tstE orE at p
  unfold tstE
  cases hf : f ρ with
  | ok x =>
    rw [hf] at p
    cases x with
    | bool b =>
      cases b with
      | false => exact fun H' s1 k1 => (if_neg Bool.false_ne_true).mpr fun _ => ⟨O, ρ, R.same s1, Post.imp (H := H) (r := (g ρ >>= fun x => blD x)) p fun b' _ q H2 s2 k2 => q H2 (s1.trans s2) k2⟩
      | true => exact fun H' s1 k1 => (if_pos rfl).mpr (p H' s1 k1)
    | _ => exact p.elim
  | exc c => rw [hf] at p; exact p
  | stuck => rw [hf] at p; exact p
def iteE (t f g : DE) : DE := fun ρ => do let x ← t ρ; let b ← blD x; if b then f ρ else g ρ
theorem d_ite (C : Ctx X G L bl) {t : DE} (hc : PT X c (tTst G (tstE t))) (ha : PE X a (tS G f)) (hb : PE X b (tS G g)) : PE X (.IfExp c a b pos) (tS G (iteE t f g)) := by
  refine pe_imp (pe_ifExp hc ha hb) fun σ H Q kf w => fun k => ?_
  obtain ⟨O, ρ, R, p⟩ := w k
  refine ⟨O, ρ, R, ?_⟩
  unfold iteE at p
  unfold tstE
  cases hf : t ρ with
  | ok x =>
    rw [hf] at p
    cases x with
    | bool b =>
      cases b with
      | true => exact fun H' s1 k1 => (if_pos rfl).mpr fun _ => ⟨O, ρ, R.same s1, Post.imp (H := H) (r := f ρ) p fun d _ q v H2 s2 k2 a2 => fun _ => q v H2 (s1.trans s2) k2 a2⟩
      | false => exact fun H' s1 k1 => (if_neg Bool.false_ne_true).mpr fun _ => ⟨O, ρ, R.same s1, Post.imp (H := H) (r := g ρ) p fun d _ q v H2 s2 k2 a2 => fun _ => q v H2 (s1.trans s2) k2 a2⟩
    | _ => exact p.elim
  | exc c => rw [hf] at p; exact p
  | stuck => rw [hf] at p; exact p
end
end Den
namespace Den
open PySem PySem.Spec PyProof.Rows L2
section
variable {G : Gc} {O : Addr → Prop} {σ : L2.St} {H : Hp} {ρ : Ro}
theorem set_at {α : Type} {l : List α} {i j : Nat} {x y : α} (h : (l.set i x)[j]? = some y) : (i = j ∧ x = y ∧ i < l.length) ∨ (i ≠ j ∧ l[j]? = some y) := by
  by_cases e : i = j
  · subst e
    by_cases hl : i < l.length
    · rw [List.getElem?_set_self hl] at h
      exact .inl ⟨rfl, Option.some.inj h, hl⟩
    · rw [List.getElem?_eq_none (by simpa using hl)] at h; cases h
  · rw [List.getElem?_set_ne e] at h
    exact .inr ⟨e, h⟩
theorem Rep.set {i : Nat} {d : D} {v : V} (R : Rep G O σ H ρ) (a : At G.K H O d v) (hw : G.own i = false) : Rep G O (σ.set i (some v)) H (ρ.set i (some d)) := by
  refine ⟨R.base, R.sub, R.trk, R.fre, by rw [List.length_set, List.length_set]; exact R.len, fun j e hj nj => ?_, fun j e hj nj => ?_, fun j k e e' b hjk nj nk hj hk h1 h2 => ?_⟩
  · rcases set_at hj with ⟨rfl, e1, hl⟩ | ⟨ne, hj'⟩
    · cases e1
      exact ⟨v, List.getElem?_set_self (by rw [← R.len]; exact hl), a⟩
    · obtain ⟨u, e1, h1⟩ := R.slot j e hj' nj
      exact ⟨u, by rw [List.getElem?_set_ne ne]; exact e1, h1⟩
  · have ne : i ≠ j := fun z => by subst z; rw [hw] at nj; cases nj
    rw [List.getElem?_set_ne ne] at hj
    obtain ⟨b, ds, vs, e0, e1, r⟩ := R.owns j e hj nj
    exact ⟨b, ds, vs, e0, by rw [List.getElem?_set_ne ne]; exact e1, r⟩
  · have n1 : i ≠ j := fun z => by subst z; rw [hw] at nj; cases nj
    have n2 : i ≠ k := fun z => by subst z; rw [hw] at nk; cases nk
    rw [List.getElem?_set_ne n1] at hj h1
    rw [List.getElem?_set_ne n2] at hk h2
    exact R.dist j k e e' b hjk nj nk hj hk h1 h2
theorem Rep.drop {i : Nat} (R : Rep G O σ H ρ) : Rep G O (σ.set i none) H (ρ.set i none) := by
  refine ⟨R.base, R.sub, R.trk, R.fre, by rw [List.length_set, List.length_set]; exact R.len, fun j e hj nj => ?_, fun j e hj nj => ?_, fun j k e e' b hjk nj nk hj hk h1 h2 => ?_⟩
  · rcases set_at hj with ⟨rfl, e1, hl⟩ | ⟨ne, hj'⟩
    · cases e1
    · obtain ⟨u, e1, h1⟩ := R.slot j e hj' nj
      exact ⟨u, by rw [List.getElem?_set_ne ne]; exact e1, h1⟩
  · rcases set_at hj with ⟨rfl, e1, hl⟩ | ⟨ne, hj'⟩
    · cases e1
    · obtain ⟨b, ds, vs, e0, e1, r⟩ := R.owns j e hj' nj
      exact ⟨b, ds, vs, e0, by rw [List.getElem?_set_ne ne]; exact e1, r⟩
  · rcases set_at hj with ⟨_, e1, _⟩ | ⟨n1, hj'⟩
    · cases e1
    rcases set_at hk with ⟨_, e1, _⟩ | ⟨n2, hk'⟩
    · cases e1
    rw [List.getElem?_set_ne n1] at h1
    rw [List.getElem?_set_ne n2] at h2
    exact R.dist j k e e' b hjk nj nk hj' hk' h1 h2
theorem Rep.forget {i : Nat} (R : Rep G O σ H ρ) : Rep G O σ H (ρ.set i none) := by
  refine ⟨R.base, R.sub, R.trk, R.fre, by rw [List.length_set]; exact R.len, fun j e hj nj => ?_, fun j e hj nj => ?_, fun j k e e' b hjk nj nk hj hk h1 h2 => ?_⟩
  · rcases set_at hj with ⟨rfl, e1, hl⟩ | ⟨ne, hj'⟩
    · cases e1
    · exact R.slot j e hj' nj
  · rcases set_at hj with ⟨rfl, e1, hl⟩ | ⟨ne, hj'⟩
    · cases e1
    · exact R.owns j e hj' nj
  · rcases set_at hj with ⟨_, e1, _⟩ | ⟨n1, hj'⟩
    · cases e1
    rcases set_at hk with ⟨_, e1, _⟩ | ⟨n2, hk'⟩
    · cases e1
    exact R.dist j k e e' b hjk nj nk hj' hk' h1 h2
def wipeR (ρ : Ro) : List Nat → Ro
  | [] => ρ
  | v :: vs => (wipeR ρ vs).set v none
theorem Rep.wipe (R : Rep G O σ H ρ) : ∀ vs : List Nat, Rep G O (L2.wipe σ vs) H (wipeR ρ vs)
  | [] => R
  | v :: vs => (R.wipe vs).drop
theorem wipe_get {σ : L2.St} : ∀ {vs : List Nat} {j : Nat}, (L2.wipe σ vs)[j]? = if j ∈ vs then (if j < σ.length then some none else none) else σ[j]?
  | [], j => by simp [L2.wipe]
  | v :: vs, j => by
    unfold L2.wipe
    by_cases e : v = j
    · subst e
      rw [if_pos List.mem_cons_self]
      by_cases hl : v < σ.length
      · rw [if_pos hl, List.getElem?_set_self (by rw [wipe_length]; exact hl)]
      · rw [if_neg hl, List.getElem?_eq_none (by rw [List.length_set, wipe_length]; omega)]
    · rw [List.getElem?_set_ne e, wipe_get (vs := vs) (j := j)]
      by_cases h : j ∈ vs
      · rw [if_pos h, if_pos (List.mem_cons_of_mem _ h)]
      · rw [if_neg h, if_neg (fun z => (List.mem_cons.mp z).elim (fun q => e q.symm) h)]
theorem wipe_eq {σ σ' : L2.St} {vs : List Nat} (hl : σ'.length = σ.length) (h : ∀ j, j ∉ vs → σ'[j]? = σ[j]?) : L2.wipe σ' vs = L2.wipe σ vs := by
  apply List.ext_getElem?
  intro j
  rw [wipe_get, wipe_get, hl]
  by_cases hj : j ∈ vs
  · rw [if_pos hj, if_pos hj]
  · rw [if_neg hj, if_neg hj]; exact h j hj
end
theorem wipe_wipe {σ : L2.St} {vs : List Nat} : L2.wipe (L2.wipe σ vs) vs = L2.wipe σ vs := wipe_eq (wipe_length _ _) fun j hj => by rw [wipe_get, if_neg hj]
abbrev Gc.noE (G : Gc) : Gc := { G with E := fun _ _ _ => False }
theorem Rep.noE {G : Gc} {O : Addr → Prop} {σ : L2.St} {H : Hp} {ρ : Ro} (R : Rep G O σ H ρ) : Rep G.noE O σ H ρ := ⟨R.base, R.sub, R.trk, R.fre, R.len, R.slot, R.owns, R.dist⟩
abbrev STg := D → Ro → Rs Ro
def tTg (G : Gc) (vs : List Nat) (st : STg) : TG := fun v σ H Q => KF G.K H → ∃ O ρ d ρ', Rep G O σ H ρ ∧ At G.K H O d v ∧ st d ρ = .ok ρ' ∧ ∀ σ', Rep G O σ' H ρ' → L2.wipe σ' vs = L2.wipe σ vs → Q σ' H
theorem pg_imp {X : Cx} {tg : Expr} {t t' : TG} (h : PG X tg t) (hi : ∀ v σ H Q, KF X.K H → t' v σ H Q → t v σ H Q) : PG X tg t' := ⟨fun pins s σ H v u Q I r w => h.run pins s σ H v u Q I r (hi v σ H Q (kf_inv I) w)⟩
def setN (i : Nat) : STg := fun d ρ => .ok (ρ.set i (some d))
def setAll : List Nat → List D → Ro → Rs Ro
  | [], [], ρ => .ok ρ
  | i :: is, d :: ds, ρ => setAll is ds (ρ.set i (some d))
  | _, _, _ => .stuck
def setT (is : List Nat) : STg := fun d ρ => match d with
  | .tuple ds => setAll is ds ρ
  | _ => .stuck
section
variable {X : Cx} {G : Gc} {pos : Pos}
theorem g_name {vs : List Nat} {i : Nat} {x : Str} (hK : X.K = G.K) (hN : X.N.Nodup) (hi : X.N[i]? = some x) (hx : Loc X.env.scope x) (hf : X.fn x = true ∨ X.env.scope.names.lookup x = some .local) (hw : G.own i = false) (hv : i ∈ vs) : PG X (.Name x pos) (tTg G vs (setN i)) := by
  refine pg_imp (pg_name hN hi hx hf) fun v σ H Q kf w => ?_
  obtain ⟨O, ρ, d, ρ', R, a, e, q⟩ := w (hK ▸ kf)
  cases e
  refine q _ (R.set a hw) (wipe_eq (by simp) fun j hj => ?_)
  rw [List.getElem?_set_ne (by rintro rfl; exact hj hv)]
def tTgs (G : Gc) (vs : List Nat) (is : List Nat) : TGs := fun us σ H Q => KF G.K H → ∃ O ρ ds ρ', Rep G O σ H ρ ∧ AtL G.K H O ds us ∧ setAll is ds ρ = .ok ρ' ∧ ∀ σ', Rep G O σ' H ρ' → L2.wipe σ' vs = L2.wipe σ vs → Q σ' H
theorem gs_nil {vs : List Nat} (hK : X.K = G.K) : PGs X [] (tTgs G vs []) := ⟨fun pins s σ H us uv Q I r w => by
  obtain ⟨O, ρ, ds, ρ', R, a, e, q⟩ := w (hK ▸ kf_inv I)
  cases ds with
  | nil =>
    cases a
    cases e
    exact (pgs_nil (X := X)).run pins s σ H [] uv Q I r ⟨rfl, q σ R rfl⟩
  | cons _ _ => cases e⟩
theorem gs_cons {vs : List Nat} {i : Nat} {is : List Nat} {x : Str} {p : Pos} {es : List Expr} (hK : X.K = G.K) (hN : X.N.Nodup) (hi : X.N[i]? = some x) (hx : Loc X.env.scope x) (hf : X.fn x = true ∨ X.env.scope.names.lookup x = some .local) (hw : G.own i = false) (hv : i ∈ vs)
    (h : PGs X es (tTgs G vs is)) : PGs X (.Name x p :: es) (tTgs G vs (i :: is)) := ⟨fun pins s σ H us uv Q I r w => by
  have k := hK ▸ kf_inv I
  obtain ⟨O, ρ, ds, ρ', R, a, e, q⟩ := w k
  cases ds with
  | nil => cases e
  | cons d ds =>
    obtain ⟨v, ur, rfl, a1, a2⟩ := a
    refine (pgs_cons (pg_name (pos := p) hN hi hx hf) h rfl).run pins s σ H (v :: ur) uv Q I r ⟨v, ur, rfl, fun _ => ?_⟩
    refine ⟨O, _, ds, ρ', R.set a1 hw, a2, e, fun σ' R' hw' => q σ' R' (hw'.trans (wipe_eq (by simp) fun j hj => ?_))⟩
    rw [List.getElem?_set_ne (by rintro rfl; exact hj hv)]⟩
theorem setAll_len : ∀ (is : List Nat) (ds : List D) (ρ ρ' : Ro), setAll is ds ρ = .ok ρ' → ds.length = is.length := by
  intro is
  induction is with
  | nil => intro ds ρ ρ' h; cases ds with
    | nil => rfl
    | cons _ _ => cases h
  | cons i is ih => intro ds ρ ρ' h; cases ds with
    | nil => cases h
    | cons d ds => rw [List.length_cons, List.length_cons, ih ds _ ρ' h]
theorem g_tup {vs : List Nat} {is : List Nat} {es : List Expr} {k : Nat} (hK : X.K = G.K) (hc : X.calm = true) (h : PGs X es (tTgs G vs is)) (hn : (assignEach es X.env).length = is.length) (hst : (assignEach es X.env).findIdx? (·.1) = none) : PG X (.Tuple es k pos) (tTg G vs (setT is)) := by
  refine pg_imp (pg_tup (n := is.length) hc h hn hst) fun v σ H Q kf w => ?_
  obtain ⟨O, ρ, d, ρ', R, a, e, q⟩ := w (hK ▸ kf)
  cases d with
  | tuple ds =>
    obtain ⟨p, us, rfl, h1, n1, h2⟩ := a
    rw [hK]
    exact ⟨p, us, rfl, h1, by rw [h2.length]; exact setAll_len _ _ _ _ e, fun _ => ⟨O, ρ, ds, ρ', R, h2, e, q⟩⟩
  | _ => cases e
end
structure Walk (K : W.Frag) (M O : Addr → Prop) (J : It) (H0 : Hp) (ds : List D) : Prop where
  len : ds.length ≤ sizeLine
  go : ∀ i d H, ds[i]? = some d → Kp M H0 H → J.go i H ∧ ∀ x H', J.yld i H x H' → Same H H' ∧ ∀ O', (∀ a, O' a → O a ∨ (H0 a = none ∧ K.lookup a = none)) → Trk O' H → At K H' O' d x
  stop : ∀ H, Kp M H0 H → J.stop ds.length H
mutual
theorem At.move {K : W.Frag} {M O O' : Addr → Prop} {H H' : Hp} (hm : ∀ a, M a → O a) (k : Kp M H H') (g : ∀ a, O' a → O a ∨ (H a = none ∧ K.lookup a = none)) : ∀ {d : D} {v : V}, At K H O d v → At K H' O' d v
  | .none, _, h => h
  | .bool _, _, h => h
  | .int _, _, h => h
  | .str _, _, h => h
  | .list _, _, h => by
    obtain ⟨a, vs, e, h1, h2, h3⟩ := h
    exact ⟨a, vs, e, sqL_kp k (fun z => h2 (hm a z)) h1, fun z => (g a z).elim h2 fun q => sqL_there q.1 q.2 h1 rfl, AtL.move hm k g h3⟩
  | .tuple _, _, h => by
    obtain ⟨a, vs, e, h1, h2, h3⟩ := h
    exact ⟨a, vs, e, sqT_kp k (fun z => h2 (hm a z)) h1, fun z => (g a z).elim h2 fun q => sqT_there q.1 q.2 h1 rfl, AtL.move hm k g h3⟩
  | .dict _, _, h => h.elim
theorem AtL.move {K : W.Frag} {M O O' : Addr → Prop} {H H' : Hp} (hm : ∀ a, M a → O a) (k : Kp M H H') (g : ∀ a, O' a → O a ∨ (H a = none ∧ K.lookup a = none)) : ∀ {ds : List D} {vs : List V}, AtL K H O ds vs → AtL K H' O' ds vs
  | [], _, h => h
  | _ :: _, _, h => by
    obtain ⟨v, r, e, h1, h2⟩ := h
    exact ⟨v, r, e, At.move hm k g h1, AtL.move hm k g h2⟩
end
theorem walk_list {K : W.Frag} {M O : Addr → Prop} {H : Hp} {a : Addr} {ds : List D} {vs : List V} (hm : ∀ a, M a → O a) (hz : vs.length ≤ sizeLine) (h1 : SqL K H a vs) (n : ¬ M a) (h2 : AtL K H O ds vs) : Walk K M O (Itl K a) H ds where
  len := by rw [← h2.length]; exact hz
  go := fun i d H' e k => by
    obtain ⟨v, e1, a1⟩ := h2.get e
    have q := sqL_kp k n h1
    refine ⟨⟨vs, v, q, e1⟩, fun x H'' y => ?_⟩
    obtain ⟨rfl, y2⟩ := y
    have := y2 vs q
    rw [e1] at this; cases this
    exact ⟨Same.refl _, fun O' g t => a1.move hm k g⟩
  stop := fun H' k => ⟨vs, sqL_kp k n h1, by rw [h2.length]; exact Nat.le_refl _⟩
theorem walk_tup {K : W.Frag} {M O : Addr → Prop} {H : Hp} {a : Addr} {ds : List D} {vs : List V} (hm : ∀ a, M a → O a) (hz : vs.length ≤ sizeLine) (h1 : SqT K H a vs) (n : ¬ M a) (h2 : AtL K H O ds vs) : Walk K M O (Itt K a) H ds where
  len := by rw [← h2.length]; exact hz
  go := fun i d H' e k => by
    obtain ⟨v, e1, a1⟩ := h2.get e
    have q := sqT_kp k n h1
    refine ⟨⟨vs, v, q, e1⟩, fun x H'' y => ?_⟩
    obtain ⟨rfl, y2⟩ := y
    have := y2 vs q
    rw [e1] at this; cases this
    exact ⟨Same.refl _, fun O' g t => a1.move hm k g⟩
  stop := fun H' k => ⟨vs, sqT_kp k n h1, by rw [h2.length]; exact Nat.le_refl _⟩
def rngD (lo : Int) (n : Nat) : List D := (List.range n).map fun i : Nat => PyData.int (lo + (i : Int))
theorem rngD_length (lo : Int) (n : Nat) : (rngD lo n).length = n := by unfold rngD; simp
theorem walk_rng {K : W.Frag} {M O : Addr → Prop} {H : Hp} {lo : Int} {n : Nat} (hz : n ≤ sizeLine) : Walk K M O (Itr lo n) H (rngD lo n) where
  len := by rw [rngD_length]; exact hz
  go := fun i d H' e k => by
    unfold rngD at e
    rw [List.getElem?_map] at e
    by_cases hi : i < n
    · rw [List.getElem?_range hi] at e
      cases e
      refine ⟨hi, fun x H'' y => ?_⟩
      obtain ⟨rfl, rfl⟩ := y
      exact ⟨Same.refl _, fun _ _ _ => rfl⟩
    · rw [List.getElem?_eq_none (by simpa using hi)] at e; cases e
  stop := fun H' k => by rw [rngD_length]; exact Nat.le_refl n
abbrev mk (wk : Bool) (O : Addr → Prop) : Addr → Prop := if wk = true then fun _ => False else O
theorem mk_le {wk : Bool} {O : Addr → Prop} : ∀ a, mk wk O a → O a := by
  cases wk with
  | true => exact fun _ h => h.elim
  | false => exact fun _ h => h
abbrev DI := Ro → Rs (List D)
def tIt (G : Gc) (wk : Bool) (f : DI) : TI := fun σ H R => KF G.K H → ∃ O ρ, Rep G O σ H ρ ∧ Post G H (f ρ) fun ds => ∀ J H', Same H H' → KF G.K H' → Walk G.K (mk wk O) O J H' ds → R J H'
section
variable {X : Cx} {G : Gc} {L : Nat} {bl : List Str} {tg e a b : Expr} {f g : DE} {pos : Pos}
theorem pi_imp {iter : Expr} {t t' : TI} (h : PI X tg iter t) (hi : ∀ σ H R, KF X.K H → t' σ H R → t σ H fun J H' => KF X.K H' → R J H') : PI X tg iter t' :=
  ⟨fun pins s σ H R I w => thn (h.run pins s σ H _ I (hi σ H R (kf_inv I) w)) fun v s1 h1 => thn h1 fun itv s2 h2 => by
    obtain ⟨it, fp, tn, J, H', e, I2, T, st, ff, q⟩ := h2
    exact ⟨it, fp, tn, J, H', e, I2, T, st, ff, q (kf_inv I2)⟩⟩
theorem pi_or {iter : Expr} {t t' : TI} (h : PI X tg iter t) (h' : PI X tg iter t') : PI X tg iter (fun σ H R => t σ H R ∨ t' σ H R) :=
  ⟨fun pins s σ H R I w => w.elim (h.run pins s σ H R I) (h'.run pins s σ H R I)⟩
theorem pi_listB {l : Expr} {tl : TE} (hl : PE X l tl) : PI X tg l (fun σ H R => tl σ H fun x H1 => ∃ a xs, x = .ref a ∧ SqL X.K H1 a xs ∧ (xs.length ≤ sizeLine → R (Itl X.K a) H1)) := by
  refine ⟨fun pins s σ H R I h => ?_⟩
  refine thn (hl.run pins s σ H _ I h) fun v s1 ⟨x, H1, I1, r1, q1⟩ => ?_
  obtain ⟨a, xs, e, hq, q⟩ := q1
  subst e
  cases r1
  obtain ⟨its, rv, p, hz⟩ := I1.list hq
  refine wpAny_pyIter_list p.isList ?_
  refine ⟨s1.heap.objs.size, [s1.heap.objs.size], _, _, H1, rfl, I1.kept (t' := s1.toks) fun b o e => Heap.get?_push_of_some _ e, turn_list a _, ⟨_, Heap.get?_push_size _ rfl, rfl, rfl⟩, fun b hb => ?_, q hz⟩
  have e : b = s1.heap.objs.size := by simpa using hb
  subst e
  exact I1.fpOk (Nat.le_refl _) (I1.hok.fresh (Nat.le_refl _))
theorem pi_tupB {l : Expr} {tl : TE} (hl : PE X l tl) : PI X tg l (fun σ H R => tl σ H fun x H1 => ∃ a xs, x = .ref a ∧ SqT X.K H1 a xs ∧ (xs.length ≤ sizeLine → R (Itt X.K a) H1)) := by
  refine ⟨fun pins s σ H R I h => ?_⟩
  refine thn (hl.run pins s σ H _ I h) fun v s1 ⟨x, H1, I1, r1, q1⟩ => ?_
  obtain ⟨a, xs, e, hq, q⟩ := q1
  subst e
  cases r1
  obtain ⟨its, rv, p, hz⟩ := I1.tuple hq
  refine wpAny_pyIter_tuple (show s1.heap.IsTuple a its.toArray from p) ?_
  refine ⟨s1.heap.objs.size, [s1.heap.objs.size], _, _, H1, rfl, I1.kept (t' := s1.toks) fun b o e => Heap.get?_push_of_some _ e, turn_tuple a _, ⟨_, Heap.get?_push_size _ rfl, rfl, rfl⟩, fun b hb => ?_, q hz⟩
  have e : b = s1.heap.objs.size := by simpa using hb
  subst e
  exact I1.fpOk (Nat.le_refl _) (I1.hok.fresh (Nat.le_refl _))
def seqD : D → Rs (List D)
  | .list ds => .ok ds
  | .tuple ds => .ok ds
  | _ => .stuck
def seqE (f : DE) : DI := fun ρ => do let d ← f ρ; seqD d
theorem i_seqW (C : Ctx X G L bl) (ha : PE X a (tW G f)) : PI X tg a (tIt G true (seqE f)) := by
  refine pi_imp (pi_or (pi_listB ha) (pi_tupB ha)) fun σ H R kf w => ?_
  have k0 := C.kf kf
  obtain ⟨O, ρ, R0, p⟩ := w k0
  have p' := p.bind
  cases hf : f ρ with
  | ok d =>
    rw [hf] at p'
    cases d with
    | list ds =>
      refine .inl fun k => ⟨O, ρ, R0, ?_⟩
      rw [hf]
      intro v H' s1 k1 a1
      obtain ⟨a, vs, rfl, h1, h2⟩ := a1
      rw [C.K]
      exact ⟨a, vs, rfl, h1, fun hz _ => p' _ _ s1 k1 (walk_list mk_le hz h1 (fun z => z) h2)⟩
    | tuple ds =>
      refine .inr fun k => ⟨O, ρ, R0, ?_⟩
      rw [hf]
      intro v H' s1 k1 a1
      obtain ⟨a, vs, rfl, h1, n1, h2⟩ := a1
      rw [C.K]
      exact ⟨a, vs, rfl, h1, fun hz _ => p' _ _ s1 k1 (walk_tup mk_le hz h1 (fun z => z) h2)⟩
    | _ => exact p'.elim
  | exc c =>
    rw [hf] at p'
    exact .inl fun k => ⟨O, ρ, R0, by rw [hf]; exact p'⟩
  | stuck => rw [hf] at p'; exact p'.elim
theorem i_seqS (C : Ctx X G L bl) (ha : PE X a (tS G f)) : PI X tg a (tIt G false (seqE f)) := by
  refine pi_imp (pi_or (pi_listB ha) (pi_tupB ha)) fun σ H R kf w => ?_
  have k0 := C.kf kf
  obtain ⟨O, ρ, R0, p⟩ := w k0
  have p' := p.bind
  cases hf : f ρ with
  | ok d =>
    rw [hf] at p'
    cases d with
    | list ds =>
      refine .inl fun k => ⟨O, ρ, R0, ?_⟩
      rw [hf]
      intro v H' s1 k1 a1
      obtain ⟨a, vs, rfl, h1, n1, h2⟩ := a1
      rw [C.K]
      exact ⟨a, vs, rfl, h1, fun hz _ => p' _ _ s1 k1 (walk_list mk_le hz h1 n1 h2)⟩
    | tuple ds =>
      refine .inr fun k => ⟨O, ρ, R0, ?_⟩
      rw [hf]
      intro v H' s1 k1 a1
      obtain ⟨a, vs, rfl, h1, n1, h2⟩ := a1
      rw [C.K]
      exact ⟨a, vs, rfl, h1, fun hz _ => p' _ _ s1 k1 (walk_tup mk_le hz h1 n1 h2)⟩
    | _ => exact p'.elim
  | exc c =>
    rw [hf] at p'
    exact .inl fun k => ⟨O, ρ, R0, by rw [hf]; exact p'⟩
  | stuck => rw [hf] at p'; exact p'.elim
def rng1 (f : DE) : DI := fun ρ => do let d ← f ρ; let j ← intD d; if -(big : Int) ≤ j ∧ j ≤ big then .ok (rngD 0 j.toNat) else .stuck
def rng2 (f g : DE) : DI := fun ρ => do let d ← f ρ; let d' ← g ρ; let i ← intD d; let j ← intD d'; if (-(big : Int) ≤ i ∧ i ≤ big) ∧ (-(big : Int) ≤ j ∧ j ≤ big) then .ok (rngD i (j - i).toNat) else .stuck
theorem two_big {i j : Int} (hi : -(big : Int) ≤ i) (hj : j ≤ big) : (j - i).toNat ≤ sizeLine := by rw [sizeLine_eq]; unfold big at *; omega
theorem i_rng1 (C : Ctx X G L bl) {wk : Bool} {p : Pos} (hg : Gl X "range") (hm : X.mg "range" = none) (ha : PA X [a] (tArgW G (consArg f noArg))) (hs : starEach [a] X.env = [(false, eval a X.env)]) : PI X tg (.Call (.Name "range" p) [a] [] pos) (tIt G wk (rng1 f)) := by
  refine pi_imp (pi_range1 hg hm ha hs) fun σ H R kf w => fun k => ?_
  obtain ⟨O, ρ, R0, q⟩ := w k
  refine ⟨O, ρ, R0, ?_⟩
  have q' := q.bind
  unfold consArg noArg
  cases hf : f ρ with
  | ok d =>
    rw [hf] at q'
    cases d with
    | int j =>
      have q2 : Post G H (if -(big : Int) ≤ j ∧ j ≤ big then Rs.ok (rngD 0 j.toNat) else Rs.stuck) _ := q'
      split at q2
      · rename_i hj
        intro vs H1 s1 k1 a1
        obtain ⟨v, r, rfl, a2, a3⟩ := a1
        cases a2; cases a3
        exact ⟨j, rfl, by unfold big at hj; omega, by unfold big at hj; omega, fun _ => q2 _ _ s1 k1 (walk_rng (by have := two_big (i := 0) (j := j) (by unfold big; omega) hj.2; simpa using this))⟩
      · exact q2.elim
    | _ => exact q'.elim
  | exc c => rw [hf] at q'; exact q'
  | stuck => rw [hf] at q'; exact q'.elim
theorem i_rng2 (C : Ctx X G L bl) {wk : Bool} {p : Pos} (hg : Gl X "range") (hm : X.mg "range" = none) (ha : PA X [a, b] (tArgW G (consArg f (consArg g noArg)))) (hs : starEach [a, b] X.env = [(false, eval a X.env), (false, eval b X.env)]) (hs2 : starEach [b] X.env = [(false, eval b X.env)]) : PI X tg (.Call (.Name "range" p) [a, b] [] pos) (tIt G wk (rng2 f g)) := by
  refine pi_imp (pi_range2 hg hm ha hs hs2) fun σ H R kf w => fun k => ?_
  obtain ⟨O, ρ, R0, q⟩ := w k
  refine ⟨O, ρ, R0, ?_⟩
  have q' := q.bind
  unfold consArg noArg
  cases hf : f ρ with
  | ok d =>
    rw [hf] at q'
    have q3 := Post.bind (G := G) (H := H) (r := g ρ) q'
    cases hg' : g ρ with
    | ok d' =>
      rw [hg'] at q3
      have q4 : Post G H (intD d >>= fun i => intD d' >>= fun j => if (-(big : Int) ≤ i ∧ i ≤ big) ∧ (-(big : Int) ≤ j ∧ j ≤ big) then Rs.ok (rngD i (j - i).toNat) else Rs.stuck) _ := q3
      cases d with
      | int i =>
        cases d' with
        | int j =>
          have q2 : Post G H (if (-(big : Int) ≤ i ∧ i ≤ big) ∧ (-(big : Int) ≤ j ∧ j ≤ big) then Rs.ok (rngD i (j - i).toNat) else Rs.stuck) _ := q4
          split at q2
          · rename_i hj
            intro vs H1 s1 k1 a1
            obtain ⟨v, r, rfl, a2, v', r', rfl, a3, a4⟩ := a1
            cases a2; cases a3; cases a4
            exact ⟨i, j, rfl, ⟨by unfold big at hj; omega, by unfold big at hj; omega, by unfold big at hj; omega, by unfold big at hj; omega⟩, fun _ => q2 _ _ s1 k1 (walk_rng (two_big hj.1.1 hj.2.2))⟩
          · exact q2.elim
        | _ => exact q4.elim
      | _ => exact q4.elim
    | exc c => rw [hg'] at q3; exact q3
    | stuck => rw [hg'] at q3; exact q3.elim
  | exc c => rw [hf] at q'; exact q'
  | stuck => rw [hf] at q'; exact q'.elim
end
def compL (st : STg) (ft : Ro → Rs Bool) (fe : DE) (ρ : Ro) : List D → Rs (List D)
  | [] => .ok []
  | d :: ds => do
    let ρ1 ← st d ρ
    let b ← ft ρ1
    if b then (do let y ← fe ρ1; let r ← compL st ft fe ρ ds; pure (y :: r)) else compL st ft fe ρ ds
def compE (vs : List Nat) (fi : DI) (st : STg) (ft : Ro → Rs Bool) (fe : DE) : DE := fun ρ => do
  let ds ← fi ρ
  let r ← (compL st ft fe (wipeR ρ vs) ds).noexc
  pure (.list r)
theorem Rep.plus {G : Gc} {O : Addr → Prop} {σ : L2.St} {H : Hp} {ρ : Ro} {p : Addr} {o : HO} (R : Rep G O σ H ρ) (n : H p = none) (nk : G.K.lookup p = none) : Rep G (fun a => O a ∨ a = p) σ (upd H p o) ρ := by
  have s := same_upd (o := o) n
  have R' := R.same s
  refine ⟨R'.base, fun a h => .inl (R.sub a h), fun a h => ?_, fun a h hn => ?_, R.len, fun i d e nw => ?_, fun i d e nw => ?_, R.dist⟩
  · rcases h with h | h
    · exact R'.trk a h
    · exact ⟨o, by rw [h]; exact upd_same⟩
  · rcases h with h | h
    · exact R.fre a h hn
    · rw [h]; exact R.base.free n
  · obtain ⟨v, e1, h1⟩ := R.slot i d e nw
    exact ⟨v, e1, (h1.grow n nk).same s⟩
  · obtain ⟨a, ds, vs, e0, e1, e2, h1, h2, h3⟩ := R.owns i d e nw
    exact ⟨a, ds, vs, e0, e1, s _ _ e2, (h1.grow n nk).same s, .inl h2, h3⟩
section
variable {X : Cx} {G : Gc} {L : Nat} {bl : List Str} {tg iter elt : Expr} {ifs : List Expr} {fi : DI} {st : STg} {ft : Ro → Rs Bool} {fe : DE} {pos : Pos} {scope : Scope} {own : List (Str × Nat)}
theorem comp_core (C : Ctx X G L bl) {vs : List Nat} {σ : L2.St} {H : Hp} {Q : VK} (w : tF G (compE vs fi st ft fe) σ H Q) : tLc (tIt G true fi) (tTg G.noE vs st) (tTst G.noE ft) (tS G.noE fe) vs σ H fun v H' => KF X.K H' → Q v H' := fun k => by
  obtain ⟨O, ρ, R, p⟩ := w k
  refine ⟨O, ρ, R, p.bind.imp fun ds _ q J H1 s1 k1 wk => ?_⟩
  intro Dd hD
  have q' := q.bind
  cases hc : compL st ft fe (wipeR ρ vs) ds with
  | exc c => rw [hc] at q'; exact q'.elim
  | stuck => rw [hc] at q'; exact q'.elim
  | ok rs =>
    rw [hc] at q'
    have R1 := R.same s1
    refine ⟨fun i m H5 => m = ds.length - i ∧ i ≤ ds.length ∧ Same H1 H5 ∧ ∃ us rs1 rs2, H5 Dd = some (.lst us) ∧ AtL G.K H5 (fun a => O a ∨ a = Dd) rs1 us ∧ rs1.length ≤ i ∧ compL st ft fe (wipeR ρ vs) (ds.drop i) = .ok rs2 ∧ rs = rs1 ++ rs2,
      ⟨ds.length, by simp, Nat.zero_le _, same_upd hD, [], [], rs, upd_same, rfl, Nat.le_refl _, by simpa using hc, rfl⟩, ?_⟩
    rintro i m H5 ⟨rfl, hi, s5, us, rs1, rs2, e5, a5, l5, c5, er⟩
    by_cases hlt : i < ds.length
    · have hd : ds[i]? = some ds[i] := List.getElem?_eq_getElem hlt
      obtain ⟨go, y⟩ := wk.go i ds[i] H5 hd (.of_same s5)
      refine .inr ⟨go, fun H6 => Same H1 H6 ∧ ∃ us rs1 rs2, H6 Dd = some (.lst us) ∧ AtL G.K H6 (fun a => O a ∨ a = Dd) rs1 us ∧ rs1.length ≤ i + 1 ∧ compL st ft fe (wipeR ρ vs) (ds.drop (i + 1)) = .ok rs2 ∧ rs = rs1 ++ rs2, fun H6 ⟨s6, us, rs1, rs2, r⟩ => ⟨ds.length - (i + 1), by omega, rfl, hlt, s6, us, rs1, rs2, r⟩, fun x H6 hy k6 => ?_⟩
      obtain ⟨s6, a6⟩ := y x H6 hy
      have nk : G.K.lookup Dd = none := kf_no (H := H6) k6 (s6 _ _ e5)
      rw [List.drop_eq_getElem_cons hlt] at c5
      have c6 : (st ds[i] (wipeR ρ vs) >>= fun ρ1 => ft ρ1 >>= fun b => if b = true then (fe ρ1 >>= fun y => compL st ft fe (wipeR ρ vs) (ds.drop (i + 1)) >>= fun r => Rs.ok (y :: r)) else compL st ft fe (wipeR ρ vs) (ds.drop (i + 1))) = .ok rs2 := c5
      cases hst : st ds[i] (wipeR ρ vs) with
      | exc c => rw [hst] at c6; cases c6
      | stuck => rw [hst] at c6; cases c6
      | ok ρ1 =>
        rw [hst] at c6
        have R6 : Rep G (fun a => O a ∨ a = Dd) (L2.wipe σ vs) H6 (wipeR ρ vs) := by
          have Ra : Rep G (fun a => O a ∨ a = Dd) σ (upd H1 Dd (.lst [])) ρ := R1.plus hD nk
          have Rb : Rep G (fun a => O a ∨ a = Dd) σ H6 ρ := by
            have R0 := R1.same (s5.trans s6)
            refine ⟨R0.base, Ra.sub, fun a h => ?_, Ra.fre, R0.len, fun j d e nw => ?_, fun j d e nw => ?_, R0.dist⟩
            · rcases h with h | h
              · exact R0.trk a h
              · exact ⟨_, by rw [h]; exact s6 _ _ e5⟩
            · obtain ⟨v, e1, h1⟩ := R1.slot j d e nw
              exact ⟨v, e1, (h1.grow hD nk).same (s5.trans s6)⟩
            · obtain ⟨a, es, vs', e0, e1, e2, h1, h2, h3⟩ := R1.owns j d e nw
              exact ⟨a, es, vs', e0, e1, (s5.trans s6) _ _ e2, (h1.grow hD nk).same (s5.trans s6), .inl h2, h3⟩
          exact Rb.wipe vs
        have a7 : At G.K H6 (fun a => O a ∨ a = Dd) ds[i] x := a6 _ (fun a z => z.imp id fun z => by rw [z]; exact ⟨hD, nk⟩) (fun a z => by
          rcases z with z | z
          · exact (R1.same s5).trk a z
          · exact ⟨_, by rw [z]; exact e5⟩)
        refine ⟨_, wipeR ρ vs, ds[i], ρ1, R6.noE, a7, hst, fun σ' R' hw' => ⟨hw'.trans wipe_wipe, fun k7 => ⟨_, ρ1, R', ?_⟩⟩⟩
        have c7 : (ft ρ1 >>= fun b => if b = true then (fe ρ1 >>= fun y => compL st ft fe (wipeR ρ vs) (ds.drop (i + 1)) >>= fun r => Rs.ok (y :: r)) else compL st ft fe (wipeR ρ vs) (ds.drop (i + 1))) = .ok rs2 := c6
        cases hft : ft ρ1 with
        | exc c => rw [hft] at c7; cases c7
        | stuck => rw [hft] at c7; cases c7
        | ok b =>
          rw [hft] at c7
          intro H7 s7 k7
          have s17 : Same H1 H7 := s5.trans (s6.trans s7)
          cases b with
          | false =>
            have c8 : compL st ft fe (wipeR ρ vs) (ds.drop (i + 1)) = .ok rs2 := c7
            exact (if_neg Bool.false_ne_true).mpr ⟨s17, us, rs1, rs2, (s6.trans s7) _ _ e5, a5.same (s6.trans s7), by omega, c8, er⟩
          | true =>
            have c8 : (fe ρ1 >>= fun y => compL st ft fe (wipeR ρ vs) (ds.drop (i + 1)) >>= fun r => Rs.ok (y :: r)) = .ok rs2 := c7
            refine (if_pos rfl).mpr fun k8 => ⟨_, ρ1, R'.same s7, ?_⟩
            cases hfe : fe ρ1 with
            | exc c => rw [hfe] at c8; cases c8
            | stuck => rw [hfe] at c8; cases c8
            | ok y =>
              rw [hfe] at c8
              intro v H8 s8 k9 a8
              have c9 : (compL st ft fe (wipeR ρ vs) (ds.drop (i + 1)) >>= fun r => Rs.ok (y :: r)) = .ok rs2 := c8
              cases hcl : compL st ft fe (wipeR ρ vs) (ds.drop (i + 1)) with
              | exc c => rw [hcl] at c9; cases c9
              | stuck => rw [hcl] at c9; cases c9
              | ok rs3 =>
                rw [hcl] at c9
                cases c9
                have e8 : H8 Dd = some (.lst us) := (s6.trans (s7.trans s8)) _ _ e5
                have kp : Kp (fun a => O a ∨ a = Dd) H8 (upd H8 Dd (.lst (us ++ [v]))) := fun b o eb nb => by
                  rw [upd_ne fun z => nb (.inr z)]; exact eb
                have hl5 := a5.length
                have hlen := wk.len
                refine ⟨us, e8, by omega, fun b o eb => ?_, us ++ [v], rs1 ++ [y], rs3, upd_same, AtL.keep kp ((a5.same (s6.trans (s7.trans s8))).append (.one a8)), by simp; omega, rfl, by rw [er]; simp⟩
                rw [upd_ne (ne_of_none eb hD)]
                exact (s17.trans s8) _ _ eb
    · have e : i = ds.length := by omega
      subst e
      have hs' := wk.stop H5 (.of_same s5)
      refine .inl ⟨hs', fun k5 => ?_⟩
      have c6 : rs2 = [] := by
        rw [List.drop_length] at c5
        have : Rs.ok ([] : List D) = Rs.ok rs2 := c5
        cases this; rfl
      subst c6
      rw [List.append_nil] at er
      subst er
      exact q' Dd rs us H5 rfl (s1.trans s5) (C.kf k5) (s1.free hD) e5 a5
theorem d_comp (C : Ctx X G L bl) (hi : PI X tg iter (tIt G true fi)) (ok : BlkOk X.N X.env.scope scope own)
    (hg : ∀ (s : Shared) (H : Hp) (Cc : Addr) (cl : List (Str × Addr)) (fp : List Addr), PG (X.blk s H scope (compEnvC scope cl Cc X.env) fp) tg (tTg G.noE (own.map (·.2)) st))
    (ht : ∀ (s : Shared) (H : Hp) (Cc : Addr) (cl : List (Str × Addr)) (fp : List Addr), PTs (X.blk s H scope (compEnvC scope cl Cc X.env) fp) ifs (tTst G.noE ft))
    (he : ∀ (s : Shared) (H : Hp) (Cc : Addr) (cl : List (Str × Addr)) (fp : List Addr), PE (X.blk s H scope (compEnvC scope cl Cc X.env) fp) elt (tS G.noE fe))
    (hs : ∀ x, foldedSetIterable iter X.env x = pure x) : PE X (.ListComp elt [⟨tg, iter, ifs, 0⟩] scope pos) (tF G (compE (own.map (·.2)) fi st ft fe)) :=
  pe_imp (pe_lc C.calm C.nd hi ok hg ht he hs) fun σ H Q kf w => comp_core C w
end
end Den
namespace Den
open PySem PySem.Spec PyProof.Rows L2
def compL2 (st : STg) (fi1 : DI) (st1 : STg) (ft1 : Ro → Rs Bool) (fe : DE) (vs1 : List Nat) (ρ : Ro) : List D → Rs (List D)
  | [] => .ok []
  | d :: ds => do
    let ρ1 ← st d ρ
    let ds1 ← fi1 ρ1
    let r1 ← compL st1 ft1 fe (wipeR ρ1 vs1) ds1
    let r ← compL2 st fi1 st1 ft1 fe vs1 ρ ds
    pure (r1 ++ r)
def compE2 (vs : List Nat) (fi : DI) (st : STg) (fi1 : DI) (st1 : STg) (ft1 : Ro → Rs Bool) (fe : DE) (vs1 : List Nat) : DE := fun ρ => do
  let ds ← fi ρ
  let r ← (compL2 st fi1 st1 ft1 fe vs1 (wipeR ρ vs) ds).noexc
  if r.length ≤ big then pure (.list r) else .stuck
section
variable {X : Cx} {G : Gc} {L : Nat} {bl : List Str} {tg iter tg1 iter1 elt e : Expr} {ifs : List Expr} {fi fi1 : DI} {st st1 : STg} {ft1 : Ro → Rs Bool} {fe f : DE} {pos : Pos} {scope : Scope} {own : List (Str × Nat)} {vs1 : List Nat}
theorem p_nil (hK : X.K = G.K) : PTs X [] (tTst G fun _ => .ok true) := ⟨fun pins s σ H Q I w => by
  have k := hK ▸ kf_inv I
  obtain ⟨O, ρ, R, q⟩ := w k
  exact pts_nil.run pins s σ H Q I (q H (Same.refl H) k)⟩
theorem p_one (ht : PT X e (tTst G (tstE f))) : PTs X [e] (tTst G (tstE f)) := pts_one ht
abbrev _root_.Den.Gc.wO (G : Gc) (O0 : Addr → Prop) : Gc := { G with E := fun _ _ _ => False, O0 := O0 }
theorem Rep.wO {O : Addr → Prop} {σ : L2.St} {H : Hp} {ρ : Ro} {O0 : Addr → Prop} (R : Rep G O σ H ρ) (h1 : ∀ a, O0 a → O a) (h0 : ∀ a, G.O0 a → O0 a) (h2 : ∀ i d a, ρ[i]? = some (some d) → G.own i = true → σ[i]? = some (some (.ref a)) → ¬ O0 a) : Rep (G.wO O0) O σ H ρ :=
  ⟨R.base, h1, R.trk, fun a h n => R.fre a h fun z => n (h0 a z), R.len, R.slot, fun i d e nw => let ⟨a, ds, vs, e0, e1, e2, q1, q2, _⟩ := R.owns i d e nw; ⟨a, ds, vs, e0, e1, e2, q1, q2, h2 i d a e nw e1⟩, R.dist⟩
theorem comp2_core (C : Ctx X G L bl) {vs : List Nat} {σ : L2.St} {H : Hp} {Q : VK} (w : tF G (compE2 vs fi st fi1 st1 ft1 fe vs1) σ H Q) : tLc2 (tIt G true fi) (fun v σ H Q => ∃ O0, tTg (G.wO O0) vs st v σ H Q) tYes (fun σ H R => ∃ O0, tIt (G.wO O0) false fi1 σ H R) (fun v σ H Q => ∃ O0, tTg (G.wO O0) vs1 st1 v σ H Q) (fun σ H Q => ∃ O0, tTst (G.wO O0) ft1 σ H Q) (fun σ H Q => ∃ O0, tS (G.wO O0) fe σ H Q) vs vs1 σ H fun v H' => KF X.K H' → Q v H' := fun k => by
  obtain ⟨O, ρ, R, p⟩ := w k
  refine ⟨O, ρ, R, p.bind.imp fun ds _ q J H1 s1 k1 wk => ?_⟩
  intro Dd hD
  have q0 := q.bind
  cases hc : compL2 st fi1 st1 ft1 fe vs1 (wipeR ρ vs) ds with
  | exc c => rw [hc] at q0; exact q0.elim
  | stuck => rw [hc] at q0; exact q0.elim
  | ok rs =>
    rw [hc] at q0
    have q1 : Post G H (if rs.length ≤ big then Rs.ok (PyData.list rs) else .stuck) _ := q0
    by_cases hbig : rs.length ≤ big
    case neg => rw [if_neg hbig] at q1; exact q1.elim
    rw [if_pos hbig] at q1
    have hline := big_line hbig
    have R1 := R.same s1
    refine ⟨fun i m H5 => m = ds.length - i ∧ i ≤ ds.length ∧ Same H1 H5 ∧ ∃ us rs1 rs2, H5 Dd = some (.lst us) ∧ AtL G.K H5 (fun a => O a ∨ a = Dd) rs1 us ∧ compL2 st fi1 st1 ft1 fe vs1 (wipeR ρ vs) (ds.drop i) = .ok rs2 ∧ rs = rs1 ++ rs2,
      ⟨ds.length, by simp, Nat.zero_le _, same_upd hD, [], [], rs, upd_same, rfl, by simpa using hc, rfl⟩, ?_⟩
    rintro i m H5 ⟨rfl, hi, s5, us, rs1, rs2, e5, a5, c5, er⟩
    by_cases hlt : i < ds.length
    · have hd : ds[i]? = some ds[i] := List.getElem?_eq_getElem hlt
      obtain ⟨go, y⟩ := wk.go i ds[i] H5 hd (.of_same s5)
      refine .inr ⟨go, fun H6 => Same H1 H6 ∧ ∃ us rs1 rs2, H6 Dd = some (.lst us) ∧ AtL G.K H6 (fun a => O a ∨ a = Dd) rs1 us ∧ compL2 st fi1 st1 ft1 fe vs1 (wipeR ρ vs) (ds.drop (i + 1)) = .ok rs2 ∧ rs = rs1 ++ rs2, fun H6 ⟨s6, us, rs1, rs2, r⟩ => ⟨ds.length - (i + 1), by omega, rfl, hlt, s6, us, rs1, rs2, r⟩, fun x H6 hy => ⟨fun a => G.O0 a ∨ a = Dd, fun k6 => ?_⟩⟩
      obtain ⟨s6, a6⟩ := y x H6 hy
      have nk : G.K.lookup Dd = none := kf_no (H := H6) k6 (s6 _ _ e5)
      rw [List.drop_eq_getElem_cons hlt] at c5
      have c6 : (st ds[i] (wipeR ρ vs) >>= fun ρ1 => fi1 ρ1 >>= fun ds1 => compL st1 ft1 fe (wipeR ρ1 vs1) ds1 >>= fun r1 => compL2 st fi1 st1 ft1 fe vs1 (wipeR ρ vs) (ds.drop (i + 1)) >>= fun r => Rs.ok (r1 ++ r)) = .ok rs2 := c5
      cases hst : st ds[i] (wipeR ρ vs) with
      | exc c => rw [hst] at c6; cases c6
      | stuck => rw [hst] at c6; cases c6
      | ok ρ1 =>
        rw [hst] at c6
        have Rb : Rep G (fun a => O a ∨ a = Dd) σ H6 ρ := by
          have Ra : Rep G (fun a => O a ∨ a = Dd) σ (upd H1 Dd (.lst [])) ρ := R1.plus hD nk
          have R0 := R1.same (s5.trans s6)
          refine ⟨R0.base, Ra.sub, fun a h => ?_, Ra.fre, R0.len, fun j d e nw => ?_, fun j d e nw => ?_, R0.dist⟩
          · rcases h with h | h
            · exact R0.trk a h
            · exact ⟨_, by rw [h]; exact s6 _ _ e5⟩
          · obtain ⟨v, e1, h1⟩ := R1.slot j d e nw
            exact ⟨v, e1, (h1.grow hD nk).same (s5.trans s6)⟩
          · obtain ⟨a, es, vs', e0, e1, e2, h1, h2, h3⟩ := R1.owns j d e nw
            exact ⟨a, es, vs', e0, e1, (s5.trans s6) _ _ e2, (h1.grow hD nk).same (s5.trans s6), .inl h2, h3⟩
        have Rc : Rep (G.wO fun a => G.O0 a ∨ a = Dd) (fun a => O a ∨ a = Dd) σ H6 ρ := Rb.wO (fun a z => z.imp (R.sub a) id) (fun a z => .inl z) fun j d a e nw e1 z => by
          obtain ⟨a', es, vs', _, e1', e2, _, _, h3⟩ := R1.owns j d e nw
          rw [e1] at e1'; cases e1'
          rcases z with z | z
          · exact h3 z
          · rw [z, hD] at e2; cases e2
        have R6 := Rc.wipe vs
        have a7 : At G.K H6 (fun a => O a ∨ a = Dd) ds[i] x := a6 _ (fun a z => z.imp id fun z => by rw [z]; exact ⟨hD, nk⟩) (fun a z => by
          rcases z with z | z
          · exact (R1.same s5).trk a z
          · exact ⟨_, by rw [z]; exact e5⟩)
        refine ⟨_, wipeR ρ vs, ds[i], ρ1, R6, a7, hst, fun σ' R' hw' => ⟨hw'.trans wipe_wipe, ?_⟩⟩
        unfold tYes
        simp only [if_true]
        refine ⟨fun a => G.O0 a ∨ a = Dd, fun k7 => ⟨_, ρ1, R', ?_⟩⟩
        have c7 : (fi1 ρ1 >>= fun ds1 => compL st1 ft1 fe (wipeR ρ1 vs1) ds1 >>= fun r1 => compL2 st fi1 st1 ft1 fe vs1 (wipeR ρ vs) (ds.drop (i + 1)) >>= fun r => Rs.ok (r1 ++ r)) = .ok rs2 := c6
        cases hfi : fi1 ρ1 with
        | exc c => rw [hfi] at c7; cases c7
        | stuck => rw [hfi] at c7; cases c7
        | ok ds1 =>
          rw [hfi] at c7
          intro J1 H7 s7 k7 wk1
          have c8 : (compL st1 ft1 fe (wipeR ρ1 vs1) ds1 >>= fun r1 => compL2 st fi1 st1 ft1 fe vs1 (wipeR ρ vs) (ds.drop (i + 1)) >>= fun r => Rs.ok (r1 ++ r)) = .ok rs2 := c7
          cases hcl : compL st1 ft1 fe (wipeR ρ1 vs1) ds1 with
          | exc c => rw [hcl] at c8; cases c8
          | stuck => rw [hcl] at c8; cases c8
          | ok r1 =>
            rw [hcl] at c8
            have c9 : (compL2 st fi1 st1 ft1 fe vs1 (wipeR ρ vs) (ds.drop (i + 1)) >>= fun r => Rs.ok (r1 ++ r)) = .ok rs2 := c8
            cases hcl2 : compL2 st fi1 st1 ft1 fe vs1 (wipeR ρ vs) (ds.drop (i + 1)) with
            | exc c => rw [hcl2] at c9; cases c9
            | stuck => rw [hcl2] at c9; cases c9
            | ok r2 =>
              rw [hcl2] at c9
              cases c9
              have e7 : H7 Dd = some (.lst us) := (s6.trans s7) _ _ e5
              have s17 : Same H1 H7 := s5.trans (s6.trans s7)
              have R7 := R'.same s7
              refine ⟨fun j k H8 => k = ds1.length - j ∧ j ≤ ds1.length ∧ (∀ b o, H7 b = some o → b ≠ Dd → H8 b = some o) ∧ ∃ us q1 q2, H8 Dd = some (.lst us) ∧ AtL G.K H8 (fun a => O a ∨ a = Dd) (rs1 ++ q1) us ∧ compL st1 ft1 fe (wipeR ρ1 vs1) (ds1.drop j) = .ok q2 ∧ r1 = q1 ++ q2,
                ⟨ds1.length, by simp, Nat.zero_le _, fun b o e _ => e, us, [], r1, e7, by rw [List.append_nil]; exact a5.same (s6.trans s7), by simpa using hcl, rfl⟩, ?_⟩
              rintro j k8 H8 ⟨rfl, hj, b8, us8, q1', q2, e8, a8, c8', er1⟩
              have sH : Same H1 H8 := fun b o eb => b8 b o (s17 _ _ eb) (ne_of_none eb hD)
              have kp : Kp (fun a => O a ∨ a = Dd) H7 H8 := fun b o eb nb => b8 b o eb fun z => nb (.inr z)
              have R8 : Rep (G.wO fun a => G.O0 a ∨ a = Dd) (fun a => O a ∨ a = Dd) σ' H8 ρ1 := by
                refine ⟨R.base.trans (s1.trans sH), R7.sub, fun a h => ?_, R7.fre, R7.len, fun j d e nw => ?_, fun j d e nw => ?_, R7.dist⟩
                · by_cases ha : a = Dd
                  · exact ⟨_, by rw [ha]; exact e8⟩
                  · obtain ⟨o, eo⟩ := R7.trk a h
                    exact ⟨o, b8 _ _ eo ha⟩
                · obtain ⟨v, e1, h1⟩ := R7.slot j d e nw
                  exact ⟨v, e1, h1.keep kp⟩
                · obtain ⟨a, es, vs', e0, e1, e2, h1, h2, h3⟩ := R7.owns j d e nw
                  exact ⟨a, es, vs', e0, e1, b8 _ _ e2 (fun z => h3 (.inr z)), h1.keep kp, h2, h3⟩
              by_cases hjl : j < ds1.length
              · have hd1 : ds1[j]? = some ds1[j] := List.getElem?_eq_getElem hjl
                obtain ⟨go1, y1⟩ := wk1.go j ds1[j] H8 hd1 kp
                refine .inr ⟨go1, fun H9 => (∀ b o, H7 b = some o → b ≠ Dd → H9 b = some o) ∧ ∃ us q1 q2, H9 Dd = some (.lst us) ∧ AtL G.K H9 (fun a => O a ∨ a = Dd) (rs1 ++ q1) us ∧ compL st1 ft1 fe (wipeR ρ1 vs1) (ds1.drop (j + 1)) = .ok q2 ∧ r1 = q1 ++ q2, fun H9 ⟨b9, us, q1, q2, r⟩ => ⟨ds1.length - (j + 1), by omega, rfl, hjl, b9, us, q1, q2, r⟩, fun x1 H9 hy1 => ⟨fun a => G.O0 a ∨ a = Dd, fun k9 => ?_⟩⟩
                obtain ⟨s9, a9⟩ := y1 x1 H9 hy1
                rw [List.drop_eq_getElem_cons hjl] at c8'
                have d6 : (st1 ds1[j] (wipeR ρ1 vs1) >>= fun ρ2 => ft1 ρ2 >>= fun b => if b = true then (fe ρ2 >>= fun y => compL st1 ft1 fe (wipeR ρ1 vs1) (ds1.drop (j + 1)) >>= fun r => Rs.ok (y :: r)) else compL st1 ft1 fe (wipeR ρ1 vs1) (ds1.drop (j + 1))) = .ok q2 := c8'
                cases hst1 : st1 ds1[j] (wipeR ρ1 vs1) with
                | exc c => rw [hst1] at d6; cases d6
                | stuck => rw [hst1] at d6; cases d6
                | ok ρ2 =>
                  rw [hst1] at d6
                  refine ⟨_, wipeR ρ1 vs1, ds1[j], ρ2, (R8.same s9).wipe vs1, a9 _ (fun a z => .inl z) R8.trk, hst1, fun σ2 R2 hw2 => ⟨hw2.trans wipe_wipe, fun a => G.O0 a ∨ a = Dd, fun kA => ⟨_, ρ2, R2, ?_⟩⟩⟩
                  have d7 : (ft1 ρ2 >>= fun b => if b = true then (fe ρ2 >>= fun y => compL st1 ft1 fe (wipeR ρ1 vs1) (ds1.drop (j + 1)) >>= fun r => Rs.ok (y :: r)) else compL st1 ft1 fe (wipeR ρ1 vs1) (ds1.drop (j + 1))) = .ok q2 := d6
                  cases hft : ft1 ρ2 with
                  | exc c => rw [hft] at d7; cases d7
                  | stuck => rw [hft] at d7; cases d7
                  | ok b =>
                    rw [hft] at d7
                    intro HA sA kA'
                    cases b with
                    | false =>
                      have d8 : compL st1 ft1 fe (wipeR ρ1 vs1) (ds1.drop (j + 1)) = .ok q2 := d7
                      rw [if_neg Bool.false_ne_true]
                      exact ⟨fun b o eb nb => (s9.trans sA) _ _ (b8 b o eb nb), us8, q1', q2, (s9.trans sA) _ _ e8, a8.same (s9.trans sA), d8, er1⟩
                    | true =>
                      have d8 : (fe ρ2 >>= fun y => compL st1 ft1 fe (wipeR ρ1 vs1) (ds1.drop (j + 1)) >>= fun r => Rs.ok (y :: r)) = .ok q2 := d7
                      rw [if_pos rfl]
                      refine ⟨fun a => G.O0 a ∨ a = Dd, fun kB => ⟨_, ρ2, R2.same sA, ?_⟩⟩
                      cases hfe : fe ρ2 with
                      | exc c => rw [hfe] at d8; cases d8
                      | stuck => rw [hfe] at d8; cases d8
                      | ok y' =>
                        rw [hfe] at d8
                        intro v HB sB kB' aB
                        have d9 : (compL st1 ft1 fe (wipeR ρ1 vs1) (ds1.drop (j + 1)) >>= fun r => Rs.ok (y' :: r)) = .ok q2 := d8
                        cases hcq : compL st1 ft1 fe (wipeR ρ1 vs1) (ds1.drop (j + 1)) with
                        | exc c => rw [hcq] at d9; cases d9
                        | stuck => rw [hcq] at d9; cases d9
                        | ok q3 =>
                          rw [hcq] at d9
                          cases d9
                          have eB : HB Dd = some (.lst us8) := (s9.trans (sA.trans sB)) _ _ e8
                          have kp2 : Kp (fun a => O a ∨ a = Dd) HB (upd HB Dd (.lst (us8 ++ [v]))) := fun b o eb nb => by
                            rw [upd_ne fun z => nb (.inr z)]; exact eb
                          have hl8 := a8.length
                          refine ⟨us8, eB, ?_, fun b o eb nb => ?_, us8 ++ [v], q1' ++ [y'], q3, upd_same, ?_, rfl, by rw [er1]; simp⟩
                          · rw [hl8]
                            have : rs.length = (rs1 ++ (r1 ++ r2)).length := by rw [er]
                            rw [er1] at this
                            simp only [List.length_append, List.length_cons] at this ⊢
                            omega
                          · rw [upd_ne nb]
                            exact (s9.trans (sA.trans sB)) _ _ (b8 b o eb nb)
                          · rw [← List.append_assoc]
                            exact AtL.keep kp2 ((a8.same (s9.trans (sA.trans sB))).append (.one aB))
              · have ej : j = ds1.length := by omega
                subst ej
                refine .inl ⟨wk1.stop H8 kp, sH, us8, rs1 ++ r1, r2, e8, ?_, rfl, by rw [er]; simp⟩
                rw [List.drop_length] at c8'
                have : Rs.ok ([] : List D) = Rs.ok q2 := c8'
                cases this
                rw [List.append_nil] at er1
                rw [er1]
                exact a8
    · have e : i = ds.length := by omega
      subst e
      have hs' := wk.stop H5 (.of_same s5)
      refine .inl ⟨hs', fun k5 => ?_⟩
      have c6 : rs2 = [] := by
        rw [List.drop_length] at c5
        have : Rs.ok ([] : List D) = Rs.ok rs2 := c5
        cases this; rfl
      subst c6
      rw [List.append_nil] at er
      subst er
      exact q1 Dd rs us H5 rfl (s1.trans s5) (C.kf k5) (s1.free hD) e5 a5
theorem d_comp2 (C : Ctx X G L bl) (hi : PI X tg iter (tIt G true fi)) (ok : BlkOk X.N X.env.scope scope own) (hv : ∀ i ∈ vs1, i ∈ own.map (·.2))
    (hg : ∀ (O0 : Addr → Prop) (s : Shared) (H : Hp) (Cc : Addr) (cl : List (Str × Addr)) (fp : List Addr), PG (X.blk s H scope (compEnvC scope cl Cc X.env) fp) tg (tTg (G.wO O0) (own.map (·.2)) st))
    (hi1 : ∀ (O0 : Addr → Prop) (s : Shared) (H : Hp) (Cc : Addr) (cl : List (Str × Addr)) (fp : List Addr), PI (X.blk s H scope (compEnvC scope cl Cc X.env) fp) tg1 iter1 (tIt (G.wO O0) false fi1))
    (hg1 : ∀ (O0 : Addr → Prop) (s : Shared) (H : Hp) (Cc : Addr) (cl : List (Str × Addr)) (fp : List Addr), PG (X.blk s H scope (compEnvC scope cl Cc X.env) fp) tg1 (tTg (G.wO O0) vs1 st1))
    (ht1 : ∀ (O0 : Addr → Prop) (s : Shared) (H : Hp) (Cc : Addr) (cl : List (Str × Addr)) (fp : List Addr), PTs (X.blk s H scope (compEnvC scope cl Cc X.env) fp) ifs (tTst (G.wO O0) ft1))
    (he : ∀ (O0 : Addr → Prop) (s : Shared) (H : Hp) (Cc : Addr) (cl : List (Str × Addr)) (fp : List Addr), PE (X.blk s H scope (compEnvC scope cl Cc X.env) fp) elt (tS (G.wO O0) fe))
    (hs : ∀ x, foldedSetIterable iter X.env x = pure x) (hs1 : ∀ env x, foldedSetIterable iter1 env x = pure x) : PE X (.ListComp elt [⟨tg, iter, [], 0⟩, ⟨tg1, iter1, ifs, 0⟩] scope pos) (tF G (compE2 (own.map (·.2)) fi st fi1 st1 ft1 fe vs1)) := by
  have hgE : ∀ (s : Shared) (H : Hp) (Cc : Addr) (cl : List (Str × Addr)) (fp : List Addr), PG (X.blk s H scope (compEnvC scope cl Cc X.env) fp) tg (fun v σ H Q => ∃ O0, tTg (G.wO O0) (own.map (·.2)) st v σ H Q) :=
    fun s H Cc cl fp => ⟨fun pins s' σ H' v u Q I r ⟨O0, w⟩ => (hg O0 s H Cc cl fp).run pins s' σ H' v u Q I r w⟩
  have hgE1 : ∀ (s : Shared) (H : Hp) (Cc : Addr) (cl : List (Str × Addr)) (fp : List Addr), PG (X.blk s H scope (compEnvC scope cl Cc X.env) fp) tg1 (fun v σ H Q => ∃ O0, tTg (G.wO O0) vs1 st1 v σ H Q) :=
    fun s H Cc cl fp => ⟨fun pins s' σ H' v u Q I r ⟨O0, w⟩ => (hg1 O0 s H Cc cl fp).run pins s' σ H' v u Q I r w⟩
  have hiE1 : ∀ (s : Shared) (H : Hp) (Cc : Addr) (cl : List (Str × Addr)) (fp : List Addr), PI (X.blk s H scope (compEnvC scope cl Cc X.env) fp) tg1 iter1 (fun σ H R => ∃ O0, tIt (G.wO O0) false fi1 σ H R) :=
    fun s H Cc cl fp => ⟨fun pins s' σ H' R I ⟨O0, w⟩ => (hi1 O0 s H Cc cl fp).run pins s' σ H' R I w⟩
  have htE1 : ∀ (s : Shared) (H : Hp) (Cc : Addr) (cl : List (Str × Addr)) (fp : List Addr), PTs (X.blk s H scope (compEnvC scope cl Cc X.env) fp) ifs (fun σ H Q => ∃ O0, tTst (G.wO O0) ft1 σ H Q) :=
    fun s H Cc cl fp => ⟨fun pins s' σ H' R I ⟨O0, w⟩ => (ht1 O0 s H Cc cl fp).run pins s' σ H' R I w⟩
  have heE : ∀ (s : Shared) (H : Hp) (Cc : Addr) (cl : List (Str × Addr)) (fp : List Addr), PE (X.blk s H scope (compEnvC scope cl Cc X.env) fp) elt (fun σ H Q => ∃ O0, tS (G.wO O0) fe σ H Q) :=
    fun s H Cc cl fp => ⟨fun pins s' σ H' R I ⟨O0, w⟩ => (he O0 s H Cc cl fp).run pins s' σ H' R I w⟩
  exact pe_imp (pe_lc2 (tt := tYes) C.calm C.nd hi ok hv hgE (fun _ _ _ _ _ => pts_nil) hiE1 hgE1 htE1 heE hs hs1) fun σ H Q kf w => comp2_core C w
end
end Den
namespace Den
open PySem PySem.Spec PyProof.Rows L2
def spD (K : W.Frag) (cl : Nat → Value) (n : Nat) (g : List D → Rs D) : Sp := fun vs H Q E => vs.length = n ∧ ∃ ds O0, (∀ a, O0 a → ∃ o, H a = some o) ∧ AtL K H O0 ds vs ∧
  match g ds with
  | .ok d => ∀ v H', Same H H' → KF K H' → At K H' O0 d v → Q v H'
  | .exc c => ∀ H', Same H H' → E (cl c) none H'
  | .stuck => False
structure FnD (X : Cx) (cl : Nat → Value) (L : Nat) (x : Str) (n : Nat) (g : List D → Rs D) : Prop where
  ex : ∃ f fd ps, FnOk X.prog X.w X.K X.mg X.base (L2.CX X.prog X.w) L f fd ps (spD X.K cl n g) ∧ ps.length = n ∧ X.mg x = some (.ref f) ∧ W.keepIn X.K (.ref f) = true ∧ Binds X.K fd ps []
section
variable {X : Cx} {G : Gc} {L : Nat} {bl : List Str} {e : Expr} {es : List Expr} {fs : Ro → Rs (List D)} {F : List D → Rs D} {pos p : Pos} {x : Str} {bid T : String}
def appE (F : List D → Rs D) (fs : Ro → Rs (List D)) : DE := fun ρ => do let ds ← fs ρ; F ds
theorem d_call (C : Ctx X G L bl) {n : Nat} (hF : FnD X G.cl L x n F) (hg : Gl X x) (hn : (e :: es).length = n) (hdb : (x == ("__debug__" : Str)) = false) (ha : PA X (e :: es) (tArg G fs)) (hl : ∀ ρ ds, fs ρ = .ok ds → ds.length = n)
    (he : starEach (e :: es) X.env = (false, eval e X.env) :: starEach es X.env) (hpl : (backTo pos (starEach es X.env)).any (·.1) = false) : PE X (.Call (.Name x p) (e :: es) [] pos) (tS G (appE F fs)) := by
  obtain ⟨f, fd, ps, hf, hps, hm, hk, hb⟩ := hF.ex
  refine pe_imp (pe_call hf C.room hg hm hk hb .nil C.pass ha hdb he hpl) fun σ H Q kf w => fun k => ?_
  obtain ⟨O, ρ, R, q⟩ := w k
  refine ⟨O, ρ, R, q.bind.imp fun ds e q vs H1 s1 k1 a1 => ?_⟩
  show spD X.K G.cl n F (vs ++ []) H1 _ G.E
  rw [List.append_nil]
  refine ⟨by rw [a1.length]; exact hl ρ ds e, ds, O, fun a h => (R.same s1).trk a h, C.K ▸ a1, ?_⟩
  cases hF : F ds with
  | ok d => rw [hF] at q; exact fun v H' s2 k2 a2 => fun _ => q v H' (s1.trans s2) (C.K ▸ k2) (C.K ▸ a2)
  | exc c => rw [hF] at q; exact fun H' s2 => q H' ((R.base.trans s1).trans s2)
  | stuck => rw [hF] at q; exact q.elim
def SaysL (G : Gc) (r : List V → Hp → VK → Prop) (F : List D → Rs D) : Prop := ∀ (O : Addr → Prop) (H : Hp) (vs : List V) (ds : List D) (Q : VK), KF G.K H → Trk O H → AtCL G.K H O ds vs →
  PostV G O H (F ds) Q → r vs H fun v H' => KF G.K H' → Q v H'
theorem d_blt (C : Ctx X G L bl) {r : List V → Hp → VK → Prop} (hc : CallR X (.builtin bid) r) (s : SaysL G r F) (hg : Gl X x) (hm : x ∈ bl) (hv : bootBuiltins x = some (.builtin bid)) (hn : x ≠ "__name__") (hdb : (x == ("__debug__" : Str)) = false) (ha : PA X (e :: es) (tArgW G fs))
    (he : starEach (e :: es) X.env = (false, eval e X.env) :: starEach es X.env) (hpl : (backTo pos (starEach es X.env)).any (·.1) = false) : PE X (.Call (.Name x p) (e :: es) [] pos) (tS G (appE F fs)) := by
  refine pe_imp (pe_callB hc hg (C.blt x hm) hv ha hn hdb he hpl) fun σ H Q kf w => fun k => ?_
  obtain ⟨O, ρ, R, q⟩ := w k
  refine ⟨O, ρ, R, q.bind.imp fun ds e q vs H1 s1 k1 a1 => ?_⟩
  rw [C.K]
  exact s O H1 vs ds Q k1 (R.same s1).trk a1 (Post.imp q fun d _ q2 v H' s2 k2 a2 => q2 v H' (s1.trans s2) k2 a2)
theorem d_bty (C : Ctx X G L bl) {r : List V → Hp → VK → Prop} (hc : CallR X (.type T) r) (s : SaysL G r F) (hg : Gl X x) (hm : x ∈ bl) (hv : bootBuiltins x = some (.type T)) (hn : x ≠ "__name__") (hdb : (x == ("__debug__" : Str)) = false) (ha : PA X (e :: es) (tArgW G fs))
    (he : starEach (e :: es) X.env = (false, eval e X.env) :: starEach es X.env) (hpl : (backTo pos (starEach es X.env)).any (·.1) = false) : PE X (.Call (.Name x p) (e :: es) [] pos) (tS G (appE F fs)) := by
  refine pe_imp (pe_callTy hc hg (C.blt x hm) hv ha hn hdb he hpl) fun σ H Q kf w => fun k => ?_
  obtain ⟨O, ρ, R, q⟩ := w k
  refine ⟨O, ρ, R, q.bind.imp fun ds e q vs H1 s1 k1 a1 => ?_⟩
  rw [C.K]
  exact s O H1 vs ds Q k1 (R.same s1).trk a1 (Post.imp q fun d _ q2 v H' s2 k2 a2 => q2 v H' (s1.trans s2) k2 a2)
def lenD : List D → Rs D
  | [.list ds] => .ok (.int ds.length)
  | [.tuple ds] => .ok (.int ds.length)
  | [.str x] => if x.length ≤ big then .ok (.int x.length) else .stuck
  | _ => .stuck
theorem says_len : SaysL G (fun xs H Q => ∃ x n, xs = [x] ∧ LenV G.K x H n ∧ Q (.int n) H) lenD := by
  intro O H vs ds Q k t a p
  unfold lenD at p
  split at p
  · obtain ⟨v, r, rfl, a1, a2⟩ := a
    cases a2
    obtain ⟨b, us, rfl, h1, h2⟩ := a1
    refine ⟨_, us.length, rfl, .inl ⟨us, h1, rfl⟩, ?_⟩
    rw [h2.length]
    exact post_sc k p rfl
  · obtain ⟨v, r, rfl, a1, a2⟩ := a
    cases a2
    obtain ⟨b, us, rfl, h1, _, h2⟩ := a1
    refine ⟨_, us.length, rfl, .inr ⟨us, h1, rfl⟩, ?_⟩
    rw [h2.length]
    exact post_sc k p rfl
  · obtain ⟨v, r, rfl, a1, a2⟩ := a
    cases a2
    cases a1
    split at p
    · rename_i hz
      exact ⟨_, _, rfl, ⟨big_line hz, rfl⟩, post_sc k p rfl⟩
    · exact p.elim
  · exact p.elim
def blsO : List D → Option (List Bool)
  | [] => some []
  | .bool b :: r => (blsO r).map (b :: ·)
  | _ => none
theorem bls_eq : ∀ {ds : List D} {bs : List Bool}, blsO ds = some bs → ds = bs.map PyData.bool
  | [], _, h => by cases h; rfl
  | d :: r, bs, h => by
    cases d with
    | bool b =>
      obtain ⟨cs, h1, rfl⟩ := Option.map_eq_some_iff.mp (show (blsO r).map (b :: ·) = some bs from h)
      rw [bls_eq h1]; rfl
    | _ => cases h
@[simp] theorem bls_map (bs : List Bool) : blsO (bs.map PyData.bool) = some bs := by
  induction bs with
  | nil => rfl
  | cons b bs ih => show (blsO (bs.map PyData.bool)).map (b :: ·) = _; rw [ih]; rfl
def allD : List D → Rs D
  | [.list ds] => match blsO ds with | some bs => .ok (.bool (bs.all id)) | none => .stuck
  | _ => .stuck
def anyD : List D → Rs D
  | [.list ds] => match blsO ds with | some bs => .ok (.bool (bs.any id)) | none => .stuck
  | _ => .stuck
theorem says_all : SaysL G (rAll G.K) allD := by
  intro O H vs ds Q k t a p
  unfold allD at p
  split at p
  · obtain ⟨v, r, rfl, a1, a2⟩ := a
    cases a2
    obtain ⟨b, us, rfl, h1, h2⟩ := a1
    split at p
    · rename_i hb
      rw [bls_eq hb] at h2
      rw [atL_bls h2] at h1
      exact ⟨b, _, rfl, h1, post_sc k p rfl⟩
    · exact p.elim
  · exact p.elim
theorem says_any : SaysL G (rAny G.K) anyD := by
  intro O H vs ds Q k t a p
  unfold anyD at p
  split at p
  · obtain ⟨v, r, rfl, a1, a2⟩ := a
    cases a2
    obtain ⟨b, us, rfl, h1, h2⟩ := a1
    split at p
    · rename_i hb
      rw [bls_eq hb] at h2
      rw [atL_bls h2] at h1
      exact ⟨b, _, rfl, h1, post_sc k p rfl⟩
    · exact p.elim
  · exact p.elim
def intsO : List D → Option (List Int)
  | [] => some []
  | .int b :: r => (intsO r).map (b :: ·)
  | _ => none
theorem ints_eq : ∀ {ds : List D} {bs : List Int}, intsO ds = some bs → ds = bs.map PyData.int
  | [], _, h => by cases h; rfl
  | d :: r, bs, h => by
    cases d with
    | int b =>
      obtain ⟨cs, h1, rfl⟩ := Option.map_eq_some_iff.mp (show (intsO r).map (b :: ·) = some bs from h)
      rw [ints_eq h1]; rfl
    | _ => cases h
@[simp] theorem ints_map (bs : List Int) : intsO (bs.map PyData.int) = some bs := by
  induction bs with
  | nil => rfl
  | cons b bs ih => show (intsO (bs.map PyData.int)).map (b :: ·) = _; rw [ih]; rfl
def maxL : Int → List Int → Int
  | m, [] => m
  | m, x :: r => maxL (if x > m then x else m) r
def minL : Int → List Int → Int
  | m, [] => m
  | m, x :: r => minL (if x < m then x else m) r
theorem maxL_spec : ∀ (r : List Int) (m : Int), (maxL m r = m ∨ maxL m r ∈ r) ∧ m ≤ maxL m r ∧ ∀ y ∈ r, y ≤ maxL m r
  | [], m => ⟨.inl rfl, Int.le_refl _, fun _ h => by cases h⟩
  | x :: r, m => by
    obtain ⟨h1, h2, h3⟩ := maxL_spec r (if x > m then x else m)
    refine ⟨?_, ?_, fun y hy => ?_⟩
    · rcases h1 with h1 | h1
      · by_cases hx : x > m
        · rw [if_pos hx] at h1; exact .inr (by show maxL _ r ∈ _; rw [if_pos hx, h1]; exact List.mem_cons_self)
        · rw [if_neg hx] at h1; exact .inl (by show maxL _ r = _; rw [if_neg hx, h1])
      · exact .inr (List.mem_cons_of_mem _ h1)
    · show m ≤ maxL _ r
      by_cases hx : x > m
      · rw [if_pos hx] at h2 ⊢; omega
      · rw [if_neg hx] at h2 ⊢; omega
    · show y ≤ maxL _ r
      rcases List.mem_cons.mp hy with rfl | hy
      · by_cases hx : y > m
        · rw [if_pos hx] at h2 ⊢; omega
        · rw [if_neg hx] at h2 ⊢; omega
      · exact h3 y hy
theorem minL_spec : ∀ (r : List Int) (m : Int), (minL m r = m ∨ minL m r ∈ r) ∧ minL m r ≤ m ∧ ∀ y ∈ r, minL m r ≤ y
  | [], m => ⟨.inl rfl, Int.le_refl _, fun _ h => by cases h⟩
  | x :: r, m => by
    obtain ⟨h1, h2, h3⟩ := minL_spec r (if x < m then x else m)
    refine ⟨?_, ?_, fun y hy => ?_⟩
    · rcases h1 with h1 | h1
      · by_cases hx : x < m
        · rw [if_pos hx] at h1; exact .inr (by show minL _ r ∈ _; rw [if_pos hx, h1]; exact List.mem_cons_self)
        · rw [if_neg hx] at h1; exact .inl (by show minL _ r = _; rw [if_neg hx, h1])
      · exact .inr (List.mem_cons_of_mem _ h1)
    · show minL _ r ≤ m
      by_cases hx : x < m
      · rw [if_pos hx] at h2 ⊢; omega
      · rw [if_neg hx] at h2 ⊢; omega
    · show minL _ r ≤ y
      rcases List.mem_cons.mp hy with rfl | hy
      · by_cases hx : y < m
        · rw [if_pos hx] at h2 ⊢; omega
        · rw [if_neg hx] at h2 ⊢; omega
      · exact h3 y hy
def maxD : List D → Rs D
  | [.list ds] => match intsO ds with | some (m :: r) => .ok (.int (maxL m r)) | _ => .stuck
  | [.int i, .int j] => .ok (.int (if j > i then j else i))
  | _ => .stuck
def minD : List D → Rs D
  | [.list ds] => match intsO ds with | some (m :: r) => .ok (.int (minL m r)) | _ => .stuck
  | [.int i, .int j] => .ok (.int (if j < i then j else i))
  | _ => .stuck
def rMaxA (K : W.Frag) : List V → Hp → VK → Prop := fun vs H Q => rMax K vs H Q ∨ ∃ i j, vs = [.int i, .int j] ∧ Q (.int (if j > i then j else i)) H
def rMinA (K : W.Frag) : List V → Hp → VK → Prop := fun vs H Q => rMin K vs H Q ∨ ∃ i j, vs = [.int i, .int j] ∧ Q (.int (if j < i then j else i)) H
theorem cr_maxA (hc : X.calm = true) : CallR X (.builtin "max") (rMaxA X.K) := (cr_max hc).or (call_max2 hc)
theorem cr_minA (hc : X.calm = true) : CallR X (.builtin "min") (rMinA X.K) := (cr_min hc).or (call_min2 hc)
theorem says_max : SaysL G (rMaxA G.K) maxD := by
  intro O H vs ds Q k t a p
  unfold maxD at p
  split at p
  · obtain ⟨v, r, rfl, a1, a2⟩ := a
    cases a2
    obtain ⟨b, us, rfl, h1, h2⟩ := a1
    split at p
    · rename_i m r hb
      rw [ints_eq hb] at h2
      rw [atL_ints h2] at h1
      refine .inl ⟨b, m :: r, rfl, h1, by simp, fun m' hm' hle => ?_⟩
      obtain ⟨q1, q2, q3⟩ := maxL_spec r m
      have e : m' = maxL m r := by
        refine Int.le_antisymm ?_ ?_
        · rcases List.mem_cons.mp hm' with e | e
          · rw [e]; exact q2
          · exact q3 m' e
        · rcases q1 with e | e
          · rw [e]; exact hle m List.mem_cons_self
          · exact hle _ (List.mem_cons_of_mem _ e)
      rw [e]
      exact post_sc k p rfl
    · exact p.elim
  · obtain ⟨v, r, rfl, a1, v', r', rfl, a2, a3⟩ := a
    cases a1; cases a2; cases a3
    exact .inr ⟨_, _, rfl, post_sc k p rfl⟩
  · exact p.elim
theorem says_min : SaysL G (rMinA G.K) minD := by
  intro O H vs ds Q k t a p
  unfold minD at p
  split at p
  · obtain ⟨v, r, rfl, a1, a2⟩ := a
    cases a2
    obtain ⟨b, us, rfl, h1, h2⟩ := a1
    split at p
    · rename_i m r hb
      rw [ints_eq hb] at h2
      rw [atL_ints h2] at h1
      refine .inl ⟨b, m :: r, rfl, h1, by simp, fun m' hm' hle => ?_⟩
      obtain ⟨q1, q2, q3⟩ := minL_spec r m
      have e : m' = minL m r := by
        refine Int.le_antisymm ?_ ?_
        · rcases q1 with e | e
          · rw [e]; exact hle m List.mem_cons_self
          · exact hle _ (List.mem_cons_of_mem _ e)
        · rcases List.mem_cons.mp hm' with e | e
          · rw [e]; exact q2
          · exact q3 m' e
      rw [e]
      exact post_sc k p rfl
    · exact p.elim
  · obtain ⟨v, r, rfl, a1, v', r', rfl, a2, a3⟩ := a
    cases a1; cases a2; cases a3
    exact .inr ⟨_, _, rfl, post_sc k p rfl⟩
  · exact p.elim
def tupleD : List D → Rs D
  | [.list ds] => .ok (.tuple ds)
  | _ => .stuck
def listD : List D → Rs D
  | [.list ds] => .ok (.list ds)
  | [.tuple ds] => .ok (.list ds)
  | _ => .stuck
theorem says_tuple : SaysL G (fun xs H Q => ∃ p ys, xs = [.ref p] ∧ ((SqL G.K H p ys ∧ ∀ l, H l = none → Q (.ref l) (upd H l (.tup ys))) ∨ (SqT G.K H p ys ∧ Q (.ref p) H))) tupleD := by
  intro O H vs ds Q k t a p
  unfold tupleD at p
  split at p
  · obtain ⟨v, r, rfl, a1, a2⟩ := a
    cases a2
    obtain ⟨b, us, rfl, h1, h2⟩ := a1
    exact ⟨b, us, rfl, .inl ⟨h1, fun l hl k' => p _ _ (same_upd hl) k' (new_tup t hl h2)⟩⟩
  · exact p.elim
theorem says_list : SaysL G (fun xs H Q => ∃ p ys, xs = [.ref p] ∧ (SqL G.K H p ys ∨ SqT G.K H p ys) ∧ ∀ l, H l = none → Q (.ref l) (upd H l (.lst ys))) listD := by
  intro O H vs ds Q k t a p
  unfold listD at p
  split at p
  · obtain ⟨v, r, rfl, a1, a2⟩ := a
    cases a2
    obtain ⟨b, us, rfl, h1, h2⟩ := a1
    exact ⟨b, us, rfl, .inl h1, fun l hl k' => p _ _ (same_upd hl) k' (new_list t hl h2)⟩
  · obtain ⟨v, r, rfl, a1, a2⟩ := a
    cases a2
    obtain ⟨b, us, rfl, h1, _, h2⟩ := a1
    exact ⟨b, us, rfl, .inr h1, fun l hl k' => p _ _ (same_upd hl) k' (new_list t hl h2)⟩
  · exact p.elim
def insI (x : Int) : List Int → List Int
  | [] => [x]
  | y :: r => if x ≤ y then x :: y :: r else y :: insI x r
def srtI : List Int → List Int
  | [] => []
  | x :: r => insI x (srtI r)
theorem insI_perm (x : Int) : ∀ r, (insI x r).Perm (x :: r)
  | [] => .refl _
  | y :: r => by
    unfold insI
    split
    · exact .refl _
    · exact ((insI_perm x r).cons y).trans (.swap x y r)
theorem srtI_perm : ∀ r, (srtI r).Perm r
  | [] => .refl _
  | x :: r => (insI_perm x _).trans ((srtI_perm r).cons x)
theorem insI_mem {x y : Int} {r : List Int} : y ∈ insI x r ↔ y = x ∨ y ∈ r := by rw [(insI_perm x r).mem_iff, List.mem_cons]
theorem insI_srt (x : Int) : ∀ r, r.Pairwise (· ≤ ·) → (insI x r).Pairwise (· ≤ ·)
  | [], _ => by simp [insI]
  | y :: r, h => by
    unfold insI
    obtain ⟨h1, h2⟩ := List.pairwise_cons.mp h
    split
    · rename_i hxy
      refine List.pairwise_cons.mpr ⟨fun z hz => ?_, h⟩
      rcases List.mem_cons.mp hz with rfl | hz
      · exact hxy
      · exact Int.le_trans hxy (h1 z hz)
    · rename_i hxy
      refine List.pairwise_cons.mpr ⟨fun z hz => ?_, insI_srt x r h2⟩
      rcases insI_mem.mp hz with rfl | hz
      · omega
      · exact h1 z hz
theorem srtI_srt : ∀ r, (srtI r).Pairwise (· ≤ ·)
  | [] => .nil
  | x :: r => insI_srt x _ (srtI_srt r)
theorem srt_unique : ∀ {a b : List Int}, a.Perm b → a.Pairwise (· ≤ ·) → b.Pairwise (· ≤ ·) → a = b
  | [], b, h, _, _ => (h.nil_eq)
  | x :: a, [], h, _, _ => by have := h.length_eq; simp at this
  | x :: a, y :: b, h, ha, hb => by
    obtain ⟨a1, a2⟩ := List.pairwise_cons.mp ha
    obtain ⟨b1, b2⟩ := List.pairwise_cons.mp hb
    have e : x = y := by
      refine Int.le_antisymm ?_ ?_
      · have : y ∈ x :: a := h.mem_iff.mpr List.mem_cons_self
        rcases List.mem_cons.mp this with e | e
        · rw [e]; exact Int.le_refl _
        · exact a1 y e
      · have : x ∈ y :: b := h.mem_iff.mp List.mem_cons_self
        rcases List.mem_cons.mp this with e | e
        · rw [e]; exact Int.le_refl _
        · exact b1 x e
    subst e
    rw [srt_unique (List.Perm.cons_inv h) a2 b2]
def sortedD : List D → Rs D
  | [.list ds] => match intsO ds with | some ns => if ns.length < 64 then .ok (.list ((srtI ns).map PyData.int)) else .stuck | none => .stuck
  | _ => .stuck
theorem says_sorted : SaysL G (rSorted G.K) sortedD := by
  intro O H vs ds Q k t a p
  unfold sortedD at p
  split at p
  · obtain ⟨v, r, rfl, a1, a2⟩ := a
    cases a2
    obtain ⟨b, us, rfl, h1, h2⟩ := a1
    split at p
    · rename_i ns hb
      split at p
      · rename_i hz
        rw [ints_eq hb] at h2
        rw [atL_ints h2] at h1
        refine ⟨b, ns, rfl, h1, hz, fun ns' q hp hs hq k' => ?_⟩
        have e : ns' = srtI ns := srt_unique (hp.trans (srtI_perm ns).symm) hs (srtI_srt ns)
        subst e
        exact p _ _ (same_upd hq) k' (new_list t hq (atL_of_ints _))
      · exact p.elim
    · exact p.elim
  · exact p.elim
end
end Den
namespace Den
open PySem PySem.Spec PyProof.Rows L2
inductive Ty | int | bool | str | list | tuple
  deriving DecidableEq
def Ty.nm : Ty → String
  | .int => "int" | .bool => "bool" | .str => "str" | .list => "list" | .tuple => "tuple"
def tyN : D → String
  | .none => "NoneType" | .bool _ => "bool" | .int _ => "int" | .str _ => "str" | .list _ => "list" | .tuple _ => "tuple" | .dict _ => "dict"
def isiD : Ty → D → Bool
  | .int, .int _ => true
  | .int, .bool _ => true
  | .bool, .bool _ => true
  | .str, .str _ => true
  | .list, .list _ => true
  | .tuple, .tuple _ => true
  | _, _ => false
theorem isi_kit : ∀ (T : Ty) (d : D) (hd : ∀ k, d ≠ .dict k), kitB (tyN d) T.nm = some (isiD T d)
  | .int, .none, _ => (by decide +kernel : kitB "NoneType" "int" = some false)
  | .int, .bool _, _ => (by decide +kernel : kitB "bool" "int" = some true)
  | .int, .int _, _ => (by decide +kernel : kitB "int" "int" = some true)
  | .int, .str _, _ => (by decide +kernel : kitB "str" "int" = some false)
  | .int, .list _, _ => (by decide +kernel : kitB "list" "int" = some false)
  | .int, .tuple _, _ => (by decide +kernel : kitB "tuple" "int" = some false)
  | .bool, .none, _ => (by decide +kernel : kitB "NoneType" "bool" = some false)
  | .bool, .bool _, _ => (by decide +kernel : kitB "bool" "bool" = some true)
  | .bool, .int _, _ => (by decide +kernel : kitB "int" "bool" = some false)
  | .bool, .str _, _ => (by decide +kernel : kitB "str" "bool" = some false)
  | .bool, .list _, _ => (by decide +kernel : kitB "list" "bool" = some false)
  | .bool, .tuple _, _ => (by decide +kernel : kitB "tuple" "bool" = some false)
  | .str, .none, _ => (by decide +kernel : kitB "NoneType" "str" = some false)
  | .str, .bool _, _ => (by decide +kernel : kitB "bool" "str" = some false)
  | .str, .int _, _ => (by decide +kernel : kitB "int" "str" = some false)
  | .str, .str _, _ => (by decide +kernel : kitB "str" "str" = some true)
  | .str, .list _, _ => (by decide +kernel : kitB "list" "str" = some false)
  | .str, .tuple _, _ => (by decide +kernel : kitB "tuple" "str" = some false)
  | .list, .none, _ => (by decide +kernel : kitB "NoneType" "list" = some false)
  | .list, .bool _, _ => (by decide +kernel : kitB "bool" "list" = some false)
  | .list, .int _, _ => (by decide +kernel : kitB "int" "list" = some false)
  | .list, .str _, _ => (by decide +kernel : kitB "str" "list" = some false)
  | .list, .list _, _ => (by decide +kernel : kitB "list" "list" = some true)
  | .list, .tuple _, _ => (by decide +kernel : kitB "tuple" "list" = some false)
  | .tuple, .none, _ => (by decide +kernel : kitB "NoneType" "tuple" = some false)
  | .tuple, .bool _, _ => (by decide +kernel : kitB "bool" "tuple" = some false)
  | .tuple, .int _, _ => (by decide +kernel : kitB "int" "tuple" = some false)
  | .tuple, .str _, _ => (by decide +kernel : kitB "str" "tuple" = some false)
  | .tuple, .list _, _ => (by decide +kernel : kitB "list" "tuple" = some false)
  | .tuple, .tuple _, _ => (by decide +kernel : kitB "tuple" "tuple" = some true)
  | _, .dict k, h => absurd rfl (h k)
theorem tyx_of {K : W.Frag} {H : Hp} {O : Addr → Prop} : ∀ {d : D} {x : V}, AtC K H O d x → TyX K H x (.type (tyN d))
  | .none, _, h => by cases h; exact .base .non
  | .bool b, _, h => by cases h; exact .base (.bl b)
  | .int i, _, h => by cases h; exact .base (.int i)
  | .str z, _, h => by cases h; exact .base (.str z)
  | .list _, _, h => by
    obtain ⟨a, vs, rfl, h1, _⟩ := h
    rcases h1 with (h1 | ⟨o, h1⟩) | ⟨o, its, n, h1, h2, _⟩
    · exact .base (.lst h1)
    · exact .base (.frz h1)
    · exact .kList h1 h2
  | .tuple _, _, h => by
    obtain ⟨a, vs, rfl, h1, _⟩ := h
    rcases h1 with (h1 | ⟨o, h1⟩) | ⟨o, its, n, h1, h2, _⟩
    · exact .base (.tup h1)
    · exact .fTuple h1
    · exact .kTuple h1 h2
  | .dict _, _, h => h.elim
section
variable {X : Cx} {G : Gc} {L : Nat} {bl : List Str} {e a b tgx : Expr} {f g : DE} {pos p p1 p2 : Pos} {x : Str}
def isiE (T : Ty) (f : DE) : DE := fun ρ => do let d ← f ρ; pure (.bool (isiD T d))
theorem d_isi (C : Ctx X G L bl) {T : Ty} {y : Str} (ha : PE X a (tW G f)) (hg : Gl X "isinstance") (hm : ("isinstance" : Str) ∈ bl) (hgy : Gl X y) (hmy : y ∈ bl) (hvy : bootBuiltins y = some (.type T.nm)) (hny : y ≠ "__name__") (hdy : (y == ("__debug__" : Str)) = false)
    (he : starEach (a :: [.Name y p2]) X.env = (false, eval a X.env) :: starEach [.Name y p2] X.env) : PE X (.Call (.Name "isinstance" p1) [a, .Name y p2] [] pos) (tS G (isiE T f)) := by
  have hb : PE X (.Name y p2) (tC (.ty T.nm)) := pe_bltn hgy (C.blt y hmy) hvy rfl hny hdy
  refine pe_imp (pe_callB call_isi hg (C.blt _ hm) (by decide +kernel) (pa_cons ha (pa_cons hb pa_nil rfl) he) (by decide +kernel) (by decide +kernel) he rfl) fun σ H Q kf w => fun k => ?_
  obtain ⟨O, ρ, R, q⟩ := w k
  refine ⟨O, ρ, R, q.bind.imp fun d _ q v H1 s1 k1 a1 => ?_⟩
  rw [C.K]
  refine ⟨v, .ty T.nm, _, _, isiD T d, rfl, .ty _, tyx_of a1, kit_ty (isi_kit T d fun z e => ?_), fun _ => q _ H1 s1 k1 rfl⟩
  subst e
  exact a1.elim
theorem rgV_at {K : W.Frag} {H : Hp} {O : Addr → Prop} (lo hi : Int) : AtL K H O (rngD lo (hi - lo).toNat) (rgV lo hi) := by
  unfold rngD rgV
  generalize (List.range (hi - lo).toNat) = l
  induction l with
  | nil => rfl
  | cons i r ih => exact ⟨_, _, rfl, rfl, ih⟩
def lstI (fi : DI) : DE := fun ρ => do let ds ← fi ρ; pure (.list ds)
def tupI (fi : DI) : DE := fun ρ => do let ds ← fi ρ; pure (.tuple ds)
theorem rg_ok {i j : Int} (h : (-(big : Int) ≤ i ∧ i ≤ big) ∧ (-(big : Int) ≤ j ∧ j ≤ big)) : RgOk i j := by
  unfold RgOk; unfold big at h; omega
theorem d_lrng1 (C : Ctx X G L bl) (hc : X.calm = true) (hg : Gl X "list") (hm : ("list" : Str) ∈ bl) (hg2 : Gl X "range") (hm2 : ("range" : Str) ∈ bl) (ha : PE X a (tW G f)) (na : starEach [a] X.env = (false, eval a X.env) :: starEach [] X.env) (na2 : starEach [.Call (.Name "range" p1) [a] [] p2] X.env = (false, eval (.Call (.Name "range" p1) [a] [] p2) X.env) :: starEach [] X.env) :
    PE X (.Call (.Name "list" p) [.Call (.Name "range" p1) [a] [] p2] [] pos) (tF G (lstI (rng1 f))) := by
  refine pe_imp (pe_listRg hc hg (C.blt _ hm) (prg_1 hg2 (C.blt _ hm2) ha na) na2) fun σ H Q kf w => fun k => ?_
  obtain ⟨O, ρ, R, q⟩ := w k
  refine ⟨O, ρ, R, q.bind.bind.imp fun d _ q v H1 s1 k1 a1 => ?_⟩
  cases d with
  | int j =>
    cases a1
    refine ⟨j, rfl, ?_⟩
    have q2 : Post G H (if -(big : Int) ≤ j ∧ j ≤ big then Rs.ok (rngD 0 j.toNat) else Rs.stuck) _ := q
    split at q2
    · rename_i hj
      refine ⟨rg_ok ⟨by unfold big; omega, hj⟩, fun n hn k' => ?_⟩
      have r := rgV_at (K := G.K) (H := upd H1 n (.lst (rgV 0 j))) (O := fun a => O a ∨ a = n) 0 j
      rw [Int.sub_zero] at r
      exact q2 n _ _ _ rfl (s1.trans (same_upd hn)) (C.kf k') (s1.free hn) upd_same r
    · exact q2.elim
  | _ => exact q.elim
theorem d_trng1 (C : Ctx X G L bl) (hc : X.calm = true) (hg : Gl X "tuple") (hm : ("tuple" : Str) ∈ bl) (hg2 : Gl X "range") (hm2 : ("range" : Str) ∈ bl) (ha : PE X a (tW G f)) (na : starEach [a] X.env = (false, eval a X.env) :: starEach [] X.env) (na2 : starEach [.Call (.Name "range" p1) [a] [] p2] X.env = (false, eval (.Call (.Name "range" p1) [a] [] p2) X.env) :: starEach [] X.env) :
    PE X (.Call (.Name "tuple" p) [.Call (.Name "range" p1) [a] [] p2] [] pos) (tS G (tupI (rng1 f))) := by
  refine pe_imp (pe_tupRg hc hg (C.blt _ hm) (prg_1 hg2 (C.blt _ hm2) ha na) na2) fun σ H Q kf w => fun k => ?_
  obtain ⟨O, ρ, R, q⟩ := w k
  refine ⟨O, ρ, R, q.bind.bind.imp fun d _ q v H1 s1 k1 a1 => ?_⟩
  cases d with
  | int j =>
    cases a1
    refine ⟨j, rfl, ?_⟩
    have q2 : Post G H (if -(big : Int) ≤ j ∧ j ≤ big then Rs.ok (rngD 0 j.toNat) else Rs.stuck) _ := q
    split at q2
    · rename_i hj
      refine ⟨rg_ok ⟨by unfold big; omega, hj⟩, fun n hn k' => ?_⟩
      have r := rgV_at (K := G.K) (H := H1) (O := O) 0 j
      rw [Int.sub_zero] at r
      exact q2 _ _ (s1.trans (same_upd hn)) (C.kf k') (new_tup (R.same s1).trk hn r)
    · exact q2.elim
  | _ => exact q.elim
theorem d_lrng2 (C : Ctx X G L bl) (hc : X.calm = true) (hg : Gl X "list") (hm : ("list" : Str) ∈ bl) (hg2 : Gl X "range") (hm2 : ("range" : Str) ∈ bl) (ha : PE X a (tW G f)) (hb : PE X b (tW G g)) (na : starEach [a, b] X.env = (false, eval a X.env) :: starEach [b] X.env) (nb : starEach [b] X.env = (false, eval b X.env) :: starEach [] X.env) (na2 : starEach [.Call (.Name "range" p1) [a, b] [] p2] X.env = (false, eval (.Call (.Name "range" p1) [a, b] [] p2) X.env) :: starEach [] X.env) :
    PE X (.Call (.Name "list" p) [.Call (.Name "range" p1) [a, b] [] p2] [] pos) (tF G (lstI (rng2 f g))) := by
  refine pe_imp (pe_listRg hc hg (C.blt _ hm) (prg_2 hg2 (C.blt _ hm2) ha hb na nb (by rw [nb]; rfl)) na2) fun σ H Q kf w => fun k => ?_
  obtain ⟨O, ρ, R, q⟩ := w k
  refine ⟨O, ρ, R, q.bind.bind.imp fun d _ q v H1 s1 k1 a1 => fun _ => ⟨O, ρ, R.same s1, q.bind.imp fun d' _ q v' H2 s2 k2 a2 => ?_⟩⟩
  have q3 : Post G H (intD d >>= fun i => intD d' >>= fun j => if (-(big : Int) ≤ i ∧ i ≤ big) ∧ (-(big : Int) ≤ j ∧ j ≤ big) then Rs.ok (rngD i (j - i).toNat) else Rs.stuck) _ := q
  cases d with
  | int i =>
    cases d' with
    | int j =>
      cases a1; cases a2
      refine ⟨i, j, rfl, rfl, ?_⟩
      have q2 : Post G H (if (-(big : Int) ≤ i ∧ i ≤ big) ∧ (-(big : Int) ≤ j ∧ j ≤ big) then Rs.ok (rngD i (j - i).toNat) else Rs.stuck) _ := q3
      split at q2
      · rename_i hj
        refine ⟨rg_ok hj, fun n hn k' => ?_⟩
        exact q2 n _ _ _ rfl (s1.trans (s2.trans (same_upd hn))) (C.kf k') (s1.free (s2.free hn)) upd_same (rgV_at i j)
      · exact q2.elim
    | _ => exact q3.elim
  | _ => exact q3.elim
end
end Den
namespace Den
open PySem PySem.Spec PyProof.Rows L2
open AutoSeq1 (wpAny_loadPart')
theorem meets_enumerate_newT (l : Addr) (items : Array Value) :
    Meets (Builtin.«enumerate.__new__» ⟨[.type "enumerate", .ref l], []⟩) (fun _ R s => s.heap.IsTuple l items ∧
      R (.ok (.ret (.ref (s.heap.push { cls := .type "tuple_iterator", data := .fields #[.ref l, .int 0 0] }).objs.size)))
        { s with heap := (s.heap.push { cls := .type "tuple_iterator", data := .fields #[.ref l, .int 0 0] }).push { cls := .type "enumerate", data := .fields #[.none, .bool false, .ref s.heap.objs.size, rawInt 0, .none, .none] } }) :=
  .of_wp fun prog w A R s h => by
    obtain ⟨hp, g, d, tk, os⟩ := s; obtain ⟨hL, h⟩ := h
    have hsub := sub_enumerate
    have q1 : ∀ {A' : Around} {E : Value → Shared → Prop} {Q : Value → Shared → Prop}, Q (.ref hp.objs.size) ⟨hp.push { cls := .type "tuple_iterator", data := .fields #[.ref l, .int 0 0] }, g, d, tk, os⟩ → wpAny (model prog w) A' (pyIter (.ref l)) Q E ⟨hp, g, d, tk, os⟩ :=
      fun q => wpAny_pyIter_tuple hL q
    wp_walk using q1
    refine wpAny_stack_any fun st => wpAny_pure ?_
    split
    · rename_i c _ _ _ _ _
      cases (c == Value.type "enumerate")
      · wp_walk using q1
        exact ⟨_, rfl, h⟩
      · wp_walk using q1
        exact ⟨_, rfl, h⟩
    · wp_walk using q1
      exact ⟨_, rfl, h⟩
section
variable {prog : Program} {w : World} {A : Around} {E : Value → Shared → Prop} {s : Shared}
theorem call_enumerate_tuple {l : Addr} {items : Array Value} {Q : Value → Shared → Prop} (hL : s.heap.IsTuple l items)
    (h : ∀ h', IsEnum h' (s.heap.objs.size + 1) s.heap.objs.size 0 .none → h'.IsTupleIter s.heap.objs.size l 0 → h'.objs.size = s.heap.objs.size + 2 →
      (∀ b o, s.heap.get? b = some o → h'.get? b = some o) → Q (.ref (s.heap.objs.size + 1)) { s with heap := h' }) :
    wpAny (model prog w) A (call (.type "enumerate") [.ref l]) Q E s := by
  refine callType_new F.called_enumerate (by decide) (F.typeCall_enumerate_1 _) (F.newCall_enumerate_1 _) (fun obj => F.args_object_init_2 obj _) F.entry_enumerate_new
    (meets_enumerate_newT l items) ⟨hL, ?_⟩
  have hz : (s.heap.push { cls := .type "tuple_iterator", data := .fields #[.ref l, .int 0 0] }).objs.size = s.heap.objs.size + 1 := Heap.size_push ..
  show _ ∧ _
  rw [hz]
  have he : IsEnum ((s.heap.push { cls := .type "tuple_iterator", data := .fields #[.ref l, .int 0 0] }).push
      { cls := .type "enumerate", data := .fields #[.none, .bool false, .ref s.heap.objs.size, rawInt 0, .none, .none] }) (s.heap.objs.size + 1) s.heap.objs.size 0 .none := by
    have := Heap.get?_push_size (s.heap.push { cls := .type "tuple_iterator", data := .fields #[.ref l, .int 0 0] })
      (o := { cls := .type "enumerate", data := .fields #[.none, .bool false, .ref s.heap.objs.size, rawInt 0, .none, .none] }) rfl
    rw [hz] at this; exact this
  refine ⟨⟨_, he, rfl⟩, h _ he ⟨_, Heap.get?_push_of_some _ (Heap.get?_push_size _ rfl), rfl, rfl⟩ (by rw [Heap.size_push, hz]) fun b o x => Heap.get?_push_of_some _ (Heap.get?_push_of_some _ x)⟩
theorem enum_endT {e it l : Addr} {i : Nat} {j : Int} {items : Array Value} {old : Value} {Q : Option Value → Shared → Prop} (hh : A.handled = none)
    (he : IsEnum s.heap e it j old) (hit : s.heap.IsTupleIter it l i) (hl : s.heap.IsTuple l items) (hx : items[i]? = none)
    (hQ : ∀ h', Heap.ExtBut it s.heap h' → Q none { s with heap := h' }) : wpAny (model prog w) A (pyNext (.ref e)) Q E s := by
  have hT : s.TypeIs (.ref e) "enumerate" := ⟨_, he, rfl⟩
  unfold pyNext
  refine wpAny_bind (wpAny_attempt (wpAny_callSpecial?_slot (name := Str.ofString "__next__") hT F.slot_enumerate_next
    (wpAny_call_entry F.slot_enumerate_next hT F.entry_enumerate_next ?_ (F.args_enumerate_next_1 _))))
  show wpAny _ _ (field (.ref e) 2 >>= _) _ _ _
  refine wpAny_bind (wpAny_field he rfl (x := .ref it) rfl ?_)
  refine wpAny_bind (wpAny_nextOf_tuple_end (A := A.in1) hh hit hl hx fun h' x he' hx' => ?_)
  obtain ⟨o, ho, hc⟩ := hx'
  refine wpAny_bind (wpAny_isInstance (T := "StopIteration") (b := true) ⟨o, ho, hc⟩ isSubtype_stop ?_)
  exact wpAny_pure (hQ _ he')
end
def IteT (K : W.Frag) (a : Addr) : It :=
  ⟨fun i H => ∃ (xs : List V) (x : V), SqT K H a xs ∧ xs[i]? = some x, fun i H v H' => ∃ T x, v = .ref T ∧ H T = none ∧ H' = upd H T (.tup [.int (i : Nat), x]) ∧ ∀ xs, SqT K H a xs → xs[i]? = some x, fun i H => ∃ xs : List V, SqT K H a xs ∧ xs.length ≤ i⟩
theorem turn_enumT {P : Program} {w : World} {K : W.Frag} {elts : List Expr} {kk : Nat} {tpos : Pos} (a e it : Addr) :
    Turn P w K (.Tuple elts kk tpos) (IteT K a) [e, it] e (fun i h => (∃ old, IsEnum h e it ((i : Nat) : Int) old) ∧ h.IsTupleIter it a i ∧ e ≠ it ∧ a ≠ it ∧ a ≠ e) where
  mem := by simp
  obj := fun i h st b hb => by
    obtain ⟨⟨old, he⟩, ⟨o, ho, hc, hd⟩, _⟩ := st
    have e' : b = e ∨ b = it := by simpa using hb
    rcases e' with z | z
    · rw [z]; exact ⟨_, he, fun v q => nomatch q⟩
    · rw [z]; exact ⟨o, ho, fun v q => by rw [hd] at q; cases q⟩
  keep := fun i h h' st k => let ⟨⟨old, he⟩, hi, hne⟩ := st; ⟨⟨old, k e (by simp) _ he⟩, hi.at fun o q => k it (by simp) o q, hne⟩
  item := by
    intro X hP hw hK hc i pins s σ H E I hf st hg
    subst hP hw hK
    obtain ⟨⟨old, he⟩, hit, hne, hai, hae⟩ := st
    obtain ⟨xs, x, hq, hx⟩ := hg
    obtain ⟨its, rv, p, hz⟩ := I.tuple hq
    obtain ⟨u, hu, ru⟩ := rv.get hx
    have hel : e < s.heap.objs.size := Heap.lt_size he
    have hil : it < s.heap.objs.size := by obtain ⟨_, q, _⟩ := hit; exact Heap.lt_size q
    have hlt : i < its.toArray.size := by
      have := (List.getElem?_eq_some_iff.mp hu).1
      simpa using this
    refine wpAny_pyNext_enum_itemD (Draws.tuple (prog := X.prog) (w := X.w) (A := X.A.in1) (show X.A.in1.handled = none from I.ok.hd hc) it a hai its.toArray) he ⟨hit, p⟩ hlt hne (by
      intro z
      rcases List.mem_cons.mp z with z | z
      · exact hne z
      · exact hae (List.mem_singleton.mp z).symm) fun v h' tk hv ho hst' hT hsz hk => ?_
    have ev : v = u := by
      have hv' : its[i]? = some v := by simpa using hv
      rw [hu] at hv'; exact (Option.some.inj hv').symm
    subst ev
    refine ⟨_, rfl, wpAny_letOwnedTupleGo_enum (s := { s with heap := h', toks := tk + 1 }) ho fun h'' he' sb => ?_⟩
    have hT2 : h''.get? s.heap.objs.size = some { cls := .type "tuple", data := .seq #[.int i tk, v] } := (sb.2 _ (Nat.ne_of_gt hel)).trans hT
    have new : ObjOk X.prog X.w (upd H s.heap.objs.size (.tup [.int (i : Nat), x])) h'' s.heap.objs.size (.tup [.int (i : Nat), x]) :=
      ⟨by show 2 ≤ sizeLine; decide, [.int i tk, v], .cons ⟨_, rfl⟩ (.cons ru .nil), ⟨_, hT2, rfl, _, rfl⟩⟩
    have I1 : L2.Inv X pins σ (upd H s.heap.objs.size (.tup [.int (i : Nat), x])) { s with heap := h'', toks := tk + 1 } :=
      I.turnedNew (ch := [e, it]) (fun b ob hb q => (sb.2 b (fun z => hb (by simp [z]))).trans (hk b ob (fun z => hb (by simp [z])) (fun z => hb (by simp [z])) q)) hf (Nat.le_refl _) new
    refine ⟨.ref s.heap.objs.size, _, I1, rfl, ⟨_, x, rfl, I.hok.fresh (Nat.le_refl _), rfl, fun ys hy => by rw [I.tuple_inj hy hq]; exact hx⟩, ⟨⟨v, ?_⟩, hst'.1.at fun o q => (sb.2 it (Ne.symm hne)).trans q, hne, hai, hae⟩, fun b hb => ?_⟩
    · have e1 : ((i + 1 : Nat) : Int) = (i : Int) + 1 := by omega
      rw [e1]; exact he'
    · have hb' : b < s.heap.objs.size := by
        have e' : b = e ∨ b = it := by simpa using hb
        rcases e' with z | z
        · rw [z]; exact hel
        · rw [z]; exact hil
      rw [upd_ne (Nat.ne_of_lt hb')]
      exact (hf b hb).1
  done := by
    intro X hP hw hK hc i pins s σ H E I hf st hg
    subst hP hw hK
    obtain ⟨⟨old, he⟩, hit, hne, hai, hae⟩ := st
    obtain ⟨xs, hq, hx⟩ := hg
    obtain ⟨its, rv, p, hz⟩ := I.tuple hq
    obtain ⟨f0, f1, f2, f3, f4, f5⟩ := hf it (by simp)
    have hl := rv.length
    exact enum_endT (I.ok.hd hc) he hit p (by simp; omega) fun h' eb => ⟨rfl, I.turned (t' := s.toks) (fun b o hb q => eb b o hb q) f0 f1 f3 f4 f5⟩
  self := fun A i s Q E st h => let ⟨⟨_, he⟩, _⟩ := st; wpAny_pyIter_enum he h
section
variable {X : Cx} {G : Gc} {L : Nat} {bl : List Str} {e a b : Expr} {f g : DE} {pos p tpos : Pos} {elts : List Expr} {kk : Nat}
theorem pi_enumA {te : TE} (hg : Gl X "enumerate") (hm : X.mg "enumerate" = none) (ha : PE X a te) (hs : starEach [a] X.env = (false, eval a X.env) :: starEach [] X.env) :
    PI X (.Tuple elts kk tpos) (.Call (.Name "enumerate" p) [a] [] pos) (fun σ H R => te σ H fun v H1 => ∃ q xs, v = .ref q ∧ ((SqL X.K H1 q xs ∧ (xs.length ≤ sizeLine → R (Ite X.K q) H1)) ∨ (SqT X.K H1 q xs ∧ (xs.length ≤ sizeLine → R (IteT X.K q) H1)))) := by
  refine ⟨fun pins s σ H R I h => ?_⟩
  refine Call_ (ld_blt I hg hm boot_enumerate (PyProof.Rows.callWith_type1 (thn ((pa_cons ha pa_nil hs).run pos pins s σ H (fun vs H1 => ∃ q xs, vs = [.ref q] ∧ ((SqL X.K H1 q xs ∧ (xs.length ≤ sizeLine → R (Ite X.K q) H1)) ∨ (SqT X.K H1 q xs ∧ (xs.length ≤ sizeLine → R (IteT X.K q) H1)))) I ?_) fun us s1 ⟨vs, H1, I1, r1, q1⟩ => ?_) hs rfl))
  · have key : ∀ (Q Q' : VK), (∀ v H', Q v H' → Q' v H') → Q = Q' → True := fun _ _ _ _ => trivial
    show te σ H fun x H1 => tNil σ H1 fun xs H2 => _
    unfold tNil
    have e : (fun (x : V) (H1 : Hp) => ∃ q xs, [x] = [V.ref q] ∧ ((SqL X.K H1 q xs ∧ (xs.length ≤ sizeLine → R (Ite X.K q) H1)) ∨ (SqT X.K H1 q xs ∧ (xs.length ≤ sizeLine → R (IteT X.K q) H1)))) = (fun (v : V) (H1 : Hp) => ∃ q xs, v = .ref q ∧ ((SqL X.K H1 q xs ∧ (xs.length ≤ sizeLine → R (Ite X.K q) H1)) ∨ (SqT X.K H1 q xs ∧ (xs.length ≤ sizeLine → R (IteT X.K q) H1)))) := by
      funext x H1
      simp only [List.cons.injEq, and_true]
    rw [e]
    exact h
  · obtain ⟨a, xs, ex, hq⟩ := q1
    subst ex
    cases r1 with
    | cons r rr =>
      cases rr
      cases r
      have fin : ∀ {h' : Heap} {b : Addr}, b ∈ [s1.heap.objs.size + 1, s1.heap.objs.size] → FpOk X pins H1 b := fun {h' b} hb => by
        have e' : b = s1.heap.objs.size + 1 ∨ b = s1.heap.objs.size := by simpa using hb
        have hle : s1.heap.objs.size ≤ b := by
          rcases e' with z | z
          · rw [z]; exact Nat.le_add_right _ _
          · rw [z]; exact Nat.le_refl _
        exact I1.fpOk hle (I1.hok.fresh hle)
      rcases hq with ⟨hq, q⟩ | ⟨hq, q⟩
      · obtain ⟨its, rv, p', hz⟩ := I1.list hq
        refine call_enumerate_list p'.isList fun h' he hit hsz hk => wpAny_pyIter_enum he ?_
        exact ⟨s1.heap.objs.size + 1, [s1.heap.objs.size + 1, s1.heap.objs.size], _, _, H1, rfl, I1.kept (t' := s1.toks) hk, turn_enum a (s1.heap.objs.size + 1) s1.heap.objs.size, ⟨⟨.none, he⟩, hit, Nat.succ_ne_self _⟩, fun b hb => fin (h' := h') hb, q hz⟩
      · obtain ⟨its, rv, p', hz⟩ := I1.tuple hq
        have hlt := p'.lt
        refine call_enumerate_tuple (show s1.heap.IsTuple a its.toArray from p') fun h' he hit hsz hk => wpAny_pyIter_enum he ?_
        exact ⟨s1.heap.objs.size + 1, [s1.heap.objs.size + 1, s1.heap.objs.size], _, _, H1, rfl, I1.kept (t' := s1.toks) hk, turn_enumT a (s1.heap.objs.size + 1) s1.heap.objs.size, ⟨⟨.none, he⟩, hit, Nat.succ_ne_self _, Nat.ne_of_lt hlt, Nat.ne_of_lt (Nat.lt_succ_of_lt hlt)⟩, fun b hb => fin (h' := h') hb, q hz⟩
def enuL : Nat → List D → List D
  | _, [] => []
  | n, d :: ds => .tuple [.int (n : Int), d] :: enuL (n + 1) ds
theorem enuL_length : ∀ (ds : List D) (n : Nat), (enuL n ds).length = ds.length
  | [], _ => rfl
  | _ :: ds, n => by simp [enuL, enuL_length ds (n + 1)]
theorem enuL_get : ∀ (ds : List D) (n i : Nat), (enuL n ds)[i]? = (ds[i]?).map fun d => .tuple [.int ((n + i : Nat) : Int), d]
  | [], _, _ => by simp [enuL]
  | d :: ds, n, 0 => by simp [enuL]
  | d :: ds, n, i + 1 => by
    have := enuL_get ds (n + 1) i
    simp only [enuL, List.getElem?_cons_succ, this]
    congr 1
    funext x
    rw [show n + 1 + i = n + (i + 1) by omega]
theorem walk_enum {K : W.Frag} {M O : Addr → Prop} {H : Hp} {a : Addr} {ds : List D} {vs : List V} (hm : ∀ a, M a → O a) (hz : vs.length ≤ sizeLine) (h1 : SqL K H a vs) (n : ¬ M a) (h2 : AtL K H O ds vs) : Walk K M O (Ite K a) H (enuL 0 ds) where
  len := by rw [enuL_length, ← h2.length]; exact hz
  go := fun i d H' e k => by
    rw [enuL_get] at e
    obtain ⟨d', e', rfl⟩ := Option.map_eq_some_iff.mp e
    obtain ⟨v, e1, a1⟩ := h2.get e'
    have q := sqL_kp k n h1
    refine ⟨⟨vs, v, q, e1⟩, fun x H'' y => ?_⟩
    obtain ⟨T, x', rfl, nT, rfl, y2⟩ := y
    have := y2 vs q
    rw [e1] at this; cases this
    refine ⟨same_upd nT, fun O' g t => ⟨T, _, rfl, .of upd_same, t.not nT, _, _, rfl, by rw [Nat.zero_add]; rfl, _, _, rfl, (a1.move hm k g).same (same_upd nT), rfl⟩⟩
  stop := fun H' k => ⟨vs, sqL_kp k n h1, by rw [enuL_length, h2.length]; exact Nat.le_refl _⟩
theorem walk_enumT {K : W.Frag} {M O : Addr → Prop} {H : Hp} {a : Addr} {ds : List D} {vs : List V} (hm : ∀ a, M a → O a) (hz : vs.length ≤ sizeLine) (h1 : SqT K H a vs) (n : ¬ M a) (h2 : AtL K H O ds vs) : Walk K M O (IteT K a) H (enuL 0 ds) where
  len := by rw [enuL_length, ← h2.length]; exact hz
  go := fun i d H' e k => by
    rw [enuL_get] at e
    obtain ⟨d', e', rfl⟩ := Option.map_eq_some_iff.mp e
    obtain ⟨v, e1, a1⟩ := h2.get e'
    have q := sqT_kp k n h1
    refine ⟨⟨vs, v, q, e1⟩, fun x H'' y => ?_⟩
    obtain ⟨T, x', rfl, nT, rfl, y2⟩ := y
    have := y2 vs q
    rw [e1] at this; cases this
    refine ⟨same_upd nT, fun O' g t => ⟨T, _, rfl, .of upd_same, t.not nT, _, _, rfl, by rw [Nat.zero_add]; rfl, _, _, rfl, (a1.move hm k g).same (same_upd nT), rfl⟩⟩
  stop := fun H' k => ⟨vs, sqT_kp k n h1, by rw [enuL_length, h2.length]; exact Nat.le_refl _⟩
def enuE (f : DE) : DI := fun ρ => do let ds ← seqE f ρ; pure (enuL 0 ds)
theorem i_enumS (C : Ctx X G L bl) (hg : Gl X "enumerate") (hm : ("enumerate" : Str) ∈ bl) (ha : PE X a (tS G f)) (hs : starEach [a] X.env = (false, eval a X.env) :: starEach [] X.env) : PI X (.Tuple elts kk tpos) (.Call (.Name "enumerate" p) [a] [] pos) (tIt G false (enuE f)) := by
  refine pi_imp (pi_enumA hg (C.blt _ hm) ha hs) fun σ H R kf w => fun k => ?_
  obtain ⟨O, ρ, R0, q⟩ := w k
  refine ⟨O, ρ, R0, q.bind.bind.imp fun d _ q v H1 s1 k1 a1 => ?_⟩
  rw [C.K]
  cases d with
  | list ds =>
    obtain ⟨a, vs, rfl, h1, n1, h2⟩ := a1
    exact ⟨a, vs, rfl, .inl ⟨h1, fun hz _ => q _ _ s1 k1 (walk_enum mk_le hz h1 n1 h2)⟩⟩
  | tuple ds =>
    obtain ⟨a, vs, rfl, h1, n1, h2⟩ := a1
    exact ⟨a, vs, rfl, .inr ⟨h1, fun hz _ => q _ _ s1 k1 (walk_enumT mk_le hz h1 n1 h2)⟩⟩
  | _ => exact q.elim
end
end Den
namespace Den
open PySem PySem.Spec PyProof.Rows L2
inductive Fl | nx | rt (d : D) | bk | ct
abbrev DS := Ro → Rs (Fl × Ro)
def Stp (K : W.Frag) (O : Addr → Prop) (H : Hp) (O' : Addr → Prop) (H' : Hp) : Prop := Kp O H H' ∧ ∀ a, O' a → O a ∨ (H a = none ∧ K.lookup a = none)
theorem Stp.same {K : W.Frag} {O : Addr → Prop} {H H' : Hp} (s : Same H H') : Stp K O H O H' := ⟨.of_same s, fun _ h => .inl h⟩
theorem Stp.trans {K : W.Frag} {O O' O'' : Addr → Prop} {H H' H'' : Hp} (a : Stp K O H O' H') (b : Stp K O' H' O'' H'') : Stp K O H O'' H'' := by
  refine ⟨fun x o e n => b.1 x o (a.1 x o e n) fun z => ?_, fun x z => ?_⟩
  · rcases a.2 x z with q | q
    · exact n q
    · rw [q.1] at e; cases e
  · rcases b.2 x z with q | q
    · exact a.2 x q
    · by_cases hO : O x
      · exact .inl hO
      · refine .inr ⟨?_, q.2⟩
        cases e : H x with
        | none => rfl
        | some o =>
          have := a.1 x o e hO
          rw [q.1] at this; cases this
def PostS (G : Gc) (O : Addr → Prop) (H : Hp) (r : Rs (Fl × Ro)) (Dn : Ends) : Prop :=
  match r with
  | .ok (.nx, ρ') => ∀ O' σ' H', Stp G.K O H O' H' → Rep G O' σ' H' ρ' → Dn.nx σ' H'
  | .ok (.rt d, _) => ∀ v H', Same G.H0 H' → KF G.K H' → At G.K H' G.O0 d v → Dn.rt v H'
  | .ok (.bk, ρ') => ∀ O' σ' H', Stp G.K O H O' H' → Rep G O' σ' H' ρ' → Dn.bk σ' H'
  | .ok (.ct, ρ') => ∀ O' σ' H', Stp G.K O H O' H' → Rep G O' σ' H' ρ' → Dn.ct σ' H'
  | .exc c => ∀ H', Same G.H0 H' → G.E (G.cl c) none H'
  | .stuck => False
def tSS (G : Gc) (f : DS) : TS := fun Dn σ H => KF G.K H → ∃ O ρ, Rep G O σ H ρ ∧ PostS G O H (f ρ) Dn
theorem PostS.step {G : Gc} {O O' : Addr → Prop} {H H' : Hp} {r : Rs (Fl × Ro)} {Dn : Ends} (p : PostS G O H r Dn) (s : Stp G.K O H O' H') : PostS G O' H' r Dn := by
  cases r with
  | ok a =>
    obtain ⟨fl, ρ'⟩ := a
    cases fl with
    | nx => exact fun O2 σ2 H2 s2 R2 => p O2 σ2 H2 (s.trans s2) R2
    | rt d => exact p
    | bk => exact fun O2 σ2 H2 s2 R2 => p O2 σ2 H2 (s.trans s2) R2
    | ct => exact fun O2 σ2 H2 s2 R2 => p O2 σ2 H2 (s.trans s2) R2
  | exc c => exact p
  | stuck => exact p
theorem PostS.exc_of {α : Type} {G : Gc} {O : Addr → Prop} {H : Hp} {r : Rs α} {f : α → Rs (Fl × Ro)} {Dn : Ends} {Q : α → Prop} (p : PostS G O H (r >>= f) Dn) (h : ∀ a, r = .ok a → PostS G O H (f a) Dn → Q a) : Post G H r Q := by
  cases r with
  | ok a => exact h a rfl p
  | exc c => exact p
  | stuck => exact p
section
variable {X : Cx} {G : Gc} {L : Nat} {bl : List Str} {a b c e tg iter : Expr} {st : Stmt} {rest : List Stmt} {f g h : DE} {F U : DS} {pos p : Pos} {x : Str}
structure SCtx (X : Cx) (G : Gc) (L : Nat) (bl : List Str) : Prop extends Ctx X G L bl where
  po : PassesOwn (model X.prog X.w) X.A X.env X.xe
  fn : ∀ x, X.fn x = true
def nxS : DS := fun ρ => .ok (.nx, ρ)
def seqS (f g : DS) : DS := fun ρ => do
  let r ← f ρ
  match r with
  | (.nx, ρ1) => g ρ1
  | r => .ok r
theorem ss_nil (C : Ctx X G L bl) : PSs X [] (tSS G nxS) := by
  refine pss_imp pss_nil fun Dn σ H kf w => ?_
  obtain ⟨O, ρ, R, q⟩ := w (C.kf kf)
  exact q O σ H (.same (Same.refl _)) R
theorem ss_cons (C : Ctx X G L bl) (h1 : PS X st (tSS G F)) (h2 : PSs X rest (tSS G U)) : PSs X (st :: rest) (tSS G (seqS F U)) := by
  refine pss_imp (pss_cons h1 h2) fun Dn σ H kf w => fun k => ?_
  obtain ⟨O, ρ, R, q⟩ := w k
  refine ⟨O, ρ, R, ?_⟩
  unfold seqS at q
  cases hF : F ρ with
  | ok r =>
    rw [hF] at q
    obtain ⟨fl, ρ1⟩ := r
    cases fl with
    | nx => exact fun O' σ' H' s R' k' => ⟨O', ρ1, R', PostS.step (r := U ρ1) q s⟩
    | rt d => exact q
    | bk => exact q
    | ct => exact q
  | exc c => rw [hF] at q; exact q
  | stuck => rw [hF] at q; exact q
def retS (f : DE) : DS := fun ρ => do let d ← f ρ; pure (.rt d, ρ)
theorem s_ret (ha : PE X a (tS G f)) : PS X (.Return (some a) pos) (tSS G (retS f)) := by
  refine ps_imp (ps_ret ha) fun Dn σ H kf w => fun k => ?_
  obtain ⟨O, ρ, R, q⟩ := w k
  refine ⟨O, ρ, R, PostS.exc_of (r := f ρ) (O := O) q fun d _ q v H' s k' a => ?_⟩
  exact q v H' (R.base.trans s) k' (a.less R.sub)
theorem s_retO (C : Ctx X G L bl) {i : Nat} {p : Pos} (hN : X.N[i]? = some x) (hv : Vis X.env.scope x) (hd : (x == ("__debug__" : Str)) = false) (hcd : (x == ("__classdict__" : Str)) = false) : PS X (.Return (some (.Name x p)) pos) (tSS G (retS (vaR i))) := by
  refine ps_imp (ps_ret (pe_var hN hv hd hcd)) fun Dn σ H kf w => ?_
  have k := C.kf kf
  obtain ⟨O, ρ, R, q⟩ := w k
  unfold retS vaR at q
  split at q
  · rename_i d e
    cases hw : G.own i with
    | false =>
      obtain ⟨v, e1, h1⟩ := R.slot i d e hw
      exact ⟨v, e1, q v H R.base k (h1.less R.sub)⟩
    | true =>
      obtain ⟨a, ds, vs, rfl, e1, e2, h1, h2, h3⟩ := R.owns i d e hw
      exact ⟨.ref a, e1, q _ H R.base k ⟨a, vs, rfl, .of e2, h3, h1.less R.sub⟩⟩
  · exact q.elim
def retN : DS := fun ρ => .ok (.rt .none, ρ)
theorem s_retN (C : Ctx X G L bl) : PS X (.Return none pos) (tSS G retN) := by
  refine ps_imp ps_retN fun Dn σ H kf w => ?_
  have k := C.kf kf
  obtain ⟨O, ρ, R, q⟩ := w k
  exact q .non H R.base k rfl
def iteS (t : DE) (f g : DS) : DS := fun ρ => do let b ← tstE t ρ; if b then f ρ else g ρ
theorem s_if {A B : List Stmt} {t : DE} (hc : PT X c (tTst G (tstE t))) (ha : PSs X A (tSS G F)) (hb : PSs X B (tSS G U)) : PS X (.If c A B pos) (tSS G (iteS t F U)) := by
  refine ps_imp (ps_if hc ha hb) fun Dn σ H kf w => fun k => ?_
  obtain ⟨O, ρ, R, q⟩ := w k
  refine ⟨O, ρ, R, PostS.exc_of (r := tstE t ρ) (O := O) q fun b _ q H' s k' => ?_⟩
  cases b with
  | true => exact (if_pos rfl).mpr fun k'' => ⟨O, ρ, R.same s, PostS.step (r := F ρ) q (.same s)⟩
  | false => exact (if_neg Bool.false_ne_true).mpr fun k'' => ⟨O, ρ, R.same s, PostS.step (r := U ρ) q (.same s)⟩
def exprS (f : DE) : DS := fun ρ => do let _ ← f ρ; pure (.nx, ρ)
theorem s_expr (ha : PE X a (tS G f)) (hs : swapsWith a none pos.line X.env = pure false) : PS X (.Expr a pos) (tSS G (exprS f)) := by
  refine ps_imp (ps_expr ha hs) fun Dn σ H kf w => fun k => ?_
  obtain ⟨O, ρ, R, q⟩ := w k
  refine ⟨O, ρ, R, PostS.exc_of (r := f ρ) (O := O) q fun d _ q v H' s k' a => ?_⟩
  exact q O σ H' (.same s) (R.same s)
end
end Den
namespace Den
open PySem PySem.Spec PyProof.Rows L2
theorem Rep.plusD {G : Gc} {O : Addr → Prop} {σ : L2.St} {H H1 : Hp} {ρ : Ro} {p : Addr} {o : HO} (R : Rep G O σ H ρ) (s : Same H H1) (n : H p = none) (e : H1 p = some o) (nk : G.K.lookup p = none) : Rep G (fun a => O a ∨ a = p) σ H1 ρ := by
  have R' := R.same s
  refine ⟨R'.base, fun a h => .inl (R.sub a h), fun a h => ?_, fun a h hn => ?_, R.len, fun i d e nw => ?_, fun i d e nw => ?_, R.dist⟩
  · rcases h with h | h
    · exact R'.trk a h
    · exact ⟨o, by rw [h]; exact e⟩
  · rcases h with h | h
    · exact R.fre a h hn
    · rw [h]; exact R.base.free n
  · obtain ⟨v, e1, h1⟩ := R.slot i d e nw
    exact ⟨v, e1, (h1.grow n nk).same s⟩
  · obtain ⟨a, ds, vs, e0, e1, e2, h1, h2, h3⟩ := R.owns i d e nw
    exact ⟨a, ds, vs, e0, e1, s _ _ e2, (h1.grow n nk).same s, .inl h2, h3⟩
structure New (K : W.Frag) (O : Addr → Prop) (H H1 : Hp) (p : Addr) (ds : List D) : Prop where
  s : Same H H1
  n : H p = none
  k : K.lookup p = none
  at_ : ∃ vs, H1 p = some (.lst vs) ∧ AtL K H1 (fun a => O a ∨ a = p) ds vs
theorem Rep.setOwn {G : Gc} {O : Addr → Prop} {σ : L2.St} {H H1 : Hp} {ρ : Ro} {i : Nat} {p : Addr} {ds : List D} (R : Rep G O σ H ρ) (N : New G.K O H H1 p ds) (hw : G.own i = true) :
    Rep G (fun a => O a ∨ a = p) (σ.set i (some (.ref p))) H1 (ρ.set i (some (.list ds))) := by
  obtain ⟨s, n, nk, vs, e, a⟩ := N
  have R' := R.plusD s n e nk
  have np : ¬ G.O0 p := fun z => by
    obtain ⟨o, e'⟩ := R.trk p (R.sub p z)
    rw [n] at e'; cases e'
  have older : ∀ j d, ρ[j]? = some (some d) → G.own j = true → ∀ b, σ[j]? = some (some (.ref b)) → b ≠ p := fun j d hj nj b hb z => by
    obtain ⟨b', es, us, _, e1, e2, _⟩ := R.owns j d hj nj
    rw [hb] at e1; cases e1
    rw [z, n] at e2; cases e2
  refine ⟨R'.base, R'.sub, R'.trk, R'.fre, by rw [List.length_set, List.length_set]; exact R.len, fun j e' hj nj => ?_, fun j e' hj nj => ?_, fun j k e1 e2 b hjk nj nk' hj hk h1 h2 => ?_⟩
  · have ne : i ≠ j := fun z => by subst z; rw [hw] at nj; cases nj
    rw [List.getElem?_set_ne ne] at hj
    obtain ⟨u, e1, h1⟩ := R'.slot j e' hj nj
    exact ⟨u, by rw [List.getElem?_set_ne ne]; exact e1, h1⟩
  · rcases set_at hj with ⟨rfl, e1, hl⟩ | ⟨ne, hj'⟩
    · cases e1
      exact ⟨p, ds, vs, rfl, List.getElem?_set_self (by rw [← R.len]; exact hl), e, a, .inr rfl, np⟩
    · obtain ⟨a', es, us, e0, e1, r⟩ := R'.owns j e' hj' nj
      exact ⟨a', es, us, e0, by rw [List.getElem?_set_ne ne]; exact e1, r⟩
  · rcases set_at hj with ⟨rfl, q1, l1⟩ | ⟨n1, hj'⟩
    · rcases set_at hk with ⟨rfl, _, _⟩ | ⟨n2, hk'⟩
      · exact hjk rfl
      · rw [List.getElem?_set_self (by rw [← R.len]; exact l1)] at h1
        cases h1
        rw [List.getElem?_set_ne n2] at h2
        exact older k e2 hk' nk' p h2 rfl
    · rw [List.getElem?_set_ne n1] at h1
      rcases set_at hk with ⟨rfl, q2, l2⟩ | ⟨n2, hk'⟩
      · rw [List.getElem?_set_self (by rw [← R.len]; exact l2)] at h2
        cases h2
        exact older j e1 hj' nj p h1 rfl
      · rw [List.getElem?_set_ne n2] at h2
        exact R.dist j k e1 e2 b hjk nj nk' hj' hk' h1 h2
def Mix (K : W.Frag) : Hp → Hp → (Addr → Prop) → (Addr → Prop) → List Bool → List D → List V → Prop
  | H, H', O, O', [], [], [] => Same H H' ∧ O' = O
  | H, H', O, O', false :: fl, d :: ds, v :: vs => ∃ H1, Same H H1 ∧ At K H1 O d v ∧ Mix K H1 H' O O' fl ds vs
  | H, H', O, O', true :: fl, d :: ds, v :: vs => ∃ H1 p es, d = .list es ∧ v = .ref p ∧ New K O H H1 p es ∧ Mix K H1 H' (fun a => O a ∨ a = p) O' fl ds vs
  | _, _, _, _, _, _, _ => False
def setV : L2.St → List Nat → List V → L2.St
  | σ, i :: is, v :: vs => setV (σ.set i (some v)) is vs
  | σ, _, _ => σ
def setD : Ro → List Nat → List D → Ro
  | ρ, i :: is, d :: ds => setD (ρ.set i (some d)) is ds
  | ρ, _, _ => ρ
theorem Mix.stp {K : W.Frag} : ∀ {fl : List Bool} {ds : List D} {vs : List V} {H H' : Hp} {O O' : Addr → Prop}, Mix K H H' O O' fl ds vs → Same H H' ∧ ∀ a, O' a → O a ∨ (H a = none ∧ K.lookup a = none)
  | [], [], [], _, _, _, _, h => ⟨h.1, fun a z => .inl (by rw [h.2] at z; exact z)⟩
  | false :: fl, d :: ds, v :: vs, H, H', O, O', h => by
    obtain ⟨H1, s, _, h2⟩ := h
    obtain ⟨s2, q⟩ := Mix.stp h2
    refine ⟨s.trans s2, fun a z => (q a z).imp id fun r => ⟨s.free r.1, r.2⟩⟩
  | true :: fl, d :: ds, v :: vs, H, H', O, O', h => by
    obtain ⟨H1, p, es, _, _, N, h2⟩ := h
    obtain ⟨s2, q⟩ := Mix.stp h2
    refine ⟨N.s.trans s2, fun a z => ?_⟩
    rcases q a z with (r | r) | r
    · exact .inl r
    · exact .inr (by rw [r]; exact ⟨N.n, N.k⟩)
    · exact .inr ⟨N.s.free r.1, r.2⟩
  | [], _ :: _, _, _, _, _, _, h => h.elim
  | [], [], _ :: _, _, _, _, _, h => h.elim
  | true :: _, [], _, _, _, _, _, h => h.elim
  | false :: _, [], _, _, _, _, _, h => h.elim
  | true :: _, _ :: _, [], _, _, _, _, h => h.elim
  | false :: _, _ :: _, [], _, _, _, _, h => h.elim
theorem Mix.rep {G : Gc} : ∀ {is : List Nat} {fl : List Bool} {ds : List D} {vs : List V} {H H' : Hp} {O O' : Addr → Prop} {σ : L2.St} {ρ : Ro}, fl = is.map G.own → Rep G O σ H ρ → Mix G.K H H' O O' fl ds vs → Rep G O' (setV σ is vs) H' (setD ρ is ds)
  | [], [], [], [], _, _, _, _, _, _, _, R, h => by
    rw [h.2]
    exact R.same h.1
  | i :: is, false :: fl, d :: ds, v :: vs, H, H', O, O', σ, ρ, e, R, h => by
    obtain ⟨e1, e2⟩ := List.cons.inj e
    obtain ⟨H1, s, a, h2⟩ := h
    have r := Mix.rep (is := is) (fl := fl) (ds := ds) (vs := vs) e2 ((R.same s).set a e1.symm) h2
    exact r
  | i :: is, true :: fl, d :: ds, v :: vs, H, H', O, O', σ, ρ, e, R, h => by
    obtain ⟨e1, e2⟩ := List.cons.inj e
    obtain ⟨H1, p, es, rfl, rfl, N, h2⟩ := h
    have r := Mix.rep (is := is) (fl := fl) (ds := ds) (vs := vs) e2 (R.setOwn N e1.symm) h2
    exact r
  | _, [], _ :: _, _, _, _, _, _, _, _, _, _, h => h.elim
  | _, [], [], _ :: _, _, _, _, _, _, _, _, _, h => h.elim
  | _, true :: _, [], _, _, _, _, _, _, _, _, _, h => h.elim
  | _, false :: _, [], _, _, _, _, _, _, _, _, _, h => h.elim
  | _, true :: _, _ :: _, [], _, _, _, _, _, _, _, _, h => h.elim
  | _, false :: _, _ :: _, [], _, _, _, _, _, _, _, _, h => h.elim
  | [], true :: _, _ :: _, _ :: _, _, _, _, _, _, _, e, _, _ => nomatch e
  | [], false :: _, _ :: _, _ :: _, _, _, _, _, _, _, e, _, _ => nomatch e
  | _ :: _, [], [], [], _, _, _, _, _, _, e, _, _ => nomatch e
def tMix (G : Gc) (fl : List Bool) (f : Ro → Rs (List D)) : TA := fun σ H Q => KF G.K H → ∃ O ρ, Rep G O σ H ρ ∧ Post G H (f ρ) fun ds => ∀ vs H' O', KF G.K H' → Mix G.K H H' O O' fl ds vs → Q vs H'
section
variable {X : Cx} {G : Gc} {L : Nat} {bl : List Str} {a b c e tg iter : Expr} {es : List Expr} {st : Stmt} {f g h : DE} {fs : Ro → Rs (List D)} {fl : List Bool} {F U : DS} {pos p : Pos} {x : Str} {i : Nat}
theorem m_nil (C : Ctx X G L bl) : PA X [] (tMix G [] noArg) := by
  refine pa_imp pa_nil fun σ H Q kf w => ?_
  have k := C.kf kf
  obtain ⟨O, ρ, R, p⟩ := w k
  exact fun _ => p [] H O k ⟨Same.refl H, rfl⟩
theorem m_consS (C : Ctx X G L bl) (ha : PE X e (tS G f)) (hs : PA X es (tMix G fl fs)) (hst : starEach (e :: es) X.env = (false, eval e X.env) :: starEach es X.env) : PA X (e :: es) (tMix G (false :: fl) (consArg f fs)) := by
  refine pa_imp (pa_cons ha hs hst) fun σ H Q kf w => fun k => ?_
  obtain ⟨O, ρ, R, p⟩ := w k
  refine ⟨O, ρ, R, p.bind.imp fun d _ q v H1 s1 k1 a1 => fun _ => ?_⟩
  refine ⟨O, ρ, R.same s1, q.bind.imp fun ds _ q2 vs H2 O2 k2 m2 => fun _ => ?_⟩
  exact q2 (v :: vs) H2 O2 k2 ⟨H1, s1, a1, m2⟩
theorem m_consF (C : Ctx X G L bl) (ha : PE X e (tF G f)) (hl : ∀ ρ d, f ρ = .ok d → ∃ ds, d = .list ds) (hs : PA X es (tMix G fl fs)) (hst : starEach (e :: es) X.env = (false, eval e X.env) :: starEach es X.env) : PA X (e :: es) (tMix G (true :: fl) (consArg f fs)) := by
  refine pa_imp (pa_cons ha hs hst) fun σ H Q kf w => fun k => ?_
  obtain ⟨O, ρ, R, p⟩ := w k
  refine ⟨O, ρ, R, p.bind.imp fun d e1 q p' ds us H1 ed s1 k1 n e2 a1 => fun _ => ?_⟩
  have nk := kf_no k1 e2
  refine ⟨fun a => O a ∨ a = p', ρ, R.plusD s1 n e2 nk, q.bind.imp fun ds' _ q2 vs H2 O2 k2 m2 => fun _ => ?_⟩
  exact q2 (.ref p' :: vs) H2 O2 k2 ⟨H1, p', ds, ed, rfl, ⟨s1, n, nk, us, e2, a1⟩, m2⟩
def asgS (is : List Nat) (fs : Ro → Rs (List D)) : DS := fun ρ => do let ds ← fs ρ; pure (.nx, setD ρ is ds)
theorem vis_of_loc {sc : Scope} {x : Str} (h : Loc sc x) : Vis sc x := h.elim .inl fun z => .inr (.inl z)
theorem s_set (C : SCtx X G L bl) {px : Pos} (hi : X.N[i]? = some x) (hx : Loc X.env.scope x) (he : PE X e (tS G f)) (hw : G.own i = false) (hs : swapsWith e (some (.Name x px)) pos.line X.env = pure false) :
    PS X (.Assign [.Name x px] e pos) (tSS G (asgS [i] (consArg f noArg))) := by
  refine ps_imp (ps_set C.nd hi hx he hs (.inl (C.fn x))) fun Dn σ H kf w => fun k => ?_
  obtain ⟨O, ρ, R, q⟩ := w k
  refine ⟨O, ρ, R, ?_⟩
  unfold asgS consArg noArg at q
  cases hf : f ρ with
  | ok d =>
    rw [hf] at q
    exact fun v H' s k' a => q O _ H' (.same s) ((R.same s).set a hw)
  | exc c => rw [hf] at q; exact q
  | stuck => rw [hf] at q; exact q
theorem s_setO (C : SCtx X G L bl) {px : Pos} (hi : X.N[i]? = some x) (hx : Loc X.env.scope x) (he : PE X e (tF G f)) (hw : G.own i = true) (hs : swapsWith e (some (.Name x px)) pos.line X.env = pure false) :
    PS X (.Assign [.Name x px] e pos) (tSS G (asgS [i] (consArg f noArg))) := by
  refine ps_imp (ps_set C.nd hi hx he hs (.inl (C.fn x))) fun Dn σ H kf w => fun k => ?_
  obtain ⟨O, ρ, R, q⟩ := w k
  refine ⟨O, ρ, R, ?_⟩
  unfold asgS consArg noArg at q
  cases hf : f ρ with
  | ok d =>
    rw [hf] at q
    intro p ds us H' ed s k' n e a
    subst ed
    have N : New G.K O H H' p ds := ⟨s, n, kf_no k' e, us, e, a⟩
    exact q (fun a => O a ∨ a = p) _ H' ⟨.of_same s, fun a z => z.imp id fun r => by rw [r]; exact ⟨N.n, N.k⟩⟩ (R.setOwn N hw)
  | exc c => rw [hf] at q; exact q
  | stuck => rw [hf] at q; exact q
def asgT (stg : STg) (f : DE) : DS := fun ρ => do let d ← f ρ; let ρ' ← (stg d ρ).noexc; pure (.nx, ρ')
theorem s_asg (C : SCtx X G L bl) {vs : List Nat} {stg : STg} (he : PE X e (tS G f)) (hg : PG X tg (tTg G vs stg)) (hs : swapsWithSole [tg] e pos.line X.env = pure false) (hw : swappedStores [tg] e X.env = pure none) (h1 : (assignEach [tg] X.env).map (·.2) = [assign tg X.env]) :
    PS X (.Assign [tg] e pos) (tSS G (asgT stg f)) := by
  refine ps_imp (ps_asg he hg hs hw h1) fun Dn σ H kf w => fun k => ?_
  obtain ⟨O, ρ, R, q⟩ := w k
  refine ⟨O, ρ, R, PostS.exc_of (r := f ρ) (O := O) q fun d _ q v H' s k' a => ?_⟩
  intro _
  cases hst : stg d ρ with
  | ok ρ' =>
    rw [hst] at q
    exact ⟨O, ρ, d, ρ', R.same s, a, hst, fun σ' R' _ => q O σ' H' (.same s) R'⟩
  | exc c => rw [hst] at q; exact q.elim
  | stuck => rw [hst] at q; exact q.elim
theorem s_par2 (C : SCtx X G L bl) {j : Nat} {y : Str} {px py pt : Pos} {kt k2 : Nat} {pt2 : Pos} (hi : X.N[i]? = some x) (hj : X.N[j]? = some y) (hij : i ≠ j) (hx : X.env.scope.names.lookup x = some .local) (hy : X.env.scope.names.lookup y = some .local)
    (ha : PA X [a, b] (tMix G ([i, j].map G.own) fs)) (hl : ∀ ρ ds, fs ρ = .ok ds → ds.length = 2)
    (hw : swappedStores [.Tuple [.Name x px, .Name y py] kt pt] (.Tuple [a, b] k2 pt2) X.env = pure (some [x, y])) (hs : swapsWithSole [.Tuple [.Name x px, .Name y py] kt pt] (.Tuple [a, b] k2 pt2) pos.line X.env = pure false) :
    PS X (.Assign [.Tuple [.Name x px, .Name y py] kt pt] (.Tuple [a, b] k2 pt2) pos) (tSS G (asgS [i, j] fs)) := by
  refine ps_imp (ps_par C.calm C.nd hi hj hij hx hy ha hw hs) fun Dn σ H kf w => fun k => ?_
  obtain ⟨O, ρ, R, q⟩ := w k
  refine ⟨O, ρ, R, PostS.exc_of (r := fs ρ) (O := O) q fun ds e q vs H' O' k' m => ?_⟩
  obtain ⟨s, g⟩ := Mix.stp m
  have r := Mix.rep rfl R m
  have h2 := hl ρ ds e
  match ds, vs, h2, m, r, q with
  | [d1, d2], [v1, v2], _, m, r, q => exact ⟨v1, v2, rfl, q O' _ H' ⟨.of_same s, g⟩ r⟩
  | [d1, d2], [], _, m, _, _ =>
    cases hi' : G.own i <;> rw [List.map_cons, hi'] at m <;> exact m.elim
  | [d1, d2], [v1], _, m, _, _ =>
    cases hi' : G.own i <;> cases hj' : G.own j <;> rw [List.map_cons, List.map_cons, hi', hj'] at m
    · obtain ⟨_, _, _, m⟩ := m; exact m.elim
    · obtain ⟨_, _, _, m⟩ := m; exact m.elim
    · obtain ⟨_, _, _, _, _, _, m⟩ := m; exact m.elim
    · obtain ⟨_, _, _, _, _, _, m⟩ := m; exact m.elim
  | [d1, d2], v1 :: v2 :: v3 :: vr, _, m, _, _ =>
    cases hi' : G.own i <;> cases hj' : G.own j <;> rw [List.map_cons, List.map_cons, hi', hj'] at m
    · obtain ⟨_, _, _, _, _, _, m⟩ := m; exact m.elim
    · obtain ⟨_, _, _, _, _, _, _, _, _, m⟩ := m; exact m.elim
    · obtain ⟨_, _, _, _, _, _, _, _, _, m⟩ := m; exact m.elim
    · obtain ⟨_, _, _, _, _, _, _, _, _, _, _, _, m⟩ := m; exact m.elim
theorem s_par3 (C : SCtx X G L bl) {j l : Nat} {y z : Str} {px py pz pt : Pos} {kt k2 : Nat} {pt2 : Pos} (hi : X.N[i]? = some x) (hj : X.N[j]? = some y) (hll : X.N[l]? = some z) (hij : i ≠ j) (hil : i ≠ l) (hjl : j ≠ l) (hx : X.env.scope.names.lookup x = some .local) (hy : X.env.scope.names.lookup y = some .local) (hz : X.env.scope.names.lookup z = some .local)
    (ha : PA X [a, b, c] (tMix G [false, false, false] fs)) (ho : [i, j, l].map G.own = [false, false, false]) (hl : ∀ ρ ds, fs ρ = .ok ds → ds.length = 3)
    (hw : swappedStores [.Tuple [.Name x px, .Name y py, .Name z pz] kt pt] (.Tuple [a, b, c] k2 pt2) X.env = pure (some [x, y, z])) (hs : swapsWithSole [.Tuple [.Name x px, .Name y py, .Name z pz] kt pt] (.Tuple [a, b, c] k2 pt2) pos.line X.env = pure false) :
    PS X (.Assign [.Tuple [.Name x px, .Name y py, .Name z pz] kt pt] (.Tuple [a, b, c] k2 pt2) pos) (tSS G (asgS [i, j, l] fs)) := by
  refine ps_imp (ps_par3 C.calm C.nd hi hj hll hij hil hjl hx hy hz ha hw hs) fun Dn σ H kf w => fun k => ?_
  obtain ⟨O, ρ, R, q⟩ := w k
  refine ⟨O, ρ, R, PostS.exc_of (r := fs ρ) (O := O) q fun ds e q vs H' O' k' m => ?_⟩
  obtain ⟨s, g⟩ := Mix.stp m
  have r := Mix.rep (is := [i, j, l]) ho.symm R m
  have h2 := hl ρ ds e
  match ds, vs, h2, m, r, q with
  | [d1, d2, d3], [v1, v2, v3], _, m, r, q => exact ⟨v1, v2, v3, rfl, q O' _ H' ⟨.of_same s, g⟩ r⟩
  | [d1, d2, d3], [], _, m, _, _ => exact m.elim
  | [d1, d2, d3], [v1], _, m, _, _ => obtain ⟨_, _, _, m⟩ := m; exact m.elim
  | [d1, d2, d3], [v1, v2], _, m, _, _ => obtain ⟨_, _, _, _, _, _, m⟩ := m; exact m.elim
  | [d1, d2, d3], v1 :: v2 :: v3 :: v4 :: vr, _, m, _, _ => obtain ⟨_, _, _, _, _, _, _, _, _, m⟩ := m; exact m.elim
def gNames (is : List Nat) : TGs := fun vs σ H Q => vs.length = is.length ∧ Q (setV σ is vs) H
theorem gn_nil : PGs X [] (gNames []) := ⟨fun pins s σ H us uv Q I r w => by
  cases us with
  | nil => exact (pgs_nil (X := X)).run pins s σ H [] uv Q I r ⟨rfl, w.2⟩
  | cons _ _ => exact absurd w.1 (by simp)⟩
theorem gn_cons (C : SCtx X G L bl) {is : List Nat} (hi : X.N[i]? = some x) (hx : Loc X.env.scope x) (h : PGs X es (gNames is)) : PGs X (.Name x p :: es) (gNames (i :: is)) := ⟨fun pins s σ H us uv Q I r w => by
  cases us with
  | nil => exact absurd w.1 (by simp)
  | cons v ur => exact (pgs_cons (pg_name (pos := p) C.nd hi hx (.inl (C.fn x))) h rfl).run pins s σ H (v :: ur) uv Q I r ⟨v, ur, rfl, by simpa using w.1, w.2⟩⟩
theorem Mix.length {K : W.Frag} : ∀ {fl : List Bool} {ds : List D} {vs : List V} {H H' : Hp} {O O' : Addr → Prop}, Mix K H H' O O' fl ds vs → vs.length = fl.length
  | [], [], [], _, _, _, _, _ => rfl
  | false :: fl, d :: ds, v :: vs, _, _, _, _, h => by obtain ⟨_, _, _, h2⟩ := h; simp [Mix.length h2]
  | true :: fl, d :: ds, v :: vs, _, _, _, _, h => by obtain ⟨_, _, _, _, _, _, h2⟩ := h; simp [Mix.length h2]
  | [], _ :: _, _, _, _, _, _, h => h.elim
  | [], [], _ :: _, _, _, _, _, h => h.elim
  | true :: _, [], _, _, _, _, _, h => h.elim
  | false :: _, [], _, _, _, _, _, h => h.elim
  | true :: _, _ :: _, [], _, _, _, _, h => h.elim
  | false :: _, _ :: _, [], _, _, _, _, h => h.elim
theorem s_tup (C : SCtx X G L bl) {is : List Nat} {ts : List Expr} {kt k2 : Nat} {pt pt2 : Pos} (hg : PGs X ts (gNames is)) (ha : PA X es (tMix G (is.map G.own) fs)) (hz : is.length ≤ big) (hn : (assignEach ts X.env).length = is.length) (hst : (assignEach ts X.env).findIdx? (·.1) = none)
    (hs : swapsWithSole [.Tuple ts kt pt] (.Tuple es k2 pt2) pos.line X.env = pure false) (hw : swappedStores [.Tuple ts kt pt] (.Tuple es k2 pt2) X.env = pure none) (h1 : (assignEach [.Tuple ts kt pt] X.env).map (·.2) = [assign (.Tuple ts kt pt) X.env]) :
    PS X (.Assign [.Tuple ts kt pt] (.Tuple es k2 pt2) pos) (tSS G (asgS is fs)) := by
  refine ps_imp (ps_asg (pe_tup ha) (pg_tup (n := is.length) C.calm hg hn hst) hs hw h1) fun Dn σ H kf w => fun k => ?_
  obtain ⟨O, ρ, R, q⟩ := w k
  refine ⟨O, ρ, R, PostS.exc_of (r := fs ρ) (O := O) q fun ds e q vs H' O' k' m => ?_⟩
  obtain ⟨s, g⟩ := Mix.stp m
  have r := Mix.rep rfl R m
  have hl := Mix.length m
  rw [List.length_map] at hl
  refine ⟨by rw [hl]; exact big_line hz, fun T hT => ⟨T, vs, rfl, .of upd_same, hl, hl, ?_⟩⟩
  exact q O' _ _ ⟨.of_same (s.trans (same_upd hT)), g⟩ (r.same (same_upd hT))
end
end Den
namespace Den
open PySem PySem.Spec PyProof.Rows L2
section
variable {X : Cx} {G : Gc} {L : Nat} {bl : List Str} {a b c e tg iter : Expr} {es : List Expr} {st : Stmt} {A : List Stmt} {f g h : DE} {fs : Ro → Rs (List D)} {F U : DS} {pos p : Pos} {x y : Str} {i j : Nat}
def movS (i j : Nat) : DS := fun ρ => match ρ[j]? with
  | some (some d) => .ok (.nx, (ρ.set j none).set i (some d))
  | _ => .stuck
theorem s_mov (C : SCtx X G L bl) {px py : Pos} (hi : X.N[i]? = some x) (hx : Loc X.env.scope x) (hj : X.N[j]? = some y) (hy : Vis X.env.scope y) (hd : (y == ("__debug__" : Str)) = false) (hcd : (y == ("__classdict__" : Str)) = false) (hw : G.own i = false) (hwj : G.own j = true) :
    PS X (.Assign [.Name x px] (.Name y py) pos) (tSS G (movS i j)) := by
  refine ps_imp (ps_set C.nd hi hx (pe_var hj hy hd hcd) rfl (.inl (C.fn x))) fun Dn σ H kf w => ?_
  have k := C.kf kf
  obtain ⟨O, ρ, R, q⟩ := w k
  unfold movS at q
  split at q
  · rename_i d e
    obtain ⟨a, ds, vs, rfl, e1, e2, h1, h2, h3⟩ := R.owns j d e hwj
    refine ⟨.ref a, e1, ?_⟩
    have R1 : Rep G (fun z => O z ∧ z ≠ a) σ H (ρ.set j none) := by
      have R0 := R.forget (i := j)
      refine ⟨R.base, fun z hz => ⟨R.sub z hz, fun q => h3 (q ▸ hz)⟩, fun z hz => R.trk z hz.1, fun z hz n => R.fre z hz.1 n, R0.len, fun m d hm nm => ?_, fun m d hm nm => ?_, R0.dist⟩
      · obtain ⟨v, q1, q2⟩ := R0.slot m d hm nm
        exact ⟨v, q1, q2.less fun z hz => hz.1⟩
      · obtain ⟨b, es, us, q0, q1, q2, q3, q4, q5⟩ := R0.owns m d hm nm
        refine ⟨b, es, us, q0, q1, q2, q3.less fun z hz => hz.1, ⟨q4, fun z => ?_⟩, q5⟩
        subst z
        rcases set_at hm with ⟨_, e1', _⟩ | ⟨ne, hm'⟩
        · cases e1'
        · exact R.dist j m _ d b ne hwj nm e hm' e1 q1
    have a1 : At G.K H (fun z => O z ∧ z ≠ a) (.list ds) (.ref a) := ⟨a, vs, rfl, .of e2, fun z => z.2 rfl, h1.less fun z hz => hz.1⟩
    exact q _ _ H ⟨.of_same (Same.refl H), fun z hz => .inl hz.1⟩ (R1.set a1 hw)
  · exact q.elim
theorem Rep.write {O : Addr → Prop} {σ : L2.St} {H : Hp} {ρ : Ro} {q : Addr} {ds ds' : List D} {us : List V} (R : Rep G O σ H ρ) (hw : G.own i = true) (e : ρ[i]? = some (some (.list ds))) (e1 : σ[i]? = some (some (.ref q))) (hO : O q) (hO0 : ¬ G.O0 q) (a : AtL G.K H O ds' us) :
    Rep G O σ (upd H q (.lst us)) (ρ.set i (some (.list ds'))) ∧ Stp G.K O H O (upd H q (.lst us)) := by
  have kp : Kp O H (upd H q (.lst us)) := fun b o eb nb => by rw [upd_ne (by rintro rfl; exact nb hO)]; exact eb
  have hil : i < ρ.length := (List.getElem?_eq_some_iff.mp e).1
  refine ⟨⟨fun b o eb => ?_, R.sub, fun z hz => ?_, R.fre, by rw [List.length_set]; exact R.len, fun m d hm nm => ?_, fun m d hm nm => ?_, fun m n d d' b hmn nm nn hm hn h1 h2 => ?_⟩, kp, fun z hz => .inl hz⟩
  · have : b ≠ q := fun z => by
      subst z
      rw [R.fre b hO hO0] at eb; cases eb
    rw [upd_ne this]; exact R.base b o eb
  · by_cases hz' : z = q
    · exact ⟨_, by rw [hz']; exact upd_same⟩
    · rw [upd_ne hz']; exact R.trk z hz
  · have ne : i ≠ m := fun z => by subst z; rw [hw] at nm; cases nm
    rw [List.getElem?_set_ne ne] at hm
    obtain ⟨v, q1, q2⟩ := R.slot m d hm nm
    exact ⟨v, q1, q2.keep kp⟩
  · rcases set_at hm with ⟨rfl, e', _⟩ | ⟨ne, hm'⟩
    · cases e'
      exact ⟨q, ds', us, rfl, e1, upd_same, a.keep kp, hO, hO0⟩
    · obtain ⟨b, es, vs, q0, q1, q2, q3, q4, q5⟩ := R.owns m d hm' nm
      refine ⟨b, es, vs, q0, q1, ?_, q3.keep kp, q4, q5⟩
      rw [upd_ne fun z => ?_]
      · exact q2
      · subst z
        exact R.dist i m _ d b ne hw nm e hm' e1 q1
  · have old : ∀ {m d}, (ρ.set i (some (.list ds')))[m]? = some (some d) → ∃ d0, ρ[m]? = some (some d0) := fun {m d} hm => by
      rcases set_at hm with ⟨rfl, _, _⟩ | ⟨_, hm'⟩
      · exact ⟨_, e⟩
      · exact ⟨_, hm'⟩
    obtain ⟨d0, h0⟩ := old hm
    obtain ⟨d1, h1'⟩ := old hn
    exact R.dist m n d0 d1 b hmn nm nn h0 h1' h1 h2
def appS (i : Nat) (f : DE) : DS := fun ρ => match ρ[i]? with
  | some (some (.list ds)) => do let d ← f ρ; if ds.length < big then .ok (.nx, ρ.set i (some (.list (ds ++ [d])))) else .stuck
  | _ => .stuck
theorem s_app (C : SCtx X G L bl) {px apos cpos : Pos} (hi : X.N[i]? = some x) (hx : Vis X.env.scope x) (hd : (x == ("__debug__" : Str)) = false) (hcd : (x == ("__classdict__" : Str)) = false) (hw : G.own i = true) (he : PE X e (tS G f))
    (hst : starEach (e :: []) X.env = (false, eval e X.env) :: starEach [] X.env) (hline : (apos.endLine == cpos.line) = true) :
    PS X (.Expr (.Call (.Attribute (.Name x px) "append" apos) [e] [] cpos) pos) (tSS G (appS i f)) := by
  refine ps_imp (ps_expr (pe_bm PySem.F.plainAttrs_list PySem.F.slot_list_append PySem.F.type_list_append mt_append (pe_var hi hx hd hcd) (pa_cons he pa_nil hst) rfl (by rw [hst]; rfl) hline hst rfl) rfl) fun Dn σ H kf w => ?_
  have k := C.kf kf
  obtain ⟨O, ρ, R, q⟩ := w k
  unfold appS at q
  split at q
  · rename_i ds e
    obtain ⟨a, ds0, vs, ed, e1, e2, h1, h2, h3⟩ := R.owns i _ e hw
    cases ed
    refine ⟨.ref a, e1, .inl ⟨rfl, vs, .of e2⟩, fun k' => ⟨O, ρ, R, PostS.exc_of (r := f ρ) (O := O) q fun d _ q v H1 s k1 a1 => ?_⟩⟩
    split at q
    · rename_i hz
      refine ⟨a, vs, v, rfl, rfl, s _ _ e2, by rw [h1.length]; exact big_lt hz, ?_⟩
      obtain ⟨R2, s2⟩ := (R.same s).write (us := vs ++ [v]) (ds' := ds ++ [d]) hw e e1 h2 h3 ((h1.same s).append (.one a1))
      exact q O σ _ ((Stp.same s).trans s2) R2
    · exact q.elim
  · exact q.elim
def lsD : D → Option (List D) | .list ds => some ds | _ => none
def extS (i : Nat) (f : DE) : DS := fun ρ => match ρ[i]? with
  | some (some (.list ds)) => do let d ← f ρ; match d with
    | .list es => if ds.length + es.length ≤ big then .ok (.nx, ρ.set i (some (.list (ds ++ es)))) else .stuck
    | _ => .stuck
  | _ => .stuck
theorem s_ext (C : SCtx X G L bl) {px apos cpos : Pos} (hi : X.N[i]? = some x) (hx : Vis X.env.scope x) (hd : (x == ("__debug__" : Str)) = false) (hcd : (x == ("__classdict__" : Str)) = false) (hw : G.own i = true) (he : PE X e (tF G f))
    (hst : starEach (e :: []) X.env = (false, eval e X.env) :: starEach [] X.env) (hline : (apos.endLine == cpos.line) = true) :
    PS X (.Expr (.Call (.Attribute (.Name x px) "extend" apos) [e] [] cpos) pos) (tSS G (extS i f)) := by
  refine ps_imp (ps_expr (pe_bm PySem.F.plainAttrs_list PySem.F.slot_list_extend PySem.F.type_list_extend mt_extend (pe_var hi hx hd hcd) (pa_cons he pa_nil hst) rfl (by rw [hst]; rfl) hline hst rfl) rfl) fun Dn σ H kf w => ?_
  have k := C.kf kf
  obtain ⟨O, ρ, R, q⟩ := w k
  unfold extS at q
  split at q
  · rename_i ds e
    obtain ⟨a, ds0, vs, ed, e1, e2, h1, h2, h3⟩ := R.owns i _ e hw
    cases ed
    refine ⟨.ref a, e1, .inl ⟨rfl, vs, .of e2⟩, fun k' => ⟨O, ρ, R, PostS.exc_of (r := f ρ) (O := O) q fun d _ q p' es us H1 ed s k1 n e3 a1 => ?_⟩⟩
    subst ed
    simp only at q
    split at q
    · rename_i hz
      refine ⟨a, p', vs, us, rfl, rfl, s _ _ e2, e3, by rw [h1.length, a1.length]; exact big_line hz, ?_⟩
      obtain ⟨R2, s2⟩ := (R.same s).write (us := vs ++ us) (ds' := ds ++ es) hw e e1 h2 h3 ((h1.same s).append (a1.less fun z hz => .inl hz))
      exact q O σ _ ((Stp.same s).trans s2) R2
    · exact q.elim
  · exact q.elim
abbrev endK (K : W.Frag) (Dn : Ends) : Ends := { nx := fun σ H => KF K H → Dn.nx σ H, rt := fun v H => KF K H → Dn.rt v H, bk := fun σ H => KF K H → Dn.bk σ H, ct := fun σ H => KF K H → Dn.ct σ H }
theorem ps_impK {t t' : TS} (h : PS X st t) (hi : ∀ Dn σ H, KF X.K H → t' Dn σ H → t (endK X.K Dn) σ H) : PS X st t' :=
  ⟨fun pins s σ H Dn I h' => thn (h.run pins s σ H (endK X.K Dn) I (hi Dn σ H (kf_inv I) h')) fun f s1 q => by
    cases f with
    | next => obtain ⟨σ', H', I', q⟩ := q; exact ⟨σ', H', I', q (kf_inv I')⟩
    | brk => obtain ⟨σ', H', I', q⟩ := q; exact ⟨σ', H', I', q (kf_inv I')⟩
    | cont => obtain ⟨σ', H', I', q⟩ := q; exact ⟨σ', H', I', q (kf_inv I')⟩
    | ret u => obtain ⟨v, σ', H', I', r, q⟩ := q; exact ⟨v, σ', H', I', r, q (kf_inv I')⟩⟩
theorem tF_set {w : Bool} (hw : G.own i = w) {Dn : Ends} {σ : L2.St} {H : Hp} (hl : ∀ ρ d, f ρ = .ok d → ∃ ds, d = .list ds) (h : tSS G (asgS [i] (consArg f noArg)) Dn σ H) : tF G f σ H fun v H1 => Dn.nx (σ.set i (some v)) H1 := fun k => by
  obtain ⟨O, ρ, R, q⟩ := h k
  refine ⟨O, ρ, R, ?_⟩
  unfold asgS consArg noArg at q
  cases hf : f ρ with
  | ok d =>
    rw [hf] at q
    intro p ds us H' ed s k' n e a
    subst ed
    have N : New G.K O H H' p ds := ⟨s, n, kf_no k' e, us, e, a⟩
    cases hw' : G.own i with
    | true => exact q (fun a => O a ∨ a = p) _ H' ⟨.of_same s, fun a z => z.imp id fun r => by rw [r]; exact ⟨N.n, N.k⟩⟩ (R.setOwn N hw')
    | false =>
      refine q O _ H' (.same s) ((R.same s).set ⟨p, us, rfl, .of e, fun z => ?_, a.less fun z hz => .inl hz⟩ hw')
      obtain ⟨o, e'⟩ := R.trk p z
      rw [n] at e'; cases e'
  | exc c => rw [hf] at q; exact q
  | stuck => rw [hf] at q; exact q
theorem s_setLc (C : SCtx X G L bl) {scope : Scope} {own : List (Str × Nat)} {py spos : Pos} {elt : Expr} {ifs : List Expr} {fi : DI} {sg : STg} {ft : Ro → Rs Bool} {fe : DE} (hy : X.N[i]? = some y) (hyl : X.env.scope.names.lookup y = some .local)
    (hsw : swapsWith (.ListComp elt [⟨tg, iter, ifs, 0⟩] scope pos) (some (.Name y py)) spos.line X.env = pure true) (hi : PI X tg iter (tIt G true fi)) (ok : BlkOk X.N X.env.scope scope own)
    (hg : ∀ (s : Shared) (H : Hp) (Cc : Addr) (cl : List (Str × Addr)) (fp : List Addr), PG (X.blk s H scope (compEnvC scope cl Cc X.env) fp) tg (tTg G.noE (own.map (·.2)) sg))
    (ht : ∀ (s : Shared) (H : Hp) (Cc : Addr) (cl : List (Str × Addr)) (fp : List Addr), PTs (X.blk s H scope (compEnvC scope cl Cc X.env) fp) ifs (tTst G.noE ft))
    (he : ∀ (s : Shared) (H : Hp) (Cc : Addr) (cl : List (Str × Addr)) (fp : List Addr), PE (X.blk s H scope (compEnvC scope cl Cc X.env) fp) elt (tS G.noE fe))
    (hs : ∀ x, foldedSetIterable iter X.env x = pure x) (hl : ∀ ρ d, compE (own.map (·.2)) fi sg ft fe ρ = .ok d → ∃ ds, d = .list ds) : PS X (.Assign [.Name y py] (.ListComp elt [⟨tg, iter, ifs, 0⟩] scope pos) spos) (tSS G (asgS [i] (consArg (compE (own.map (·.2)) fi sg ft fe) noArg))) :=
  ps_impK (ps_setLc C.calm C.nd hy hyl hsw hi ok hg ht he hs) fun Dn σ H kf w => comp_core C.toCtx (tF_set rfl hl w)
theorem s_setLc2 (C : SCtx X G L bl) {scope : Scope} {own : List (Str × Nat)} {vs1 : List Nat} {py spos : Pos} {elt tg1 iter1 : Expr} {ifs : List Expr} {fi fi1 : DI} {sg sg1 : STg} {ft : Ro → Rs Bool} {fe : DE} (hy : X.N[i]? = some y) (hyl : X.env.scope.names.lookup y = some .local)
    (hsw : swapsWith (.ListComp elt [⟨tg, iter, [], 0⟩, ⟨tg1, iter1, ifs, 0⟩] scope pos) (some (.Name y py)) spos.line X.env = pure true) (hi : PI X tg iter (tIt G true fi)) (ok : BlkOk X.N X.env.scope scope own) (hv : ∀ i ∈ vs1, i ∈ own.map (·.2))
    (hg : ∀ (O0 : Addr → Prop) (s : Shared) (H : Hp) (Cc : Addr) (cl : List (Str × Addr)) (fp : List Addr), PG (X.blk s H scope (compEnvC scope cl Cc X.env) fp) tg (tTg (G.wO O0) (own.map (·.2)) sg))
    (hi1 : ∀ (O0 : Addr → Prop) (s : Shared) (H : Hp) (Cc : Addr) (cl : List (Str × Addr)) (fp : List Addr), PI (X.blk s H scope (compEnvC scope cl Cc X.env) fp) tg1 iter1 (tIt (G.wO O0) false fi1))
    (hg1 : ∀ (O0 : Addr → Prop) (s : Shared) (H : Hp) (Cc : Addr) (cl : List (Str × Addr)) (fp : List Addr), PG (X.blk s H scope (compEnvC scope cl Cc X.env) fp) tg1 (tTg (G.wO O0) vs1 sg1))
    (ht1 : ∀ (O0 : Addr → Prop) (s : Shared) (H : Hp) (Cc : Addr) (cl : List (Str × Addr)) (fp : List Addr), PTs (X.blk s H scope (compEnvC scope cl Cc X.env) fp) ifs (tTst (G.wO O0) ft))
    (he : ∀ (O0 : Addr → Prop) (s : Shared) (H : Hp) (Cc : Addr) (cl : List (Str × Addr)) (fp : List Addr), PE (X.blk s H scope (compEnvC scope cl Cc X.env) fp) elt (tS (G.wO O0) fe))
    (hs : ∀ x, foldedSetIterable iter X.env x = pure x) (hs1 : ∀ env x, foldedSetIterable iter1 env x = pure x) (hl : ∀ ρ d, compE2 (own.map (·.2)) fi sg fi1 sg1 ft fe vs1 ρ = .ok d → ∃ ds, d = .list ds) : PS X (.Assign [.Name y py] (.ListComp elt [⟨tg, iter, [], 0⟩, ⟨tg1, iter1, ifs, 0⟩] scope pos) spos) (tSS G (asgS [i] (consArg (compE2 (own.map (·.2)) fi sg fi1 sg1 ft fe vs1) noArg))) :=
  ps_impK (ps_setLc2 (tt := tYes) C.calm C.nd hy hyl hsw hi ok hv
    (fun s H Cc cl fp => ⟨fun pins s' σ H' v u Q I r ⟨O0, w⟩ => (hg O0 s H Cc cl fp).run pins s' σ H' v u Q I r w⟩) (fun _ _ _ _ _ => pts_nil)
    (fun s H Cc cl fp => ⟨fun pins s' σ H' R I ⟨O0, w⟩ => (hi1 O0 s H Cc cl fp).run pins s' σ H' R I w⟩)
    (fun s H Cc cl fp => ⟨fun pins s' σ H' v u Q I r ⟨O0, w⟩ => (hg1 O0 s H Cc cl fp).run pins s' σ H' v u Q I r w⟩)
    (fun s H Cc cl fp => ⟨fun pins s' σ H' R I ⟨O0, w⟩ => (ht1 O0 s H Cc cl fp).run pins s' σ H' R I w⟩)
    (fun s H Cc cl fp => ⟨fun pins s' σ H' R I ⟨O0, w⟩ => (he O0 s H Cc cl fp).run pins s' σ H' R I w⟩) hs hs1) fun Dn σ H kf w => comp2_core C.toCtx (tF_set rfl hl w)
theorem compE_list {vs : List Nat} {fi : DI} {sg : STg} {ft : Ro → Rs Bool} {fe : DE} : ∀ ρ d, compE vs fi sg ft fe ρ = .ok d → ∃ ds, d = .list ds := fun ρ d h => by
  unfold compE at h
  cases h1 : fi ρ with
  | ok ds =>
    rw [h1] at h
    cases h2 : (compL sg ft fe (wipeR ρ vs) ds).noexc with
    | ok r => rw [Rs.ok_bind, h2] at h; cases h; exact ⟨r, rfl⟩
    | exc c => rw [Rs.ok_bind, h2] at h; cases h
    | stuck => rw [Rs.ok_bind, h2] at h; cases h
  | exc c => rw [h1] at h; cases h
  | stuck => rw [h1] at h; cases h
theorem compE2_list {vs vs1 : List Nat} {fi fi1 : DI} {sg sg1 : STg} {ft : Ro → Rs Bool} {fe : DE} : ∀ ρ d, compE2 vs fi sg fi1 sg1 ft fe vs1 ρ = .ok d → ∃ ds, d = .list ds := fun ρ d h => by
  unfold compE2 at h
  cases h1 : fi ρ with
  | ok ds =>
    rw [h1] at h
    cases h2 : (compL2 sg fi1 sg1 ft fe vs1 (wipeR ρ vs) ds).noexc with
    | ok r =>
      rw [Rs.ok_bind, h2, Rs.ok_bind] at h
      split at h
      · cases h; exact ⟨r, rfl⟩
      · cases h
    | exc c => rw [Rs.ok_bind, h2] at h; cases h
    | stuck => rw [Rs.ok_bind, h2] at h; cases h
  | exc c => rw [h1] at h; cases h
  | stuck => rw [h1] at h; cases h
def bkS : DS := fun ρ => .ok (.bk, ρ)
def ctS : DS := fun ρ => .ok (.ct, ρ)
theorem s_break (C : Ctx X G L bl) : PS X (.Break pos) (tSS G bkS) := by
  refine ps_imp ps_break fun Dn σ H kf w => ?_
  obtain ⟨O, ρ, R, q⟩ := w (C.kf kf)
  exact q O σ H (.same (Same.refl _)) R
theorem s_cont (C : Ctx X G L bl) : PS X (.Continue pos) (tSS G ctS) := by
  refine ps_imp ps_continue fun Dn σ H kf w => ?_
  obtain ⟨O, ρ, R, q⟩ := w (C.kf kf)
  exact q O σ H (.same (Same.refl _)) R
theorem s_pass (C : Ctx X G L bl) : PS X (.Pass pos) (tSS G nxS) := by
  refine ps_imp ps_pass fun Dn σ H kf w => ?_
  obtain ⟨O, ρ, R, q⟩ := w (C.kf kf)
  exact q O σ H (.same (Same.refl _)) R
def forL (stg : STg) (b : DS) : List D → DS
  | [], ρ => .ok (.nx, ρ)
  | d :: ds, ρ => do
    let ρ1 ← (stg d ρ).noexc
    let r ← b ρ1
    match r with
    | (.nx, ρ2) => forL stg b ds ρ2
    | (.ct, ρ2) => forL stg b ds ρ2
    | (.bk, ρ2) => .ok (.nx, ρ2)
    | (.rt d, ρ2) => .ok (.rt d, ρ2)
def forS (fi : DI) (stg : STg) (b : DS) : DS := fun ρ => do let ds ← fi ρ; forL stg b ds ρ
theorem s_for (C : SCtx X G L bl) {fi : DI} {stg : STg} {vs : List Nat} (hi : PI X tg iter (tIt G false fi)) (hg : PG X tg (tTg G vs stg)) (hb : PSs X A (tSS G F)) (hs : ∀ x, foldedSetIterable iter X.env x = pure x) : PS X (.For tg iter A [] pos) (tSS G (forS fi stg F)) := by
  refine ps_imp (ps_for C.po C.calm hi hg hb hs) fun Dn σ H kf w => fun k => ?_
  obtain ⟨O, ρ, R, q⟩ := w k
  refine ⟨O, ρ, R, PostS.exc_of (r := fi ρ) (O := O) q fun ds _ q J H1 s1 k1 wk => ?_⟩
  have R1 := R.same s1
  have q1 : PostS G O H1 (forL stg F ds ρ) Dn := PostS.step q (.same s1)
  generalize hr : forL stg F ds ρ = r at q1
  refine ⟨fun i m σ' H' => m = ds.length - i ∧ i ≤ ds.length ∧ ∃ O' ρ', Stp G.K O H1 O' H' ∧ Rep G O' σ' H' ρ' ∧ forL stg F (ds.drop i) ρ' = r, ⟨ds.length, by simp, Nat.zero_le _, O, ρ, .same (Same.refl _), R1, by simpa using hr⟩, ?_⟩
  rintro i m σ' H' ⟨rfl, hil, O', ρ', s', R', e'⟩
  by_cases hlt : i < ds.length
  · have hd : ds[i]? = some ds[i] := List.getElem?_eq_getElem hlt
    obtain ⟨go, yy⟩ := wk.go i ds[i] H' hd s'.1
    refine .inr ⟨go, fun σ3 H3 => ∃ O3 ρ3, Stp G.K O H1 O3 H3 ∧ Rep G O3 σ3 H3 ρ3 ∧ forL stg F (ds.drop (i + 1)) ρ3 = r, fun σ3 H3 ⟨O3, ρ3, a1, a2, a3⟩ => ⟨ds.length - (i + 1), by omega, rfl, hlt, O3, ρ3, a1, a2, a3⟩, fun x H2 hy => fun k2 => ?_⟩
    obtain ⟨s2, a2⟩ := yy x H2 hy
    have a3 := a2 O' s'.2 R'.trk
    rw [List.drop_eq_getElem_cons hlt] at e'
    have e2 : ((stg ds[i] ρ').noexc >>= fun ρ1 => F ρ1 >>= fun r => match r with
      | (.nx, ρ2) => forL stg F (ds.drop (i + 1)) ρ2
      | (.ct, ρ2) => forL stg F (ds.drop (i + 1)) ρ2
      | (.bk, ρ2) => .ok (.nx, ρ2)
      | (.rt d, ρ2) => .ok (.rt d, ρ2)) = r := e'
    cases hst : stg ds[i] ρ' with
    | exc c => rw [hst] at e2; rw [← e2] at q1; exact q1.elim
    | stuck => rw [hst] at e2; rw [← e2] at q1; exact q1.elim
    | ok ρ1 =>
      rw [hst] at e2
      have e3 : (F ρ1 >>= fun r => match r with
        | (.nx, ρ2) => forL stg F (ds.drop (i + 1)) ρ2
        | (.ct, ρ2) => forL stg F (ds.drop (i + 1)) ρ2
        | (.bk, ρ2) => .ok (.nx, ρ2)
        | (.rt d, ρ2) => .ok (.rt d, ρ2)) = r := e2
      refine ⟨O', ρ', ds[i], ρ1, R'.same s2, a3, hst, fun σ4 R4 _ => fun k4 => ⟨O', ρ1, R4, ?_⟩⟩
      have s12 : Stp G.K O H1 O' H2 := s'.trans (.same s2)
      cases hF : F ρ1 with
      | exc c => rw [hF] at e3; rw [← e3] at q1; exact q1
      | stuck => rw [hF] at e3; rw [← e3] at q1; exact q1.elim
      | ok rr =>
        rw [hF] at e3
        obtain ⟨fl, ρ2⟩ := rr
        cases fl with
        | nx => exact fun O5 σ5 H5 s5 R5 => ⟨O5, ρ2, s12.trans s5, R5, e3⟩
        | ct => exact fun O5 σ5 H5 s5 R5 => ⟨O5, ρ2, s12.trans s5, R5, e3⟩
        | bk => rw [← e3] at q1; exact fun O5 σ5 H5 s5 R5 => q1 O5 σ5 H5 (s12.trans s5) R5
        | rt d => rw [← e3] at q1; exact q1
  · have e : i = ds.length := by omega
    subst e
    refine .inl ⟨wk.stop H' s'.1, ?_⟩
    rw [List.drop_length] at e'
    rw [← e'] at q1
    exact q1 O' σ' H' s' R'
def whlL (t : DE) (b : DS) : Nat → DS
  | 0, _ => .stuck
  | n + 1, ρ => do
    let c ← tstE t ρ
    if c then (do
      let r ← b ρ
      match r with
      | (.nx, ρ2) => whlL t b n ρ2
      | (.ct, ρ2) => whlL t b n ρ2
      | (.bk, ρ2) => .ok (.nx, ρ2)
      | (.rt d, ρ2) => .ok (.rt d, ρ2)) else .ok (.nx, ρ)
theorem s_while (C : SCtx X G L bl) {t : DE} (n : Nat) (hc : PT X c (tTst G (tstE t))) (hb : PSs X A (tSS G F)) : PS X (.While c A [] pos) (tSS G (whlL t F n)) := by
  refine ps_imp (ps_while C.po hc hb) fun Dn σ H kf w => ?_
  obtain ⟨O, ρ, R, q1⟩ := w (C.kf kf)
  generalize hr : whlL t F n ρ = r at q1
  refine ⟨fun m σ' H' => ∃ O' ρ', Stp G.K O H O' H' ∧ Rep G O' σ' H' ρ' ∧ whlL t F m ρ' = r, ⟨n, O, ρ, .same (Same.refl _), R, hr⟩, ?_⟩
  rintro m σ' H' ⟨O', ρ', s', R', e'⟩
  cases m with
  | zero =>
    have e2 : (Rs.stuck : Rs (Fl × Ro)) = r := e'
    rw [← e2] at q1; exact q1.elim
  | succ m =>
    have e2 : (tstE t ρ' >>= fun c => if c = true then (F ρ' >>= fun r => match r with
      | (.nx, ρ2) => whlL t F m ρ2
      | (.ct, ρ2) => whlL t F m ρ2
      | (.bk, ρ2) => .ok (.nx, ρ2)
      | (.rt d, ρ2) => .ok (.rt d, ρ2)) else Rs.ok (.nx, ρ')) = r := e'
    refine fun k => ⟨O', ρ', R', ?_⟩
    cases ht : tstE t ρ' with
    | exc cc => rw [ht] at e2; rw [← e2] at q1; exact q1
    | stuck => rw [ht] at e2; rw [← e2] at q1; exact q1.elim
    | ok b =>
      rw [ht] at e2
      intro H2 s2 k2
      have s12 : Stp G.K O H O' H2 := s'.trans (.same s2)
      cases b with
      | false =>
        have e3 : Rs.ok (Fl.nx, ρ') = r := e2
        rw [← e3] at q1
        exact (if_neg Bool.false_ne_true).mpr (q1 O' σ' H2 s12 (R'.same s2))
      | true =>
        refine (if_pos rfl).mpr ⟨fun σ3 H3 => ∃ O3 ρ3, Stp G.K O H O3 H3 ∧ Rep G O3 σ3 H3 ρ3 ∧ whlL t F m ρ3 = r, fun σ3 H3 z => ⟨m, Nat.lt_succ_self m, z⟩, fun k3 => ⟨O', ρ', R'.same s2, ?_⟩⟩
        have e3 : (F ρ' >>= fun r => match r with
          | (.nx, ρ2) => whlL t F m ρ2
          | (.ct, ρ2) => whlL t F m ρ2
          | (.bk, ρ2) => .ok (.nx, ρ2)
          | (.rt d, ρ2) => .ok (.rt d, ρ2)) = r := e2
        cases hF : F ρ' with
        | exc c => rw [hF] at e3; rw [← e3] at q1; exact q1
        | stuck => rw [hF] at e3; rw [← e3] at q1; exact q1.elim
        | ok rr =>
          rw [hF] at e3
          obtain ⟨fl, ρ2⟩ := rr
          cases fl with
          | nx => exact fun O5 σ5 H5 s5 R5 => ⟨O5, ρ2, s12.trans s5, R5, e3⟩
          | ct => exact fun O5 σ5 H5 s5 R5 => ⟨O5, ρ2, s12.trans s5, R5, e3⟩
          | bk => rw [← e3] at q1; exact fun O5 σ5 H5 s5 R5 => q1 O5 σ5 H5 (s12.trans s5) R5
          | rt d => rw [← e3] at q1; exact q1
structure ExC (X : Cx) (cl : Nat → Value) (c : Nat) (x : Str) : Prop where
  ex : ∃ C, cl c = .ref C ∧ W.excIn X.K C [.type "ValueError", .type "Exception", .type "BaseException", .type "object"] "ValueError.__new__" = true ∧ X.mg x = some (.ref C) ∧ W.keepIn X.K (.ref C) = true ∧ Raises X (.ref C)
def rsS (c : Nat) : DS := fun _ => .exc c
theorem s_raise (C : SCtx X G L bl) {cc : Nat} {m : Str} {jk : Nat} {p2 : Pos} (tk : Takes X (fun cls d _ H => G.E cls d H)) (E : ExC X G.cl cc x) (hg : Gl X x) (hdb : (x == ("__debug__" : Str)) = false) : PS X (.Raise (some (.Call (.Name x p) [.Constant (.str m) jk p2] [] pos)) none pos') (tSS G (rsS cc)) := by
  obtain ⟨Cc, e1, e2, e3, e4, e5⟩ := E.ex
  refine ps_imp (ps_raise C.calm tk (pmk_own PySem.F.excBase_ValueError e2 e3 e4 e5 hg hdb)) fun Dn σ H kf w => ?_
  obtain ⟨O, ρ, R, q1⟩ := w (C.kf kf)
  have q := q1 H R.base
  rw [e1] at q
  exact q
end
end Den
namespace Den
open PySem PySem.Spec PyProof.Rows L2
def namesE : List (Nat × Str × Pos) → List Expr
  | [] => []
  | (_, x, p) :: r => .Name x p :: namesE r
section
variable {X : Cx} {G : Gc} {L : Nat} {bl : List Str} {a b c e : Expr} {es : List Expr} {f g : DE} {gs : Ro → Rs (List D)} {pos p1 p2 : Pos} {ft : Nat → List D → Rs D} {n : Nat}
theorem atI_nat {vs : List Addr} {k : Nat} {f : Addr} (h : vs[k]? = some f) : atI (vs.map V.ref) (k : Int) = some (.ref f) := by
  have hlt : k < vs.length := by rw [List.getElem?_eq_some_iff] at h; exact h.1
  unfold atI ixN
  rw [if_pos (by omega)]
  have := (List.getElem?_eq_some_iff.mp h).2
  simp [hlt, this]
theorem fn_refs {cl : Nat → Value} : ∀ (js : List (Nat × Str × Pos)), (∀ p ∈ js, FnD X cl L p.2.1 n (ft p.1) ∧ Gl X p.2.1 ∧ (p.2.1 == ("__debug__" : Str)) = false) →
    ∃ fs : List Addr, fs.length = js.length ∧ PA X (namesE js) (fun σ H Q => Q (fs.map V.ref) H) ∧
      ∀ (k : Nat) (p : Nat × Str × Pos), js[k]? = some p → ∃ f fd ps, fs[k]? = some f ∧ FnOk X.prog X.w X.K X.mg X.base (L2.CX X.prog X.w) L f fd ps (spD X.K cl n (ft p.1)) ∧ ps.length = n ∧ W.keepIn X.K (.ref f) = true ∧ Binds X.K fd ps []
  | [], _ => ⟨[], rfl, pa_nil, fun k p e => by simp at e⟩
  | (i, x, p) :: r, h => by
    obtain ⟨fs, h1, h2, h3⟩ := fn_refs r fun p hp => h p (List.mem_cons_of_mem _ hp)
    obtain ⟨⟨f, fd, ps, g1, g2, g3, g4, g5⟩, h5, h6⟩ := h _ List.mem_cons_self
    refine ⟨f :: fs, by simp [h1], pa_imp (pa_cons (pe_glob h5 g3 (v := .ref f) rfl h6) h2 rfl) fun σ H Q kf w => fun _ => w, fun k q e => ?_⟩
    cases k with
    | zero =>
      simp at e; subst e
      exact ⟨f, fd, ps, rfl, g1, g2, g4, g5⟩
    | succ k => exact h3 k q (by simpa using e)
theorem pe_callC {fe : Expr} {tf : TE} {t : TA} (hf : PE X fe tf) (ha : PA X (e :: es) t) (hr : Room L X.A) (hx : Passes (L2.CX X.prog X.w) X G.E)
    (hev : eval (.Call fe (e :: es) [] pos) X.env = (do callWith pos (← eval fe X.env) [] (backTo pos (starEach (e :: es) X.env)) (backToKw pos (keywordEach [] X.env))))
    (he : starEach (e :: es) X.env = (false, eval e X.env) :: starEach es X.env) (hpl : (backTo pos (starEach es X.env)).any (·.1) = false) :
    PE X (.Call fe (e :: es) [] pos) (fun σ H Q => tf σ H fun v H1 => ∃ f fd ps sp, v = .ref f ∧ FnOk X.prog X.w X.K X.mg X.base (L2.CX X.prog X.w) L f fd ps sp ∧ W.keepIn X.K (.ref f) = true ∧ Binds X.K fd ps [] ∧ t σ H1 fun vs H2 => sp (vs ++ []) H2 Q G.E) := by
  refine ⟨fun pins s σ H Q I h => ?_⟩
  rw [hev]
  refine wpAny_bind (thn (hf.run pins s σ H _ I h) fun u s1 ⟨x, H1, I1, rx, f, fd, ps, sp, ex, F, hk, hb, q⟩ => ?_)
  subst ex
  obtain rfl : u = Value.ref f := rx
  refine PySem.W.callWith_K (h₀ := X.base) I1.ok.mod.kin hk (thn (ha.run pos pins s1 σ H1 _ I1 q) fun us s2 ⟨vs, H2, I2, r, q2⟩ => ⟨I2.kIn, ?_⟩) he hpl
  exact run_fn F hr hb .nil hx I2 r q2
def ccD (n : Nat) (ft : Nat → List D → Rs D) (js : List Nat) (g : DE) (gs : Ro → Rs (List D)) : DE := fun ρ => do
  let d ← g ρ
  let i ← intD d
  match (if 0 ≤ i then js[i.toNat]? else none) with
  | some j => do let ds ← gs ρ; ft j ds
  | none => .stuck
theorem d_ccall (C : Ctx X G L bl) {js : List (Nat × Str × Pos)} (hj : ∀ p ∈ js, FnD X G.cl L p.2.1 n (ft p.1) ∧ Gl X p.2.1 ∧ (p.2.1 == ("__debug__" : Str)) = false) (hjl : js.length ≤ 100) (hi : PE X b (tW G g)) (hpx : PlainIx b)
    (hn : (e :: es).length = n) (ha : PA X (e :: es) (tArg G gs)) (hl : ∀ ρ ds, gs ρ = .ok ds → ds.length = n)
    (he : starEach (e :: es) X.env = (false, eval e X.env) :: starEach es X.env) (hpl : (backTo pos (starEach es X.env)).any (·.1) = false) :
    PE X (.Call (.Subscript (.List (namesE js) p1) b p2) (e :: es) [] pos) (tS G (ccD n ft (js.map (·.1)) g gs)) := by
  obtain ⟨fs, h1, h2, h3⟩ := fn_refs js hj
  refine pe_imp (pe_callC (G := G) (L := L) (pe_ix ix_list (pe_lst h2) hi hpx) ha C.room C.pass rfl he hpl) fun σ H Q kf w => ?_
  obtain ⟨O, ρ, R, q⟩ := w (C.kf kf)
  refine ⟨by rw [List.length_map, h1, sizeLine_eq]; omega, fun p hp => fun k1 => ?_⟩
  have s1 : Same H (upd H p (.lst (fs.map V.ref))) := same_upd hp
  refine ⟨O, ρ, R.same s1, (q.bind).imp fun d _ q v H1 s2 k2 a1 => ?_⟩
  cases d with
  | int i =>
    cases a1
    have q1 : Post G H (match (if 0 ≤ i then (js.map (·.1))[i.toNat]? else none) with
      | some j => (do let ds ← gs ρ; ft j ds)
      | none => .stuck) _ := q
    split at q1
    · rename_i j hj'
      split at hj'
      · rename_i h0
        rw [List.getElem?_map] at hj'
        cases hp' : js[i.toNat]? with
        | none => rw [hp'] at hj'; cases hj'
        | some pj =>
          rw [hp'] at hj'
          cases hj'
          obtain ⟨f, fd, ps, e1, F, e2, e3, e4⟩ := h3 _ _ hp'
          have hlt : i.toNat < fs.length := by rw [List.getElem?_eq_some_iff] at e1; exact e1.1
          refine ⟨p, fs.map V.ref, i, .ref f, rfl, rfl, .of (s2 _ _ upd_same), ?_, f, fd, ps, _, rfl, F, e3, e4, fun k3 => ?_⟩
          · have : i = ((i.toNat : Nat) : Int) := by omega
            rw [this]
            exact atI_nat e1
          · refine ⟨O, ρ, (R.same s1).same s2, q1.bind.imp fun ds e q vs H3 s3 k3 a3 => ?_⟩
            show spD X.K G.cl n (ft pj.1) (vs ++ []) H3 _ G.E
            rw [List.append_nil]
            have S3 := (s1.trans s2).trans s3
            refine ⟨by rw [a3.length]; exact hl ρ ds e, ds, O, fun a h => (R.same S3).trk a h, C.K ▸ a3, ?_⟩
            cases hF : ft pj.1 ds with
            | ok d => rw [hF] at q; exact fun v H' s4 k4 a4 => fun _ => q v H' (S3.trans s4) (C.K ▸ k4) (C.K ▸ a4)
            | exc c => rw [hF] at q; exact fun H' s4 => q H' ((R.base.trans S3).trans s4)
            | stuck => rw [hF] at q; exact q.elim
      · cases hj'
    · exact q1.elim
  | _ => exact q.elim
def repL (ds : List D) (k : Int) : Rs D := if 0 ≤ k ∧ k ≤ 1000 then .ok (.list (List.replicate k.toNat ds).flatten) else .stuck
theorem atL_rep {K : W.Frag} {H : Hp} {O : Addr → Prop} {ds : List D} {vs : List V} (h : AtL K H O ds vs) : ∀ n : Nat, AtL K H O (List.replicate n ds).flatten (List.replicate n vs).flatten
  | 0 => rfl
  | n + 1 => by
    rw [List.replicate_succ, List.replicate_succ, List.flatten_cons, List.flatten_cons]
    exact h.append (atL_rep h n)
section
variable {X : Cx} {G : Gc} {L : Nat} {bl : List Str} {b : Expr} {es : List Expr} {g : DE} {fs : Ro → Rs (List D)} {pos p1 : Pos}
theorem f_rep (C : Ctx X G L bl) (ha : PA X es (tArg G fs)) (hl : ∀ ρ ds, fs ρ = .ok ds → ds.length ≤ 1000) (hb : PE X b (tW G g)) : PE X (.BinOp (.List es p1) .Mult b pos) (tF G fun ρ => do let ds ← fs ρ; let d ← g ρ; let k ← intD d; repL ds k) := by
  refine pe_imp (pe_op op_rep (pe_lst ha) hb) fun σ H Q kf w => fun k0 => ?_
  obtain ⟨O, ρ, R, q⟩ := w k0
  refine ⟨O, ρ, R, q.bind.imp fun ds e q vs H1 s1 k1 a1 => ?_⟩
  have hz := hl ρ ds e
  refine ⟨by rw [a1.length, sizeLine_eq]; omega, fun p hp => fun k2 => ?_⟩
  have s2 : Same H1 (upd H1 p (.lst vs)) := same_upd hp
  refine ⟨O, ρ, (R.same s1).same s2, q.bind.imp fun d _ q y H3 s3 k3 a3 => ?_⟩
  cases d with
  | int i =>
    cases a3
    have q1 : Post G H (if 0 ≤ i ∧ i ≤ 1000 then Rs.ok (PyData.list (List.replicate i.toNat ds).flatten) else Rs.stuck) _ := q
    split at q1
    · rename_i hi
      refine ⟨p, i, vs, rfl, rfl, s3 _ _ upd_same, by omega, by omega, ?_, fun r hr => fun k4 => ?_⟩
      · rw [a1.length, sizeLine_eq]
        have := Nat.mul_le_mul hz (show i.toNat ≤ 1000 by omega)
        omega
      · have S3 := (s1.trans s2).trans s3
        have al : AtL G.K H3 O (List.replicate i.toNat ds).flatten (List.replicate i.toNat vs).flatten := atL_rep (a1.same (s2.trans s3)) _
        exact q1 r _ _ _ rfl (S3.trans (same_upd hr)) (C.kf k4) (S3.free hr) upd_same ((al.grow hr (kf_no (C.kf k4) upd_same)).same (same_upd hr))
    · exact q1.elim
  | _ => exact q.elim
theorem repL_list {ds : List D} {k : Int} {d : D} (h : repL ds k = .ok d) : ∃ ds, d = .list ds := by
  unfold repL at h
  split at h
  · cases h; exact ⟨_, rfl⟩
  · cases h
end
structure TryM (K : W.Frag) (mg : Str → Option Value) (cl : Nat → Value) (ex : List Str) : Prop where
  pe : ∃ C0, mg "PanelError" = some (.ref C0) ∧ ∀ c x, ex[c]? = some x → ∃ Cc, cl c = .ref Cc ∧ W.exmOne K (.ref Cc) (.ref C0) = some true ∧ ExcC K Cc ∧
    ∀ j y, ex[j]? = some y → ∃ Cj, cl j = .ref Cj ∧ mg y = some (.ref Cj) ∧ W.kitOne K (.ref Cc) (.ref Cj) = some (c == j)
abbrev Isp := Pos × Pos × Pos × Pos
def issE (n : Str) : List (Str × Isp) → List Expr
  | [] => []
  | (x, p1, p2, p3, p4) :: r => .Call (.Name "isinstance" p1) [.Name n p2, .Name x p3] [] p4 :: issE n r
theorem iss_star (n : Str) (env : Env) : ∀ r : List (Str × Isp), starEach (issE n r) env = (issE n r).map fun e => (false, eval e env)
  | [] => rfl
  | (x, p1, p2, p3, p4) :: r => by
    show (false, _) :: starEach (issE n r) env = _
    rw [iss_star n env r]
    rfl
theorem pa_iss {Y : Cx} {a Cc : Addr} {i c : Nat} {n : Str} (hr : CallR Y (.builtin "isinstance") (rIsE Y.K Cc a)) (hi : Y.N[i]? = some n) (hv : Vis Y.env.scope n) (hd : (n == ("__debug__" : Str)) = false) (hcd : (n == ("__classdict__" : Str)) = false) (hg : Gl Y "isinstance") (hm : Y.mg "isinstance" = none) :
    ∀ (xs : List (Str × Isp)) (k : Nat), (∀ j x, (xs[j]?).map (·.1) = some x → ∃ Cj, Y.mg x = some (.ref Cj) ∧ W.kitOne Y.K (.ref Cc) (.ref Cj) = some (c == k + j) ∧ Gl Y x ∧ (x == ("__debug__" : Str)) = false) →
      PA Y (issE n xs) (fun σ H Q => σ[i]? = some (some (.ref a)) ∧ Q ((List.range' k xs.length).map fun j => V.bl (c == j)) H)
  | [], k, h => pa_imp pa_nil fun σ H Q kf w => fun _ => w.2
  | (x, p1, p2, p3, p4) :: r, k, h => by
    obtain ⟨Cj, h1, h2, h3, h4⟩ := h 0 x rfl
    have ih := pa_iss hr hi hv hd hcd hg hm r (k + 1) fun j y e => by
      obtain ⟨Cj, h1, h2, h3⟩ := h (j + 1) y (by simpa using e)
      exact ⟨Cj, h1, by rw [h2]; congr 2; omega, h3⟩
    have hc : PE Y (.Name x p3) (tC (.ref Cj)) := pe_glob h3 h1 rfl h4
    refine pa_imp (pa_cons (pe_callB hr hg hm (by decide +kernel) (pa_cons (pe_var hi hv hd hcd) (pa_cons hc pa_nil rfl) rfl) (by decide +kernel) (by decide +kernel) rfl rfl) ih rfl) fun σ H Q kf w => ?_
    refine ⟨.ref a, w.1, .ref Cj, .ref Cj, c == k, rfl, fun u r => r, by simpa using h2, w.1, ?_⟩
    intro _
    have := w.2
    rw [List.length_cons, List.range'_succ, List.map_cons] at this
    exact this
theorem pss_impK {X : Cx} {ss : List Stmt} {t t' : TS} (h : PSs X ss t) (hi : ∀ Dn σ H, KF X.K H → t' Dn σ H → t (endK X.K Dn) σ H) : PSs X ss t' :=
  ⟨fun pins s σ H Dn I h' => thn (h.run pins s σ H (endK X.K Dn) I (hi Dn σ H (kf_inv I) h')) fun f s1 q => by
    cases f with
    | next => obtain ⟨σ', H', I', q⟩ := q; exact ⟨σ', H', I', q (kf_inv I')⟩
    | brk => obtain ⟨σ', H', I', q⟩ := q; exact ⟨σ', H', I', q (kf_inv I')⟩
    | cont => obtain ⟨σ', H', I', q⟩ := q; exact ⟨σ', H', I', q (kf_inv I')⟩
    | ret u => obtain ⟨v, σ', H', I', r, q⟩ := q; exact ⟨v, σ', H', I', r, q (kf_inv I')⟩⟩
def tryD (m : Nat) (f : DS) : DS := fun ρ => match f ρ with
  | .exc c => if c < m then .ok (.rt (.int (c : Nat)), ρ) else .stuck
  | r => r
theorem s_tryI {X : Cx} {G : Gc} {L : Nat} {bl : List Str} {A : List Stmt} {F : DS} {i : Nat} {n : Str} {ex : List Str} {xs : List (Str × Isp)} {lp ap cp2 cp rp hpos np pos : Pos} {jk : Nat} (C : SCtx X G L bl) (hs : X.stack = X.env :: X.outer) (hf : X.env.frame = some X.env.locals) (hi : X.N[i]? = some n) (hln : X.env.scope.names.lookup n = some .local)
    (hd : (n == ("__debug__" : Str)) = false) (hcd : (n == ("__classdict__" : Str)) = false) (hg : Gl X "isinstance") (hm : ("isinstance" : Str) ∈ bl) (hgp : Gl X "PanelError") (T : TryM X.K X.mg G.cl ex) (hex : xs.map (·.1) = ex) (hxs : ∀ x ∈ ex, Gl X x ∧ (x == ("__debug__" : Str)) = false) (hlen : xs.length ≤ 100) (hline : (ap.endLine == cp.line) = true)
    (tk : Takes X (fun cls d _ H => G.E cls d H))
    (hb : ∀ (E : XK) (pn : List (Addr × Obj)) (xe : Value → Shared → Prop), Takes (X.tr pn xe) (fun cls d _ H => E cls d H) → PassesOwn (model X.prog X.w) X.A X.env xe → PSs (X.tr pn xe) A (tSS { G with E := E } F)) :
    PS X (.Try A [.ExceptHandler (some (.Name "PanelError" np)) (some n) [.Return (some (.Call (.Attribute (.List (issE n xs) lp) "index" ap) [.Constant (.bool true) jk cp2] [] cp)) rp] hpos] [] [] pos) (tSS G (tryD ex.length F)) := by
  obtain ⟨C0, g0, hC⟩ := T.pe
  have hnm : Names X "PanelError" (.ref C0) := ⟨hgp, by decide +kernel, .inl g0⟩
  let ts : Addr → Value → Option Addr → TS := fun a cls d D σ H => ∃ c x, ex[c]? = some x ∧ cls = G.cl c ∧ d = none ∧ σ[i]? = some (some (.ref a)) ∧ ∀ H', Same H H' → KF X.K H' → D.rt (.int (c : Nat)) H'
  refine ps_imp (ps_try_as (ts := ts) (Wout := fun cls d _ H => G.E cls d H) (tb := fun W D σ H => tSS { G with E := fun cls d H => ∀ σ : L2.St, σ.length = X.N.length → W cls d σ H } F D σ H) hs hf C.nd hi hln hnm tk (fun W pn xe tkW po => ?_) (fun a oe cls d pn hz hfd => ?_)) fun D σ H kf w => ?_
  · refine hb _ pn xe ?_ po
    intro u s' ⟨a, B, sI, pins, σ, H, cls, d, e, I, nb, up, sky, na, os, ag, q⟩
    exact tkW u s' ⟨a, B, sI, pins, σ, H, cls, d, e, I, nb, up, sky, na, os, ag, q σ I.len⟩
  · refine ⟨fun pins s σ H D I ⟨c, x, h1, h2, h3, h4, h5⟩ => ?_⟩
    have hcon : ∀ hP : PSs (X.suite a ((a, oe) :: pn)) [.Return (some (.Call (.Attribute (.List (issE n xs) lp) "index" ap) [.Constant (.bool true) jk cp2] [] cp)) rp] (fun D σ H => σ[i]? = some (some (.ref a)) ∧ ∀ H', Same H H' → KF X.K H' → D.rt (.int (c : Nat)) H'), _ := fun hP => hP.run pins s σ H D I ⟨h4, h5⟩
    refine hcon ?_
    obtain ⟨Cc, e1, e2, e3, e4⟩ := hC c x h1
    rw [e1] at h2
    subst h2 h3
    have hr := call_isE (pn := pn) (X := X) (a := a) e3 hz hfd
    have hpa := pa_iss (Y := X.suite a ((a, oe) :: pn)) (i := i) (c := c) (n := n) hr hi (.inl hln) hd hcd hg (C.blt _ hm) xs 0 fun j y e => by
      have ey : ex[j]? = some y := by rw [← hex, List.getElem?_map]; exact e
      obtain ⟨Cj, j1, j2, j3⟩ := e4 j y ey
      obtain ⟨j4, j5⟩ := hxs y (List.mem_of_getElem? ey)
      exact ⟨Cj, j2, by rw [Nat.zero_add]; exact j3, j4, j5⟩
    have hcl : c < xs.length := by
      have : c < ex.length := by rw [List.getElem?_eq_some_iff] at h1; exact h1.1
      rw [← hex] at this; simpa using this
    refine pss_impK (X := X.suite a ((a, oe) :: pn)) (pss_one (ps_ret (pe_bm PySem.F.plainAttrs_list PySem.F.slot_list_index PySem.F.type_list_index mt_index (pe_lst hpa) (pa_cons pe_bl pa_nil rfl) rfl rfl hline rfl rfl))) fun D σ H kf ⟨h4, h5⟩ => ?_
    refine ⟨h4, by rw [List.length_map, List.length_range', sizeLine_eq]; omega, fun p hp' => ⟨.inl ⟨rfl, _, .of upd_same⟩, ?_⟩⟩
    refine ⟨p, _, .bl true, c, .bl true, rfl, rfl, .of upd_same, rfl, ?_, ?_, rfl, fun m z' hm' hz' => ?_, ?_⟩
    · rw [List.all_map]; exact List.all_eq_true.mpr fun _ _ => rfl
    · rw [List.getElem?_map, List.getElem?_range' (by omega)]; simp
    · rw [List.getElem?_map, List.getElem?_range' (by omega)] at hz'
      have : z' = .bl false := by
        have e : (c == 0 + m) = false := by simp; omega
        simp at hz'
        rw [← hz']
        congr 1
        simp; omega
      rw [this]; rfl
    · exact fun k => h5 _ (same_upd hp') k
  · intro k
    obtain ⟨O, ρ, R, q⟩ := w (C.kf kf)
    refine ⟨O, ρ, ⟨R.base, R.sub, R.trk, R.fre, R.len, R.slot, R.owns, R.dist⟩, ?_⟩
    unfold tryD at q
    cases hF : F ρ with
    | ok r =>
      rw [hF] at q
      obtain ⟨fl, ρ'⟩ := r
      cases fl with
      | nx => exact fun O' σ' H' s R' => q O' σ' H' s ⟨R'.base, R'.sub, R'.trk, R'.fre, R'.len, R'.slot, R'.owns, R'.dist⟩
      | rt d => exact q
      | bk => exact fun O' σ' H' s R' => q O' σ' H' s ⟨R'.base, R'.sub, R'.trk, R'.fre, R'.len, R'.slot, R'.owns, R'.dist⟩
      | ct => exact fun O' σ' H' s R' => q O' σ' H' s ⟨R'.base, R'.sub, R'.trk, R'.fre, R'.len, R'.slot, R'.owns, R'.dist⟩
    | exc c =>
      rw [hF] at q
      dsimp only at q
      split at q
      · rename_i hc
        intro H' s σ hσ
        obtain ⟨Cc, e1, e2, e3, e4⟩ := hC c _ (List.getElem?_eq_getElem hc)
        refine ⟨true, by rw [e1]; exact e2, fun _ a ha => ⟨c, _, List.getElem?_eq_getElem hc, rfl, rfl, ?_, ?_⟩, fun z => by cases z⟩
        · rw [List.getElem?_set_self (by rw [hσ]; rw [List.getElem?_eq_some_iff] at hi; exact hi.1)]
        · exact fun H2 s2 k2 => q _ _ (s.trans s2) (C.kf k2) rfl
      · exact q.elim
    | stuck => rw [hF] at q; exact q.elim
end
end Den
namespace Den
open PySem PySem.Spec PyProof.Rows L2
section
variable {X : Cx} {G : Gc} {L : Nat} {bl : List Str} {a b c e tg iter : Expr} {f g h : DE} {pos p p2 : Pos}
def slL (lo hi : Option Int) : D → Rs D
  | .list ds => .ok (.list (cutD ds lo hi))
  | _ => .stuck
theorem f_sl_core {O : Addr → Prop} {H : Hp} {x : V} {dx : D} {lo hi : Option Int} {Q : VK} {H0 : Hp} (C : Ctx X G L bl) (s : Same H0 H) (ax : AtC G.K H O dx x)
    (p : Post G H0 (slL lo hi dx) fun d => ∀ p ds vs H', d = .list ds → Same H0 H' → KF G.K H' → H0 p = none → H' p = some (.lst vs) → AtL G.K H' (fun a => O a ∨ a = p) ds vs → Q (.ref p) H') : rSlL X.K x lo hi H fun v H' => KF X.K H' → Q v H' := by
  unfold slL at p
  split at p
  · obtain ⟨a, vs, rfl, h1, h2⟩ := ax
    rw [C.K]
    refine ⟨a, vs, rfl, h1, fun q hq k' => ?_⟩
    exact p q _ _ _ rfl (s.trans (same_upd hq)) k' (s.free hq) upd_same (((atL_cut h2 lo hi).grow hq (kf_no k' upd_same)).same (same_upd hq))
  · exact p.elim
theorem f_slHi (C : Ctx X G L bl) (ha : PE X a (tW G f)) (hl : PE X b (tW G g)) : PE X (.Subscript a (.Slice none (some b) none p2) pos) (tF G fun ρ => do let x ← f ρ; let l ← g ρ; let i ← intD l; slL none (some i) x) := by
  refine pe_imp (pe_slice sl_list ha po_none (po_some hl)) fun σ H Q kf w => fun k0 => ?_
  obtain ⟨O, ρ, R, p⟩ := w k0
  refine ⟨O, ρ, R, p.bind.imp fun dx _ q x H1 s1 k1 ax => fun k1' => ?_⟩
  refine ⟨O, ρ, R.same s1, q.bind.imp fun dl _ q2 l H2 s2 k2 al => ?_⟩
  cases dl with
  | int i =>
    cases al
    exact ⟨i, rfl, f_sl_core C (s1.trans s2) (ax.same s2) q2⟩
  | _ => exact q2.elim
theorem f_slLo (C : Ctx X G L bl) (ha : PE X a (tW G f)) (hl : PE X b (tW G g)) : PE X (.Subscript a (.Slice (some b) none none p2) pos) (tF G fun ρ => do let x ← f ρ; let l ← g ρ; let i ← intD l; slL (some i) none x) := by
  refine pe_imp (pe_slice sl_list ha (po_some hl) po_none) fun σ H Q kf w => fun k0 => ?_
  obtain ⟨O, ρ, R, p⟩ := w k0
  refine ⟨O, ρ, R, p.bind.imp fun dx _ q x H1 s1 k1 ax => fun k1' => ?_⟩
  refine ⟨O, ρ, R.same s1, q.bind.imp fun dl _ q2 l H2 s2 k2 al => ?_⟩
  cases dl with
  | int i =>
    cases al
    exact ⟨i, rfl, f_sl_core C (s1.trans s2) (ax.same s2) q2⟩
  | _ => exact q2.elim
end
inductive Cst | non | bl (b : Bool) | int (i : Int) | str (x : Str)
deriving DecidableEq
def Cst.c : Cst → Const | .non => .none | .bl b => .bool b | .int i => .int i | .str x => .str x
def Cst.d : Cst → D | .non => .none | .bl b => .bool b | .int i => .int i | .str x => .str x
def Cst.v : Cst → V | .non => .non | .bl b => .bl b | .int i => .int i | .str x => .str x
inductive Bo | add | sub | mul | div | mod | pow
def Bo.op : Bo → Operator | .add => .Add | .sub => .Sub | .mul => .Mult | .div => .FloorDiv | .mod => .Mod | .pow => .Pow
def Bo.F : Bo → D → D → Rs D | .add => addD | .sub => subD | .mul => mulD | .div => divD | .mod => modD | .pow => powD
inductive Co | lt | le | gt | ge | eq | ne | isin | notin | is | isnot
def Co.op : Co → CmpOp | .lt => .Lt | .le => .LtE | .gt => .Gt | .ge => .GtE | .eq => .Eq | .ne => .NotEq | .isin => .In | .notin => .NotIn | .is => .Is | .isnot => .IsNot
def Co.F : Co → D → D → Rs D
  | .lt => ordD fun i j => decide (i < j) | .le => ordD fun i j => decide (i ≤ j) | .gt => ordD fun i j => decide (j < i) | .ge => ordD fun i j => decide (j ≤ i)
  | .eq => eqD | .ne => neD | .isin => inD false | .notin => inD true | .is => isD false | .isnot => isD true
inductive Pr | len | all | any | max | min | tuple | list | sorted
def Pr.nm : Pr → Str | .len => "len" | .all => "all" | .any => "any" | .max => "max" | .min => "min" | .tuple => "tuple" | .list => "list" | .sorted => "sorted"
def Pr.F : Pr → List D → Rs D | .len => lenD | .all => allD | .any => anyD | .max => maxD | .min => minD | .tuple => tupleD | .list => listD | .sorted => sortedD
inductive Tg
  | nm (i : Nat) (x : Str) (pos : Pos)
  | tp (items : List (Nat × Str × Pos)) (k : Nat) (pos : Pos)
def tgNames : List (Nat × Str × Pos) → List Expr
  | [] => []
  | (_, x, p) :: r => .Name x p :: tgNames r
def Tg.py : Tg → Expr
  | .nm _ x pos => .Name x pos
  | .tp items k pos => .Tuple (tgNames items) k pos
def Tg.st : Tg → STg
  | .nm i _ _ => setN i
  | .tp items _ _ => setT (items.map (·.1))
def Tg.is : Tg → List Nat
  | .nm i _ _ => [i]
  | .tp items _ _ => items.map (·.1)
mutual
inductive E where
  | cst (c : Cst) (k : Nat) (pos : Pos)
  | var (i : Nat) (x : Str) (pos : Pos)
  | glo (x : Str) (c : Cst) (pos : Pos)
  | bin (op : Bo) (a b : E) (pos : Pos)
  | lad (a b : E) (pos : Pos)
  | neg (a : E) (pos : Pos)
  | not (a : E) (pos : Pos)
  | cmp (op : Co) (a b : E) (pos : Pos)
  | chn (op op' : Co) (a b c : E) (pos : Pos)
  | and (a : E) (es : Es) (pos : Pos)
  | or (a : E) (es : Es) (pos : Pos)
  | ite (c a b : E) (pos : Pos)
  | ix (a i : E) (pos : Pos)
  | slo (a l : E) (p2 pos : Pos)
  | shi (a l : E) (p2 pos : Pos)
  | slh (a l h : E) (p2 pos : Pos)
  | lslo (a l : E) (p2 pos : Pos)
  | lshi (a l : E) (p2 pos : Pos)
  | tup (es : Es) (k : Nat) (pos : Pos)
  | lst (es : Es) (pos : Pos)
  | call (f : Nat) (x : Str) (p : Pos) (e : E) (es : Es) (pos : Pos)
  | rep (es : Es) (p1 : Pos) (b : E) (pos : Pos)
  | ccall (js : List (Nat × Str × Pos)) (p1 : Pos) (b : E) (p2 : Pos) (e : E) (es : Es) (pos : Pos)
  | prim (q : Pr) (p : Pos) (e : E) (es : Es) (pos : Pos)
  | isi (T : Ty) (a : E) (p1 p2 pos : Pos)
  | lrng1 (a : E) (p p1 p2 pos : Pos)
  | trng1 (a : E) (p p1 p2 pos : Pos)
  | lrng2 (a b : E) (p p1 p2 pos : Pos)
  | comp (elt : E) (tg : Tg) (it : I) (ifs : Es) (scope : Scope) (own : List (Str × Nat)) (pos : Pos)
  | comp2 (elt : E) (tg : Tg) (it : I) (tg1 : Tg) (it1 : I) (ifs : Es) (scope : Scope) (own : List (Str × Nat)) (pos : Pos)
inductive Es where
  | nil
  | cons (e : E) (es : Es)
inductive I where
  | seq (e : E)
  | rng1 (a : E) (p pos : Pos)
  | rng2 (a b : E) (p pos : Pos)
  | enu (a : E) (p pos : Pos)
end
mutual
def E.py : E → Expr
  | .cst c k pos => .Constant c.c k pos
  | .var _ x pos => .Name x pos
  | .glo x _ pos => .Name x pos
  | .bin op a b pos => .BinOp a.py op.op b.py pos
  | .lad a b pos => .BinOp a.py .Add b.py pos
  | .neg a pos => .UnaryOp .USub a.py pos
  | .not a pos => .UnaryOp .Not a.py pos
  | .cmp op a b pos => .Compare a.py [op.op] [b.py] pos
  | .chn op op' a b c pos => .Compare a.py [op.op, op'.op] [b.py, c.py] pos
  | .and a es pos => .BoolOp .And (a.py :: es.py) pos
  | .or a es pos => .BoolOp .Or (a.py :: es.py) pos
  | .ite c a b pos => .IfExp c.py a.py b.py pos
  | .ix a i pos => .Subscript a.py i.py pos
  | .slo a l p2 pos => .Subscript a.py (.Slice (some l.py) none none p2) pos
  | .shi a l p2 pos => .Subscript a.py (.Slice none (some l.py) none p2) pos
  | .slh a l h p2 pos => .Subscript a.py (.Slice (some l.py) (some h.py) none p2) pos
  | .lslo a l p2 pos => .Subscript a.py (.Slice (some l.py) none none p2) pos
  | .lshi a l p2 pos => .Subscript a.py (.Slice none (some l.py) none p2) pos
  | .tup es k pos => .Tuple es.py k pos
  | .lst es pos => .List es.py pos
  | .call _ x p e es pos => .Call (.Name x p) (e.py :: es.py) [] pos
  | .rep es p1 b pos => .BinOp (.List es.py p1) .Mult b.py pos
  | .ccall js p1 b p2 e es pos => .Call (.Subscript (.List (namesE js) p1) b.py p2) (e.py :: es.py) [] pos
  | .prim q p e es pos => .Call (.Name q.nm p) (e.py :: es.py) [] pos
  | .isi T a p1 p2 pos => .Call (.Name "isinstance" p1) [a.py, .Name (Str.ofString T.nm) p2] [] pos
  | .lrng1 a p p1 p2 pos => .Call (.Name "list" p) [.Call (.Name "range" p1) [a.py] [] p2] [] pos
  | .trng1 a p p1 p2 pos => .Call (.Name "tuple" p) [.Call (.Name "range" p1) [a.py] [] p2] [] pos
  | .lrng2 a b p p1 p2 pos => .Call (.Name "list" p) [.Call (.Name "range" p1) [a.py, b.py] [] p2] [] pos
  | .comp elt tg it ifs scope _ pos => .ListComp elt.py [⟨tg.py, it.py, ifs.py, 0⟩] scope pos
  | .comp2 elt tg it tg1 it1 ifs scope _ pos => .ListComp elt.py [⟨tg.py, it.py, [], 0⟩, ⟨tg1.py, it1.py, ifs.py, 0⟩] scope pos
def Es.py : Es → List Expr
  | .nil => []
  | .cons e es => e.py :: es.py
def I.py : I → Expr
  | .seq e => e.py
  | .rng1 a p pos => .Call (.Name "range" p) [a.py] [] pos
  | .rng2 a b p pos => .Call (.Name "range" p) [a.py, b.py] [] pos
  | .enu a p pos => .Call (.Name "enumerate" p) [a.py] [] pos
end
def Es.len : Es → Nat
  | .nil => 0
  | .cons _ es => es.len + 1
abbrev Tb := Nat → List D → Rs D
def bi (F : D → D → Rs D) (f g : DE) : DE := fun ρ => do let x ← f ρ; let y ← g ρ; F x y
mutual
def E.den (ft : Tb) : E → DE
  | .cst c _ _ => fun _ => .ok c.d
  | .var i _ _ => vaR i
  | .glo _ c _ => fun _ => .ok c.d
  | .bin op a b _ => bi op.F (a.den ft) (b.den ft)
  | .lad a b _ => bi addL (a.den ft) (b.den ft)
  | .neg a _ => fun ρ => do let x ← a.den ft ρ; negD x
  | .not a _ => notE (a.den ft)
  | .cmp op a b _ => bi op.F (a.den ft) (b.den ft)
  | .chn op op' a b c _ => chnE op.F op'.F (a.den ft) (b.den ft) (c.den ft)
  | .and a es _ => es.andD ft (a.den ft)
  | .or a es _ => es.orD ft (a.den ft)
  | .ite c a b _ => iteE (c.den ft) (a.den ft) (b.den ft)
  | .ix a i _ => bi ixD (a.den ft) (i.den ft)
  | .slo a l _ _ => fun ρ => do let x ← a.den ft ρ; let l ← l.den ft ρ; let i ← intD l; slD (some i) none x
  | .shi a l _ _ => fun ρ => do let x ← a.den ft ρ; let l ← l.den ft ρ; let i ← intD l; slD none (some i) x
  | .slh a l h _ _ => fun ρ => do let x ← a.den ft ρ; let l ← l.den ft ρ; let i ← intD l; let u ← h.den ft ρ; let j ← intD u; slD (some i) (some j) x
  | .lslo a l _ _ => fun ρ => do let x ← a.den ft ρ; let l ← l.den ft ρ; let i ← intD l; slL (some i) none x
  | .lshi a l _ _ => fun ρ => do let x ← a.den ft ρ; let l ← l.den ft ρ; let i ← intD l; slL none (some i) x
  | .tup es _ _ => tupA (es.den ft)
  | .lst es _ => lstA (es.den ft)
  | .call f _ _ e es _ => appE (ft f) (consArg (e.den ft) (es.den ft))
  | .rep es _ b _ => fun ρ => do let ds ← es.den ft ρ; let d ← b.den ft ρ; let k ← intD d; repL ds k
  | .ccall js _ b _ e es _ => ccD (es.len + 1) ft (js.map (·.1)) (b.den ft) (consArg (e.den ft) (es.den ft))
  | .prim q _ e es _ => appE q.F (consArg (e.den ft) (es.den ft))
  | .isi T a _ _ _ => isiE T (a.den ft)
  | .lrng1 a _ _ _ _ => lstI (rng1 (a.den ft))
  | .trng1 a _ _ _ _ => tupI (rng1 (a.den ft))
  | .lrng2 a b _ _ _ _ => lstI (rng2 (a.den ft) (b.den ft))
  | .comp elt tg it ifs _ own _ => compE (own.map (·.2)) (it.den ft) tg.st (ifs.tst ft) (elt.den ft)
  | .comp2 elt tg it tg1 it1 ifs _ own _ => compE2 (own.map (·.2)) (it.den ft) tg.st (it1.den ft) tg1.st (ifs.tst ft) (elt.den ft) tg1.is
def Es.den (ft : Tb) : Es → Ro → Rs (List D)
  | .nil => noArg
  | .cons e es => consArg (e.den ft) (es.den ft)
def Es.andD (ft : Tb) : Es → DE → DE
  | .nil, f => f
  | .cons e es, f => andE f (es.andD ft (e.den ft))
def Es.orD (ft : Tb) : Es → DE → DE
  | .nil, f => f
  | .cons e es, f => orE f (es.orD ft (e.den ft))
def Es.tst (ft : Tb) : Es → Ro → Rs Bool
  | .nil => fun _ => .ok true
  | .cons e _ => tstE (e.den ft)
def I.den (ft : Tb) : I → DI
  | .seq e => seqE (e.den ft)
  | .rng1 a _ _ => Den.rng1 (a.den ft)
  | .rng2 a b _ _ => Den.rng2 (a.den ft) (b.den ft)
  | .enu a _ _ => enuE (a.den ft)
end
structure Sg where
  N : List Str
  own : Nat → Bool
  gl : List (Str × Cst)
  fn : List (Str × Nat)
  bl : List Str
def visB (sc : Scope) (x : Str) : Bool := match sc.names.lookup x with
  | some .local => true
  | some .cell => true
  | some .free => true
  | _ => false
def glB (sc : Scope) (x : Str) : Bool := decide (sc.names.lookup x = some .globalImplicit)
def dbB (x : Str) : Bool := (!(x == ("__debug__" : Str))) && !(x == ("__classdict__" : Str))
def varB (S : Sg) (sc : Scope) (i : Nat) (x : Str) : Bool := decide (S.N[i]? = some x) && visB sc x && dbB x
def blB (S : Sg) (sc : Scope) (x : Str) : Bool := glB sc x && decide (x ∈ S.bl)
def locB (S : Sg) (sc : Scope) (bs : Option Scope) (i : Nat) (x : Str) : Bool := decide (S.N[i]? = some x) && !S.own i && (match sc.names.lookup x with
  | some .local => true
  | some .cell => match bs with
    | some b => decide (b.names.lookup x = some .cell)
    | none => true
  | _ => false)
def tgB (S : Sg) (sc : Scope) (bs : Option Scope) : Tg → Bool
  | .nm i x _ => locB S sc bs i x
  | .tp items _ _ => items.all fun p => locB S sc bs p.1 p.2.1
def E.str (S : Sg) : E → Bool
  | .var i _ _ => !S.own i
  | _ => true
def E.fr : E → Bool
  | .rep .. | .lad .. | .lslo .. | .lshi .. | .lst .. | .lrng1 .. | .lrng2 .. | .comp .. | .comp2 .. => true
  | _ => false
def E.tstB : E → Bool
  | .ite .. => false
  | _ => true
def Es.tsts : Es → Bool
  | .nil => true
  | .cons e es => e.tstB && es.tsts
def Es.strs (S : Sg) : Es → Bool
  | .nil => true
  | .cons e es => e.str S && es.strs S
def I.strI (S : Sg) : I → Bool
  | .seq e => e.str S
  | _ => true
def Es.one : Es → Bool
  | .nil => true
  | .cons e .nil => e.tstB
  | _ => false
def I.tgB : I → Tg → Bool
  | .enu .., .nm .. => false
  | _, _ => true
mutual
def E.ok (S : Sg) (sc : Scope) : E → Bool
  | .cst .. => true
  | .var i x _ => varB S sc i x
  | .glo x c _ => glB sc x && decide ((x, c) ∈ S.gl) && dbB x
  | .bin _ a b _ => a.ok S sc && b.ok S sc
  | .lad a b _ => a.ok S sc && b.ok S sc
  | .neg a _ => a.ok S sc
  | .not a _ => a.ok S sc && a.tstB
  | .cmp _ a b _ => a.ok S sc && b.ok S sc
  | .chn _ _ a b c _ => a.ok S sc && b.ok S sc && c.ok S sc
  | .and a es _ => a.ok S sc && es.ok S sc && a.str S && a.tstB && es.strs S && es.tsts
  | .or a es _ => a.ok S sc && es.ok S sc && a.str S && a.tstB && es.strs S && es.tsts
  | .ite c a b _ => c.ok S sc && a.ok S sc && b.ok S sc && c.tstB && a.str S && b.str S
  | .ix a i _ => a.ok S sc && i.ok S sc
  | .slo a l _ _ => a.ok S sc && l.ok S sc
  | .shi a l _ _ => a.ok S sc && l.ok S sc
  | .slh a l h _ _ => a.ok S sc && l.ok S sc && h.ok S sc
  | .lslo a l _ _ => a.ok S sc && l.ok S sc
  | .lshi a l _ _ => a.ok S sc && l.ok S sc
  | .tup es _ _ => es.ok S sc && es.strs S && decide (es.len ≤ 1000)
  | .lst es _ => es.ok S sc && es.strs S && decide (es.len ≤ 1000)
  | .call f x _ e es _ => e.ok S sc && es.ok S sc && e.str S && es.strs S && glB sc x && dbB x && decide (S.fn[f]? = some (x, es.len + 1))
  | .rep es _ b _ => es.ok S sc && es.strs S && decide (es.len ≤ 1000) && b.ok S sc
  | .ccall js _ b _ e es _ => b.ok S sc && e.ok S sc && es.ok S sc && e.str S && es.strs S && decide (js.length ≤ 100) && js.all fun p => decide (S.fn[p.1]? = some (p.2.1, es.len + 1)) && glB sc p.2.1 && dbB p.2.1
  | .prim q _ e es _ => e.ok S sc && es.ok S sc && blB S sc q.nm
  | .isi T a _ _ _ => a.ok S sc && blB S sc "isinstance" && blB S sc (Str.ofString T.nm)
  | .lrng1 a _ _ _ _ => a.ok S sc && blB S sc "list" && blB S sc "range"
  | .trng1 a _ _ _ _ => a.ok S sc && blB S sc "tuple" && blB S sc "range"
  | .lrng2 a b _ _ _ _ => a.ok S sc && b.ok S sc && blB S sc "list" && blB S sc "range"
  | .comp elt tg it ifs scope own _ => it.tgB tg && it.ok S sc && blkC S.N sc scope own && tgB S (relS scope sc) (some scope) tg && decide (∀ i ∈ tg.is, i ∈ own.map (·.2)) && ifs.ok S (relS scope sc) && ifs.one && elt.ok S (relS scope sc) && elt.str S
  | .comp2 elt tg it tg1 it1 ifs scope own _ => it.tgB tg && it1.tgB tg1 && it.ok S sc && blkC S.N sc scope own && tgB S (relS scope sc) (some scope) tg && decide (∀ i ∈ tg.is, i ∈ own.map (·.2)) && it1.ok S (relS scope sc) && it1.strI S && tgB S (relS scope sc) (some scope) tg1 && decide (∀ i ∈ tg1.is, i ∈ own.map (·.2)) && ifs.ok S (relS scope sc) && ifs.one && elt.ok S (relS scope sc) && elt.str S
def Es.ok (S : Sg) (sc : Scope) : Es → Bool
  | .nil => true
  | .cons e es => e.ok S sc && es.ok S sc
def I.ok (S : Sg) (sc : Scope) : I → Bool
  | .seq e => e.ok S sc
  | .rng1 a _ _ => a.ok S sc && blB S sc "range"
  | .rng2 a b _ _ => a.ok S sc && b.ok S sc && blB S sc "range"
  | .enu a _ _ => a.ok S sc && blB S sc "enumerate" && a.str S
end
end Den
namespace Den
open PySem PySem.Spec PyProof.Rows L2
theorem star1 (e : E) (es : List Expr) (env : Env) : starEach (e.py :: es) env = (false, eval e.py env) :: starEach es env := by cases e <;> rfl
theorem star_no (pos : Pos) (env : Env) : ∀ es : Es, (backTo pos (starEach es.py env)).any (·.1) = false
  | .nil => rfl
  | .cons e es => by
    show (backTo pos (starEach (e.py :: es.py) env)).any _ = false
    rw [star1]
    exact star_no pos env es
theorem plain1 (e : E) : PlainIx e.py := by
  cases e <;> first | exact fun _ _ => rfl | skip
  all_goals (rename_i c k pos; cases c <;> exact fun _ _ => rfl)
theorem marks1 (op : CmpOp) (e : E) : behindInMarks op e.py = false := by cases e <;> rfl
theorem lastm2 (op op' : CmpOp) (b c : E) : lastMarks [op, op'] [b.py, c.py] = false := by
  show behindInMarks op' c.py = false
  exact marks1 _ _
theorem fold1 (it : I) (env : Env) (x : Value) : foldedSetIterable it.py env x = pure x := by
  cases it with
  | seq e => cases e <;> rfl
  | _ => rfl
structure Env1 (X : Cx) (G : Gc) (L : Nat) (S : Sg) (ft : Tb) (sc : Scope) : Prop where
  C : Ctx X G L S.bl
  N : X.N = S.N
  sc : X.env.scope = sc
  own : G.own = S.own
  gl : ∀ p ∈ S.gl, ∃ u, X.mg p.1 = some u ∧ RelV p.2.v u
  fn : ∀ f x n, S.fn[f]? = some (x, n) → FnD X G.cl L x n (ft f)
section
variable {X : Cx} {G : Gc} {L : Nat} {S : Sg} {ft : Tb} {sc : Scope}
theorem Env1.vis (V : Env1 X G L S ft sc) {i : Nat} {x : Str} (h : varB S sc i x = true) : X.N[i]? = some x ∧ Vis X.env.scope x ∧ (x == ("__debug__" : Str)) = false ∧ (x == ("__classdict__" : Str)) = false := by
  unfold varB dbB at h
  simp only [Bool.and_eq_true, decide_eq_true_eq, Bool.not_eq_true'] at h
  obtain ⟨⟨h1, h2⟩, h3, h4⟩ := h
  refine ⟨by rw [V.N]; exact h1, ?_, h3, h4⟩
  rw [V.sc]
  unfold visB at h2
  split at h2 <;> first | exact .inl (by assumption) | exact .inr (.inl (by assumption)) | exact .inr (.inr (by assumption)) | cases h2
theorem Env1.glob (V : Env1 X G L S ft sc) {x : Str} (h : glB sc x = true) : Gl X x := by
  unfold glB at h
  rw [decide_eq_true_eq] at h
  show X.env.scope.names.lookup x = _
  rw [V.sc]; exact h
theorem Env1.blt (V : Env1 X G L S ft sc) {x : Str} (h : blB S sc x = true) : Gl X x ∧ x ∈ S.bl := by
  unfold blB at h
  rw [Bool.and_eq_true, decide_eq_true_eq] at h
  exact ⟨V.glob h.1, h.2⟩
theorem dbB_iff {x : Str} (h : dbB x = true) : (x == ("__debug__" : Str)) = false := by
  unfold dbB at h
  simp only [Bool.and_eq_true, Bool.not_eq_true'] at h
  exact h.1
theorem bo_ok (C : Ctx X G L bl) (op : Bo) : ∃ r, OpR X (binaryOp op.op) r ∧ Says G r op.F := by
  cases op
  · exact ⟨_, C.K ▸ op_addD, says_add⟩
  · exact ⟨_, op_sub, says_sub⟩
  · exact ⟨_, op_mul, says_mul⟩
  · exact ⟨_, op_fdivW, says_div⟩
  · exact ⟨_, op_mod, says_mod⟩
  · exact ⟨_, op_pow, says_pow⟩
theorem co_ok (C : Ctx X G L bl) (op : Co) : ∃ r, OpR X (compareOp op.op) r ∧ Says G r op.F := by
  cases op
  · exact ⟨_, op_lt, says_ord _⟩
  · exact ⟨_, op_le, says_ord _⟩
  · exact ⟨_, op_gt, says_ord _⟩
  · exact ⟨_, op_ge, says_ord _⟩
  · exact ⟨_, C.K ▸ op_eqD C.hu0, says_eq⟩
  · exact ⟨_, C.K ▸ op_neD C.hu0, says_ne⟩
  · exact ⟨_, C.K ▸ op_inA C.hu, says_in⟩
  · exact ⟨_, C.K ▸ op_notInA C.hu, says_notIn⟩
  · exact ⟨_, op_isA, says_is⟩
  · exact ⟨_, op_notA, says_notIs⟩
structure SndE (X : Cx) (G : Gc) (S : Sg) (ft : Tb) (e : E) : Prop where
  w : PE X e.py (tW G (e.den ft))
  s : e.str S = true → PE X e.py (tS G (e.den ft))
  f : e.fr = true → PE X e.py (tF G (e.den ft)) ∧ ∀ ρ d, e.den ft ρ = .ok d → ∃ ds, d = .list ds
  t : e.tstB = true → PT X e.py (tTst G (tstE (e.den ft)))
structure SndEs (X : Cx) (G : Gc) (S : Sg) (ft : Tb) (es : Es) : Prop where
  w : PA X es.py (tArgW G (es.den ft))
  s : es.strs S = true → PA X es.py (tArg G (es.den ft))
structure SndI (X : Cx) (G : Gc) (S : Sg) (ft : Tb) (it : I) : Prop where
  w : ∀ tg : Tg, it.tgB tg = true → PI X tg.py it.py (tIt G true (it.den ft))
  s : it.strI S = true → ∀ tg : Tg, it.tgB tg = true → PI X tg.py it.py (tIt G false (it.den ft))
theorem es_len : ∀ (es : Es) (ρ : Ro) (ds : List D), es.den ft ρ = .ok ds → ds.length = es.len
  | .nil, ρ, ds, h => by cases h; rfl
  | .cons e es, ρ, ds, h => by
    change (e.den ft ρ >>= fun d => es.den ft ρ >>= fun ds => .ok (d :: ds)) = _ at h
    cases h1 : e.den ft ρ with
    | ok d =>
      rw [h1] at h
      cases h2 : es.den ft ρ with
      | ok r =>
        rw [Rs.ok_bind, h2] at h
        cases h
        simp [Es.len, es_len es ρ r h2]
      | exc c => rw [Rs.ok_bind, h2] at h; cases h
      | stuck => rw [Rs.ok_bind, h2] at h; cases h
    | exc c => rw [h1] at h; cases h
    | stuck => rw [h1] at h; cases h
theorem bind_ok {α β : Type} {r : Rs α} {f : α → Rs β} {b : β} (h : (r >>= f) = .ok b) : ∃ a, r = .ok a ∧ f a = .ok b := by
  cases r with
  | ok a => exact ⟨a, rfl, h⟩
  | exc c => cases h
  | stuck => cases h
theorem Walk.less {K : W.Frag} {M M' O : Addr → Prop} {J : It} {H0 : Hp} {ds : List D} (w : Walk K M O J H0 ds) (h : ∀ a, M' a → M a) : Walk K M' O J H0 ds :=
  ⟨w.len, fun i d H e k => w.go i d H e fun b o e n => k b o e fun z => n (h b z), fun H k => w.stop H fun b o e n => k b o e fun z => n (h b z)⟩
theorem i_less {tg iter : Expr} {fi : DI} (h : PI X tg iter (tIt G false fi)) : PI X tg iter (tIt G true fi) := pi_imp h fun σ H R _ w k => by
  obtain ⟨O, ρ, R0, p⟩ := w k
  exact ⟨O, ρ, R0, p.imp fun ds _ q J H' s k' wk => fun _ => q J H' s k' (wk.less fun _ z => z.elim)⟩
theorem snd_s {e : E} (hs : PE X e.py (tS G (e.den ft))) (hf : e.fr = false) (ht : PE X e.py (tW G (e.den ft)) → e.tstB = true → PT X e.py (tTst G (tstE (e.den ft)))) : SndE X G S ft e :=
  ⟨strong_weak hs, fun _ => hs, fun h => (by rw [hf] at h; cases h), ht (strong_weak hs)⟩
theorem snd_f {e : E} (C : Ctx X G L bl) (hf : PE X e.py (tF G (e.den ft))) (hl : ∀ ρ d, e.den ft ρ = .ok d → ∃ ds, d = .list ds) (ht : PE X e.py (tW G (e.den ft)) → e.tstB = true → PT X e.py (tTst G (tstE (e.den ft)))) : SndE X G S ft e :=
  have hs := fresh_strong C.K hf hl
  ⟨strong_weak hs, fun _ => hs, fun _ => ⟨hf, hl⟩, ht (strong_weak hs)⟩
end
end Den
namespace Den
open PySem PySem.Spec PyProof.Rows L2
section
variable {X : Cx} {G : Gc} {L : Nat} {S : Sg} {ft : Tb} {sc : Scope}
def Sto (X : Cx) (bs : Option Scope) : Prop := match bs with
  | some b => ∀ x, b.names.lookup x = some .cell → X.fn x = true
  | none => ∀ x, X.fn x = true
theorem loc_ok {bs : Option Scope} (hsc : X.env.scope = sc) (hf : Sto X bs) {i : Nat} {x : Str} (h : locB S sc bs i x = true) : S.N[i]? = some x ∧ S.own i = false ∧ Loc X.env.scope x ∧ (X.fn x = true ∨ X.env.scope.names.lookup x = some .local) := by
  unfold locB at h
  simp only [Bool.and_eq_true, decide_eq_true_eq, Bool.not_eq_true'] at h
  obtain ⟨⟨h1, h2⟩, h3⟩ := h
  refine ⟨h1, h2, ?_⟩
  rw [hsc]
  split at h3
  · rename_i e
    exact ⟨.inl e, .inr e⟩
  · rename_i e
    refine ⟨.inr e, .inl ?_⟩
    cases bs with
    | none => exact hf x
    | some b => exact hf x (by simpa using h3)
  · cases h3
theorem names_len (env : Env) : ∀ items : List (Nat × Str × Pos), (assignEach (tgNames items) env).length = items.length
  | [] => rfl
  | (i, x, p) :: r => by
    show (_ :: assignEach (tgNames r) env).length = _
    simp [names_len env r]
theorem names_star (env : Env) : ∀ items : List (Nat × Str × Pos), (assignEach (tgNames items) env).findIdx? (·.1) = none
  | [] => rfl
  | (i, x, p) :: r => by
    show ((false, _) :: assignEach (tgNames r) env).findIdx? _ = _
    rw [List.findIdx?_cons]
    simp [names_star env r]
theorem tgs_ok {vs : List Nat} {bs : Option Scope} (hK : X.K = G.K) (hN : X.N = S.N) (nd : X.N.Nodup) (hsc : X.env.scope = sc) (hw : G.own = S.own) (hf : Sto X bs) : ∀ items : List (Nat × Str × Pos), (items.all fun p => locB S sc bs p.1 p.2.1) = true → (∀ i ∈ items.map (·.1), i ∈ vs) → PGs X (tgNames items) (tTgs G vs (items.map (·.1)))
  | [], _, _ => gs_nil hK
  | (i, x, p) :: r, h, hv => by
    rw [List.all_cons, Bool.and_eq_true] at h
    obtain ⟨h1, h2, h3, h4⟩ := loc_ok hsc hf h.1
    exact gs_cons hK nd (hN ▸ h1) h3 h4 (by rw [hw]; exact h2) (hv i (by simp)) (tgs_ok hK hN nd hsc hw hf r h.2 fun j hj => hv j (by simp at hj ⊢; exact .inr hj))
theorem tg_ok {vs : List Nat} {bs : Option Scope} (hK : X.K = G.K) (hN : X.N = S.N) (nd : X.N.Nodup) (hc : X.calm = true) (hsc : X.env.scope = sc) (hw : G.own = S.own) (hf : Sto X bs) : ∀ tg : Tg, tgB S sc bs tg = true → (∀ i ∈ tg.is, i ∈ vs) → PG X tg.py (tTg G vs tg.st)
  | .nm i x p, h, hv => by
    obtain ⟨h1, h2, h3, h4⟩ := loc_ok hsc hf h
    exact g_name hK nd (hN ▸ h1) h3 h4 (by rw [hw]; exact h2) (hv i (by simp [Tg.is]))
  | .tp items k p, h, hv =>
    g_tup hK hc (tgs_ok hK hN nd hsc hw hf items h hv) (by rw [names_len]; simp) (names_star _ _)
theorem Env1.noE (V : Env1 X G L S ft sc) {scope : Scope} {s : Shared} {H : Hp} {Cc : Addr} {cl : List (Str × Addr)} {fp : List Addr} : Env1 (X.blk s H scope (compEnvC scope cl Cc X.env) fp) G.noE L S ft (relS scope sc) where
  C := ⟨V.C.K, passL, V.C.room, V.C.calm, V.C.nd, V.C.blt⟩
  N := V.N
  sc := by rw [← V.sc]; rfl
  own := V.own
  gl := V.gl
  fn := fun f x n e => ⟨(V.fn f x n e).ex⟩
theorem Env1.wO (V : Env1 X G L S ft sc) {scope : Scope} {s : Shared} {H : Hp} {Cc : Addr} {cl : List (Str × Addr)} {fp : List Addr} (O0 : Addr → Prop) : Env1 (X.blk s H scope (compEnvC scope cl Cc X.env) fp) (G.wO O0) L S ft (relS scope sc) where
  C := ⟨V.C.K, passL, V.C.room, V.C.calm, V.C.nd, V.C.blt⟩
  N := V.N
  sc := by rw [← V.sc]; rfl
  own := V.own
  gl := V.gl
  fn := fun f x n e => ⟨(V.fn f x n e).ex⟩
theorem sto_blk {scope : Scope} {s : Shared} {H : Hp} {env : Env} {fp : List Addr} : Sto (X.blk s H scope env fp) (some scope) := fun x h => by
  show (scope.names.lookup x == some .cell) = true
  rw [h]; rfl
end
theorem t_or1 {X : Cx} {G : Gc} {a : Expr} {f : DE} {pos : Pos} (ha : PT X a (tTst G (tstE f))) : PW X (.BoolOp .Or [a] pos) (tTst G (tstE f)) := pw_or1 ha
theorem addL_list {x y d : D} (h : addL x y = .ok d) : ∃ ds, d = .list ds := by
  unfold addL at h
  split at h
  · simp only [addD] at h
    split at h
    · cases h
      exact ⟨_, rfl⟩
    · cases h
  · cases h
theorem slL_list {lo hi : Option Int} {x d : D} (h : slL lo hi x = .ok d) : ∃ ds, d = .list ds := by
  unfold slL at h
  split at h
  · first | (cases h; exact ⟨_, rfl⟩) | (split at h <;> first | (cases h; exact ⟨_, rfl⟩) | cases h)
  · cases h
theorem py_len : ∀ es : Es, es.py.length = es.len
  | .nil => rfl
  | .cons e es => by
    show (e.py :: es.py).length = _
    simp [Es.len, py_len es]
mutual
theorem e_ok : ∀ (e : E) {X : Cx} {G : Gc} {L : Nat} {S : Sg} {ft : Tb} {sc : Scope}, Env1 X G L S ft sc → e.ok S sc = true → SndE X G S ft e
  | .cst c k pos, X, G, L, S, ft, sc, V, h => snd_s (by
      cases c <;> exact d_cst V.C (by first | exact pe_int | exact pe_bl | exact pe_non | exact pe_str) fun _ _ _ => rfl) rfl fun w _ => t_val w fun _ => rfl
  | .var i x pos, X, G, L, S, ft, sc, V, h => by
      obtain ⟨h1, h2, h3, h4⟩ := V.vis h
      have w : PE X (.Name x pos) (tW G (vaR i)) := d_varW V.C h1 h2 h3 h4
      exact ⟨w, fun hs => d_var V.C h1 h2 (by rw [V.own]; simpa [E.str] using hs) h3 h4, fun z => (by cases z), fun _ => t_val w fun _ => rfl⟩
  | .glo x c pos, X, G, L, S, ft, sc, V, h => by
      simp only [E.ok, Bool.and_eq_true, decide_eq_true_eq] at h
      obtain ⟨⟨h1, h2⟩, h3⟩ := h
      obtain ⟨u, e1, e2⟩ := V.gl _ h2
      refine snd_s (d_cst V.C (pe_glob (V.glob h1) e1 e2 (dbB_iff h3)) fun _ _ _ => ?_) rfl fun w _ => t_val w fun _ => rfl
      cases c <;> rfl
  | .bin op a b pos, X, G, L, S, ft, sc, V, h => by
      simp only [E.ok, Bool.and_eq_true] at h
      obtain ⟨r, h1, h2⟩ := bo_ok V.C op
      exact snd_s (d_bin V.C.K h1 h2 (e_ok a V h.1).w (e_ok b V h.2).w) rfl fun w _ => t_val w fun _ => rfl
  | .lad a b pos, X, G, L, S, ft, sc, V, h => by
      simp only [E.ok, Bool.and_eq_true] at h
      refine snd_f V.C (f_add V.C (e_ok a V h.1).w (e_ok b V h.2).w) (fun ρ d e => ?_) fun w _ => t_val w fun _ => rfl
      obtain ⟨x, _, e⟩ := bind_ok e
      obtain ⟨y, _, e⟩ := bind_ok e
      exact addL_list e
  | .neg a pos, X, G, L, S, ft, sc, V, h => by
      exact snd_s (d_neg V.C (e_ok a V h).w) rfl fun w _ => t_val w fun _ => rfl
  | .not a pos, X, G, L, S, ft, sc, V, h => by
      simp only [E.ok, Bool.and_eq_true] at h
      have ha := e_ok a V h.1
      exact snd_s (d_not V.C ha.w) rfl fun w ht => t_not V.C (ha.t h.2)
  | .cmp op a b pos, X, G, L, S, ft, sc, V, h => by
      simp only [E.ok, Bool.and_eq_true] at h
      obtain ⟨r, h1, h2⟩ := co_ok V.C op
      have ha := (e_ok a V h.1).w
      have hb := (e_ok b V h.2).w
      exact snd_s (d_cmp V.C.K h1 h2 (marks1 _ _) ha hb) rfl fun w _ => t_cmp V.C h1 h2 (marks1 _ _) ha hb
  | .chn op op' a b c pos, X, G, L, S, ft, sc, V, h => by
      simp only [E.ok, Bool.and_eq_true] at h
      obtain ⟨r, h1, h2⟩ := co_ok V.C op
      obtain ⟨r', h1', h2'⟩ := co_ok V.C op'
      have ha := (e_ok a V h.1.1).w
      have hb := (e_ok b V h.1.2).w
      have hc := (e_ok c V h.2).w
      exact snd_s (d_chain V.C h1 h1' h2 h2' (lastm2 _ _ _ _) ha hb hc) rfl fun w _ => t_chain V.C h1 h1' h2 h2' (lastm2 _ _ _ _) ha hb hc
  | .and a es pos, X, G, L, S, ft, sc, V, h => by
      simp only [E.ok, Bool.and_eq_true] at h
      obtain ⟨⟨⟨⟨⟨h1, h2⟩, h3⟩, h4⟩, h5⟩, h6⟩ := h
      have ha := e_ok a V h1
      have key := ands_ok es V h2 h5 h6 pos a ha.w (ha.s h3) (ha.t h4)
      exact snd_s key.1 rfl fun _ _ => key.2.pt
  | .or a es pos, X, G, L, S, ft, sc, V, h => by
      simp only [E.ok, Bool.and_eq_true] at h
      obtain ⟨⟨⟨⟨⟨h1, h2⟩, h3⟩, h4⟩, h5⟩, h6⟩ := h
      have ha := e_ok a V h1
      have key := ors_ok es V h2 h5 h6 pos a ha.w (ha.s h3) (ha.t h4)
      exact snd_s key.1 rfl fun _ _ => key.2.pt
  | .ite c a b pos, X, G, L, S, ft, sc, V, h => by
      simp only [E.ok, Bool.and_eq_true] at h
      obtain ⟨⟨⟨⟨⟨h1, h2⟩, h3⟩, h4⟩, h5⟩, h6⟩ := h
      exact snd_s (d_ite V.C ((e_ok c V h1).t h4) ((e_ok a V h2).s h5) ((e_ok b V h3).s h6)) rfl fun _ z => by cases z
  | .ix a i pos, X, G, L, S, ft, sc, V, h => by
      simp only [E.ok, Bool.and_eq_true] at h
      exact snd_s (d_ix V.C.K (V.C.K ▸ ix_LT) says_ix (plain1 i) (e_ok a V h.1).w (e_ok i V h.2).w) rfl fun w _ => t_val w fun _ => rfl
  | .slo a l p2 pos, X, G, L, S, ft, sc, V, h => by
      simp only [E.ok, Bool.and_eq_true] at h
      exact snd_s (d_slLo V.C.K (e_ok a V h.1).w (e_ok l V h.2).w) rfl fun w _ => t_val w fun _ => rfl
  | .shi a l p2 pos, X, G, L, S, ft, sc, V, h => by
      simp only [E.ok, Bool.and_eq_true] at h
      exact snd_s (d_slHi V.C.K (e_ok a V h.1).w (e_ok l V h.2).w) rfl fun w _ => t_val w fun _ => rfl
  | .slh a l u p2 pos, X, G, L, S, ft, sc, V, h => by
      simp only [E.ok, Bool.and_eq_true] at h
      exact snd_s (d_slLH V.C.K (e_ok a V h.1.1).w (e_ok l V h.1.2).w (e_ok u V h.2).w) rfl fun w _ => t_val w fun _ => rfl
  | .lslo a l p2 pos, X, G, L, S, ft, sc, V, h => by
      simp only [E.ok, Bool.and_eq_true] at h
      refine snd_f V.C (f_slLo V.C (e_ok a V h.1).w (e_ok l V h.2).w) (fun ρ d e => ?_) fun w _ => t_val w fun _ => rfl
      obtain ⟨x, _, e⟩ := bind_ok e
      obtain ⟨y, _, e⟩ := bind_ok e
      obtain ⟨i, _, e⟩ := bind_ok e
      exact slL_list e
  | .lshi a l p2 pos, X, G, L, S, ft, sc, V, h => by
      simp only [E.ok, Bool.and_eq_true] at h
      refine snd_f V.C (f_slHi V.C (e_ok a V h.1).w (e_ok l V h.2).w) (fun ρ d e => ?_) fun w _ => t_val w fun _ => rfl
      obtain ⟨x, _, e⟩ := bind_ok e
      obtain ⟨y, _, e⟩ := bind_ok e
      obtain ⟨i, _, e⟩ := bind_ok e
      exact slL_list e
  | .tup es k pos, X, G, L, S, ft, sc, V, h => by
      simp only [E.ok, Bool.and_eq_true, decide_eq_true_eq] at h
      exact snd_s (d_tup V.C (fun ρ ds e => by rw [es_len es ρ ds e]; unfold big; omega) ((es_ok es V h.1.1).s h.1.2)) rfl fun w _ => t_val w fun _ => rfl
  | .lst es pos, X, G, L, S, ft, sc, V, h => by
      simp only [E.ok, Bool.and_eq_true, decide_eq_true_eq] at h
      refine snd_f V.C (d_lst V.C (fun ρ ds e => by rw [es_len es ρ ds e]; unfold big; omega) ((es_ok es V h.1.1).s h.1.2)) (fun ρ d e => ?_) fun w _ => t_val w fun _ => rfl
      obtain ⟨x, _, e⟩ := bind_ok e
      cases e
      exact ⟨_, rfl⟩
  | .call f x p e es pos, X, G, L, S, ft, sc, V, h => by
      simp only [E.ok, Bool.and_eq_true, decide_eq_true_eq] at h
      obtain ⟨⟨⟨⟨⟨⟨h1, h2⟩, h3⟩, h4⟩, h5⟩, h6⟩, h7⟩ := h
      exact snd_s (d_call V.C (V.fn f x _ h7) (V.glob h5) (by rw [List.length_cons, py_len]) (dbB_iff h6) (a_cons V.C ((e_ok e V h1).s h3) ((es_ok es V h2).s h4) (star1 _ _ _)) (fun ρ ds e' => es_len (.cons e es) ρ ds e') (star1 _ _ _) (star_no _ _ _)) rfl fun w _ => t_val w fun _ => rfl
  | .rep es p1 b pos, X, G, L, S, ft, sc, V, h => by
      simp only [E.ok, Bool.and_eq_true, decide_eq_true_eq] at h
      refine snd_f V.C (f_rep V.C ((es_ok es V h.1.1.1).s h.1.1.2) (fun ρ ds e => by rw [es_len es ρ ds e]; exact h.1.2) (e_ok b V h.2).w) (fun ρ d e => ?_) fun w _ => t_val w fun _ => rfl
      obtain ⟨x, _, e⟩ := bind_ok e
      obtain ⟨y, _, e⟩ := bind_ok e
      obtain ⟨i, _, e⟩ := bind_ok e
      exact repL_list e
  | .ccall js p1 b p2 e es pos, X, G, L, S, ft, sc, V, h => by
      simp only [E.ok, Bool.and_eq_true, decide_eq_true_eq, List.all_eq_true] at h
      obtain ⟨⟨⟨⟨⟨⟨h1, h2⟩, h3⟩, h4⟩, h5⟩, h6⟩, h7⟩ := h
      exact snd_s (d_ccall V.C (fun p hp => ⟨V.fn p.1 p.2.1 _ (h7 p hp).1.1, V.glob (h7 p hp).1.2, dbB_iff (h7 p hp).2⟩) h6 (e_ok b V h1).w (plain1 b) (by rw [List.length_cons, py_len]) (a_cons V.C ((e_ok e V h2).s h4) ((es_ok es V h3).s h5) (star1 _ _ _)) (fun ρ ds e' => es_len (.cons e es) ρ ds e') (star1 _ _ _) (star_no _ _ _)) rfl fun w _ => t_val w fun _ => rfl
  | .prim q p e es pos, X, G, L, S, ft, sc, V, h => by
      simp only [E.ok, Bool.and_eq_true] at h
      obtain ⟨⟨h1, h2⟩, h3⟩ := h
      obtain ⟨g1, g2⟩ := V.blt h3
      have ha := a_consW V.C (e_ok e V h1).w (es_ok es V h2).w (star1 _ _ _)
      have hq : PE X (.Call (.Name q.nm p) (e.py :: es.py) [] pos) (tS G (appE q.F (consArg (e.den ft) (es.den ft)))) := by
        cases q
        · exact d_blt V.C (V.C.K ▸ call_len) says_len g1 g2 (by decide +kernel) (by decide +kernel) (by decide +kernel) ha (star1 _ _ _) (star_no _ _ es)
        · exact d_blt V.C (V.C.K ▸ cr_all V.C.calm) says_all g1 g2 (by decide +kernel) (by decide +kernel) (by decide +kernel) ha (star1 _ _ _) (star_no _ _ es)
        · exact d_blt V.C (V.C.K ▸ cr_any V.C.calm) says_any g1 g2 (by decide +kernel) (by decide +kernel) (by decide +kernel) ha (star1 _ _ _) (star_no _ _ es)
        · exact d_blt V.C (V.C.K ▸ cr_maxA V.C.calm) says_max g1 g2 (by decide +kernel) (by decide +kernel) (by decide +kernel) ha (star1 _ _ _) (star_no _ _ es)
        · exact d_blt V.C (V.C.K ▸ cr_minA V.C.calm) says_min g1 g2 (by decide +kernel) (by decide +kernel) (by decide +kernel) ha (star1 _ _ _) (star_no _ _ es)
        · exact d_bty V.C (V.C.K ▸ call_tuple_of) says_tuple g1 g2 (by decide +kernel) (by decide +kernel) (by decide +kernel) ha (star1 _ _ _) (star_no _ _ es)
        · exact d_bty V.C (V.C.K ▸ call_list_of) says_list g1 g2 (by decide +kernel) (by decide +kernel) (by decide +kernel) ha (star1 _ _ _) (star_no _ _ es)
        · exact d_blt V.C (V.C.K ▸ cr_sorted) says_sorted g1 g2 (by decide +kernel) (by decide +kernel) (by decide +kernel) ha (star1 _ _ _) (star_no _ _ es)
      exact snd_s hq rfl fun w _ => t_val w fun _ => rfl
  | .isi T a p1 p2 pos, X, G, L, S, ft, sc, V, h => by
      simp only [E.ok, Bool.and_eq_true] at h
      obtain ⟨⟨h1, h2⟩, h3⟩ := h
      obtain ⟨g1, g2⟩ := V.blt h2
      obtain ⟨g3, g4⟩ := V.blt h3
      have hq : PE X (.Call (.Name "isinstance" p1) [a.py, .Name (Str.ofString T.nm) p2] [] pos) (tS G (isiE T (a.den ft))) :=
        d_isi V.C (e_ok a V h1).w g1 g2 g3 g4 (by cases T <;> decide +kernel) (by cases T <;> decide +kernel) (by cases T <;> decide +kernel) (star1 a _ _)
      exact snd_s hq rfl fun w _ => t_val w fun _ => rfl
  | .lrng1 a p p1 p2 pos, X, G, L, S, ft, sc, V, h => by
      simp only [E.ok, Bool.and_eq_true] at h
      obtain ⟨⟨h1, h2⟩, h3⟩ := h
      obtain ⟨g1, g2⟩ := V.blt h2
      obtain ⟨g3, g4⟩ := V.blt h3
      refine snd_f V.C (d_lrng1 V.C V.C.calm g1 g2 g3 g4 (e_ok a V h1).w (star1 a _ _) rfl) (fun ρ d e => ?_) fun w _ => t_val w fun _ => rfl
      obtain ⟨x, _, e⟩ := bind_ok e
      cases e
      exact ⟨_, rfl⟩
  | .trng1 a p p1 p2 pos, X, G, L, S, ft, sc, V, h => by
      simp only [E.ok, Bool.and_eq_true] at h
      obtain ⟨⟨h1, h2⟩, h3⟩ := h
      obtain ⟨g1, g2⟩ := V.blt h2
      obtain ⟨g3, g4⟩ := V.blt h3
      exact snd_s (d_trng1 V.C V.C.calm g1 g2 g3 g4 (e_ok a V h1).w (star1 a _ _) rfl) rfl fun w _ => t_val w fun _ => rfl
  | .lrng2 a b p p1 p2 pos, X, G, L, S, ft, sc, V, h => by
      simp only [E.ok, Bool.and_eq_true] at h
      obtain ⟨⟨⟨h1, h1'⟩, h2⟩, h3⟩ := h
      obtain ⟨g1, g2⟩ := V.blt h2
      obtain ⟨g3, g4⟩ := V.blt h3
      refine snd_f V.C (d_lrng2 V.C V.C.calm g1 g2 g3 g4 (e_ok a V h1).w (e_ok b V h1').w (star1 a _ _) (star1 b _ _) rfl) (fun ρ d e => ?_) fun w _ => t_val w fun _ => rfl
      obtain ⟨x, _, e⟩ := bind_ok e
      cases e
      exact ⟨_, rfl⟩
  | .comp elt tg it ifs scope own pos, X, G, L, S, ft, sc, V, h => by
      simp only [E.ok, Bool.and_eq_true, decide_eq_true_eq] at h
      obtain ⟨⟨⟨⟨⟨⟨⟨⟨h0, h1⟩, h2⟩, h3⟩, h4⟩, h5⟩, h6⟩, h7⟩, h8⟩ := h
      refine snd_f V.C (d_comp V.C ((i_ok it V h1).w _ h0) (by rw [V.N, V.sc]; exact blkOk_by h2) (fun s H Cc cl fp => let V' := V.noE (scope := scope) (s := s) (H := H) (Cc := Cc) (cl := cl) (fp := fp); tg_ok V'.C.K V'.N V'.C.nd V'.C.calm V'.sc V'.own sto_blk tg h3 h4) (fun s H Cc cl fp => ?_) (fun s H Cc cl fp => (e_ok elt V.noE h7).s h8) (fold1 it _)) (fun ρ d e => compE_list ρ d e) fun w _ => t_val w fun _ => rfl
      cases ifs with
      | nil => exact p_nil V.C.K
      | cons e1 r =>
        cases r with
        | nil =>
          simp only [Es.ok, Bool.and_true] at h5
          exact p_one ((e_ok e1 V.noE h5).t h6)
        | cons e2 r => cases h6
  | .comp2 elt tg it tg1 it1 ifs scope own pos, X, G, L, S, ft, sc, V, h => by
      simp only [E.ok, Bool.and_eq_true, decide_eq_true_eq] at h
      obtain ⟨⟨⟨⟨⟨⟨⟨⟨⟨⟨⟨⟨⟨h0, h01⟩, h1⟩, h2⟩, h3⟩, h4⟩, g1⟩, g2⟩, g3⟩, g4⟩, h5⟩, h6⟩, h7⟩, h8⟩ := h
      refine snd_f V.C (d_comp2 V.C ((i_ok it V h1).w _ h0) (by rw [V.N, V.sc]; exact blkOk_by h2) g4
        (fun O0 s H Cc cl fp => let V' := V.wO O0 (scope := scope) (s := s) (H := H) (Cc := Cc) (cl := cl) (fp := fp); tg_ok V'.C.K V'.N V'.C.nd V'.C.calm V'.sc V'.own sto_blk tg h3 h4)
        (fun O0 s H Cc cl fp => (i_ok it1 (V.wO O0) g1).s g2 _ h01)
        (fun O0 s H Cc cl fp => let V' := V.wO O0 (scope := scope) (s := s) (H := H) (Cc := Cc) (cl := cl) (fp := fp); tg_ok V'.C.K V'.N V'.C.nd V'.C.calm V'.sc V'.own sto_blk tg1 g3 fun i hi => hi)
        (fun O0 s H Cc cl fp => ?_) (fun O0 s H Cc cl fp => (e_ok elt (V.wO O0) h7).s h8) (fold1 it _) (fun env => fold1 it1 env)) (fun ρ d e => compE2_list ρ d e) fun w _ => t_val w fun _ => rfl
      cases ifs with
      | nil => exact p_nil V.C.K
      | cons e1 r =>
        cases r with
        | nil =>
          simp only [Es.ok, Bool.and_true] at h5
          exact p_one ((e_ok e1 (V.wO O0) h5).t h6)
        | cons e2 r => cases h6
theorem ands_ok : ∀ (es : Es) {X : Cx} {G : Gc} {L : Nat} {S : Sg} {ft : Tb} {sc : Scope}, Env1 X G L S ft sc → es.ok S sc = true → es.strs S = true → es.tsts = true → ∀ (pos : Pos) (a : E), PE X a.py (tW G (a.den ft)) → PE X a.py (tS G (a.den ft)) → PT X a.py (tTst G (tstE (a.den ft))) →
    PE X (.BoolOp .And (a.py :: es.py) pos) (tS G (es.andD ft (a.den ft))) ∧ PW X (.BoolOp .And (a.py :: es.py) pos) (tTst G (tstE (es.andD ft (a.den ft))))
  | .nil, X, G, L, S, ft, sc, V, _, _, _, pos, a, hw, hs, ht => ⟨d_one hs, t_and1 ht⟩
  | .cons e es, X, G, L, S, ft, sc, V, h, h2, h3, pos, a, hw, hs, ht => by
      simp only [Es.ok, Es.strs, Es.tsts, Bool.and_eq_true] at h h2 h3
      have he := e_ok e V h.1
      have key := ands_ok es V h.2 h2.2 h3.2 pos e he.w (he.s h2.1) (he.t h3.1)
      exact ⟨d_and V.C hw key.1, t_and V.C ht key.2⟩
theorem ors_ok : ∀ (es : Es) {X : Cx} {G : Gc} {L : Nat} {S : Sg} {ft : Tb} {sc : Scope}, Env1 X G L S ft sc → es.ok S sc = true → es.strs S = true → es.tsts = true → ∀ (pos : Pos) (a : E), PE X a.py (tW G (a.den ft)) → PE X a.py (tS G (a.den ft)) → PT X a.py (tTst G (tstE (a.den ft))) →
    PE X (.BoolOp .Or (a.py :: es.py) pos) (tS G (es.orD ft (a.den ft))) ∧ PW X (.BoolOp .Or (a.py :: es.py) pos) (tTst G (tstE (es.orD ft (a.den ft))))
  | .nil, X, G, L, S, ft, sc, V, _, _, _, pos, a, hw, hs, ht => ⟨d_one hs, t_or1 ht⟩
  | .cons e es, X, G, L, S, ft, sc, V, h, h2, h3, pos, a, hw, hs, ht => by
      simp only [Es.ok, Es.strs, Es.tsts, Bool.and_eq_true] at h h2 h3
      have he := e_ok e V h.1
      have key := ors_ok es V h.2 h2.2 h3.2 pos e he.w (he.s h2.1) (he.t h3.1)
      exact ⟨d_or V.C hw key.1, t_or V.C ht key.2⟩
theorem es_ok : ∀ (es : Es) {X : Cx} {G : Gc} {L : Nat} {S : Sg} {ft : Tb} {sc : Scope}, Env1 X G L S ft sc → es.ok S sc = true → SndEs X G S ft es
  | .nil, X, G, L, S, ft, sc, V, h => ⟨a_nilW V.C, fun _ => a_nil V.C⟩
  | .cons e es, X, G, L, S, ft, sc, V, h => by
      simp only [Es.ok, Bool.and_eq_true] at h
      refine ⟨a_consW V.C (e_ok e V h.1).w (es_ok es V h.2).w (star1 _ _ _), fun hs => ?_⟩
      simp only [Es.strs, Bool.and_eq_true] at hs
      exact a_cons V.C ((e_ok e V h.1).s hs.1) ((es_ok es V h.2).s hs.2) (star1 _ _ _)
theorem i_ok : ∀ (it : I) {X : Cx} {G : Gc} {L : Nat} {S : Sg} {ft : Tb} {sc : Scope}, Env1 X G L S ft sc → it.ok S sc = true → SndI X G S ft it
  | .seq e, X, G, L, S, ft, sc, V, h => ⟨fun tg _ => i_seqW V.C (e_ok e V h).w, fun hs tg _ => i_seqS V.C ((e_ok e V h).s hs)⟩
  | .rng1 a p pos, X, G, L, S, ft, sc, V, h => by
      simp only [I.ok, Bool.and_eq_true] at h
      obtain ⟨h1, h2⟩ := V.blt h.2
      have key : ∀ wk (tg : Tg), PI X tg.py (I.rng1 a p pos).py (tIt G wk ((I.rng1 a p pos).den ft)) := fun wk tg => i_rng1 V.C h1 (V.C.blt _ h2) (a_consW V.C (e_ok a V h.1).w (a_nilW V.C) (star1 a Es.nil.py _)) (star1 a Es.nil.py _)
      exact ⟨fun tg _ => key _ tg, fun _ tg _ => key _ tg⟩
  | .rng2 a b p pos, X, G, L, S, ft, sc, V, h => by
      simp only [I.ok, Bool.and_eq_true] at h
      obtain ⟨h1, h2⟩ := V.blt h.2
      have sb := star1 b Es.nil.py X.env
      have sa : starEach [a.py, b.py] X.env = [(false, eval a.py X.env), (false, eval b.py X.env)] := (star1 a (Es.cons b .nil).py _).trans (by exact congrArg (_ :: ·) sb)
      have key : ∀ wk (tg : Tg), PI X tg.py (I.rng2 a b p pos).py (tIt G wk ((I.rng2 a b p pos).den ft)) := fun wk tg => i_rng2 V.C h1 (V.C.blt _ h2) (a_consW V.C (e_ok a V h.1.1).w (a_consW V.C (e_ok b V h.1.2).w (a_nilW V.C) sb) (star1 a (Es.cons b .nil).py _)) sa sb
      exact ⟨fun tg _ => key _ tg, fun _ tg _ => key _ tg⟩
  | .enu a p pos, X, G, L, S, ft, sc, V, h => by
      simp only [I.ok, Bool.and_eq_true] at h
      obtain ⟨h1, h2⟩ := V.blt h.1.2
      have key : ∀ (tg : Tg), (I.enu a p pos).tgB tg = true → PI X tg.py (I.enu a p pos).py (tIt G false ((I.enu a p pos).den ft)) := fun tg ht => by
        cases tg with
        | nm => cases ht
        | tp items k pos => exact i_enumS V.C h1 h2 ((e_ok a V h.1.1).s h.2) (star1 a Es.nil.py _)
      exact ⟨fun tg ht => i_less (key tg ht), fun _ tg ht => key tg ht⟩
end
end Den
namespace Den
open PySem PySem.Spec PyProof.Rows L2
def bkd (sc : Scope) : ScopeKind := if sc.kind.isAnnotationScope then .function else sc.kind
def swP (sc : Scope) (ts vs : List Expr) : Option (Option (List Str)) :=
  if (!(ts.length == 2 || ts.length == 3) || vs.length != ts.length || bkd sc != .function) = true then some none
  else if (vs.any fun | .Starred .. => true | _ => false) = true then some none
  else
  let line := (ts.head?.map (·.pos.line)).getD 0
  let names := ts.filterMap fun
    | .Name id pos => if sc.names.lookup id == some .local && pos.line == line then some id else none
    | _ => none
  if (names.length != ts.length || names.eraseDups.length != names.length) = true then some none
  else if vs.all (foldedForSure 8) = true then some none
  else if vs.all (constantsAlone 8) = true then none
  else some (some names)
theorem swP_ok {env : Env} {ts vs : List Expr} {k k2 : Nat} {p p2 : Pos} {r : Option (List Str)} (h : swP env.scope ts vs = some r) : swappedStores [.Tuple ts k p] (.Tuple vs k2 p2) env = pure r := by
  unfold swP at h
  unfold swappedStores
  dsimp only
  have e1 : env.blockKind = bkd env.scope := rfl
  have e2 : ∀ x, env.kindOf x = env.scope.names.lookup x := fun _ => rfl
  simp only [e1, e2]
  split at h
  · rename_i h1; refine Eq.trans (if_pos h1) ?_; cases h; rfl
  · rename_i h1; refine Eq.trans (if_neg h1) ?_
    split at h
    · rename_i h2; refine Eq.trans (if_pos h2) ?_; cases h; rfl
    · rename_i h2; refine Eq.trans (if_neg h2) ?_
      dsimp only at h
      split at h
      · rename_i h3; refine Eq.trans (if_pos h3) ?_; cases h; rfl
      · rename_i h3; refine Eq.trans (if_neg h3) ?_
        split at h
        · rename_i h4; refine Eq.trans (if_pos h4) ?_; cases h; rfl
        · rename_i h4; refine Eq.trans (if_neg h4) ?_
          split at h
          · cases h
          · rename_i h5; refine Eq.trans (if_neg h5) ?_; cases h; rfl
def scpE : E → Option Scope
  | .comp _ _ _ _ s _ _ => some s
  | .comp2 _ _ _ _ _ _ s _ _ => some s
  | _ => none
def swW (sc : Scope) (t : Str) (pos : Pos) (e : E) : Bool := match scpE e with
  | none => false
  | some s => bkd sc == .function && sc.names.lookup t == some .local && pos.line == e.py.pos.line && !(s.names.any fun (n, k) => n == t && (k == .local || k == .cell))
theorem swW_ok {env : Env} {t : Str} {pos : Pos} {line : Nat} : ∀ e : E, swapsWith e.py (some (.Name t pos)) line env = pure (swW env.scope t pos e) := fun e => by
  cases e <;> rfl
theorem swT_ok {env : Env} {ts : List Expr} {k : Nat} {p : Pos} {line : Nat} (e : E) : swapsWithSole [.Tuple ts k p] e.py line env = pure false := by
  cases e <;> rfl
theorem swN_ok {env : Env} {line : Nat} (e : E) (h : scpE e = none) : swapsWith e.py none line env = pure false := by
  cases e <;> first | rfl | cases h
def tupB : E → Bool | .tup .. => true | _ => false
theorem swS_ok {env : Env} {ts : List Expr} {k : Nat} {p : Pos} (e : E) (h : tupB e = false) : swappedStores [.Tuple ts k p] e.py env = pure none := by
  cases e <;> first | rfl | cases h
mutual
inductive S where
  | ret (e : E) (pos : Pos)
  | retO (i : Nat) (x : Str) (p pos : Pos)
  | retN (pos : Pos)
  | iff (c : E) (A B : Ss) (pos : Pos)
  | expr (e : E) (pos : Pos)
  | set (i : Nat) (x : Str) (px : Pos) (e : E) (pos : Pos)
  | mov (i : Nat) (x : Str) (px : Pos) (j : Nat) (y : Str) (py pos : Pos)
  | asg (items : List (Nat × Str × Pos)) (k : Nat) (pt : Pos) (e : E) (pos : Pos)
  | par (items : List (Nat × Str × Pos)) (k : Nat) (pt : Pos) (es : Es) (k2 : Nat) (pt2 pos : Pos)
  | app (i : Nat) (x : Str) (px apos cpos : Pos) (e : E) (pos : Pos)
  | ext (i : Nat) (x : Str) (px apos cpos : Pos) (e : E) (pos : Pos)
  | brk (pos : Pos)
  | cnt (pos : Pos)
  | pas (pos : Pos)
  | for (tg : Tg) (it : I) (A : Ss) (pos : Pos)
  | whl (n : Nat) (c : E) (A : Ss) (pos : Pos)
  | tryI (A : Ss) (i : Nat) (n : Str) (xs : List (Str × Isp)) (np lp ap : Pos) (jk : Nat) (cp2 cp rp hpos pos : Pos)
  | rse (c : Nat) (x : Str) (p : Pos) (m : Str) (k : Nat) (p2 pos pos' : Pos)
inductive Ss where
  | nil
  | cons (s : S) (ss : Ss)
end
mutual
def S.py : S → Stmt
  | .ret e pos => .Return (some e.py) pos
  | .retO _ x p pos => .Return (some (.Name x p)) pos
  | .retN pos => .Return none pos
  | .iff c A B pos => .If c.py A.py B.py pos
  | .expr e pos => .Expr e.py pos
  | .set _ x px e pos => .Assign [.Name x px] e.py pos
  | .mov _ x px _ y py pos => .Assign [.Name x px] (.Name y py) pos
  | .asg items k pt e pos => .Assign [.Tuple (tgNames items) k pt] e.py pos
  | .par items k pt es k2 pt2 pos => .Assign [.Tuple (tgNames items) k pt] (.Tuple es.py k2 pt2) pos
  | .app _ x px apos cpos e pos => .Expr (.Call (.Attribute (.Name x px) "append" apos) [e.py] [] cpos) pos
  | .ext _ x px apos cpos e pos => .Expr (.Call (.Attribute (.Name x px) "extend" apos) [e.py] [] cpos) pos
  | .brk pos => .Break pos
  | .cnt pos => .Continue pos
  | .pas pos => .Pass pos
  | .for tg it A pos => .For tg.py it.py A.py [] pos
  | .whl _ c A pos => .While c.py A.py [] pos
  | .tryI A _ n xs np lp ap jk cp2 cp rp hpos pos => .Try A.py [.ExceptHandler (some (.Name "PanelError" np)) (some n) [.Return (some (.Call (.Attribute (.List (issE n xs) lp) "index" ap) [.Constant (.bool true) jk cp2] [] cp)) rp] hpos] [] [] pos
  | .rse _ x p m k p2 pos pos' => .Raise (some (.Call (.Name x p) [.Constant (.str m) k p2] [] pos)) none pos'
def Ss.py : Ss → List Stmt
  | .nil => []
  | .cons s ss => s.py :: ss.py
end
mutual
def S.den (ft : Tb) : S → DS
  | .ret e _ => retS (e.den ft)
  | .retO i _ _ _ => retS (vaR i)
  | .retN _ => retN
  | .iff c A B _ => iteS (c.den ft) (A.den ft) (B.den ft)
  | .expr e _ => exprS (e.den ft)
  | .set i _ _ e _ => asgS [i] (consArg (e.den ft) noArg)
  | .mov i _ _ j _ _ _ => movS i j
  | .asg items _ _ e _ => asgT (setT (items.map (·.1))) (e.den ft)
  | .par items _ _ es _ _ _ => asgS (items.map (·.1)) (es.den ft)
  | .app i _ _ _ _ e _ => appS i (e.den ft)
  | .ext i _ _ _ _ e _ => extS i (e.den ft)
  | .brk _ => bkS
  | .cnt _ => ctS
  | .pas _ => nxS
  | .for tg it A _ => forS (it.den ft) tg.st (A.den ft)
  | .whl n c A _ => whlL (c.den ft) (A.den ft) n
  | .tryI A _ _ xs _ _ _ _ _ _ _ _ _ => tryD xs.length (A.den ft)
  | .rse c _ _ _ _ _ _ _ => rsS c
def Ss.den (ft : Tb) : Ss → DS
  | .nil => nxS
  | .cons s ss => seqS (s.den ft) (ss.den ft)
end
def stoB (S : Sg) (sc : Scope) (i : Nat) (x : Str) : Bool := decide (S.N[i]? = some x) && (match sc.names.lookup x with
  | some .local => true
  | some .cell => true
  | _ => false)
def mixB (S : Sg) : List Bool → Es → Bool
  | [], .nil => true
  | b :: fl, .cons e es => (if b then e.fr else e.str S) && mixB S fl es
  | _, _ => false
def parB (S : Sg) (sc : Scope) (items : List (Nat × Str × Pos)) (es : Es) : Bool :=
  match items with
  | [a, b] => (match es with
    | .cons _ (.cons _ .nil) => decide (a.1 ≠ b.1) && decide (sc.names.lookup a.2.1 = some .local) && decide (sc.names.lookup b.2.1 = some .local) && decide (swP sc (tgNames items) es.py = some (some [a.2.1, b.2.1]))
    | _ => false)
  | [a, b, c] => (match es with
    | .cons _ (.cons _ (.cons _ .nil)) => decide (a.1 ≠ b.1) && decide (a.1 ≠ c.1) && decide (b.1 ≠ c.1) && decide (sc.names.lookup a.2.1 = some .local) && decide (sc.names.lookup b.2.1 = some .local) && decide (sc.names.lookup c.2.1 = some .local)
      && !S.own a.1 && !S.own b.1 && !S.own c.1 && decide (swP sc (tgNames items) es.py = some (some [a.2.1, b.2.1, c.2.1]))
    | _ => false)
  | _ => false
mutual
def S.ok (S : Sg) (ex : List Str) (sc : Scope) : Den.S → Bool
  | .ret e _ => e.ok S sc && e.str S
  | .retO i x _ _ => varB S sc i x
  | .retN _ => true
  | .iff c A B _ => c.ok S sc && c.tstB && A.ok S ex sc && B.ok S ex sc
  | .expr e _ => e.ok S sc && e.str S && (scpE e).isNone
  | .set i x px e _ => stoB S sc i x && e.ok S sc && (if S.own i then e.fr else e.str S)
  | .mov i x _ j y _ _ => locB S sc none i x && varB S sc j y && S.own j
  | .asg items _ _ e _ => e.ok S sc && e.str S && !tupB e && tgB S sc none (.tp items 0 default)
  | .par items _ _ es _ _ _ => es.ok S sc && mixB S (items.map fun p => S.own p.1) es && (items.all fun p => stoB S sc p.1 p.2.1) && decide (items.length ≤ 100) && (parB S sc items es || decide (swP sc (tgNames items) es.py = some none))
  | .app i x _ apos cpos e _ => varB S sc i x && S.own i && e.ok S sc && e.str S && (apos.endLine == cpos.line)
  | .ext i x _ apos cpos e _ => varB S sc i x && S.own i && e.ok S sc && e.fr && (apos.endLine == cpos.line)
  | .brk _ => true
  | .cnt _ => true
  | .pas _ => true
  | .for tg it A _ => it.tgB tg && it.ok S sc && it.strI S && tgB S sc none tg && A.ok S ex sc
  | .whl _ c A _ => c.ok S sc && c.tstB && A.ok S ex sc
  | .tryI A i n xs _ _ ap _ _ cp _ _ _ => A.ok S ex sc && decide (S.N[i]? = some n) && decide (sc.names.lookup n = some .local) && dbB n && blB S sc "isinstance" && glB sc "PanelError" && decide (xs.map (·.1) = ex) && (ex.all fun x => glB sc x && dbB x) && decide (xs.length ≤ 100) && (ap.endLine == cp.line)
  | .rse c x _ _ _ _ _ _ => glB sc x && dbB x && decide (ex[c]? = some x)
def Ss.ok (S : Sg) (ex : List Str) (sc : Scope) : Ss → Bool
  | .nil => true
  | .cons s ss => s.ok S ex sc && ss.ok S ex sc
end
end Den
namespace Den
open PySem PySem.Spec PyProof.Rows L2
structure Env2 (X : Cx) (G : Gc) (L : Nat) (S : Sg) (ex : List Str) (ft : Tb) (sc : Scope) : Prop extends Env1 X G L S ft sc where
  SC : SCtx X G L S.bl
  tk : Takes X (fun cls d _ H => G.E cls d H)
  tm : TryM X.K X.mg G.cl ex
  ex : ∀ c x, ex[c]? = some x → ExC X G.cl c x
  st : X.stack = X.env :: X.outer
  fr : X.env.frame = some X.env.locals
section
variable {X : Cx} {G : Gc} {L : Nat} {S : Sg} {ex : List Str} {ft : Tb} {sc : Scope}
theorem sto_ok (V : Env1 X G L S ft sc) {i : Nat} {x : Str} (h : stoB S sc i x = true) : X.N[i]? = some x ∧ Loc X.env.scope x := by
  unfold stoB at h
  simp only [Bool.and_eq_true, decide_eq_true_eq] at h
  refine ⟨by rw [V.N]; exact h.1, ?_⟩
  rw [V.sc]
  have h2 := h.2
  split at h2 <;> first | exact .inl (by assumption) | exact .inr (by assumption) | cases h2
theorem mix_ok (V : Env1 X G L S ft sc) : ∀ (fl : List Bool) (es : Es), es.ok S sc = true → mixB S fl es = true → PA X es.py (tMix G fl (es.den ft))
  | [], .nil, _, _ => m_nil V.C
  | b :: fl, .cons e es, h, h2 => by
    simp only [Es.ok, Bool.and_eq_true] at h
    unfold mixB at h2
    rw [Bool.and_eq_true] at h2
    have he := e_ok e V h.1
    have hr := mix_ok V fl es h.2 h2.2
    cases b with
    | false => exact m_consS V.C (he.s h2.1) hr (star1 _ _ _)
    | true => exact m_consF V.C (he.f h2.1).1 (he.f h2.1).2 hr (star1 _ _ _)
  | [], .cons _ _, _, h2 => by cases h2
  | _ :: _, .nil, _, h2 => by cases h2
theorem gnames_ok (V : Env2 X G L S ex ft sc) : ∀ items : List (Nat × Str × Pos), (items.all fun p => stoB S sc p.1 p.2.1) = true → PGs X (tgNames items) (gNames (items.map (·.1)))
  | [], _ => gn_nil
  | (i, x, p) :: r, h => by
    rw [List.all_cons, Bool.and_eq_true] at h
    obtain ⟨h1, h2⟩ := sto_ok V.toEnv1 h.1
    exact gn_cons V.SC h1 h2 (gnames_ok V r h.2)
theorem par_ok (V : Env2 X G L S ex ft sc) {items : List (Nat × Str × Pos)} {es : Es} {k k2 : Nat} {pt pt2 pos : Pos} (h1 : es.ok S sc = true) (h2 : mixB S (items.map fun p => S.own p.1) es = true) (h3 : (items.all fun p => stoB S sc p.1 p.2.1) = true) (h4 : items.length ≤ 100)
    (h5 : parB S sc items es = true ∨ swP sc (tgNames items) es.py = some none) : PS X (.Assign [.Tuple (tgNames items) k pt] (.Tuple es.py k2 pt2) pos) (tSS G (asgS (items.map (·.1)) (es.den ft))) := by
  have ha := mix_ok V.toEnv1 _ es h1 h2
  have hsole : swapsWithSole [.Tuple (tgNames items) k pt] (.Tuple es.py k2 pt2) pos.line X.env = pure false := swT_ok (.tup es k2 pt2)
  rcases h5 with h5 | h5
  · unfold parB at h5
    split at h5
    · rename_i a b
      split at h5
      · rename_i e1 e2
        simp only [Bool.and_eq_true, decide_eq_true_eq] at h5
        obtain ⟨⟨⟨g1, g2⟩, g3⟩, g4⟩ := h5
        simp only [List.all_cons, Bool.and_eq_true] at h3
        have hl : ∀ ρ ds, (Es.cons e1 (.cons e2 .nil)).den ft ρ = .ok ds → ds.length = 2 := fun ρ ds e => es_len _ ρ ds e
        have hw : swappedStores [.Tuple (tgNames [a, b]) k pt] (.Tuple (Es.cons e1 (.cons e2 .nil)).py k2 pt2) X.env = pure (some [a.2.1, b.2.1]) := swP_ok (by rw [V.sc]; exact g4)
        have hm : [a, b].map (fun p => S.own p.1) = [a.1, b.1].map G.own := by rw [V.own]; rfl
        rw [hm] at ha
        exact s_par2 V.SC (sto_ok V.toEnv1 h3.1).1 (sto_ok V.toEnv1 h3.2.1).1 g1 (by rw [V.sc]; exact g2) (by rw [V.sc]; exact g3) ha hl hw hsole
      · cases h5
    · rename_i a b c
      split at h5
      · rename_i e1 e2 e3
        simp only [Bool.and_eq_true, decide_eq_true_eq, Bool.not_eq_true'] at h5
        obtain ⟨⟨⟨⟨⟨⟨⟨⟨⟨g1, g2⟩, g3⟩, g4⟩, g5⟩, g6⟩, g7⟩, g8⟩, g9⟩, g10⟩ := h5
        simp only [List.all_cons, Bool.and_eq_true] at h3
        have hl : ∀ ρ ds, (Es.cons e1 (.cons e2 (.cons e3 .nil))).den ft ρ = .ok ds → ds.length = 3 := fun ρ ds e => es_len _ ρ ds e
        have hw : swappedStores [.Tuple (tgNames [a, b, c]) k pt] (.Tuple (Es.cons e1 (.cons e2 (.cons e3 .nil))).py k2 pt2) X.env = pure (some [a.2.1, b.2.1, c.2.1]) := swP_ok (by rw [V.sc]; exact g10)
        have hm : [a, b, c].map (fun p => S.own p.1) = [false, false, false] := by simp [g7, g8, g9]
        have hm2 : [a.1, b.1, c.1].map G.own = [false, false, false] := by rw [V.own]; simp [g7, g8, g9]
        rw [hm] at ha
        exact s_par3 V.SC (sto_ok V.toEnv1 h3.1).1 (sto_ok V.toEnv1 h3.2.1).1 (sto_ok V.toEnv1 h3.2.2.1).1 g1 g2 g3 (by rw [V.sc]; exact g4) (by rw [V.sc]; exact g5) (by rw [V.sc]; exact g6) ha hm2 hl hw hsole
      · cases h5
    · cases h5
  · have hm : items.map (fun p => S.own p.1) = (items.map (·.1)).map G.own := by rw [V.own, List.map_map]; rfl
    rw [hm] at ha
    exact s_tup V.SC (gnames_ok V items h3) ha (by rw [List.length_map]; unfold big; omega) (by rw [names_len]; simp) (names_star _ _) hsole (swP_ok (by rw [V.sc]; exact h5)) rfl
theorem set_ok (V : Env2 X G L S ex ft sc) {i : Nat} {x : Str} {px pos : Pos} {e : E} (h1 : stoB S sc i x = true) (h2 : e.ok S sc = true) (h3 : (if S.own i = true then e.fr else e.str S) = true) : PS X (.Assign [.Name x px] e.py pos) (tSS G (asgS [i] (consArg (e.den ft) noArg))) := by
  obtain ⟨g1, g2⟩ := sto_ok V.toEnv1 h1
  have he := e_ok e V.toEnv1 h2
  have hsw := swW_ok (env := X.env) (t := x) (pos := px) (line := pos.line) e
  cases hb : swW X.env.scope x px e with
  | false =>
    rw [hb] at hsw
    cases hw : S.own i with
    | false =>
      rw [if_neg (by rw [hw]; decide)] at h3
      exact s_set V.SC g1 g2 (he.s h3) (by rw [V.own]; exact hw) hsw
    | true =>
      rw [if_pos hw] at h3
      exact s_setO V.SC g1 g2 (he.f h3).1 (by rw [V.own]; exact hw) hsw
  | true =>
    rw [hb] at hsw
    unfold swW at hb
    split at hb
    · cases hb
    · rename_i s hs
      simp only [Bool.and_eq_true] at hb
      have hloc : X.env.scope.names.lookup x = some .local := by simpa using hb.1.1.2
      cases e with
      | comp elt tg it ifs scope own pos' =>
        simp only [E.ok, Bool.and_eq_true, decide_eq_true_eq] at h2
        obtain ⟨⟨⟨⟨⟨⟨⟨⟨h0, h1⟩, h2⟩, h3⟩, h4⟩, h5⟩, h6⟩, h7⟩, h8⟩ := h2
        refine s_setLc V.SC g1 hloc hsw ((i_ok it V.toEnv1 h1).w _ h0) (by rw [V.N, V.sc]; exact blkOk_by h2) (fun s H Cc cl fp => let V' := V.toEnv1.noE (scope := scope) (s := s) (H := H) (Cc := Cc) (cl := cl) (fp := fp); tg_ok V'.C.K V'.N V'.C.nd V'.C.calm V'.sc V'.own sto_blk tg h3 h4) (fun s H Cc cl fp => ?_) (fun s H Cc cl fp => (e_ok elt V.toEnv1.noE h7).s h8) (fold1 it _) (fun ρ d e => compE_list ρ d e)
        cases ifs with
        | nil => exact p_nil V.C.K
        | cons e1 r =>
          cases r with
          | nil =>
            simp only [Es.ok, Bool.and_true] at h5
            exact p_one ((e_ok e1 V.toEnv1.noE h5).t h6)
          | cons e2 r => cases h6
      | comp2 elt tg it tg1 it1 ifs scope own pos' =>
        simp only [E.ok, Bool.and_eq_true, decide_eq_true_eq] at h2
        obtain ⟨⟨⟨⟨⟨⟨⟨⟨⟨⟨⟨⟨⟨h0, h01⟩, h1⟩, h2⟩, h3⟩, h4⟩, g1'⟩, g2'⟩, g3⟩, g4⟩, h5⟩, h6⟩, h7⟩, h8⟩ := h2
        refine s_setLc2 V.SC g1 hloc hsw ((i_ok it V.toEnv1 h1).w _ h0) (by rw [V.N, V.sc]; exact blkOk_by h2) g4
          (fun O0 s H Cc cl fp => let V' := V.toEnv1.wO O0 (scope := scope) (s := s) (H := H) (Cc := Cc) (cl := cl) (fp := fp); tg_ok V'.C.K V'.N V'.C.nd V'.C.calm V'.sc V'.own sto_blk tg h3 h4)
          (fun O0 s H Cc cl fp => (i_ok it1 (V.toEnv1.wO O0) g1').s g2' _ h01)
          (fun O0 s H Cc cl fp => let V' := V.toEnv1.wO O0 (scope := scope) (s := s) (H := H) (Cc := Cc) (cl := cl) (fp := fp); tg_ok V'.C.K V'.N V'.C.nd V'.C.calm V'.sc V'.own sto_blk tg1 g3 fun i hi => hi)
          (fun O0 s H Cc cl fp => ?_) (fun O0 s H Cc cl fp => (e_ok elt (V.toEnv1.wO O0) h7).s h8) (fold1 it _) (fun env => fold1 it1 env) (fun ρ d e => compE2_list ρ d e)
        cases ifs with
        | nil => exact p_nil V.C.K
        | cons e1 r =>
          cases r with
          | nil =>
            simp only [Es.ok, Bool.and_true] at h5
            exact p_one ((e_ok e1 (V.toEnv1.wO O0) h5).t h6)
          | cons e2 r => cases h6
      | _ => cases hs
end
mutual
theorem s_ok : ∀ (st : S) {X : Cx} {G : Gc} {L : Nat} {S : Sg} {ex : List Str} {ft : Tb} {sc : Scope}, Env2 X G L S ex ft sc → st.ok S ex sc = true → PS X st.py (tSS G (st.den ft))
  | .ret e pos, X, G, L, S, ex, ft, sc, V, h => by
      simp only [Den.S.ok, Bool.and_eq_true] at h
      exact s_ret ((e_ok e V.toEnv1 h.1).s h.2)
  | .retO i x p pos, X, G, L, S, ex, ft, sc, V, h => by
      obtain ⟨h1, h2, h3, h4⟩ := V.vis h
      exact s_retO V.C h1 h2 h3 h4
  | .retN pos, X, G, L, S, ex, ft, sc, V, h => s_retN V.C
  | .iff c A B pos, X, G, L, S, ex, ft, sc, V, h => by
      simp only [Den.S.ok, Bool.and_eq_true] at h
      exact s_if ((e_ok c V.toEnv1 h.1.1.1).t h.1.1.2) (ss_ok A V h.1.2) (ss_ok B V h.2)
  | .expr e pos, X, G, L, S, ex, ft, sc, V, h => by
      simp only [Den.S.ok, Bool.and_eq_true] at h
      exact s_expr ((e_ok e V.toEnv1 h.1.1).s h.1.2) (swN_ok e (by simpa using h.2))
  | .set i x px e pos, X, G, L, S, ex, ft, sc, V, h => by
      simp only [Den.S.ok, Bool.and_eq_true] at h
      exact set_ok V h.1.1 h.1.2 h.2
  | .mov i x px j y py pos, X, G, L, S, ex, ft, sc, V, h => by
      simp only [Den.S.ok, Bool.and_eq_true] at h
      obtain ⟨h1, h2, h3, h4⟩ := V.vis h.1.2
      obtain ⟨g1, g2, g3, g4⟩ := loc_ok (bs := none) V.sc V.SC.fn h.1.1
      exact s_mov V.SC (by rw [V.N]; exact g1) g3 h1 h2 h3 h4 (by rw [V.own]; exact g2) (by rw [V.own]; exact h.2)
  | .asg items k pt e pos, X, G, L, S, ex, ft, sc, V, h => by
      simp only [Den.S.ok, Bool.and_eq_true, Bool.not_eq_true'] at h
      have hg := tg_ok (vs := (Tg.tp items k pt).is) V.C.K V.N V.C.nd V.C.calm V.sc V.own (bs := none) V.SC.fn (.tp items k pt) h.2 fun i hi => hi
      exact s_asg V.SC ((e_ok e V.toEnv1 h.1.1.1).s h.1.1.2) hg (swT_ok e) (swS_ok e h.1.2) rfl
  | .par items k pt es k2 pt2 pos, X, G, L, S, ex, ft, sc, V, h => by
      simp only [Den.S.ok, Bool.and_eq_true, Bool.or_eq_true, decide_eq_true_eq] at h
      exact par_ok V h.1.1.1.1 h.1.1.1.2 h.1.1.2 h.1.2 h.2
  | .app i x px apos cpos e pos, X, G, L, S, ex, ft, sc, V, h => by
      simp only [Den.S.ok, Bool.and_eq_true] at h
      obtain ⟨h1, h2, h3, h4⟩ := V.vis h.1.1.1.1
      exact s_app V.SC h1 h2 h3 h4 (by rw [V.own]; exact h.1.1.1.2) ((e_ok e V.toEnv1 h.1.1.2).s h.1.2) (star1 e [] _) h.2
  | .ext i x px apos cpos e pos, X, G, L, S, ex, ft, sc, V, h => by
      simp only [Den.S.ok, Bool.and_eq_true] at h
      obtain ⟨h1, h2, h3, h4⟩ := V.vis h.1.1.1.1
      exact s_ext V.SC h1 h2 h3 h4 (by rw [V.own]; exact h.1.1.1.2) ((e_ok e V.toEnv1 h.1.1.2).f h.1.2).1 (star1 e [] _) h.2
  | .brk pos, X, G, L, S, ex, ft, sc, V, h => s_break V.C
  | .cnt pos, X, G, L, S, ex, ft, sc, V, h => s_cont V.C
  | .pas pos, X, G, L, S, ex, ft, sc, V, h => s_pass V.C
  | .for tg it A pos, X, G, L, S, ex, ft, sc, V, h => by
      simp only [Den.S.ok, Bool.and_eq_true] at h
      have hg := tg_ok (vs := tg.is) V.C.K V.N V.C.nd V.C.calm V.sc V.own (bs := none) V.SC.fn tg h.1.2 fun i hi => hi
      exact s_for V.SC ((i_ok it V.toEnv1 h.1.1.1.2).s h.1.1.2 tg h.1.1.1.1) hg (ss_ok A V h.2) (fold1 it _)
  | .whl n c A pos, X, G, L, S, ex, ft, sc, V, h => by
      simp only [Den.S.ok, Bool.and_eq_true] at h
      exact s_while V.SC n ((e_ok c V.toEnv1 h.1.1).t h.1.2) (ss_ok A V h.2)
  | .tryI A i n xs np lp ap jk cp2 cp rp hpos pos, X, G, L, S, ex, ft, sc, V, h => by
      simp only [Den.S.ok, Bool.and_eq_true, decide_eq_true_eq, List.all_eq_true] at h
      obtain ⟨⟨⟨⟨⟨⟨⟨⟨⟨h1, h2⟩, h3⟩, h4⟩, h5⟩, h6⟩, h7⟩, h8⟩, h9⟩, h10⟩ := h
      obtain ⟨g1, g2⟩ := V.blt h5
      have h4' := h4
      unfold dbB at h4'
      simp only [Bool.and_eq_true, Bool.not_eq_true'] at h4'
      have hl : xs.length = ex.length := by rw [← h7, List.length_map]
      show PS X _ (tSS G (tryD xs.length (A.den ft)))
      rw [hl]
      refine s_tryI V.SC V.st V.fr (by rw [V.N]; exact h2) (by rw [V.sc]; exact h3) h4'.1 h4'.2 g1 g2 (V.glob h6) V.tm h7 (fun x hx => ⟨V.glob (h8 x hx).1, dbB_iff (h8 x hx).2⟩) h9 h10 V.tk fun E pn xe tk po => ?_
      have C : Ctx (X.tr pn xe) { G with E := E } L S.bl := ⟨V.C.K, passes_call tk (fun _ _ _ _ h => h), V.C.room, V.C.calm, V.C.nd, V.C.blt⟩
      exact ss_ok A (X := X.tr pn xe) (G := { G with E := E }) (L := L) (S := S) (ex := ex) (ft := ft) (sc := sc)
        { C := C, N := V.N, sc := V.sc, own := V.own, gl := V.gl, fn := fun f x n e => ⟨(V.fn f x n e).ex⟩, SC := { toCtx := C, po := po, fn := V.SC.fn }, tk := tk,
          ex := fun c x e => by
            obtain ⟨Cc, e1, e2, e3, e4, e5⟩ := (V.ex c x e).ex
            exact ⟨Cc, e1, e2, e3, e4, e5⟩
          st := V.st, fr := V.fr, tm := V.tm } h1
  | .rse c x p m k p2 pos pos', X, G, L, S, ex, ft, sc, V, h => by
      simp only [Den.S.ok, Bool.and_eq_true, decide_eq_true_eq] at h
      exact s_raise V.SC V.tk (V.ex c x h.2) (V.glob h.1.1) (dbB_iff h.1.2)
theorem ss_ok : ∀ (ss : Ss) {X : Cx} {G : Gc} {L : Nat} {S : Sg} {ex : List Str} {ft : Tb} {sc : Scope}, Env2 X G L S ex ft sc → ss.ok S ex sc = true → PSs X ss.py (tSS G (ss.den ft))
  | .nil, X, G, L, S, ex, ft, sc, V, h => ss_nil V.C
  | .cons s ss, X, G, L, S, ex, ft, sc, V, h => by
      simp only [Ss.ok, Bool.and_eq_true] at h
      exact ss_cons V.C (s_ok s V h.1) (ss_ok ss V h.2)
end
end Den
namespace Den
open PySem PySem.Spec PyProof.Rows L2
def startD (k : Nat) (ds : List D) : Ro := ds.map some ++ List.replicate (k - ds.length) none
def endD (r : Rs (Fl × Ro)) : Rs D := match r with
  | .ok (.rt d, _) => .ok d
  | .ok (.nx, _) => .ok .none
  | .exc c => .exc c
  | _ => .stuck
def defD (ft : Tb) (n k : Nat) (ss : Ss) : List D → Rs D := fun ds => if ds.length = n then endD (ss.den ft (startD k ds)) else .stuck
def tbl (l : List (List D → Rs D)) : Tb := fun f ds => match l[f]? with
  | some g => g ds
  | none => .stuck
structure Mods (K : W.Frag) (mg : Str → Option Value) (cl : Nat → Value) (bl : List Str) (gl : List (Str × Cst)) (ex : List Str) : Prop where
  bl : ∀ x ∈ bl, mg x = none
  gl : ∀ p ∈ gl, ∃ u, mg p.1 = some u ∧ RelV p.2.v u
  tm : TryM K mg cl ex
  ex : ∀ c x, ex[c]? = some x → ∃ C, cl c = .ref C ∧ W.excIn K C [.type "ValueError", .type "Exception", .type "BaseException", .type "object"] "ValueError.__new__" = true ∧ mg x = some (.ref C) ∧ W.keepIn K (.ref C) = true ∧ W.subIn K (.ref C) (.type "BaseException") = some true ∧ W.typeIn K (.ref C) = some (.type "type")
def scB (N P : List Str) (sc : Scope) : Bool := decide (sc.kind = .function) && !sc.isCoroutine && !sc.isGenerator && decide N.Nodup && decide (N.take P.length = P) && (P.all fun x => decide (sc.names.lookup x = some .local) || decide (sc.names.lookup x = some .cell)) && (sc.names.all fun y => decide (y.2 ≠ .free))
theorem scB_ok {N P : List Str} {sc : Scope} (h : scB N P sc = true) : FnScope N P sc := by
  unfold scB at h
  simp only [Bool.and_eq_true, decide_eq_true_eq, Bool.not_eq_true', List.all_eq_true, Bool.or_eq_true] at h
  obtain ⟨⟨⟨⟨⟨⟨h1, h2⟩, h3⟩, h4⟩, h5⟩, h6⟩, h7⟩ := h
  exact ⟨h1, h2, h3, h4, h5, h6, h7⟩
def FnP (P : Program) (w : World) (K : W.Frag) (mg : Str → Option Value) (base : Heap) (cl : Nat → Value) (L : Nat) (x : Str) (n : Nat) (g : List D → Rs D) : Prop :=
  ∃ f fd ps, FnOk P w K mg base (L2.CX P w) L f fd ps (spD K cl n g) ∧ ps.length = n ∧ mg x = some (.ref f) ∧ W.keepIn K (.ref f) = true ∧ Binds K fd ps []
theorem FnP.mono {P : Program} {w : World} {K : W.Frag} {mg : Str → Option Value} {base : Heap} {cl : Nat → Value} {L L' : Nat} {x : Str} {n : Nat} {g : List D → Rs D} (h : FnP P w K mg base cl L x n g) (hl : L ≤ L') : FnP P w K mg base cl L' x n g := by
  obtain ⟨f, fd, ps, h1, h2⟩ := h
  exact ⟨f, fd, ps, h1.mono hl, h2⟩
section
variable {P : Program} {w : World} {K : W.Frag} {mg : Str → Option Value} {base : Heap} {cl : Nat → Value}
theorem start_rep {O0 : Addr → Prop} {H : Hp} {own : Nat → Bool} {E : XK} {k : Nat} {N : List Str} {ds : List D} {vs : List V} (ht : ∀ a, O0 a → ∃ o, H a = some o) (a : AtL K H O0 ds vs) (hk : N.length = k) (hw : ∀ i, i < ds.length → own i = false) :
    Rep ⟨K, O0, H, own, E, cl⟩ O0 (L2.start N vs) H (startD k ds) := by
  have hl := a.length
  have key : ∀ i d, (startD k ds)[i]? = some (some d) → ds[i]? = some d ∧ i < ds.length := fun i d e => by
    unfold startD at e
    by_cases hi : i < ds.length
    · rw [List.getElem?_append_left (by simpa using hi), List.getElem?_map] at e
      cases hd : ds[i]? with
      | none => rw [hd] at e; cases e
      | some d' => rw [hd] at e; cases e; exact ⟨rfl, hi⟩
    · rw [List.getElem?_append_right (by simpa using hi), List.getElem?_replicate] at e
      split at e <;> cases e
  refine ⟨Same.refl H, fun _ h => h, ht, fun a h1 h2 => absurd h1 h2, ?_, fun i d e _ => ?_, fun i d e h => ?_, fun i j d e b hij h1 h2 => ?_⟩
  · unfold L2.start startD
    simp [hl, hk]
  · obtain ⟨e1, e2⟩ := key i d e
    obtain ⟨v, e3, e4⟩ := a.get e1
    refine ⟨v, ?_, e4⟩
    unfold L2.start
    rw [List.getElem?_append_left (by simp; omega), List.getElem?_map, e3]
    rfl
  · have z : own i = true := h
    rw [hw i (key i d e).2] at z; cases z
  · intro e1 _ _ _
    have z : own i = true := h1
    rw [hw i (key i d e1).2] at z; cases z
theorem def_ok {x qual : Str} {params : Arguments} {body : List Stmt} {scope : Scope} {f : Addr} {fd : FuncData} {ps N : List Str} {L n k : Nat} {S : Sg} {ex : List Str} {ft : Tb} {ss : Ss}
    (F : FunD K x qual params body scope [] [] f fd) (sc : FnScope N ps scope) (hb : ss.py = body) (hok : ss.ok S ex scope = true) (hN : S.N = N) (hn : ps.length = n) (hk : N.length = k) (hw : ((List.range n).all fun i => !S.own i) = true)
    (M : Mods K mg cl S.bl S.gl ex) (hf : ∀ f x n, S.fn[f]? = some (x, n) → FnP P w K mg base cl L x n (ft f)) : FnOk P w K mg base (L2.CX P w) (L + 1) f fd ps (spD K cl n (defD ft n k ss)) := by
  refine F.ok sc (fun vs H Q E h => h.1.trans hn.symm) fun cdv A outer s H vs Q E hr h => ?_
  obtain ⟨hl, ds, O0, ht, a, p⟩ := h
  have hds : ds.length = n := by rw [← a.length]; exact hl
  have own0 : ∀ i, i < ds.length → S.own i = false := fun i hi => by
    have := List.all_eq_true.mp hw i (List.mem_range.mpr (by omega))
    simpa using this
  let G : Gc := ⟨K, O0, H, S.own, E, cl⟩
  refine ⟨fun Dn σ H => tSS G (ss.den ft) (endK K Dn) σ H, ?_, fun _ => ⟨O0, startD k ds, start_rep ht a hk own0, ?_⟩⟩
  · have tk : Takes (cxOf (L2.CX P w) P w K mg base N qual scope f cdv A outer s H E) (fun cls d _ H => G.E cls d H) := takes_of rfl rfl rfl rfl
    have C : Ctx (cxOf (L2.CX P w) P w K mg base N qual scope f cdv A outer s H E) G L S.bl := ⟨rfl, passes_call tk (fun _ _ _ _ h => h), hr, rfl, sc.nd, M.bl⟩
    have V : Env2 (cxOf (L2.CX P w) P w K mg base N qual scope f cdv A outer s H E) G L S ex ft scope :=
      { C := C, N := hN.symm, sc := rfl, own := rfl, gl := M.gl, fn := fun f x n e => ⟨hf f x n e⟩, SC := { toCtx := C, po := passes_of rfl, fn := fun _ => rfl }, tk := tk,
        ex := fun c x e => by
          obtain ⟨Cc, e1, e2, e3, e4, e5, e6⟩ := M.ex c x e
          exact ⟨Cc, e1, e2, e3, e4, raises_own e5 e6⟩
        st := rfl, fr := rfl, tm := M.tm }
    exact pss_impK (X := cxOf (L2.CX P w) P w K mg base N qual scope f cdv A outer s H E) (hb ▸ ss_ok ss V hok) fun Dn σ H _ h => h
  · unfold defD at p
    rw [if_pos hds] at p
    cases hr : ss.den ft (startD k ds) with
    | ok r =>
      obtain ⟨fl, ρ'⟩ := r
      rw [hr] at p
      cases fl with
      | nx => exact fun O' σ' H' s R k => p .non H' R.base k rfl
      | rt d => exact fun v H' s k a _ => p v H' s k a
      | bk => exact p.elim
      | ct => exact p.elim
    | exc c => rw [hr] at p; exact p
    | stuck => rw [hr] at p; exact p.elim
end
end Den
namespace Den
open PySem PySem.Spec PyProof.Rows L2 He
abbrev AlE : Type := AlD × Bool
def obsQ (n : Nat) (fa : List Fa) (fn : List DefD) (ex : W.Frag → Bool) (g : Addr → Option Obj) : AlE := (obsD fa fn (frG g (asD g n)), ex (frG g (asD g n)))
def hookQ (n : Nat) (fa : List Fa) (fn : List DefD) (ex : W.Frag → Bool) : W.Hook where
  α := AlE
  obs := fun s => obsQ n fa fn ex s.heap.get?
  val := fun _ => (valD fn, true)
  says := fun _ h => ∃ K : W.Frag, K.In h ∧ SaysD fa fn K ∧ ex K = true
  of := fun _ _ e => ⟨_, frG_in, congrArg (fun z : AlE => z.1) e, congrArg (fun z : AlE => z.2) e⟩
  keeps := fun _ _ _ ⟨K, hK, c⟩ k => ⟨K, W.Frag.In.keeps hK k, c⟩
theorem obsQ_eq {n : Nat} {fa : List Fa} {fn : List DefD} {ex : W.Frag → Bool} {g : Addr → Option Obj} {s : Shared} (h : ∀ a, g a = s.heap.get? a) : obsQ n fa fn ex g = (hookQ n fa fn ex).obs s := by
  have e : g = s.heap.get? := funext h
  rw [e] <;> rfl
def faG : Str × Cst → Fa
  | (x, .int i) => .int x i
  | (x, .str z) => .str x z
  | (x, _) => .glo x
def faOf (names bls : List Str) (gls : List (Str × Cst)) (exs : List Str) : List Fa := names.map .glo ++ bls.map .free ++ gls.map faG ++ exs.map .exc ++ exs.map .glo ++ [.glo "PanelError"]
def glsB (gls : List (Str × Cst)) : Bool := gls.all fun p => match p.2 with | .int _ => true | .str _ => true | _ => false
def excB (K : W.Frag) (D : Addr) : Bool :=
  decide (W.findIn K (.ref D) "__getattribute__" = some (some (.builtin "BaseException.__getattribute__"))) && decide (W.findIn K (.ref D) "__getattr__" = some none) && decide (W.subIn K (.ref D) (.type "BaseException") = some true) && W.hasDictIn K D
  && decide (W.findIn K (.ref D) "__class__" = some (some (.builtin "object.__class__"))) && decide (W.specialIn K (.builtin "object.__class__") "__get__" = some (some (.builtin "getset_descriptor.__get__"))) && decide (W.takesIn K (.builtin "object.__class__") = some true) && decide (W.mroIn K D (.type "object") = some true)
theorem excB_ok {K : W.Frag} {D : Addr} (h : excB K D = true) : ExcC K D := by
  unfold excB at h
  simp only [Bool.and_eq_true, decide_eq_true_eq] at h
  obtain ⟨⟨⟨⟨⟨⟨⟨h1, h2⟩, h3⟩, h4⟩, h5⟩, h6⟩, h7⟩, h8⟩ := h
  exact ⟨h1, h2, h3, h4, h5, h6, h7, h8⟩
def exsB (exs : List Str) (K : W.Frag) : Bool := (List.range exs.length).all fun c => match exs[c]? with
  | none => true
  | some x => decide (W.exmOne K (.ref (ga K x)) (.ref (ga K "PanelError")) = some true) && excB K (ga K x) && (List.range exs.length).all fun j => match exs[j]? with
    | none => true
    | some y => decide (W.kitOne K (.ref (ga K x)) (.ref (ga K y)) = some (c == j))
def clE (K : W.Frag) (exs : List Str) (c : Nat) : Value := .ref (ga K (exs.getD c "PanelError"))
section
variable {K : W.Frag} {h : Heap} {mg : Str → Option Value} {fn : List DefD} {names bls exs : List Str} {gls : List (Str × Cst)}
theorem mods_of (X : K.In h) (G : h.Ns mainGlobals mg) (c : SaysD (faOf names bls gls exs) fn K) (hx : exsB exs K = true) (hg : glsB gls = true) : Mods K mg (clE K exs) bls gls exs := by
  have fact : ∀ f ∈ faOf names bls gls exs, f.ok K = true := fun f hf => by
    obtain ⟨i, hi, e⟩ := List.mem_iff_getElem.mp hf
    exact c.fact i (f := f) (by rw [List.getElem?_eq_getElem hi, e])
  have mm : ∀ f, (f ∈ names.map Fa.glo ∨ f ∈ bls.map Fa.free ∨ f ∈ gls.map faG ∨ f ∈ exs.map Fa.exc ∨ f ∈ exs.map Fa.glo ∨ f = .glo "PanelError") → f.ok K = true := fun f hf => fact f (by
    unfold faOf
    simp only [List.mem_append, List.mem_singleton]
    simpa only [or_assoc] using hf)
  have key : ∀ c x, exs[c]? = some x → clE K exs c = .ref (ga K x) := fun c x e => by
    unfold clE
    rw [List.getD_eq_getElem?_getD, e]; rfl
  refine { bl := fun x hxm => free_ok X G (mm _ (.inr (.inl (List.mem_map_of_mem hxm)))), gl := fun p hp => ?_, tm := ⟨ga K "PanelError", glo_ok X G (mm _ (.inr (.inr (.inr (.inr (.inr rfl)))))), fun c x e => ?_⟩, ex := fun c x e => ?_ }
  · have z := mm _ (.inr (.inr (.inl (List.mem_map_of_mem hp))))
    have hg' := List.all_eq_true.mp hg p hp
    obtain ⟨x, v⟩ := p
    cases v with
    | int i =>
      obtain ⟨t, e⟩ := int_ok X G (x := x) (i := i) z
      exact ⟨_, e, t, rfl⟩
    | str s =>
      obtain ⟨t, e⟩ := str_ok X G (x := x) (z := s) z
      exact ⟨_, e, t, rfl⟩
    | non => cases hg'
    | bl b => cases hg'
  · have hc : c < exs.length := by rw [List.getElem?_eq_some_iff] at e; exact e.1
    have z := List.all_eq_true.mp hx c (List.mem_range.mpr hc)
    rw [e] at z
    simp only [Bool.and_eq_true, decide_eq_true_eq] at z
    obtain ⟨⟨z1, z2⟩, z3⟩ := z
    refine ⟨ga K x, key c x e, z1, excB_ok z2, fun j y ej => ⟨ga K y, key j y ej, glo_ok X G (mm _ (.inr (.inr (.inr (.inr (.inl (List.mem_map_of_mem (List.mem_of_getElem? ej)))))))), ?_⟩⟩
    have hj : j < exs.length := by rw [List.getElem?_eq_some_iff] at ej; exact ej.1
    have z := List.all_eq_true.mp z3 j (List.mem_range.mpr hj)
    rw [ej] at z
    simpa using z
  · obtain ⟨h1, h2, h3, h4⟩ := exc_ok (mm _ (.inr (.inr (.inr (.inl (List.mem_map_of_mem (List.mem_of_getElem? e)))))))
    exact ⟨ga K x, key c x e, h1, glo_ok X G (mm _ (.inr (.inr (.inr (.inr (.inl (List.mem_map_of_mem (List.mem_of_getElem? e)))))))), h2, h3, h4⟩
end
structure AllP (P : Program) (w : World) (K : W.Frag) (mg : Str → Option Value) (base : Heap) (cl : Nat → Value) (L : Nat) (l : List (Str × Nat)) (ds : List (List D → Rs D)) : Prop where
  len : l.length = ds.length
  at_ : ∀ (f : Nat) (x : Str) (n : Nat), l[f]? = some (x, n) → FnP P w K mg base cl L x n (tbl ds f)
section
variable {P : Program} {w : World} {K : W.Frag} {mg : Str → Option Value} {base : Heap} {cl : Nat → Value} {L : Nat} {l : List (Str × Nat)} {ds : List (List D → Rs D)}
theorem allP_nil : AllP P w K mg base cl L [] [] := ⟨rfl, fun f x n e => by simp at e⟩
theorem AllP.snoc {x : Str} {n : Nat} {d : List D → Rs D} (A : AllP P w K mg base cl L l ds) (h : FnP P w K mg base cl (L + 1) x n d) : AllP P w K mg base cl (L + 1) (l ++ [(x, n)]) (ds ++ [d]) := by
  refine ⟨by simp [A.len], fun f y m e => ?_⟩
  by_cases hf : f < l.length
  · rw [List.getElem?_append_left hf] at e
    have z := (A.at_ f y m e).mono (Nat.le_succ L)
    have e2 : tbl (ds ++ [d]) f = tbl ds f := by
      funext as
      unfold tbl
      rw [List.getElem?_append_left (by rw [← A.len]; exact hf)]
    rw [e2]; exact z
  · rw [List.getElem?_append_right (by omega)] at e
    have e0 : f - l.length = 0 := by
      by_cases z : f - l.length = 0
      · exact z
      · rw [List.getElem?_eq_none (by simp; omega)] at e; cases e
    rw [e0] at e
    simp at e
    obtain ⟨rfl, rfl⟩ := e
    have e2 : tbl (ds ++ [d]) f = d := by
      funext as
      unfold tbl
      rw [List.getElem?_append_right (by rw [← A.len]; omega), ← A.len, e0]
      rfl
    rw [e2]; exact h
theorem AllP.step {x qual : Str} {params : Arguments} {body : List Stmt} {scope : Scope} {f : Addr} {fd : FuncData} {ps N bls exs : List Str} {gls : List (Str × Cst)} {n k : Nat} {own : Nat → Bool} {ss : Ss}
    (A : AllP P w K mg base cl L l ds) (M : Mods K mg cl bls gls exs) (F : FunD K x qual params body scope [] [] f fd) (sc : FnScope N ps scope) (hb : ss.py = body) (hok : ss.ok ⟨N, own, gls, l, bls⟩ exs scope = true) (hn : ps.length = n) (hk : N.length = k)
    (hw : ((List.range n).all fun i => !own i) = true) (g : mg x = some (.ref f)) (b : Binds K fd ps []) : AllP P w K mg base cl (L + 1) (l ++ [(x, n)]) (ds ++ [defD (tbl ds) n k ss]) :=
  A.snoc ⟨f, fd, ps, def_ok (S := ⟨N, own, gls, l, bls⟩) F sc hb hok rfl hn hk hw M A.at_, hn, g, F.kp, b⟩
theorem AllP.law {x : Str} {ps : List Str} {j : Nat} {f : Addr} (A : AllP P w K mg base cl L l ds) (e : l[j]? = some (x, 1)) (hf : mg x = some (.ref f)) : ∃ fd ps, FnOk P w K mg base (L2.CX P w) L f fd ps (spD K cl 1 (tbl ds j)) ∧ ps.length = 1 ∧ Binds K fd ps [] := by
  obtain ⟨f', fd, ps, h1, h2, h3, h4, h5⟩ := A.at_ j x 1 e
  rw [hf] at h3
  cases h3
  exact ⟨fd, ps, h1, h2, h5⟩
end
theorem walk_ofQ {l : W.OpenLaw} {n k : Nat} {q : Program} {loose : List Str} {XP : (Str → Option Value) → Heap → Prop} {YP : World → Heap → Prop} {d : DefRec} {CX : World → CXT} {x : Str}
    (hn : l.most = some n) (hn2 : n ≤ sizeLine) (hdf : d.params.defaults = []) (hr : Room k callerA)
    (F : ∀ (w : World) (mg : Str → Option Value) (fa : Addr) (h : Heap), YP w h → h.Ns mainGlobals mg → mg d.name = some (.ref fa) →
      ∃ (K : W.Frag) (fd : FuncData) (sp : Sp), K.In h ∧ (∀ (s : Shared) (u : Value), BindsTo s fd ⟨[u], []⟩ [(x, u)]) ∧
        (∀ (H : Hp) (a : Addr) (ns : List Int), ns.length ≤ n → (∀ z ∈ ns, Builtin.Int.intBits z ≤ 1048576) → SqL K H a (ns.map V.int) → sp [.ref a] H (fun v _ => v = .bl true) fun _ _ _ => False) ∧
        ∀ base : Heap, K.In base → base.Ns mainGlobals mg → FnOk l.prog w K mg base (CX w) k fa fd [x] sp)
    (hCX : ∀ (w : World) (H : Hp) (s : Shared) (e : Value) (s' : Shared), CX w [] H s (fun _ _ _ => False) e s' → False) :
    W.WalkO q loose XP YP l.row.toRowW d [] (fun f vs => PySem.call f vs) := by
  refine Att.attach_callB hn hdf fun w s₀ s₁ mg mb fa o pm cd doc a vs ns G Y ho hd hcd hmg hobj hints hlen hbits hg => ?_
  obtain ⟨K, fd, sp, KX, hb, hsp, hF⟩ := F w mg fa _ Y G.T.g hmg
  exact law_call KX G.T.g G.T.b G.T.builtins G.T.nolimit hg hobj hints (Nat.le_trans hlen hn2) hr hF hb (fun H hO hS => hsp H a ns hlen hbits hS) fun H e s' => hCX w H s₁ e s'
theorem cx_no {P : Program} {w : World} (H : Hp) (s : Shared) (e : Value) (s' : Shared) (h : L2.CX P w [] H s (fun _ _ _ => False) e s') : False := by
  obtain ⟨_, _, _, _, _, _, _, _, _, _, _, _, z⟩ := h
  exact z.elim
theorem law_pre {K : W.Frag} {cl : Nat → Value} {g : List D → Rs D} {H : Hp} {a : Addr} {ns : List Int} (h : g [.list (ns.map PyData.int)] = .ok (.bool true)) (hS : SqL K H a (ns.map V.int)) : spD K cl 1 g [.ref a] H (fun v _ => v = .bl true) fun _ _ _ => False := by
  refine ⟨rfl, [.list (ns.map PyData.int)], fun _ => False, fun _ z => z.elim, ⟨.ref a, [], rfl, ⟨a, _, rfl, hS, fun z => z, atL_of_ints ns⟩, rfl⟩, ?_⟩
  rw [h]
  exact fun v H' _ _ a => a
end Den
namespace Den
open PySem PySem.Spec
section
variable {ft : Tb}
@[simp] theorem x1 : E.den ft (.cst c z1 z2) = (fun _ => .ok c.d) := rfl
@[simp] theorem x2 : E.den ft (.var i z1 z2) = (vaR i) := rfl
@[simp] theorem x3 : E.den ft (.glo z1 c z2) = (fun _ => .ok c.d) := rfl
@[simp] theorem x4 : E.den ft (.bin op a b z1) = (bi op.F (a.den ft) (b.den ft)) := rfl
@[simp] theorem x5 : E.den ft (.lad a b z1) = (bi addL (a.den ft) (b.den ft)) := rfl
@[simp] theorem x6 : E.den ft (.neg a z1) = (fun ρ => do let x ← a.den ft ρ; negD x) := rfl
@[simp] theorem x7 : E.den ft (.not a z1) = (notE (a.den ft)) := rfl
@[simp] theorem x8 : E.den ft (.cmp op a b z1) = (bi op.F (a.den ft) (b.den ft)) := rfl
@[simp] theorem x9 : E.den ft (.chn op op' a b c z1) = (chnE op.F op'.F (a.den ft) (b.den ft) (c.den ft)) := rfl
@[simp] theorem x10 : E.den ft (.and a es z1) = (es.andD ft (a.den ft)) := rfl
@[simp] theorem x11 : E.den ft (.or a es z1) = (es.orD ft (a.den ft)) := rfl
@[simp] theorem x12 : E.den ft (.ite c a b z1) = (iteE (c.den ft) (a.den ft) (b.den ft)) := rfl
@[simp] theorem x13 : E.den ft (.ix a i z1) = (bi ixD (a.den ft) (i.den ft)) := rfl
@[simp] theorem x14 : E.den ft (.slo a l z1 z2) = (fun ρ => do let x ← a.den ft ρ; let l ← l.den ft ρ; let i ← intD l; slD (some i) none x) := rfl
@[simp] theorem x15 : E.den ft (.shi a l z1 z2) = (fun ρ => do let x ← a.den ft ρ; let l ← l.den ft ρ; let i ← intD l; slD none (some i) x) := rfl
@[simp] theorem x16 : E.den ft (.slh a l h z1 z2) = (fun ρ => do let x ← a.den ft ρ; let l ← l.den ft ρ; let i ← intD l; let u ← h.den ft ρ; let j ← intD u; slD (some i) (some j) x) := rfl
@[simp] theorem x17 : E.den ft (.lslo a l z1 z2) = (fun ρ => do let x ← a.den ft ρ; let l ← l.den ft ρ; let i ← intD l; slL (some i) none x) := rfl
@[simp] theorem x18 : E.den ft (.lshi a l z1 z2) = (fun ρ => do let x ← a.den ft ρ; let l ← l.den ft ρ; let i ← intD l; slL none (some i) x) := rfl
@[simp] theorem x19 : E.den ft (.tup es z1 z2) = (tupA (es.den ft)) := rfl
@[simp] theorem x20 : E.den ft (.lst es z1) = (lstA (es.den ft)) := rfl
@[simp] theorem x21 : E.den ft (.call f z1 z2 e es z3) = (appE (ft f) (consArg (e.den ft) (es.den ft))) := rfl
@[simp] theorem x22 : E.den ft (.rep es z1 b z2) = (fun ρ => do let ds ← es.den ft ρ; let d ← b.den ft ρ; let k ← intD d; repL ds k) := rfl
@[simp] theorem x23 : E.den ft (.ccall js z1 b z2 e es z3) = (ccD (es.len + 1) ft (js.map (·.1)) (b.den ft) (consArg (e.den ft) (es.den ft))) := rfl
@[simp] theorem x24 : E.den ft (.prim q z1 e es z2) = (appE q.F (consArg (e.den ft) (es.den ft))) := rfl
@[simp] theorem x25 : E.den ft (.isi T a z1 z2 z3) = (isiE T (a.den ft)) := rfl
@[simp] theorem x26 : E.den ft (.lrng1 a z1 z2 z3 z4) = (lstI (rng1 (a.den ft))) := rfl
@[simp] theorem x27 : E.den ft (.trng1 a z1 z2 z3 z4) = (tupI (rng1 (a.den ft))) := rfl
@[simp] theorem x28 : E.den ft (.lrng2 a b z1 z2 z3 z4) = (lstI (rng2 (a.den ft) (b.den ft))) := rfl
@[simp] theorem x29 : E.den ft (.comp elt tg it ifs z1 own z2) = (compE (own.map (·.2)) (it.den ft) tg.st (ifs.tst ft) (elt.den ft)) := rfl
@[simp] theorem x30 : E.den ft (.comp2 elt tg it tg1 it1 ifs z1 own z2) = (compE2 (own.map (·.2)) (it.den ft) tg.st (it1.den ft) tg1.st (ifs.tst ft) (elt.den ft) tg1.is) := rfl
@[simp] theorem x31 : Es.den ft (.nil) = (noArg) := rfl
@[simp] theorem x32 : Es.den ft (.cons e es) = (consArg (e.den ft) (es.den ft)) := rfl
@[simp] theorem x33 : Es.andD ft (.nil) f = (f) := rfl
@[simp] theorem x34 : Es.andD ft (.cons e es) f = (andE f (es.andD ft (e.den ft))) := rfl
@[simp] theorem x35 : Es.orD ft (.nil) f = (f) := rfl
@[simp] theorem x36 : Es.orD ft (.cons e es) f = (orE f (es.orD ft (e.den ft))) := rfl
@[simp] theorem x37 : Es.tst ft (.nil) = (fun _ => .ok true) := rfl
@[simp] theorem x38 : Es.tst ft (.cons e z1) = (tstE (e.den ft)) := rfl
@[simp] theorem x39 : I.den ft (.seq e) = (seqE (e.den ft)) := rfl
@[simp] theorem x40 : I.den ft (.rng1 a z1 z2) = (Den.rng1 (a.den ft)) := rfl
@[simp] theorem x41 : I.den ft (.rng2 a b z1 z2) = (Den.rng2 (a.den ft) (b.den ft)) := rfl
@[simp] theorem x42 : I.den ft (.enu a z1 z2) = (enuE (a.den ft)) := rfl
@[simp] theorem x43 : S.den ft (.ret e z1) = (retS (e.den ft)) := rfl
@[simp] theorem x44 : S.den ft (.retO i z1 z2 z3) = (retS (vaR i)) := rfl
@[simp] theorem x45 : S.den ft (.retN z1) = (retN) := rfl
@[simp] theorem x46 : S.den ft (.iff c A B z1) = (iteS (c.den ft) (A.den ft) (B.den ft)) := rfl
@[simp] theorem x47 : S.den ft (.expr e z1) = (exprS (e.den ft)) := rfl
@[simp] theorem x48 : S.den ft (.set i z1 z2 e z3) = (asgS [i] (consArg (e.den ft) noArg)) := rfl
@[simp] theorem x49 : S.den ft (.mov i z1 z2 j z3 z4 z5) = (movS i j) := rfl
@[simp] theorem x50 : S.den ft (.asg items z1 z2 e z3) = (asgT (setT (items.map (·.1))) (e.den ft)) := rfl
@[simp] theorem x51 : S.den ft (.par items z1 z2 es z3 z4 z5) = (asgS (items.map (·.1)) (es.den ft)) := rfl
@[simp] theorem x52 : S.den ft (.app i z1 z2 z3 z4 e z5) = (appS i (e.den ft)) := rfl
@[simp] theorem x53 : S.den ft (.ext i z1 z2 z3 z4 e z5) = (extS i (e.den ft)) := rfl
@[simp] theorem x54 : S.den ft (.brk z1) = (bkS) := rfl
@[simp] theorem x55 : S.den ft (.cnt z1) = (ctS) := rfl
@[simp] theorem x56 : S.den ft (.pas z1) = (nxS) := rfl
@[simp] theorem x57 : S.den ft (.for tg it A z1) = (forS (it.den ft) tg.st (A.den ft)) := rfl
@[simp] theorem x58 : S.den ft (.whl n c A z1) = (whlL (c.den ft) (A.den ft) n) := rfl
@[simp] theorem x59 : S.den ft (.tryI A z1 z2 xs z3 z4 z5 z6 z7 z8 z9 z10 z11) = (tryD xs.length (A.den ft)) := rfl
@[simp] theorem x60 : S.den ft (.rse c z1 z2 z3 z4 z5 z6 z7) = (rsS c) := rfl
@[simp] theorem x61 : Ss.den ft (.nil) = (nxS) := rfl
@[simp] theorem x62 : Ss.den ft (.cons s ss) = (seqS (s.den ft) (ss.den ft)) := rfl
end
def Wp {α : Type} (r : Rs α) (Q : α → Prop) : Prop := match r with
  | .ok a => Q a
  | _ => False
section
variable {α β : Type} {Q Q' : α → Prop} {R : β → Prop} {r : Rs α} {f : α → Rs β}
theorem wp_iff : Wp r Q ↔ ∃ a, r = .ok a ∧ Q a := by
  cases r with
  | ok a => exact ⟨fun h => ⟨a, rfl, h⟩, fun ⟨_, e, h⟩ => by cases e; exact h⟩
  | exc c => exact ⟨fun h => h.elim, fun ⟨_, e, _⟩ => by cases e⟩
  | stuck => exact ⟨fun h => h.elim, fun ⟨_, e, _⟩ => by cases e⟩
@[simp] theorem wp_ok {a : α} : Wp (.ok a) Q ↔ Q a := .rfl
@[simp] theorem wp_exc {c : Nat} : Wp (.exc c) Q ↔ False := .rfl
@[simp] theorem wp_stuck : Wp .stuck Q ↔ False := .rfl
@[simp] theorem wp_bind : Wp (r >>= f) R ↔ Wp r fun a => Wp (f a) R := by cases r <;> exact .rfl
theorem wp_noexc : Wp r.noexc Q ↔ Wp r Q := by cases r <;> exact .rfl
@[simp] theorem wp_ite {c : Prop} [Decidable c] {a b : Rs α} : Wp (if c then a else b) Q ↔ if c then Wp a Q else Wp b Q := by split <;> exact .rfl
theorem Wp.imp (h : Wp r Q) (k : ∀ a, Q a → Q' a) : Wp r Q' := by
  cases r with
  | ok a => exact k a h
  | exc c => exact h
  | stuck => exact h
theorem Wp.eq {a : α} (h : Wp r (· = a)) : r = .ok a := by
  cases r with
  | ok b => exact congrArg _ h
  | exc c => exact h.elim
  | stuck => exact h.elim
theorem Wp.of {a : α} (h : r = .ok a) (k : Q a) : Wp r Q := by rw [h]; exact k
end
section
variable {ρ : Ro} {f g h : DE} {F U : DS} {i : Nat} {Q : Fl × Ro → Prop} {q : D → Prop} {fs : Ro → Rs (List D)}
@[simp] theorem vaR_eq : vaR i ρ = match ρ[i]? with | some (some d) => .ok d | _ => .stuck := rfl
@[simp] theorem wp_seq : Wp (seqS F U ρ) Q ↔ Wp (F ρ) fun p => match p with | (.nx, ρ1) => Wp (U ρ1) Q | p => Q p := by
  unfold seqS
  rw [wp_bind]
  cases F ρ with
  | ok p =>
    obtain ⟨fl, ρ1⟩ := p
    cases fl <;> exact .rfl
  | exc c => exact .rfl
  | stuck => exact .rfl
theorem wp_cut0 {R : Ro → Prop} (h : Wp (F ρ) fun p => match p with | (.nx, ρ1) => R ρ1 | p => Q p) (k : ∀ ρ1, R ρ1 → Wp (U ρ1) Q) : Wp (seqS F U ρ) Q := by
  rw [wp_seq]
  refine h.imp fun p hp => ?_
  obtain ⟨fl, ρ1⟩ := p
  cases fl with
  | nx => exact k ρ1 hp
  | rt d => exact hp
  | bk => exact hp
  | ct => exact hp
theorem wp_if {ft : Tb} {c : E} {A B : Ss} {pos : Pos} (b : Bool) (hc : tstE (c.den ft) ρ = .ok b) (h : if b = true then Wp (A.den ft ρ) Q else Wp (B.den ft ρ) Q) : Wp (S.den ft (.iff c A B pos) ρ) Q := by
  show Wp (tstE (c.den ft) ρ >>= fun b => if b then A.den ft ρ else B.den ft ρ) Q
  rw [hc, Rs.ok_bind, wp_ite]
  exact h
theorem wp_nil {ft : Tb} (h : Q (.nx, ρ)) : Wp (Ss.den ft .nil ρ) Q := h
theorem wp_cons {ft : Tb} {s : S} {ss : Ss} {R : Ro → Prop} (h : Wp (s.den ft ρ) fun p => match p with | (.nx, ρ1) => R ρ1 | p => Q p) (k : ∀ ρ1, R ρ1 → Wp (ss.den ft ρ1) Q) : Wp (Ss.den ft (.cons s ss) ρ) Q := wp_cut0 h k
theorem wp_cut {R : Ro → Prop} (h : Wp (F ρ) fun p => match p with | (.nx, ρ1) => R ρ1 | p => Q p) (k : ∀ ρ1, R ρ1 → Wp (U ρ1) Q) : Wp (seqS F U ρ) Q := by
  rw [wp_seq]
  refine h.imp fun p hp => ?_
  obtain ⟨fl, ρ1⟩ := p
  cases fl with
  | nx => exact k ρ1 hp
  | rt d => exact hp
  | bk => exact hp
  | ct => exact hp
theorem seq_nx {ρ1 : Ro} (h : F ρ = .ok (.nx, ρ1)) : seqS F U ρ = U ρ1 := by unfold seqS; rw [h]; rfl
theorem seq_rt {ρ1 : Ro} {d : D} (h : F ρ = .ok (.rt d, ρ1)) : seqS F U ρ = .ok (.rt d, ρ1) := by unfold seqS; rw [h]; rfl
theorem seq_exc {c : Nat} (h : F ρ = .exc c) : seqS F U ρ = .exc c := by unfold seqS; rw [h]; rfl
@[simp] theorem nxS_eq : nxS ρ = .ok (.nx, ρ) := rfl
@[simp] theorem bkS_eq : bkS ρ = .ok (.bk, ρ) := rfl
@[simp] theorem ctS_eq : ctS ρ = .ok (.ct, ρ) := rfl
@[simp] theorem retS_eq : retS f ρ = f ρ >>= fun d => .ok (.rt d, ρ) := rfl
@[simp] theorem retN_eq : retN ρ = .ok (.rt .none, ρ) := rfl
@[simp] theorem rsS_eq {c : Nat} : rsS c ρ = .exc c := rfl
@[simp] theorem iteS_eq : iteS f F U ρ = tstE f ρ >>= fun b => if b then F ρ else U ρ := rfl
@[simp] theorem exprS_eq : exprS f ρ = f ρ >>= fun _ => .ok (.nx, ρ) := rfl
@[simp] theorem asgS_eq {is : List Nat} : asgS is fs ρ = fs ρ >>= fun ds => .ok (.nx, setD ρ is ds) := rfl
@[simp] theorem setD_nil : setD ρ [] [] = ρ := rfl
@[simp] theorem setD_cons {is : List Nat} {d : D} {ds : List D} : setD ρ (i :: is) (d :: ds) = setD (ρ.set i (some d)) is ds := rfl
@[simp] theorem bi_eq {F : D → D → Rs D} : bi F f g ρ = f ρ >>= fun x => g ρ >>= fun y => F x y := rfl
@[simp] theorem tstE_eq : tstE f ρ = f ρ >>= blD := rfl
@[simp] theorem notE_eq : notE f ρ = f ρ >>= fun x => blD x >>= fun b => .ok (.bool !b) := rfl
@[simp] theorem andE_eq : andE f g ρ = f ρ >>= fun x => blD x >>= fun b => if b then g ρ else .ok (.bool false) := rfl
@[simp] theorem orE_eq : orE f g ρ = f ρ >>= fun x => blD x >>= fun b => if b then .ok (.bool true) else g ρ := rfl
@[simp] theorem iteE_eq : iteE h f g ρ = h ρ >>= fun x => blD x >>= fun b => if b then f ρ else g ρ := rfl
@[simp] theorem isiE_eq {T : Ty} : isiE T f ρ = f ρ >>= fun d => .ok (.bool (isiD T d)) := rfl
@[simp] theorem noArg_eq : noArg ρ = .ok [] := rfl
@[simp] theorem consArg_eq : consArg f fs ρ = f ρ >>= fun d => fs ρ >>= fun ds => .ok (d :: ds) := rfl
@[simp] theorem tupA_eq : tupA fs ρ = fs ρ >>= fun ds => .ok (.tuple ds) := rfl
@[simp] theorem lstA_eq : lstA fs ρ = fs ρ >>= fun ds => .ok (.list ds) := rfl
@[simp] theorem appE_eq {F : List D → Rs D} : appE F fs ρ = fs ρ >>= F := rfl
@[simp] theorem chnE_eq {F F' : D → D → Rs D} : chnE F F' f g h ρ = f ρ >>= fun x => g ρ >>= fun y => F x y >>= fun r => blD r >>= fun b => if b then h ρ >>= fun z => F' y z else .ok (.bool false) := rfl
@[simp] theorem seqE_eq : seqE f ρ = f ρ >>= seqD := rfl
@[simp] theorem seqD_l {ds : List D} : seqD (.list ds) = .ok ds := rfl
@[simp] theorem seqD_t {ds : List D} : seqD (.tuple ds) = .ok ds := rfl
@[simp] theorem rng1_eq : Den.rng1 f ρ = f ρ >>= fun d => intD d >>= fun j => if -(big : Int) ≤ j ∧ j ≤ big then .ok (rngD 0 j.toNat) else .stuck := rfl
@[simp] theorem rng2_eq : Den.rng2 f g ρ = f ρ >>= fun d => g ρ >>= fun d' => intD d >>= fun i => intD d' >>= fun j => if (-(big : Int) ≤ i ∧ i ≤ big) ∧ (-(big : Int) ≤ j ∧ j ≤ big) then .ok (rngD i (j - i).toNat) else .stuck := rfl
@[simp] theorem lstI_eq {fi : DI} : lstI fi ρ = fi ρ >>= fun ds => .ok (.list ds) := rfl
@[simp] theorem tupI_eq {fi : DI} : tupI fi ρ = fi ρ >>= fun ds => .ok (.tuple ds) := rfl
@[simp] theorem enuE_eq : enuE f ρ = f ρ >>= seqD >>= fun ds => .ok (enuL 0 ds) := rfl
@[simp] theorem forS_eq {fi : DI} {st : STg} : forS fi st F ρ = fi ρ >>= fun ds => forL st F ds ρ := rfl
@[simp] theorem asgT_eq {st : STg} : asgT st f ρ = f ρ >>= fun d => (st d ρ).noexc >>= fun ρ' => .ok (.nx, ρ') := rfl
@[simp] theorem setN_eq {d : D} : setN i d ρ = .ok (ρ.set i (some d)) := rfl
@[simp] theorem setT_eq {is : List Nat} {ds : List D} : setT is (.tuple ds) ρ = setAll is ds ρ := rfl
@[simp] theorem setAll_nil : setAll [] [] ρ = .ok ρ := rfl
@[simp] theorem setAll_cons {is : List Nat} {d : D} {ds : List D} : setAll (i :: is) (d :: ds) ρ = setAll is ds (ρ.set i (some d)) := rfl
@[simp] theorem compE_eq {vs : List Nat} {fi : DI} {st : STg} {t : Ro → Rs Bool} : compE vs fi st t f ρ = fi ρ >>= fun ds => (compL st t f (wipeR ρ vs) ds).noexc >>= fun r => .ok (.list r) := rfl
@[simp] theorem compE2_eq {vs vs1 : List Nat} {fi fi1 : DI} {st st1 : STg} {t : Ro → Rs Bool} : compE2 vs fi st fi1 st1 t f vs1 ρ = fi ρ >>= fun ds => (compL2 st fi1 st1 t f vs1 (wipeR ρ vs) ds).noexc >>= fun r => if r.length ≤ big then .ok (.list r) else .stuck := rfl
@[simp] theorem wipeR_nil : wipeR ρ [] = ρ := rfl
@[simp] theorem wipeR_cons {vs : List Nat} : wipeR ρ (i :: vs) = (wipeR ρ vs).set i none := rfl
end
@[simp] theorem tg1 {i : Nat} {x : Str} {p : Pos} : Tg.st (.nm i x p) = setN i := rfl
@[simp] theorem tg2 {l : List (Nat × Str × Pos)} {k : Nat} {p : Pos} : Tg.st (.tp l k p) = setT (l.map (·.1)) := rfl
@[simp] theorem tg3 {i : Nat} {x : Str} {p : Pos} : Tg.is (.nm i x p) = [i] := rfl
@[simp] theorem tg4 {l : List (Nat × Str × Pos)} {k : Nat} {p : Pos} : Tg.is (.tp l k p) = l.map (·.1) := rfl
@[simp] theorem co1 : Co.F .lt = ordD fun i j => decide (i < j) := rfl
@[simp] theorem co2 : Co.F .le = ordD fun i j => decide (i ≤ j) := rfl
@[simp] theorem co3 : Co.F .gt = ordD fun i j => decide (j < i) := rfl
@[simp] theorem co4 : Co.F .ge = ordD fun i j => decide (j ≤ i) := rfl
@[simp] theorem co5 : Co.F .eq = eqD := rfl
@[simp] theorem co6 : Co.F .ne = neD := rfl
@[simp] theorem co7 : Co.F .isin = inD false := rfl
@[simp] theorem co8 : Co.F .notin = inD true := rfl
@[simp] theorem co9 : Co.F .is = isD false := rfl
@[simp] theorem co10 : Co.F .isnot = isD true := rfl
@[simp] theorem ordD_int {q : Int → Int → Bool} {i j : Int} : ordD q (.int i) (.int j) = .ok (.bool (q i j)) := rfl
@[simp] theorem bo1 : Bo.F .add = addD := rfl
@[simp] theorem bo2 : Bo.F .sub = subD := rfl
@[simp] theorem bo3 : Bo.F .mul = mulD := rfl
@[simp] theorem bo4 : Bo.F .div = divD := rfl
@[simp] theorem bo5 : Bo.F .mod = modD := rfl
@[simp] theorem bo6 : Bo.F .pow = powD := rfl
@[simp] theorem addD_int {i j : Int} : addD (.int i) (.int j) = .ok (.int (i + j)) := rfl
@[simp] theorem addD_l {a b : List D} : addD (.list a) (.list b) = if a.length + b.length ≤ big then .ok (.list (a ++ b)) else .stuck := rfl
@[simp] theorem addD_t {a b : List D} : addD (.tuple a) (.tuple b) = if a.length + b.length ≤ big then .ok (.tuple (a ++ b)) else .stuck := rfl
@[simp] theorem addL_l {a b : List D} : addL (.list a) (.list b) = if a.length + b.length ≤ big then .ok (.list (a ++ b)) else .stuck := rfl
@[simp] theorem subD_int {i j : Int} : subD (.int i) (.int j) = .ok (.int (i - j)) := rfl
@[simp] theorem mulD_int {i j : Int} : mulD (.int i) (.int j) = if (-(2 ^ 64) < i ∧ i < 2 ^ 64) ∨ (-(2 ^ 64) < j ∧ j < 2 ^ 64) then .ok (.int (i * j)) else .stuck := rfl
@[simp] theorem divD_int {i j : Int} : divD (.int i) (.int j) = if 0 < j ∧ j < 2 ^ 64 then .ok (.int (i / j)) else .stuck := rfl
@[simp] theorem modD_int {i j : Int} : modD (.int i) (.int j) = if 0 < j then .ok (.int (i % j)) else .stuck := rfl
@[simp] theorem powD_int {i j : Int} : powD (.int i) (.int j) = if 0 ≤ j ∧ j ≤ 64 ∧ i.natAbs < 2 ^ 64 then .ok (.int (i ^ j.toNat)) else .stuck := rfl
@[simp] theorem negD_int {i : Int} : negD (.int i) = .ok (.int (-i)) := rfl
@[simp] theorem lenD_l {ds : List D} : lenD [.list ds] = .ok (.int ds.length) := rfl
@[simp] theorem lenD_t {ds : List D} : lenD [.tuple ds] = .ok (.int ds.length) := rfl
@[simp] theorem pr1 : Pr.F .len = lenD := rfl
@[simp] theorem pr2 : Pr.F .all = allD := rfl
@[simp] theorem pr3 : Pr.F .any = anyD := rfl
@[simp] theorem pr4 : Pr.F .max = maxD := rfl
@[simp] theorem pr5 : Pr.F .min = minD := rfl
@[simp] theorem pr6 : Pr.F .tuple = tupleD := rfl
@[simp] theorem pr7 : Pr.F .list = listD := rfl
@[simp] theorem pr8 : Pr.F .sorted = sortedD := rfl
@[simp] theorem tupleD_l {ds : List D} : tupleD [.list ds] = .ok (.tuple ds) := rfl
@[simp] theorem listD_l {ds : List D} : listD [.list ds] = .ok (.list ds) := rfl
@[simp] theorem listD_t {ds : List D} : listD [.tuple ds] = .ok (.list ds) := rfl
@[simp] theorem allD_bs {bs : List Bool} : allD [.list (bs.map PyData.bool)] = .ok (.bool (bs.all id)) := by simp [allD]
@[simp] theorem anyD_bs {bs : List Bool} : anyD [.list (bs.map PyData.bool)] = .ok (.bool (bs.any id)) := by simp [anyD]
@[simp] theorem allD_map {α : Type} (f : α → Bool) (l : List α) : allD [.list (l.map fun a => PyData.bool (f a))] = .ok (.bool (l.all f)) := by
  have := allD_bs (bs := l.map f)
  rw [List.map_map] at this
  rw [show (fun a => PyData.bool (f a)) = PyData.bool ∘ f from rfl, this]
  simp
@[simp] theorem anyD_map {α : Type} (f : α → Bool) (l : List α) : anyD [.list (l.map fun a => PyData.bool (f a))] = .ok (.bool (l.any f)) := by
  have := anyD_bs (bs := l.map f)
  rw [List.map_map] at this
  rw [show (fun a => PyData.bool (f a)) = PyData.bool ∘ f from rfl, this]
  simp
@[simp] theorem cd1 : Cst.d .non = .none := rfl
@[simp] theorem cd2 {b : Bool} : Cst.d (.bl b) = .bool b := rfl
@[simp] theorem cd3 {i : Int} : Cst.d (.int i) = .int i := rfl
@[simp] theorem cd4 {x : Str} : Cst.d (.str x) = .str x := rfl
@[simp] theorem repL_eq {ds : List D} {k : Int} : repL ds k = if 0 ≤ k ∧ k ≤ 1000 then .ok (.list (List.replicate k.toNat ds).flatten) else .stuck := rfl
@[simp] theorem ixD_l {ds : List D} {i : Int} : ixD (.list ds) (.int i) = match L2.atI ds i with | some d => .ok d | none => .stuck := rfl
@[simp] theorem ixD_t {ds : List D} {i : Int} : ixD (.tuple ds) (.int i) = match L2.atI ds i with | some d => .ok d | none => .stuck := rfl
@[simp] theorem slD_l {ds : List D} {a b : Option Int} : slD a b (.list ds) = .ok (.list (cutD ds a b)) := rfl
@[simp] theorem slD_t {ds : List D} {a b : Option Int} : slD a b (.tuple ds) = .ok (.tuple (cutD ds a b)) := rfl
@[simp] theorem slL_l {ds : List D} {a b : Option Int} : slL a b (.list ds) = .ok (.list (cutD ds a b)) := rfl
theorem atI_nn {α : Type} {ds : List α} {k : Nat} (h : k < ds.length) : L2.atI ds (k : Int) = some ds[k] := by
  unfold L2.atI L2.ixN
  rw [if_pos (by omega)]
  simp [h]
@[simp] theorem atI_0 {α : Type} {a : α} {r : List α} : L2.atI (a :: r) 0 = some a := by
  have := atI_nn (ds := a :: r) (k := 0) (by simp)
  simpa using this
@[simp] theorem atI_1 {α : Type} {a b : α} {r : List α} : L2.atI (a :: b :: r) 1 = some b := by
  have := atI_nn (ds := a :: b :: r) (k := 1) (by simp)
  simpa using this
@[simp] theorem atI_2 {α : Type} {a b c : α} {r : List α} : L2.atI (a :: b :: c :: r) 2 = some c := by
  have := atI_nn (ds := a :: b :: c :: r) (k := 2) (by simp)
  simpa using this
@[simp] theorem atI_3 {α : Type} {a b c d : α} {r : List α} : L2.atI (a :: b :: c :: d :: r) 3 = some d := by
  have := atI_nn (ds := a :: b :: c :: d :: r) (k := 3) (by simp)
  simpa using this
@[simp] theorem endD_rt {d : D} {ρ : Ro} : endD (.ok (.rt d, ρ)) = .ok d := rfl
@[simp] theorem endD_nx {ρ : Ro} : endD (.ok (.nx, ρ)) = .ok .none := rfl
@[simp] theorem endD_exc {c : Nat} : endD (.exc c) = .exc c := rfl
theorem wp_end {r : Rs (Fl × Ro)} {Q : D → Prop} : Wp (endD r) Q ↔ Wp r fun p => match p with | (.rt d, _) => Q d | (.nx, _) => Q .none | _ => False := by
  cases r with
  | ok p =>
    obtain ⟨fl, ρ⟩ := p
    cases fl <;> exact .rfl
  | exc c => exact .rfl
  | stuck => exact .rfl
theorem wp_def {ft : Tb} {n k : Nat} {ss : Ss} {ds : List D} {Q : D → Prop} (hl : ds.length = n) (h : Wp (ss.den ft (startD k ds)) fun p => match p with | (.rt d, _) => Q d | (.nx, _) => Q .none | _ => False) : Wp (defD ft n k ss ds) Q := by
  unfold defD
  rw [if_pos hl]
  exact wp_end.mpr h
theorem cut_from (ds : List D) (k : Nat) : cutD ds (some (k : Int)) none = ds.drop k := by
  unfold cutD
  rw [HT.sIx_nat, HT.sIx_none]
  by_cases h : k ≤ ds.length
  · rw [Nat.min_eq_left h, List.take_of_length_le (by simp)]
  · rw [List.drop_eq_nil_of_le (by omega), List.drop_eq_nil_of_le (by omega), List.take_nil]
theorem cut_to (ds : List D) (k : Nat) : cutD ds none (some (k : Int)) = ds.take k := by
  unfold cutD
  rw [HT.sIx_nat, HT.sIx_none, List.drop_zero, Nat.sub_zero]
  by_cases h : k ≤ ds.length
  · rw [Nat.min_eq_left h]
  · rw [Nat.min_eq_right (by omega), List.take_of_length_le (by omega), List.take_of_length_le (by omega)]
theorem wp_for {α : Type} {st : STg} {F : DS} {g : α → D} (I : Nat → Ro → Prop) {Q : Fl × Ro → Prop} : ∀ (l : List α) (ρ : Ro) (k : Nat), I k ρ →
    (∀ i a ρ, l[i]? = some a → I (k + i) ρ → Wp (st (g a) ρ) fun ρ1 => Wp (F ρ1) fun p => match p with
      | (.nx, ρ2) => I (k + i + 1) ρ2
      | (.ct, ρ2) => I (k + i + 1) ρ2
      | (.bk, ρ2) => Q (.nx, ρ2)
      | (.rt d, ρ2) => Q (.rt d, ρ2)) → (∀ ρ, I (k + l.length) ρ → Q (.nx, ρ)) → Wp (forL st F (l.map g) ρ) Q
  | [], ρ, k, h0, _, hq => hq ρ h0
  | a :: l, ρ, k, h0, hs, hq => by
    show Wp (forL st F (g a :: l.map g) ρ) Q
    unfold forL
    rw [wp_bind, wp_noexc]
    have h1 := hs 0 a ρ rfl h0
    refine h1.imp fun ρ1 h2 => ?_
    rw [wp_bind]
    refine h2.imp fun p h3 => ?_
    obtain ⟨fl, ρ2⟩ := p
    have next : I (k + 0 + 1) ρ2 → Wp (forL st F (l.map g) ρ2) Q := fun h4 => wp_for I l ρ2 (k + 1) h4 (fun i b ρ3 e hi => by
      have := hs (i + 1) b ρ3 (by simpa using e) (by rw [show k + (i + 1) = k + 1 + i by omega]; exact hi)
      rw [show k + (i + 1) + 1 = k + 1 + i + 1 by omega] at this
      exact this) fun ρ3 h => hq ρ3 (by rw [List.length_cons, show k + (l.length + 1) = k + 1 + l.length by omega]; exact h)
    cases fl with
    | nx => exact next h3
    | ct => exact next h3
    | bk => exact h3
    | rt d => exact h3
theorem wp_while {c : DE} {F : DS} (I : Nat → Ro → Prop) {Q : Fl × Ro → Prop} : ∀ (m : Nat) (ρ : Ro) (n : Nat), m < n → I m ρ →
    (∀ m ρ, I m ρ → Wp (tstE c ρ) fun b => if b then Wp (F ρ) fun p => match p with
      | (.nx, ρ2) => ∃ m', m' < m ∧ I m' ρ2
      | (.ct, ρ2) => ∃ m', m' < m ∧ I m' ρ2
      | (.bk, ρ2) => Q (.nx, ρ2)
      | (.rt d, ρ2) => Q (.rt d, ρ2) else Q (.nx, ρ)) → Wp (whlL c F n ρ) Q := fun m => by
  induction m using Nat.strongRecOn with
  | _ m ih =>
    intro ρ n hm h0 hs
    cases n with
    | zero => omega
    | succ n =>
      unfold whlL
      rw [wp_bind]
      refine (hs m ρ h0).imp fun b hb => ?_
      cases b with
      | false => exact hb
      | true =>
        have hb' : Wp (F ρ) _ := hb
        rw [if_pos rfl, wp_bind]
        refine hb'.imp fun p h3 => ?_
        obtain ⟨fl, ρ2⟩ := p
        cases fl with
        | nx => obtain ⟨m', h4, h5⟩ := h3; exact ih m' h4 ρ2 n (by omega) h5 hs
        | ct => obtain ⟨m', h4, h5⟩ := h3; exact ih m' h4 ρ2 n (by omega) h5 hs
        | bk => exact h3
        | rt d => exact h3
theorem compL_map {α : Type} {st : STg} {t : Ro → Rs Bool} {f : DE} {g : α → D} {p : α → Bool} {h : α → D} {ρ : Ro} : ∀ l : List α, (∀ a ∈ l, Wp (st (g a) ρ) fun ρ1 => t ρ1 = .ok (p a) ∧ (p a = true → f ρ1 = .ok (h a))) → compL st t f ρ (l.map g) = .ok ((l.filter p).map h)
  | [], _ => rfl
  | a :: l, H => by
    have ih := compL_map l fun b hb => H b (List.mem_cons_of_mem _ hb)
    obtain ⟨ρ1, e1, e2, e3⟩ := wp_iff.mp (H a List.mem_cons_self)
    show compL st t f ρ (g a :: l.map g) = _
    unfold compL
    rw [e1, Rs.ok_bind, e2, Rs.ok_bind]
    cases hp : p a with
    | true => rw [if_pos rfl, e3 hp, Rs.ok_bind, ih, List.filter_cons_of_pos hp]; rfl
    | false => rw [if_neg (by decide), ih, List.filter_cons_of_neg (by rw [hp]; decide)]
theorem compL_all {α : Type} {st : STg} {f : DE} {g : α → D} {h : α → D} {ρ : Ro} (l : List α) (H : ∀ a ∈ l, Wp (st (g a) ρ) fun ρ1 => f ρ1 = .ok (h a)) : compL st (fun _ => .ok true) f ρ (l.map g) = .ok (l.map h) := by
  have := compL_map (p := fun _ => true) (t := fun _ => .ok true) l fun a ha => (H a ha).imp fun ρ1 e => ⟨rfl, fun _ => e⟩
  rw [this, List.filter_eq_self.mpr fun _ _ => rfl]
theorem compL2_map {α β : Type} {st st1 : STg} {fi1 : DI} {t : Ro → Rs Bool} {f : DE} {vs1 : List Nat} {g : α → D} {g1 : β → D} {l1 : α → List β} {p : α → β → Bool} {h : α → β → D} {ρ : Ro} : ∀ l : List α,
    (∀ a ∈ l, Wp (st (g a) ρ) fun ρ1 => fi1 ρ1 = .ok ((l1 a).map g1) ∧ ∀ b ∈ l1 a, Wp (st1 (g1 b) (wipeR ρ1 vs1)) fun ρ2 => t ρ2 = .ok (p a b) ∧ (p a b = true → f ρ2 = .ok (h a b))) → compL2 st fi1 st1 t f vs1 ρ (l.map g) = .ok (l.flatMap fun a => ((l1 a).filter (p a)).map (h a))
  | [], _ => rfl
  | a :: l, H => by
    have ih := compL2_map l fun b hb => H b (List.mem_cons_of_mem _ hb)
    obtain ⟨ρ1, e1, e2, e3⟩ := wp_iff.mp (H a List.mem_cons_self)
    show compL2 st fi1 st1 t f vs1 ρ (g a :: l.map g) = _
    unfold compL2
    rw [e1, Rs.ok_bind, e2, Rs.ok_bind, compL_map (l1 a) e3, Rs.ok_bind, ih]
    rfl
@[simp] theorem noexc_ok' {α : Type} (a : α) : (Rs.ok a).noexc = .ok a := rfl
theorem rng_map (lo : Int) (n : Nat) : rngD lo n = (List.range n).map fun i : Nat => PyData.int (lo + (i : Int)) := rfl
theorem rng0_map (n : Nat) : rngD 0 n = (List.range n).map fun i : Nat => PyData.int (i : Int) := by
  rw [rng_map]
  simp
def Sh (n : Nat) (d : D) : Prop := d.canLay0 = true ∧ d.depth ≤ n
theorem shaped_of {n : Nat} {d : D} (h : Sh n d) (hn : n ≤ 64) : SeqAt.shaped d = true := by
  unfold SeqAt.shaped
  rw [h.1, Bool.true_and]
  exact decide_eq_true (Nat.le_trans h.2 hn)
theorem sh_all {n : Nat} : ∀ {ds : List D}, (∀ d ∈ ds, Sh n d) → PyData.canLayAll0 ds = true ∧ PyData.depthAll ds ≤ n
  | [], _ => ⟨rfl, Nat.zero_le _⟩
  | d :: ds, h => by
    obtain ⟨h1, h2⟩ := h d List.mem_cons_self
    obtain ⟨h3, h4⟩ := sh_all fun x hx => h x (List.mem_cons_of_mem _ hx)
    refine ⟨?_, ?_⟩
    · show (d.canLay0 && PyData.canLayAll0 ds) = true
      rw [h1, h3]; rfl
    · show max d.depth (PyData.depthAll ds) ≤ n
      omega
theorem sh_list {n : Nat} {ds : List D} (h : ∀ d ∈ ds, Sh n d) : Sh (n + 1) (.list ds) := ⟨(sh_all h).1, Nat.succ_le_succ (sh_all h).2⟩
theorem sh_tuple {n : Nat} {ds : List D} (h : ∀ d ∈ ds, Sh n d) : Sh (n + 1) (.tuple ds) := ⟨(sh_all h).1, Nat.succ_le_succ (sh_all h).2⟩
theorem sh_int {n : Nat} (i : Int) : Sh n (.int i) := ⟨rfl, Nat.zero_le _⟩
theorem sh_bool {n : Nat} (i : Bool) : Sh n (.bool i) := ⟨rfl, Nat.zero_le _⟩
theorem sh_none {n : Nat} : Sh n .none := ⟨rfl, Nat.zero_le _⟩
theorem Sh.up {n m : Nat} {d : D} (h : Sh n d) (k : n ≤ m) : Sh m d := ⟨h.1, Nat.le_trans h.2 k⟩
class Enc (α : Type) [DecidableEq α] where
  e : α → D
  n : Nat
  sh : ∀ a, Sh n (e a)
  eq : ∀ a b, PyData.eqv (e a) (e b) = decide (a = b)
instance encInt : Enc Int := ⟨.int, 0, sh_int, fun a b => by
  show (a == b) = _
  by_cases h : a = b <;> simp [h]⟩
instance encNat : Enc Nat := ⟨fun k => .int (k : Int), 0, fun k => sh_int _, fun a b => by
  show ((a : Int) == (b : Int)) = _
  by_cases h : a = b
  · simp [h]
  · have : ¬ (a : Int) = (b : Int) := by omega
    simp [h, this]⟩
theorem eqvAll_map {α : Type} [DecidableEq α] {e : α → D} (h : ∀ a b, PyData.eqv (e a) (e b) = decide (a = b)) : ∀ l m : List α, PyData.eqvAll (l.map e) (m.map e) = decide (l = m)
  | [], [] => rfl
  | [], _ :: _ => rfl
  | _ :: _, [] => rfl
  | a :: l, b :: m => by
    show (PyData.eqv (e a) (e b) && PyData.eqvAll (l.map e) (m.map e)) = _
    rw [h, eqvAll_map h l m]
    by_cases h1 : a = b <;> by_cases h2 : l = m <;> simp [h1, h2]
instance encPair {α β : Type} [DecidableEq α] [DecidableEq β] [Enc α] [Enc β] : Enc (α × β) := ⟨fun p => .tuple [Enc.e p.1, Enc.e p.2], max (Enc.n α) (Enc.n β) + 1, fun p => sh_tuple fun d hd => by
  rcases List.mem_cons.mp hd with rfl | hd
  · exact (Enc.sh p.1).up (Nat.le_max_left _ _)
  · rw [List.mem_singleton.mp hd]
    exact (Enc.sh p.2).up (Nat.le_max_right _ _), fun p q => by
  show (PyData.eqv (Enc.e p.1) (Enc.e q.1) && (PyData.eqv (Enc.e p.2) (Enc.e q.2) && true)) = _
  rw [Enc.eq, Enc.eq]
  by_cases h1 : p.1 = q.1 <;> by_cases h2 : p.2 = q.2 <;> simp [h1, h2, Prod.ext_iff]⟩
instance encList {α : Type} [DecidableEq α] [Enc α] : Enc (List α) := ⟨fun l => .list (l.map Enc.e), Enc.n α + 1, fun l => sh_list fun d hd => by
  obtain ⟨a, _, rfl⟩ := List.mem_map.mp hd
  exact Enc.sh a, fun l m => eqvAll_map Enc.eq l m⟩
structure Tu (α : Type) where
  l : List α
deriving DecidableEq
instance encTu {α : Type} [DecidableEq α] [Enc α] : Enc (Tu α) := ⟨fun l => .tuple (l.l.map Enc.e), Enc.n α + 1, fun l => sh_tuple fun d hd => by
  obtain ⟨a, _, rfl⟩ := List.mem_map.mp hd
  exact Enc.sh a, fun l m => (eqvAll_map Enc.eq l.l m.l).trans (by
    cases l; cases m
    simp)⟩
structure Pan where
  a : Int
  b : Int
  c : Int
  d : Int
deriving DecidableEq
def pD (p : Pan) : D := .tuple [.int p.a, .int p.b, .int p.c, .int p.d]
instance encPan : Enc Pan := ⟨pD, 1, fun p => sh_tuple fun d hd => by
  simp only [List.mem_cons, List.not_mem_nil, or_false] at hd
  rcases hd with rfl | rfl | rfl | rfl <;> exact sh_int _, fun p q => by
  show ((p.a == q.a) && ((p.b == q.b) && ((p.c == q.c) && ((p.d == q.d) && true)))) = _
  cases p; cases q
  simp only [Pan.mk.injEq, Bool.and_true]
  rename_i a b c d a' b' c' d'
  by_cases h1 : a = a' <;> by_cases h2 : b = b' <;> by_cases h3 : c = c' <;> by_cases h4 : d = d' <;> simp [h1, h2, h3, h4]⟩
section
variable {α : Type} [DecidableEq α] [Enc α]
theorem eqD_e (hn : Enc.n α ≤ 64) (a b : α) : eqD (Enc.e a) (Enc.e b) = .ok (.bool (decide (a = b))) := by
  unfold eqD
  rw [if_pos ⟨shaped_of (Enc.sh a) hn, shaped_of (Enc.sh b) hn⟩, Enc.eq]
theorem neD_e (hn : Enc.n α ≤ 64) (a b : α) : neD (Enc.e a) (Enc.e b) = .ok (.bool (!decide (a = b))) := by
  unfold neD
  rw [if_pos ⟨shaped_of (Enc.sh a) hn, shaped_of (Enc.sh b) hn⟩, Enc.eq]
theorem inL_e (a : α) (l : List α) : inL (Enc.e a) (l.map Enc.e) = decide (a ∈ l) := by
  unfold inL
  induction l with
  | nil => rfl
  | cons b l ih =>
    rw [List.map_cons, List.any_cons, ih, Enc.eq]
    by_cases h1 : b = a
    · simp [h1]
    · have : ¬ a = b := fun e => h1 e.symm
      simp [h1, this]
theorem inD_l (hn : Enc.n α + 1 ≤ 64) (a : α) (l : List α) : inD false (Enc.e a) (.list (l.map Enc.e)) = .ok (.bool (decide (a ∈ l))) := by
  show (if _ then _ else _) = _
  rw [if_pos ⟨shaped_of (Enc.sh a) (by omega), shaped_of (Enc.sh l) hn⟩, inL_e]; rfl
theorem notinD_l (hn : Enc.n α + 1 ≤ 64) (a : α) (l : List α) : inD true (Enc.e a) (.list (l.map Enc.e)) = .ok (.bool (!decide (a ∈ l))) := by
  show (if _ then _ else _) = _
  rw [if_pos ⟨shaped_of (Enc.sh a) (by omega), shaped_of (Enc.sh l) hn⟩, inL_e]; rfl
theorem inD_b (hn : Enc.n α + 1 ≤ 64) (a : α) (l : List α) (b : Bool) (h : a ∈ l ↔ b = true) : inD false (Enc.e a) (.list (l.map Enc.e)) = .ok (.bool b) := by
  rw [inD_l hn]
  congr 2
  rw [Bool.eq_iff_iff, decide_eq_true_iff]
  exact h
theorem notinD_b (hn : Enc.n α + 1 ≤ 64) (a : α) (l : List α) (b : Bool) (h : a ∈ l ↔ b = true) : inD true (Enc.e a) (.list (l.map Enc.e)) = .ok (.bool (!b)) := by
  rw [notinD_l hn]
  congr 3
  rw [Bool.eq_iff_iff, decide_eq_true_iff]
  exact h
end
end Den
namespace K21
open PySem PySem.Spec PyProof.Rows L2 Den
def top (i : Nat) : Stmt := PySem.Challenge.pw_panelorder_k21_alike.main.body.getD i (.Pass ⟨0, 0, 0, 0⟩)
def exs : List Str := ["InvalidPage", "InvalidNumber"]
def gls : List (Str × Cst) := [("SIZE", (.int 20)), ("MAX_PANELS", (.int 8))]
def bls : List Str := ["len", "all", "any", "max", "min", "tuple", "list", "sorted", "range", "isinstance", "enumerate", "int", "bool", "str"]
def n0 : List Str := ["value", "least", "most"]
def g0 : Sg := ⟨n0, fun _ => false, gls, [], bls⟩
def s0 : Ss := (.cons (.ret (.and (.isi .int (.var 0 "value" ⟨12, 22, 12, 27⟩) ⟨12, 11, 12, 21⟩ ⟨12, 29, 12, 32⟩ ⟨12, 11, 12, 33⟩) (.cons (.not (.isi .bool (.var 0 "value" ⟨12, 54, 12, 59⟩) ⟨12, 43, 12, 53⟩ ⟨12, 61, 12, 65⟩ ⟨12, 43, 12, 66⟩) ⟨12, 39, 12, 66⟩) (.cons (.chn .le .le (.var 1 "least" ⟨12, 73, 12, 78⟩) (.var 0 "value" ⟨12, 82, 12, 87⟩) (.var 2 "most" ⟨12, 91, 12, 95⟩) ⟨12, 73, 12, 95⟩) .nil)) ⟨12, 11, 12, 96⟩) ⟨12, 4, 12, 96⟩)
    .nil)
theorem py0 : s0.py = defBody (top 7) := by kernel_rfl
theorem ok0 : s0.ok g0 exs (defScope (top 7)) = true := by kernel_rfl
theorem sc0 : FnScope n0 ["value", "least", "most"] (defScope (top 7)) := scB_ok (by kernel_rfl)
def ds0 : List (List D → Rs D) := []
def d0 : List D → Rs D := defD (tbl ds0) 3 3 s0
def n1 : List Str := ["value", "part"]
def g1 : Sg := ⟨n1, fun _ => false, gls, [("is_int", 3)], bls⟩
def s1 : Ss := (.cons (.iff (.or (.not (.isi .tuple (.var 0 "value" ⟨14, 22, 14, 27⟩) ⟨14, 11, 14, 21⟩ ⟨14, 29, 14, 34⟩ ⟨14, 11, 14, 35⟩) ⟨14, 7, 14, 35⟩) (.cons (.cmp .ne (.prim .len ⟨14, 39, 14, 42⟩ (.var 0 "value" ⟨14, 43, 14, 48⟩) .nil ⟨14, 39, 14, 49⟩) (.cst (.int 4) 0 ⟨14, 53, 14, 54⟩) ⟨14, 39, 14, 54⟩) (.cons (.not (.prim .all ⟨14, 63, 14, 66⟩ (.comp (.call 0 "is_int" ⟨14, 68, 14, 74⟩ (.var 1 "part" ⟨14, 75, 14, 79⟩) (.cons (.cst (.int 0) 0 ⟨14, 81, 14, 82⟩) (.cons (.glo "SIZE" (.int 20) ⟨14, 84, 14, 88⟩) .nil)) ⟨14, 68, 14, 89⟩) (.nm 1 "part" ⟨14, 94, 14, 98⟩) (.seq (.var 0 "value" ⟨14, 102, 14, 107⟩)) .nil ⟨.function, [(".0", .local), ("part", .local), ("is_int", .globalImplicit), ("SIZE", .globalImplicit)], false, false, []⟩ [("part", 1)] ⟨14, 67, 14, 108⟩) .nil ⟨14, 63, 14, 109⟩) ⟨14, 59, 14, 109⟩) .nil)) ⟨14, 7, 14, 110⟩) (.cons (.ret (.cst (.bl false) 0 ⟨15, 15, 15, 20⟩) ⟨15, 8, 15, 20⟩)
    .nil) .nil ⟨14, 4, 15, 20⟩)
    (.cons (.ret (.and (.cmp .lt (.ix (.var 0 "value" ⟨16, 11, 16, 16⟩) (.cst (.int 0) 0 ⟨16, 17, 16, 18⟩) ⟨16, 11, 16, 19⟩) (.ix (.var 0 "value" ⟨16, 22, 16, 27⟩) (.cst (.int 2) 0 ⟨16, 28, 16, 29⟩) ⟨16, 22, 16, 30⟩) ⟨16, 11, 16, 30⟩) (.cons (.cmp .lt (.ix (.var 0 "value" ⟨16, 35, 16, 40⟩) (.cst (.int 1) 0 ⟨16, 41, 16, 42⟩) ⟨16, 35, 16, 43⟩) (.ix (.var 0 "value" ⟨16, 46, 16, 51⟩) (.cst (.int 3) 0 ⟨16, 52, 16, 53⟩) ⟨16, 46, 16, 54⟩) ⟨16, 35, 16, 54⟩) .nil) ⟨16, 11, 16, 54⟩) ⟨16, 4, 16, 54⟩)
    .nil))
theorem py1 : s1.py = defBody (top 8) := by kernel_rfl
theorem ok1 : s1.ok g1 exs (defScope (top 8)) = true := by kernel_rfl
theorem sc1 : FnScope n1 ["value"] (defScope (top 8)) := scB_ok (by kernel_rfl)
def ds1 : List (List D → Rs D) := [d0]
def d1 : List D → Rs D := defD (tbl ds1) 1 2 s1
def n2 : List Str := ["one", "other"]
def g2 : Sg := ⟨n2, fun _ => false, gls, [("is_int", 3), ("is_panel", 1)], bls⟩
def s2 : Ss := (.cons (.ret (.and (.cmp .lt (.ix (.var 0 "one" ⟨18, 11, 18, 14⟩) (.cst (.int 0) 0 ⟨18, 15, 18, 16⟩) ⟨18, 11, 18, 17⟩) (.ix (.var 1 "other" ⟨18, 20, 18, 25⟩) (.cst (.int 2) 0 ⟨18, 26, 18, 27⟩) ⟨18, 20, 18, 28⟩) ⟨18, 11, 18, 28⟩) (.cons (.cmp .lt (.ix (.var 1 "other" ⟨18, 33, 18, 38⟩) (.cst (.int 0) 0 ⟨18, 39, 18, 40⟩) ⟨18, 33, 18, 41⟩) (.ix (.var 0 "one" ⟨18, 44, 18, 47⟩) (.cst (.int 2) 0 ⟨18, 48, 18, 49⟩) ⟨18, 44, 18, 50⟩) ⟨18, 33, 18, 50⟩) .nil) ⟨18, 11, 18, 50⟩) ⟨18, 4, 18, 50⟩)
    .nil)
theorem py2 : s2.py = defBody (top 9) := by kernel_rfl
theorem ok2 : s2.ok g2 exs (defScope (top 9)) = true := by kernel_rfl
theorem sc2 : FnScope n2 ["one", "other"] (defScope (top 9)) := scB_ok (by kernel_rfl)
def ds2 : List (List D → Rs D) := [d0, d1]
def d2 : List D → Rs D := defD (tbl ds2) 2 2 s2
def n3 : List Str := ["one", "other"]
def g3 : Sg := ⟨n3, fun _ => false, gls, [("is_int", 3), ("is_panel", 1), ("share_widths", 2)], bls⟩
def s3 : Ss := (.cons (.ret (.and (.cmp .lt (.ix (.var 0 "one" ⟨20, 11, 20, 14⟩) (.cst (.int 1) 0 ⟨20, 15, 20, 16⟩) ⟨20, 11, 20, 17⟩) (.ix (.var 1 "other" ⟨20, 20, 20, 25⟩) (.cst (.int 3) 0 ⟨20, 26, 20, 27⟩) ⟨20, 20, 20, 28⟩) ⟨20, 11, 20, 28⟩) (.cons (.cmp .lt (.ix (.var 1 "other" ⟨20, 33, 20, 38⟩) (.cst (.int 1) 0 ⟨20, 39, 20, 40⟩) ⟨20, 33, 20, 41⟩) (.ix (.var 0 "one" ⟨20, 44, 20, 47⟩) (.cst (.int 3) 0 ⟨20, 48, 20, 49⟩) ⟨20, 44, 20, 50⟩) ⟨20, 33, 20, 50⟩) .nil) ⟨20, 11, 20, 50⟩) ⟨20, 4, 20, 50⟩)
    .nil)
theorem py3 : s3.py = defBody (top 10) := by kernel_rfl
theorem ok3 : s3.ok g3 exs (defScope (top 10)) = true := by kernel_rfl
theorem sc3 : FnScope n3 ["one", "other"] (defScope (top 10)) := scB_ok (by kernel_rfl)
def ds3 : List (List D → Rs D) := [d0, d1, d2]
def d3 : List D → Rs D := defD (tbl ds3) 2 2 s3
def n4 : List Str := ["candidate", "index", "one", "panel", "other"]
def g4 : Sg := ⟨n4, fun _ => false, gls, [("is_int", 3), ("is_panel", 1), ("share_widths", 2), ("share_heights", 2)], bls⟩
def s4 : Ss := (.cons (.iff (.or (.not (.isi .tuple (.var 0 "candidate" ⟨22, 22, 22, 31⟩) ⟨22, 11, 22, 21⟩ ⟨22, 33, 22, 38⟩ ⟨22, 11, 22, 39⟩) ⟨22, 7, 22, 39⟩) (.cons (.cmp .gt (.prim .len ⟨22, 43, 22, 46⟩ (.var 0 "candidate" ⟨22, 47, 22, 56⟩) .nil ⟨22, 43, 22, 57⟩) (.glo "MAX_PANELS" (.int 8) ⟨22, 60, 22, 70⟩) ⟨22, 43, 22, 70⟩) .nil) ⟨22, 7, 22, 70⟩) (.cons (.ret (.cst (.bl false) 0 ⟨23, 15, 23, 20⟩) ⟨23, 8, 23, 20⟩)
    .nil) .nil ⟨22, 4, 23, 20⟩)
    (.cons (.iff (.not (.prim .all ⟨24, 11, 24, 14⟩ (.comp (.call 1 "is_panel" ⟨24, 16, 24, 24⟩ (.var 3 "panel" ⟨24, 25, 24, 30⟩) .nil ⟨24, 16, 24, 31⟩) (.nm 3 "panel" ⟨24, 36, 24, 41⟩) (.seq (.var 0 "candidate" ⟨24, 45, 24, 54⟩)) .nil ⟨.function, [(".0", .local), ("panel", .local), ("is_panel", .globalImplicit)], false, false, []⟩ [("panel", 3)] ⟨24, 15, 24, 55⟩) .nil ⟨24, 11, 24, 56⟩) ⟨24, 7, 24, 56⟩) (.cons (.ret (.cst (.bl false) 0 ⟨25, 15, 25, 20⟩) ⟨25, 8, 25, 20⟩)
    .nil) .nil ⟨24, 4, 25, 20⟩)
    (.cons (.for (.tp [(1, "index", ⟨26, 8, 26, 13⟩), (2, "one", ⟨26, 15, 26, 18⟩)] 0 ⟨26, 8, 26, 18⟩) (.enu (.var 0 "candidate" ⟨26, 32, 26, 41⟩) ⟨26, 22, 26, 31⟩ ⟨26, 22, 26, 42⟩) (.cons (.iff (.prim .any ⟨27, 11, 27, 14⟩ (.comp (.and (.call 2 "share_widths" ⟨27, 16, 27, 28⟩ (.var 2 "one" ⟨27, 29, 27, 32⟩) (.cons (.var 4 "other" ⟨27, 34, 27, 39⟩) .nil) ⟨27, 16, 27, 40⟩) (.cons (.call 3 "share_heights" ⟨27, 45, 27, 58⟩ (.var 2 "one" ⟨27, 59, 27, 62⟩) (.cons (.var 4 "other" ⟨27, 64, 27, 69⟩) .nil) ⟨27, 45, 27, 70⟩) .nil) ⟨27, 16, 27, 70⟩) (.nm 4 "other" ⟨27, 75, 27, 80⟩) (.seq (.slo (.var 0 "candidate" ⟨27, 84, 27, 93⟩) (.bin .add (.var 1 "index" ⟨27, 94, 27, 99⟩) (.cst (.int 1) 0 ⟨27, 102, 27, 103⟩) ⟨27, 94, 27, 103⟩) ⟨27, 94, 27, 104⟩ ⟨27, 84, 27, 105⟩)) .nil ⟨.function, [(".0", .local), ("other", .local), ("share_widths", .globalImplicit), ("share_heights", .globalImplicit), ("one", .free)], false, false, []⟩ [("other", 4)] ⟨27, 15, 27, 106⟩) .nil ⟨27, 11, 27, 107⟩) (.cons (.ret (.cst (.bl false) 0 ⟨28, 19, 28, 24⟩) ⟨28, 12, 28, 24⟩)
    .nil) .nil ⟨27, 8, 28, 24⟩)
    .nil) ⟨26, 4, 28, 24⟩)
    (.cons (.ret (.cst (.bl true) 0 ⟨29, 11, 29, 15⟩) ⟨29, 4, 29, 15⟩)
    .nil))))
theorem py4 : s4.py = defBody (top 11) := by kernel_rfl
theorem ok4 : s4.ok g4 exs (defScope (top 11)) = true := by kernel_rfl
theorem sc4 : FnScope n4 ["candidate"] (defScope (top 11)) := scB_ok (by kernel_rfl)
def ds4 : List (List D → Rs D) := [d0, d1, d2, d3]
def d4 : List D → Rs D := defD (tbl ds4) 1 5 s4
def n5 : List Str := ["value"]
def g5 : Sg := ⟨n5, fun _ => false, gls, [("is_int", 3), ("is_panel", 1), ("share_widths", 2), ("share_heights", 2), ("is_page", 1)], bls⟩
def s5 : Ss := (.cons (.iff (.not (.call 4 "is_page" ⟨31, 11, 31, 18⟩ (.var 0 "value" ⟨31, 19, 31, 24⟩) .nil ⟨31, 11, 31, 25⟩) ⟨31, 7, 31, 25⟩) (.cons (.rse 0 "InvalidPage" ⟨32, 14, 32, 25⟩ "the value is not a page" 0 ⟨32, 26, 32, 51⟩ ⟨32, 14, 32, 52⟩ ⟨32, 8, 32, 52⟩)
    .nil) .nil ⟨31, 4, 32, 52⟩)
    .nil)
theorem py5 : s5.py = defBody (top 12) := by kernel_rfl
theorem ok5 : s5.ok g5 exs (defScope (top 12)) = true := by kernel_rfl
theorem sc5 : FnScope n5 ["value"] (defScope (top 12)) := scB_ok (by kernel_rfl)
def ds5 : List (List D → Rs D) := [d0, d1, d2, d3, d4]
def d5 : List D → Rs D := defD (tbl ds5) 1 1 s5
def n6 : List Str := ["value", "least", "most"]
def g6 : Sg := ⟨n6, fun _ => false, gls, [("is_int", 3), ("is_panel", 1), ("share_widths", 2), ("share_heights", 2), ("is_page", 1), ("check_page", 1)], bls⟩
def s6 : Ss := (.cons (.iff (.not (.call 0 "is_int" ⟨34, 11, 34, 17⟩ (.var 0 "value" ⟨34, 18, 34, 23⟩) (.cons (.var 1 "least" ⟨34, 25, 34, 30⟩) (.cons (.var 2 "most" ⟨34, 32, 34, 36⟩) .nil)) ⟨34, 11, 34, 37⟩) ⟨34, 7, 34, 37⟩) (.cons (.rse 1 "InvalidNumber" ⟨35, 14, 35, 27⟩ "the value is not an integer in the right range" 0 ⟨35, 28, 35, 76⟩ ⟨35, 14, 35, 77⟩ ⟨35, 8, 35, 77⟩)
    .nil) .nil ⟨34, 4, 35, 77⟩)
    .nil)
theorem py6 : s6.py = defBody (top 13) := by kernel_rfl
theorem ok6 : s6.ok g6 exs (defScope (top 13)) = true := by kernel_rfl
theorem sc6 : FnScope n6 ["value", "least", "most"] (defScope (top 13)) := scB_ok (by kernel_rfl)
def ds6 : List (List D → Rs D) := [d0, d1, d2, d3, d4, d5]
def d6 : List D → Rs D := defD (tbl ds6) 3 3 s6
def n7 : List Str := ["page", "one", "other", "left", "right"]
def g7 : Sg := ⟨n7, fun _ => false, gls, [("is_int", 3), ("is_panel", 1), ("share_widths", 2), ("share_heights", 2), ("is_page", 1), ("check_page", 1), ("check_number", 3)], bls⟩
def s7 : Ss := (.cons (.par [(3, "left", ⟨37, 4, 37, 8⟩), (4, "right", ⟨37, 10, 37, 15⟩)] 0 ⟨37, 4, 37, 15⟩ (.cons (.ix (.var 0 "page" ⟨37, 19, 37, 23⟩) (.var 1 "one" ⟨37, 24, 37, 27⟩) ⟨37, 19, 37, 28⟩) (.cons (.ix (.var 0 "page" ⟨37, 30, 37, 34⟩) (.var 2 "other" ⟨37, 35, 37, 40⟩) ⟨37, 30, 37, 41⟩) .nil)) 0 ⟨37, 18, 37, 42⟩ ⟨37, 4, 37, 42⟩)
    (.cons (.iff (.and (.cmp .le (.ix (.var 3 "left" ⟨38, 7, 38, 11⟩) (.cst (.int 2) 0 ⟨38, 12, 38, 13⟩) ⟨38, 7, 38, 14⟩) (.ix (.var 4 "right" ⟨38, 18, 38, 23⟩) (.cst (.int 0) 0 ⟨38, 24, 38, 25⟩) ⟨38, 18, 38, 26⟩) ⟨38, 7, 38, 26⟩) (.cons (.call 3 "share_heights" ⟨38, 31, 38, 44⟩ (.var 3 "left" ⟨38, 45, 38, 49⟩) (.cons (.var 4 "right" ⟨38, 51, 38, 56⟩) .nil) ⟨38, 31, 38, 57⟩) .nil) ⟨38, 7, 38, 57⟩) (.cons (.ret (.cst (.bl true) 0 ⟨39, 15, 39, 19⟩) ⟨39, 8, 39, 19⟩)
    .nil) .nil ⟨38, 4, 39, 19⟩)
    (.cons (.ret (.and (.cmp .le (.ix (.var 3 "left" ⟨40, 11, 40, 15⟩) (.cst (.int 3) 0 ⟨40, 16, 40, 17⟩) ⟨40, 11, 40, 18⟩) (.ix (.var 4 "right" ⟨40, 22, 40, 27⟩) (.cst (.int 1) 0 ⟨40, 28, 40, 29⟩) ⟨40, 22, 40, 30⟩) ⟨40, 11, 40, 30⟩) (.cons (.call 2 "share_widths" ⟨40, 35, 40, 47⟩ (.var 3 "left" ⟨40, 48, 40, 52⟩) (.cons (.var 4 "right" ⟨40, 54, 40, 59⟩) .nil) ⟨40, 35, 40, 60⟩) .nil) ⟨40, 11, 40, 60⟩) ⟨40, 4, 40, 60⟩)
    .nil)))
theorem py7 : s7.py = defBody (top 14) := by kernel_rfl
theorem ok7 : s7.ok g7 exs (defScope (top 14)) = true := by kernel_rfl
theorem sc7 : FnScope n7 ["page", "one", "other"] (defScope (top 14)) := scB_ok (by kernel_rfl)
def ds7 : List (List D → Rs D) := [d0, d1, d2, d3, d4, d5, d6]
def d7 : List D → Rs D := defD (tbl ds7) 3 5 s7
def n8 : List Str := ["page", "numbers", "one", "other"]
def g8 : Sg := ⟨n8, fun _ => false, gls, [("is_int", 3), ("is_panel", 1), ("share_widths", 2), ("share_heights", 2), ("is_page", 1), ("check_page", 1), ("check_number", 3), ("goes_before", 3)], bls⟩
def s8 : Ss := (.cons (.set 1 "numbers" ⟨42, 4, 42, 11⟩ (.lrng1 (.prim .len ⟨42, 25, 42, 28⟩ (.var 0 "page" ⟨42, 29, 42, 33⟩) .nil ⟨42, 25, 42, 34⟩) ⟨42, 14, 42, 18⟩ ⟨42, 19, 42, 24⟩ ⟨42, 19, 42, 35⟩ ⟨42, 14, 42, 36⟩) ⟨42, 4, 42, 36⟩)
    (.cons (.ret (.comp2 (.tup (.cons (.var 2 "one" ⟨43, 13, 43, 16⟩) (.cons (.var 3 "other" ⟨43, 18, 43, 23⟩) .nil)) 0 ⟨43, 12, 43, 24⟩) (.nm 2 "one" ⟨43, 29, 43, 32⟩) (.seq (.var 1 "numbers" ⟨43, 36, 43, 43⟩)) (.nm 3 "other" ⟨43, 48, 43, 53⟩) (.seq (.var 1 "numbers" ⟨43, 57, 43, 64⟩)) (.cons (.call 7 "goes_before" ⟨43, 68, 43, 79⟩ (.var 0 "page" ⟨43, 80, 43, 84⟩) (.cons (.var 2 "one" ⟨43, 86, 43, 89⟩) (.cons (.var 3 "other" ⟨43, 91, 43, 96⟩) .nil)) ⟨43, 68, 43, 97⟩) .nil) ⟨.function, [(".0", .local), ("one", .local), ("other", .local), ("goes_before", .globalImplicit), ("numbers", .free), ("page", .free)], false, false, []⟩ [("one", 2), ("other", 3)] ⟨43, 11, 43, 98⟩) ⟨43, 4, 43, 98⟩)
    .nil))
theorem py8 : s8.py = defBody (top 15) := by kernel_rfl
theorem ok8 : s8.ok g8 exs (defScope (top 15)) = true := by kernel_rfl
theorem sc8 : FnScope n8 ["page"] (defScope (top 15)) := scB_ok (by kernel_rfl)
def ds8 : List (List D → Rs D) := [d0, d1, d2, d3, d4, d5, d6, d7]
def d8 : List D → Rs D := defD (tbl ds8) 1 4 s8
def n9 : List Str := ["one", "other"]
def g9 : Sg := ⟨n9, fun _ => false, gls, [("is_int", 3), ("is_panel", 1), ("share_widths", 2), ("share_heights", 2), ("is_page", 1), ("check_page", 1), ("check_number", 3), ("goes_before", 3), ("find_pairs", 1)], bls⟩
def s9 : Ss := (.cons (.ret (.and (.cmp .eq (.prim .len ⟨46, 11, 46, 14⟩ (.var 0 "one" ⟨46, 15, 46, 18⟩) .nil ⟨46, 11, 46, 19⟩) (.prim .len ⟨46, 23, 46, 26⟩ (.var 1 "other" ⟨46, 27, 46, 32⟩) .nil ⟨46, 23, 46, 33⟩) ⟨46, 11, 46, 33⟩) (.cons (.cmp .eq (.call 8 "find_pairs" ⟨46, 38, 46, 48⟩ (.var 0 "one" ⟨46, 49, 46, 52⟩) .nil ⟨46, 38, 46, 53⟩) (.call 8 "find_pairs" ⟨46, 57, 46, 67⟩ (.var 1 "other" ⟨46, 68, 46, 73⟩) .nil ⟨46, 57, 46, 74⟩) ⟨46, 38, 46, 74⟩) .nil) ⟨46, 11, 46, 74⟩) ⟨46, 4, 46, 74⟩)
    .nil)
theorem py9 : s9.py = defBody (top 17) := by kernel_rfl
theorem ok9 : s9.ok g9 exs (defScope (top 17)) = true := by kernel_rfl
theorem sc9 : FnScope n9 ["one", "other"] (defScope (top 17)) := scB_ok (by kernel_rfl)
def ds9 : List (List D → Rs D) := [d0, d1, d2, d3, d4, d5, d6, d7, d8]
def d9 : List D → Rs D := defD (tbl ds9) 2 2 s9
def n10 : List Str := ["one", "other"]
def g10 : Sg := ⟨n10, fun _ => false, gls, [("is_int", 3), ("is_panel", 1), ("share_widths", 2), ("share_heights", 2), ("is_page", 1), ("check_page", 1), ("check_number", 3), ("goes_before", 3), ("find_pairs", 1), ("do_agree", 2)], bls⟩
def s10 : Ss := (.cons (.expr (.call 5 "check_page" ⟨48, 4, 48, 14⟩ (.var 0 "one" ⟨48, 15, 48, 18⟩) .nil ⟨48, 4, 48, 19⟩) ⟨48, 4, 48, 19⟩)
    (.cons (.expr (.call 5 "check_page" ⟨49, 4, 49, 14⟩ (.var 1 "other" ⟨49, 15, 49, 20⟩) .nil ⟨49, 4, 49, 21⟩) ⟨49, 4, 49, 21⟩)
    (.cons (.ret (.call 9 "do_agree" ⟨50, 11, 50, 19⟩ (.var 0 "one" ⟨50, 20, 50, 23⟩) (.cons (.var 1 "other" ⟨50, 25, 50, 30⟩) .nil) ⟨50, 11, 50, 31⟩) ⟨50, 4, 50, 31⟩)
    .nil)))
theorem py10 : s10.py = defBody (top 18) := by kernel_rfl
theorem ok10 : s10.ok g10 exs (defScope (top 18)) = true := by kernel_rfl
theorem sc10 : FnScope n10 ["one", "other"] (defScope (top 18)) := scB_ok (by kernel_rfl)
def ds10 : List (List D → Rs D) := [d0, d1, d2, d3, d4, d5, d6, d7, d8, d9]
def d10 : List D → Rs D := defD (tbl ds10) 2 2 s10
def n11 : List Str := ["page", "number", "left", "top", "right", "bottom", "found", "across", "down", "panel", "other"]
def g11 : Sg := ⟨n11, fun i => i == 6, gls, [("is_int", 3), ("is_panel", 1), ("share_widths", 2), ("share_heights", 2), ("is_page", 1), ("check_page", 1), ("check_number", 3), ("goes_before", 3), ("find_pairs", 1), ("do_agree", 2), ("are_alike", 2)], bls⟩
def s11 : Ss := (.cons (.expr (.call 5 "check_page" ⟨52, 4, 52, 14⟩ (.var 0 "page" ⟨52, 15, 52, 19⟩) .nil ⟨52, 4, 52, 20⟩) ⟨52, 4, 52, 20⟩)
    (.cons (.expr (.call 6 "check_number" ⟨53, 4, 53, 16⟩ (.var 1 "number" ⟨53, 17, 53, 23⟩) (.cons (.cst (.int 0) 0 ⟨53, 25, 53, 26⟩) (.cons (.bin .sub (.prim .len ⟨53, 28, 53, 31⟩ (.var 0 "page" ⟨53, 32, 53, 36⟩) .nil ⟨53, 28, 53, 37⟩) (.cst (.int 1) 0 ⟨53, 40, 53, 41⟩) ⟨53, 28, 53, 41⟩) .nil)) ⟨53, 4, 53, 42⟩) ⟨53, 4, 53, 42⟩)
    (.cons (.asg [(2, "left", ⟨54, 4, 54, 8⟩), (3, "top", ⟨54, 10, 54, 13⟩), (4, "right", ⟨54, 15, 54, 20⟩), (5, "bottom", ⟨54, 22, 54, 28⟩)] 0 ⟨54, 4, 54, 28⟩ (.ix (.var 0 "page" ⟨54, 31, 54, 35⟩) (.var 1 "number" ⟨54, 36, 54, 42⟩) ⟨54, 31, 54, 43⟩) ⟨54, 4, 54, 43⟩)
    (.cons (.set 6 "found" ⟨55, 4, 55, 9⟩ (.lst .nil ⟨55, 12, 55, 14⟩) ⟨55, 4, 55, 14⟩)
    (.cons (.for (.nm 7 "across" ⟨56, 8, 56, 14⟩) (.rng2 (.bin .sub (.cst (.int 0) 0 ⟨56, 24, 56, 25⟩) (.var 2 "left" ⟨56, 28, 56, 32⟩) ⟨56, 24, 56, 32⟩) (.bin .add (.bin .sub (.glo "SIZE" (.int 20) ⟨56, 34, 56, 38⟩) (.var 4 "right" ⟨56, 41, 56, 46⟩) ⟨56, 34, 56, 46⟩) (.cst (.int 1) 0 ⟨56, 49, 56, 50⟩) ⟨56, 34, 56, 50⟩) ⟨56, 18, 56, 23⟩ ⟨56, 18, 56, 51⟩) (.cons (.for (.nm 8 "down" ⟨57, 12, 57, 16⟩) (.rng2 (.bin .sub (.cst (.int 0) 0 ⟨57, 26, 57, 27⟩) (.var 3 "top" ⟨57, 30, 57, 33⟩) ⟨57, 26, 57, 33⟩) (.bin .add (.bin .sub (.glo "SIZE" (.int 20) ⟨57, 35, 57, 39⟩) (.var 5 "bottom" ⟨57, 42, 57, 48⟩) ⟨57, 35, 57, 48⟩) (.cst (.int 1) 0 ⟨57, 51, 57, 52⟩) ⟨57, 35, 57, 52⟩) ⟨57, 20, 57, 25⟩ ⟨57, 20, 57, 53⟩) (.cons (.set 9 "panel" ⟨58, 12, 58, 17⟩ (.tup (.cons (.bin .add (.var 2 "left" ⟨58, 21, 58, 25⟩) (.var 7 "across" ⟨58, 28, 58, 34⟩) ⟨58, 21, 58, 34⟩) (.cons (.bin .add (.var 3 "top" ⟨58, 36, 58, 39⟩) (.var 8 "down" ⟨58, 42, 58, 46⟩) ⟨58, 36, 58, 46⟩) (.cons (.bin .add (.var 4 "right" ⟨58, 48, 58, 53⟩) (.var 7 "across" ⟨58, 56, 58, 62⟩) ⟨58, 48, 58, 62⟩) (.cons (.bin .add (.var 5 "bottom" ⟨58, 64, 58, 70⟩) (.var 8 "down" ⟨58, 73, 58, 77⟩) ⟨58, 64, 58, 77⟩) .nil)))) 0 ⟨58, 20, 58, 78⟩) ⟨58, 12, 58, 78⟩)
    (.cons (.set 10 "other" ⟨59, 12, 59, 17⟩ (.bin .add (.bin .add (.shi (.var 0 "page" ⟨59, 20, 59, 24⟩) (.var 1 "number" ⟨59, 26, 59, 32⟩) ⟨59, 25, 59, 32⟩ ⟨59, 20, 59, 33⟩) (.tup (.cons (.var 9 "panel" ⟨59, 37, 59, 42⟩) .nil) 0 ⟨59, 36, 59, 44⟩) ⟨59, 20, 59, 44⟩) (.slo (.var 0 "page" ⟨59, 47, 59, 51⟩) (.bin .add (.var 1 "number" ⟨59, 52, 59, 58⟩) (.cst (.int 1) 0 ⟨59, 61, 59, 62⟩) ⟨59, 52, 59, 62⟩) ⟨59, 52, 59, 63⟩ ⟨59, 47, 59, 64⟩) ⟨59, 20, 59, 64⟩) ⟨59, 12, 59, 64⟩)
    (.cons (.iff (.and (.call 4 "is_page" ⟨60, 15, 60, 22⟩ (.var 10 "other" ⟨60, 23, 60, 28⟩) .nil ⟨60, 15, 60, 29⟩) (.cons (.call 9 "do_agree" ⟨60, 34, 60, 42⟩ (.var 0 "page" ⟨60, 43, 60, 47⟩) (.cons (.var 10 "other" ⟨60, 49, 60, 54⟩) .nil) ⟨60, 34, 60, 55⟩) .nil) ⟨60, 15, 60, 55⟩) (.cons (.app 6 "found" ⟨61, 16, 61, 21⟩ ⟨61, 16, 61, 28⟩ ⟨61, 16, 61, 44⟩ (.tup (.cons (.var 7 "across" ⟨61, 30, 61, 36⟩) (.cons (.var 8 "down" ⟨61, 38, 61, 42⟩) .nil)) 0 ⟨61, 29, 61, 43⟩) ⟨61, 16, 61, 44⟩)
    .nil) .nil ⟨60, 12, 61, 44⟩)
    .nil))) ⟨57, 8, 61, 44⟩)
    .nil) ⟨56, 4, 61, 44⟩)
    (.cons (.retO 6 "found" ⟨62, 11, 62, 16⟩ ⟨62, 4, 62, 16⟩)
    .nil))))))
theorem py11 : s11.py = defBody (top 19) := by kernel_rfl
theorem ok11 : s11.ok g11 exs (defScope (top 19)) = true := by kernel_rfl
theorem sc11 : FnScope n11 ["page", "number"] (defScope (top 19)) := scB_ok (by kernel_rfl)
def ds11 : List (List D → Rs D) := [d0, d1, d2, d3, d4, d5, d6, d7, d8, d9, d10]
def d11 : List D → Rs D := defD (tbl ds11) 2 11 s11
def n12 : List Str := ["page", "left", "top", "right", "bottom"]
def g12 : Sg := ⟨n12, fun _ => false, gls, [("is_int", 3), ("is_panel", 1), ("share_widths", 2), ("share_heights", 2), ("is_page", 1), ("check_page", 1), ("check_number", 3), ("goes_before", 3), ("find_pairs", 1), ("do_agree", 2), ("are_alike", 2), ("still_moves", 2)], bls⟩
def s12 : Ss := (.cons (.ret (.prim .tuple ⟨64, 11, 64, 16⟩ (.comp (.tup (.cons (.bin .sub (.glo "SIZE" (.int 20) ⟨64, 19, 64, 23⟩) (.var 3 "right" ⟨64, 26, 64, 31⟩) ⟨64, 19, 64, 31⟩) (.cons (.var 2 "top" ⟨64, 33, 64, 36⟩) (.cons (.bin .sub (.glo "SIZE" (.int 20) ⟨64, 38, 64, 42⟩) (.var 1 "left" ⟨64, 45, 64, 49⟩) ⟨64, 38, 64, 49⟩) (.cons (.var 4 "bottom" ⟨64, 51, 64, 57⟩) .nil)))) 0 ⟨64, 18, 64, 58⟩) (.tp [(1, "left", ⟨64, 63, 64, 67⟩), (2, "top", ⟨64, 69, 64, 72⟩), (3, "right", ⟨64, 74, 64, 79⟩), (4, "bottom", ⟨64, 81, 64, 87⟩)] 0 ⟨64, 63, 64, 87⟩) (.seq (.var 0 "page" ⟨64, 91, 64, 95⟩)) .nil ⟨.function, [(".0", .local), ("left", .local), ("top", .local), ("right", .local), ("bottom", .local), ("SIZE", .globalImplicit)], false, false, []⟩ [("left", 1), ("top", 2), ("right", 3), ("bottom", 4)] ⟨64, 17, 64, 96⟩) .nil ⟨64, 11, 64, 97⟩) ⟨64, 4, 64, 97⟩)
    .nil)
theorem py12 : s12.py = defBody (top 20) := by kernel_rfl
theorem ok12 : s12.ok g12 exs (defScope (top 20)) = true := by kernel_rfl
theorem sc12 : FnScope n12 ["page"] (defScope (top 20)) := scB_ok (by kernel_rfl)
def ds12 : List (List D → Rs D) := [d0, d1, d2, d3, d4, d5, d6, d7, d8, d9, d10, d11]
def d12 : List D → Rs D := defD (tbl ds12) 1 5 s12
def n13 : List Str := ["page"]
def g13 : Sg := ⟨n13, fun _ => false, gls, [("is_int", 3), ("is_panel", 1), ("share_widths", 2), ("share_heights", 2), ("is_page", 1), ("check_page", 1), ("check_number", 3), ("goes_before", 3), ("find_pairs", 1), ("do_agree", 2), ("are_alike", 2), ("still_moves", 2), ("exchanged", 1)], bls⟩
def s13 : Ss := (.cons (.expr (.call 5 "check_page" ⟨66, 4, 66, 14⟩ (.var 0 "page" ⟨66, 15, 66, 19⟩) .nil ⟨66, 4, 66, 20⟩) ⟨66, 4, 66, 20⟩)
    (.cons (.ret (.call 12 "exchanged" ⟨67, 11, 67, 20⟩ (.var 0 "page" ⟨67, 21, 67, 25⟩) .nil ⟨67, 11, 67, 26⟩) ⟨67, 4, 67, 26⟩)
    .nil))
theorem py13 : s13.py = defBody (top 21) := by kernel_rfl
theorem ok13 : s13.ok g13 exs (defScope (top 21)) = true := by kernel_rfl
theorem sc13 : FnScope n13 ["page"] (defScope (top 21)) := scB_ok (by kernel_rfl)
def ds13 : List (List D → Rs D) := [d0, d1, d2, d3, d4, d5, d6, d7, d8, d9, d10, d11, d12]
def d13 : List D → Rs D := defD (tbl ds13) 1 1 s13
def n14 : List Str := ["page", "other", "pair"]
def g14 : Sg := ⟨n14, fun _ => false, gls, [("is_int", 3), ("is_panel", 1), ("share_widths", 2), ("share_heights", 2), ("is_page", 1), ("check_page", 1), ("check_number", 3), ("goes_before", 3), ("find_pairs", 1), ("do_agree", 2), ("are_alike", 2), ("still_moves", 2), ("exchanged", 1), ("mirrored", 1)], bls⟩
def s14 : Ss := (.cons (.expr (.call 5 "check_page" ⟨69, 4, 69, 14⟩ (.var 0 "page" ⟨69, 15, 69, 19⟩) .nil ⟨69, 4, 69, 20⟩) ⟨69, 4, 69, 20⟩)
    (.cons (.set 1 "other" ⟨70, 4, 70, 9⟩ (.call 8 "find_pairs" ⟨70, 12, 70, 22⟩ (.call 12 "exchanged" ⟨70, 23, 70, 32⟩ (.var 0 "page" ⟨70, 33, 70, 37⟩) .nil ⟨70, 23, 70, 38⟩) .nil ⟨70, 12, 70, 39⟩) ⟨70, 4, 70, 39⟩)
    (.cons (.ret (.comp (.var 2 "pair" ⟨71, 12, 71, 16⟩) (.nm 2 "pair" ⟨71, 21, 71, 25⟩) (.seq (.call 8 "find_pairs" ⟨71, 29, 71, 39⟩ (.var 0 "page" ⟨71, 40, 71, 44⟩) .nil ⟨71, 29, 71, 45⟩)) (.cons (.cmp .isin (.tup (.cons (.ix (.var 2 "pair" ⟨71, 50, 71, 54⟩) (.cst (.int 1) 0 ⟨71, 55, 71, 56⟩) ⟨71, 50, 71, 57⟩) (.cons (.ix (.var 2 "pair" ⟨71, 59, 71, 63⟩) (.cst (.int 0) 0 ⟨71, 64, 71, 65⟩) ⟨71, 59, 71, 66⟩) .nil)) 0 ⟨71, 49, 71, 67⟩) (.var 1 "other" ⟨71, 71, 71, 76⟩) ⟨71, 49, 71, 76⟩) .nil) ⟨.function, [(".0", .local), ("pair", .local), ("other", .free)], false, false, []⟩ [("pair", 2)] ⟨71, 11, 71, 77⟩) ⟨71, 4, 71, 77⟩)
    .nil)))
theorem py14 : s14.py = defBody (top 22) := by kernel_rfl
theorem ok14 : s14.ok g14 exs (defScope (top 22)) = true := by kernel_rfl
theorem sc14 : FnScope n14 ["page"] (defScope (top 22)) := scB_ok (by kernel_rfl)
def ds14 : List (List D → Rs D) := [d0, d1, d2, d3, d4, d5, d6, d7, d8, d9, d10, d11, d12, d13]
def d14 : List D → Rs D := defD (tbl ds14) 1 3 s14
def n15 : List Str := ["_law_script", "_law_k", "_law_many", "_law_cell", "_law_turn", "_law_rest"]
def g15 : Sg := ⟨n15, fun _ => false, gls, [("is_int", 3), ("is_panel", 1), ("share_widths", 2), ("share_heights", 2), ("is_page", 1), ("check_page", 1), ("check_number", 3), ("goes_before", 3), ("find_pairs", 1), ("do_agree", 2), ("are_alike", 2), ("still_moves", 2), ("exchanged", 1), ("mirrored", 1), ("turned_pairs", 1)], bls⟩
def s15 : Ss := (.cons (.set 3 "_law_cell" ⟨74, 4, 74, 13⟩ (.bin .mul (.cst (.int 7) 0 ⟨74, 16, 74, 17⟩) (.var 1 "_law_k" ⟨74, 20, 74, 26⟩) ⟨74, 16, 74, 26⟩) ⟨74, 4, 74, 26⟩)
    (.cons (.iff (.cmp .ne (.var 0 "_law_script" ⟨75, 7, 75, 18⟩) (.lst .nil ⟨75, 22, 75, 24⟩) ⟨75, 7, 75, 24⟩) (.cons (.set 3 "_law_cell" ⟨76, 8, 76, 17⟩ (.ix (.var 0 "_law_script" ⟨76, 20, 76, 31⟩) (.bin .mod (.var 1 "_law_k" ⟨76, 32, 76, 38⟩) (.prim .len ⟨76, 41, 76, 44⟩ (.var 0 "_law_script" ⟨76, 45, 76, 56⟩) .nil ⟨76, 41, 76, 57⟩) ⟨76, 32, 76, 57⟩) ⟨76, 20, 76, 58⟩) ⟨76, 8, 76, 58⟩)
    (.cons (.set 4 "_law_turn" ⟨77, 8, 77, 17⟩ (.bin .div (.var 1 "_law_k" ⟨77, 20, 77, 26⟩) (.prim .len ⟨77, 30, 77, 33⟩ (.var 0 "_law_script" ⟨77, 34, 77, 45⟩) .nil ⟨77, 30, 77, 46⟩) ⟨77, 20, 77, 46⟩) ⟨77, 8, 77, 46⟩)
    (.cons (.iff (.and (.cmp .ge (.var 3 "_law_cell" ⟨78, 11, 78, 20⟩) (.bin .pow (.cst (.int 10) 0 ⟨78, 24, 78, 26⟩) (.cst (.int 18) 0 ⟨78, 30, 78, 32⟩) ⟨78, 24, 78, 32⟩) ⟨78, 11, 78, 32⟩) (.cons (.cmp .lt (.var 4 "_law_turn" ⟨78, 37, 78, 46⟩) (.cst (.int 60) 0 ⟨78, 49, 78, 51⟩) ⟨78, 37, 78, 51⟩) .nil) ⟨78, 11, 78, 51⟩) (.cons (.set 5 "_law_rest" ⟨79, 12, 79, 21⟩ (.bin .div (.var 3 "_law_cell" ⟨79, 24, 79, 33⟩) (.bin .pow (.cst (.int 10) 0 ⟨79, 37, 79, 39⟩) (.cst (.int 18) 0 ⟨79, 43, 79, 45⟩) ⟨79, 37, 79, 45⟩) ⟨79, 24, 79, 45⟩) ⟨79, 12, 79, 45⟩)
    (.cons (.whl 1000 (.and (.cmp .gt (.var 5 "_law_rest" ⟨80, 18, 80, 27⟩) (.cst (.int 0) 0 ⟨80, 30, 80, 31⟩) ⟨80, 18, 80, 31⟩) (.cons (.cmp .gt (.var 4 "_law_turn" ⟨80, 36, 80, 45⟩) (.cst (.int 0) 0 ⟨80, 48, 80, 49⟩) ⟨80, 36, 80, 49⟩) .nil) ⟨80, 18, 80, 49⟩) (.cons (.set 5 "_law_rest" ⟨81, 16, 81, 25⟩ (.bin .div (.var 5 "_law_rest" ⟨81, 28, 81, 37⟩) (.cst (.int 1000000) 0 ⟨81, 41, 81, 48⟩) ⟨81, 28, 81, 48⟩) ⟨81, 16, 81, 48⟩)
    (.cons (.set 4 "_law_turn" ⟨82, 16, 82, 25⟩ (.bin .sub (.var 4 "_law_turn" ⟨82, 28, 82, 37⟩) (.cst (.int 1) 0 ⟨82, 40, 82, 41⟩) ⟨82, 28, 82, 41⟩) ⟨82, 16, 82, 41⟩)
    .nil)) ⟨80, 12, 82, 41⟩)
    (.cons (.iff (.cmp .gt (.var 5 "_law_rest" ⟨83, 15, 83, 24⟩) (.cst (.int 0) 0 ⟨83, 27, 83, 28⟩) ⟨83, 15, 83, 28⟩) (.cons (.ret (.bin .mod (.bin .mod (.var 5 "_law_rest" ⟨84, 23, 84, 32⟩) (.cst (.int 1000000) 0 ⟨84, 35, 84, 42⟩) ⟨84, 23, 84, 42⟩) (.var 2 "_law_many" ⟨84, 45, 84, 54⟩) ⟨84, 23, 84, 54⟩) ⟨84, 16, 84, 54⟩)
    .nil) .nil ⟨83, 12, 84, 54⟩)
    .nil))) .nil ⟨78, 8, 84, 54⟩)
    (.cons (.set 3 "_law_cell" ⟨85, 8, 85, 17⟩ (.bin .add (.var 3 "_law_cell" ⟨85, 20, 85, 29⟩) (.bin .mul (.cst (.int 6553) 0 ⟨85, 32, 85, 36⟩) (.bin .div (.var 1 "_law_k" ⟨85, 40, 85, 46⟩) (.prim .len ⟨85, 50, 85, 53⟩ (.var 0 "_law_script" ⟨85, 54, 85, 65⟩) .nil ⟨85, 50, 85, 66⟩) ⟨85, 40, 85, 66⟩) ⟨85, 32, 85, 67⟩) ⟨85, 20, 85, 67⟩) ⟨85, 8, 85, 67⟩)
    .nil)))) .nil ⟨75, 4, 85, 67⟩)
    (.cons (.set 3 "_law_cell" ⟨86, 4, 86, 13⟩ (.bin .mod (.bin .add (.bin .mul (.bin .mod (.var 3 "_law_cell" ⟨86, 17, 86, 26⟩) (.cst (.int 2147483563) 0 ⟨86, 29, 86, 39⟩) ⟨86, 17, 86, 39⟩) (.cst (.int 69069) 0 ⟨86, 42, 86, 47⟩) ⟨86, 17, 86, 47⟩) (.bin .mul (.cst (.int 104723) 0 ⟨86, 50, 86, 56⟩) (.bin .add (.var 1 "_law_k" ⟨86, 60, 86, 66⟩) (.cst (.int 1) 0 ⟨86, 69, 86, 70⟩) ⟨86, 60, 86, 70⟩) ⟨86, 50, 86, 71⟩) ⟨86, 17, 86, 71⟩) (.cst (.int 2147483563) 0 ⟨86, 75, 86, 85⟩) ⟨86, 16, 86, 85⟩) ⟨86, 4, 86, 85⟩)
    (.cons (.set 3 "_law_cell" ⟨87, 4, 87, 13⟩ (.bin .mod (.bin .add (.bin .mul (.var 3 "_law_cell" ⟨87, 17, 87, 26⟩) (.var 3 "_law_cell" ⟨87, 29, 87, 38⟩) ⟨87, 17, 87, 38⟩) (.bin .div (.var 3 "_law_cell" ⟨87, 41, 87, 50⟩) (.cst (.int 3) 0 ⟨87, 54, 87, 55⟩) ⟨87, 41, 87, 55⟩) ⟨87, 17, 87, 55⟩) (.cst (.int 2147483399) 0 ⟨87, 59, 87, 69⟩) ⟨87, 16, 87, 69⟩) ⟨87, 4, 87, 69⟩)
    (.cons (.ret (.bin .mod (.bin .div (.bin .mod (.bin .add (.bin .mul (.var 3 "_law_cell" ⟨88, 12, 88, 21⟩) (.var 3 "_law_cell" ⟨88, 24, 88, 33⟩) ⟨88, 12, 88, 33⟩) (.bin .div (.var 3 "_law_cell" ⟨88, 36, 88, 45⟩) (.cst (.int 7) 0 ⟨88, 49, 88, 50⟩) ⟨88, 36, 88, 50⟩) ⟨88, 12, 88, 50⟩) (.cst (.int 2147483647) 0 ⟨88, 54, 88, 64⟩) ⟨88, 11, 88, 64⟩) (.cst (.int 11) 0 ⟨88, 68, 88, 70⟩) ⟨88, 11, 88, 70⟩) (.var 2 "_law_many" ⟨88, 73, 88, 82⟩) ⟨88, 11, 88, 82⟩) ⟨88, 4, 88, 82⟩)
    .nil)))))
theorem py15 : s15.py = defBody (top 24) := by kernel_rfl
theorem ok15 : s15.ok g15 exs (defScope (top 24)) = true := by kernel_rfl
theorem sc15 : FnScope n15 ["_law_script", "_law_k", "_law_many"] (defScope (top 24)) := scB_ok (by kernel_rfl)
def ds15 : List (List D → Rs D) := [d0, d1, d2, d3, d4, d5, d6, d7, d8, d9, d10, d11, d12, d13, d14]
def d15 : List D → Rs D := defD (tbl ds15) 3 6 s15
def n16 : List Str := ["_law_script", "_law_at", "_law_most", "_law_found", "_law_kept", "_law_k", "_law_place", "_law_way", "_law_left", "_law_top", "_law_right", "_law_bottom", "_law_size", "_law_line", "_law_first_here", "_law_second", "_law_turn", "_law_panel"]
def g16 : Sg := ⟨n16, fun i => i == 4, gls, [("is_int", 3), ("is_panel", 1), ("share_widths", 2), ("share_heights", 2), ("is_page", 1), ("check_page", 1), ("check_number", 3), ("goes_before", 3), ("find_pairs", 1), ("do_agree", 2), ("are_alike", 2), ("still_moves", 2), ("exchanged", 1), ("mirrored", 1), ("turned_pairs", 1), ("_law_drawn", 3)], bls⟩
def s16 : Ss := (.cons (.par [(3, "_law_found", ⟨90, 4, 90, 14⟩), (4, "_law_kept", ⟨90, 16, 90, 25⟩)] 0 ⟨90, 4, 90, 25⟩ (.cons (.lst (.cons (.tup (.cons (.cst (.int 0) 0 ⟨90, 31, 90, 32⟩) (.cons (.cst (.int 0) 0 ⟨90, 34, 90, 35⟩) (.cons (.cst (.int 12) 0 ⟨90, 37, 90, 39⟩) (.cons (.cst (.int 12) 0 ⟨90, 41, 90, 43⟩) .nil)))) 0 ⟨90, 30, 90, 44⟩) .nil) ⟨90, 29, 90, 45⟩) (.cons (.lst .nil ⟨90, 47, 90, 49⟩) .nil)) 0 ⟨90, 28, 90, 50⟩ ⟨90, 4, 90, 50⟩)
    (.cons (.for (.nm 5 "_law_k" ⟨91, 8, 91, 14⟩) (.rng1 (.call 15 "_law_drawn" ⟨91, 24, 91, 34⟩ (.var 0 "_law_script" ⟨91, 35, 91, 46⟩) (.cons (.var 1 "_law_at" ⟨91, 48, 91, 55⟩) (.cons (.var 2 "_law_most" ⟨91, 57, 91, 66⟩) .nil)) ⟨91, 24, 91, 67⟩) ⟨91, 18, 91, 23⟩ ⟨91, 18, 91, 68⟩) (.cons (.par [(6, "_law_place", ⟨92, 8, 92, 18⟩), (7, "_law_way", ⟨92, 20, 92, 28⟩)] 0 ⟨92, 8, 92, 28⟩ (.cons (.call 15 "_law_drawn" ⟨92, 32, 92, 42⟩ (.var 0 "_law_script" ⟨92, 43, 92, 54⟩) (.cons (.bin .add (.bin .add (.var 1 "_law_at" ⟨92, 56, 92, 63⟩) (.cst (.int 1) 0 ⟨92, 66, 92, 67⟩) ⟨92, 56, 92, 67⟩) (.bin .mul (.cst (.int 4) 0 ⟨92, 70, 92, 71⟩) (.var 5 "_law_k" ⟨92, 74, 92, 80⟩) ⟨92, 70, 92, 80⟩) ⟨92, 56, 92, 80⟩) (.cons (.prim .len ⟨92, 82, 92, 85⟩ (.var 3 "_law_found" ⟨92, 86, 92, 96⟩) .nil ⟨92, 82, 92, 97⟩) .nil)) ⟨92, 32, 92, 98⟩) (.cons (.call 15 "_law_drawn" ⟨92, 100, 92, 110⟩ (.var 0 "_law_script" ⟨92, 111, 92, 122⟩) (.cons (.bin .add (.bin .add (.var 1 "_law_at" ⟨92, 124, 92, 131⟩) (.cst (.int 2) 0 ⟨92, 134, 92, 135⟩) ⟨92, 124, 92, 135⟩) (.bin .mul (.cst (.int 4) 0 ⟨92, 138, 92, 139⟩) (.var 5 "_law_k" ⟨92, 142, 92, 148⟩) ⟨92, 138, 92, 148⟩) ⟨92, 124, 92, 148⟩) (.cons (.cst (.int 2) 0 ⟨92, 150, 92, 151⟩) .nil)) ⟨92, 100, 92, 152⟩) .nil)) 0 ⟨92, 31, 92, 153⟩ ⟨92, 8, 92, 153⟩)
    (.cons (.asg [(8, "_law_left", ⟨93, 8, 93, 17⟩), (9, "_law_top", ⟨93, 19, 93, 27⟩), (10, "_law_right", ⟨93, 29, 93, 39⟩), (11, "_law_bottom", ⟨93, 41, 93, 52⟩)] 0 ⟨93, 8, 93, 52⟩ (.ix (.var 3 "_law_found" ⟨93, 55, 93, 65⟩) (.var 6 "_law_place" ⟨93, 66, 93, 76⟩) ⟨93, 55, 93, 77⟩) ⟨93, 8, 93, 77⟩)
    (.cons (.set 12 "_law_size" ⟨94, 8, 94, 17⟩ (.ite (.cmp .eq (.var 7 "_law_way" ⟨94, 46, 94, 54⟩) (.cst (.int 0) 0 ⟨94, 58, 94, 59⟩) ⟨94, 46, 94, 59⟩) (.bin .sub (.var 10 "_law_right" ⟨94, 20, 94, 30⟩) (.var 8 "_law_left" ⟨94, 33, 94, 42⟩) ⟨94, 20, 94, 42⟩) (.bin .sub (.var 11 "_law_bottom" ⟨94, 65, 94, 76⟩) (.var 9 "_law_top" ⟨94, 79, 94, 87⟩) ⟨94, 65, 94, 87⟩) ⟨94, 20, 94, 87⟩) ⟨94, 8, 94, 87⟩)
    (.cons (.iff (.cmp .gt (.var 12 "_law_size" ⟨95, 11, 95, 20⟩) (.cst (.int 1) 0 ⟨95, 23, 95, 24⟩) ⟨95, 11, 95, 24⟩) (.cons (.set 13 "_law_line" ⟨96, 12, 96, 21⟩ (.bin .add (.cst (.int 1) 0 ⟨96, 24, 96, 25⟩) (.call 15 "_law_drawn" ⟨96, 28, 96, 38⟩ (.var 0 "_law_script" ⟨96, 39, 96, 50⟩) (.cons (.bin .add (.bin .add (.var 1 "_law_at" ⟨96, 52, 96, 59⟩) (.cst (.int 3) 0 ⟨96, 62, 96, 63⟩) ⟨96, 52, 96, 63⟩) (.bin .mul (.cst (.int 4) 0 ⟨96, 66, 96, 67⟩) (.var 5 "_law_k" ⟨96, 70, 96, 76⟩) ⟨96, 66, 96, 76⟩) ⟨96, 52, 96, 76⟩) (.cons (.bin .sub (.var 12 "_law_size" ⟨96, 78, 96, 87⟩) (.cst (.int 1) 0 ⟨96, 90, 96, 91⟩) ⟨96, 78, 96, 91⟩) .nil)) ⟨96, 28, 96, 92⟩) ⟨96, 24, 96, 92⟩) ⟨96, 12, 96, 92⟩)
    (.cons (.set 14 "_law_first_here" ⟨97, 12, 97, 27⟩ (.ite (.cmp .eq (.var 7 "_law_way" ⟨97, 91, 97, 99⟩) (.cst (.int 0) 0 ⟨97, 103, 97, 104⟩) ⟨97, 91, 97, 104⟩) (.tup (.cons (.var 8 "_law_left" ⟨97, 31, 97, 40⟩) (.cons (.var 9 "_law_top" ⟨97, 42, 97, 50⟩) (.cons (.bin .add (.var 8 "_law_left" ⟨97, 52, 97, 61⟩) (.var 13 "_law_line" ⟨97, 64, 97, 73⟩) ⟨97, 52, 97, 73⟩) (.cons (.var 11 "_law_bottom" ⟨97, 75, 97, 86⟩) .nil)))) 0 ⟨97, 30, 97, 87⟩) (.tup (.cons (.var 8 "_law_left" ⟨97, 111, 97, 120⟩) (.cons (.var 9 "_law_top" ⟨97, 122, 97, 130⟩) (.cons (.var 10 "_law_right" ⟨97, 132, 97, 142⟩) (.cons (.bin .add (.var 9 "_law_top" ⟨97, 144, 97, 152⟩) (.var 13 "_law_line" ⟨97, 155, 97, 164⟩) ⟨97, 144, 97, 164⟩) .nil)))) 0 ⟨97, 110, 97, 165⟩) ⟨97, 30, 97, 165⟩) ⟨97, 12, 97, 165⟩)
    (.cons (.set 15 "_law_second" ⟨98, 12, 98, 23⟩ (.ite (.cmp .eq (.var 7 "_law_way" ⟨98, 88, 98, 96⟩) (.cst (.int 0) 0 ⟨98, 100, 98, 101⟩) ⟨98, 88, 98, 101⟩) (.tup (.cons (.bin .add (.var 8 "_law_left" ⟨98, 27, 98, 36⟩) (.var 13 "_law_line" ⟨98, 39, 98, 48⟩) ⟨98, 27, 98, 48⟩) (.cons (.var 9 "_law_top" ⟨98, 50, 98, 58⟩) (.cons (.var 10 "_law_right" ⟨98, 60, 98, 70⟩) (.cons (.var 11 "_law_bottom" ⟨98, 72, 98, 83⟩) .nil)))) 0 ⟨98, 26, 98, 84⟩) (.tup (.cons (.var 8 "_law_left" ⟨98, 108, 98, 117⟩) (.cons (.bin .add (.var 9 "_law_top" ⟨98, 119, 98, 127⟩) (.var 13 "_law_line" ⟨98, 130, 98, 139⟩) ⟨98, 119, 98, 139⟩) (.cons (.var 10 "_law_right" ⟨98, 141, 98, 151⟩) (.cons (.var 11 "_law_bottom" ⟨98, 153, 98, 164⟩) .nil)))) 0 ⟨98, 107, 98, 165⟩) ⟨98, 26, 98, 165⟩) ⟨98, 12, 98, 165⟩)
    (.cons (.set 16 "_law_turn" ⟨99, 12, 99, 21⟩ (.call 15 "_law_drawn" ⟨99, 24, 99, 34⟩ (.var 0 "_law_script" ⟨99, 35, 99, 46⟩) (.cons (.bin .add (.bin .add (.var 1 "_law_at" ⟨99, 48, 99, 55⟩) (.cst (.int 4) 0 ⟨99, 58, 99, 59⟩) ⟨99, 48, 99, 59⟩) (.bin .mul (.cst (.int 4) 0 ⟨99, 62, 99, 63⟩) (.var 5 "_law_k" ⟨99, 66, 99, 72⟩) ⟨99, 62, 99, 72⟩) ⟨99, 48, 99, 72⟩) (.cons (.cst (.int 2) 0 ⟨99, 74, 99, 75⟩) .nil)) ⟨99, 24, 99, 76⟩) ⟨99, 12, 99, 76⟩)
    (.cons (.set 3 "_law_found" ⟨100, 12, 100, 22⟩ (.bin .add (.bin .add (.bin .add (.shi (.var 3 "_law_found" ⟨100, 25, 100, 35⟩) (.var 6 "_law_place" ⟨100, 37, 100, 47⟩) ⟨100, 36, 100, 47⟩ ⟨100, 25, 100, 48⟩) (.lst (.cons (.ix (.lst (.cons (.var 14 "_law_first_here" ⟨100, 53, 100, 68⟩) (.cons (.var 15 "_law_second" ⟨100, 70, 100, 81⟩) .nil)) ⟨100, 52, 100, 82⟩) (.var 16 "_law_turn" ⟨100, 83, 100, 92⟩) ⟨100, 52, 100, 93⟩) .nil) ⟨100, 51, 100, 94⟩) ⟨100, 25, 100, 94⟩) (.slo (.var 3 "_law_found" ⟨100, 97, 100, 107⟩) (.bin .add (.var 6 "_law_place" ⟨100, 108, 100, 118⟩) (.cst (.int 1) 0 ⟨100, 121, 100, 122⟩) ⟨100, 108, 100, 122⟩) ⟨100, 108, 100, 123⟩ ⟨100, 97, 100, 124⟩) ⟨100, 25, 100, 124⟩) (.lst (.cons (.ix (.lst (.cons (.var 15 "_law_second" ⟨100, 129, 100, 140⟩) (.cons (.var 14 "_law_first_here" ⟨100, 142, 100, 157⟩) .nil)) ⟨100, 128, 100, 158⟩) (.var 16 "_law_turn" ⟨100, 159, 100, 168⟩) ⟨100, 128, 100, 169⟩) .nil) ⟨100, 127, 100, 170⟩) ⟨100, 25, 100, 170⟩) ⟨100, 12, 100, 170⟩)
    .nil))))) .nil ⟨95, 8, 100, 170⟩)
    .nil)))) ⟨91, 4, 100, 170⟩)
    (.cons (.for (.tp [(5, "_law_k", ⟨101, 8, 101, 14⟩), (17, "_law_panel", ⟨101, 16, 101, 26⟩)] 0 ⟨101, 8, 101, 26⟩) (.enu (.var 3 "_law_found" ⟨101, 40, 101, 50⟩) ⟨101, 30, 101, 39⟩ ⟨101, 30, 101, 51⟩) (.cons (.set 4 "_law_kept" ⟨102, 8, 102, 17⟩ (.lad (.var 4 "_law_kept" ⟨102, 20, 102, 29⟩) (.ite (.cmp .gt (.call 15 "_law_drawn" ⟨102, 49, 102, 59⟩ (.var 0 "_law_script" ⟨102, 60, 102, 71⟩) (.cons (.bin .add (.bin .add (.var 1 "_law_at" ⟨102, 73, 102, 80⟩) (.cst (.int 40) 0 ⟨102, 83, 102, 85⟩) ⟨102, 73, 102, 85⟩) (.var 5 "_law_k" ⟨102, 88, 102, 94⟩) ⟨102, 73, 102, 94⟩) (.cons (.cst (.int 5) 0 ⟨102, 96, 102, 97⟩) .nil)) ⟨102, 49, 102, 98⟩) (.cst (.int 0) 0 ⟨102, 101, 102, 102⟩) ⟨102, 49, 102, 102⟩) (.lst (.cons (.var 17 "_law_panel" ⟨102, 34, 102, 44⟩) .nil) ⟨102, 33, 102, 45⟩) (.lst .nil ⟨102, 108, 102, 110⟩) ⟨102, 33, 102, 110⟩) ⟨102, 20, 102, 111⟩) ⟨102, 8, 102, 111⟩)
    .nil) ⟨101, 4, 102, 111⟩)
    (.cons (.iff (.cmp .eq (.call 15 "_law_drawn" ⟨103, 7, 103, 17⟩ (.var 0 "_law_script" ⟨103, 18, 103, 29⟩) (.cons (.bin .add (.var 1 "_law_at" ⟨103, 31, 103, 38⟩) (.cst (.int 50) 0 ⟨103, 41, 103, 43⟩) ⟨103, 31, 103, 43⟩) (.cons (.cst (.int 4) 0 ⟨103, 45, 103, 46⟩) .nil)) ⟨103, 7, 103, 47⟩) (.cst (.int 0) 0 ⟨103, 51, 103, 52⟩) ⟨103, 7, 103, 52⟩) (.cons (.set 4 "_law_kept" ⟨104, 8, 104, 17⟩ (.lst (.cons (.tup (.cons (.cst (.int 2) 0 ⟨104, 22, 104, 23⟩) (.cons (.cst (.int 0) 0 ⟨104, 25, 104, 26⟩) (.cons (.cst (.int 8) 0 ⟨104, 28, 104, 29⟩) (.cons (.cst (.int 2) 0 ⟨104, 31, 104, 32⟩) .nil)))) 0 ⟨104, 21, 104, 33⟩) (.cons (.tup (.cons (.cst (.int 6) 0 ⟨104, 36, 104, 37⟩) (.cons (.cst (.int 2) 0 ⟨104, 39, 104, 40⟩) (.cons (.cst (.int 8) 0 ⟨104, 42, 104, 43⟩) (.cons (.cst (.int 8) 0 ⟨104, 45, 104, 46⟩) .nil)))) 0 ⟨104, 35, 104, 47⟩) (.cons (.tup (.cons (.cst (.int 0) 0 ⟨104, 50, 104, 51⟩) (.cons (.cst (.int 6) 0 ⟨104, 53, 104, 54⟩) (.cons (.cst (.int 6) 0 ⟨104, 56, 104, 57⟩) (.cons (.cst (.int 8) 0 ⟨104, 59, 104, 60⟩) .nil)))) 0 ⟨104, 49, 104, 61⟩) (.cons (.tup (.cons (.cst (.int 0) 0 ⟨104, 64, 104, 65⟩) (.cons (.cst (.int 0) 0 ⟨104, 67, 104, 68⟩) (.cons (.cst (.int 2) 0 ⟨104, 70, 104, 71⟩) (.cons (.cst (.int 6) 0 ⟨104, 73, 104, 74⟩) .nil)))) 0 ⟨104, 63, 104, 75⟩) (.cons (.tup (.cons (.cst (.int 3) 0 ⟨104, 78, 104, 79⟩) (.cons (.cst (.int 3) 0 ⟨104, 81, 104, 82⟩) (.cons (.cst (.int 5) 0 ⟨104, 84, 104, 85⟩) (.cons (.cst (.int 5) 0 ⟨104, 87, 104, 88⟩) .nil)))) 0 ⟨104, 77, 104, 89⟩) .nil))))) ⟨104, 20, 104, 90⟩) ⟨104, 8, 104, 90⟩)
    (.cons (.set 4 "_law_kept" ⟨105, 8, 105, 17⟩ (.lshi (.var 4 "_law_kept" ⟨105, 20, 105, 29⟩) (.bin .add (.cst (.int 2) 0 ⟨105, 31, 105, 32⟩) (.call 15 "_law_drawn" ⟨105, 35, 105, 45⟩ (.var 0 "_law_script" ⟨105, 46, 105, 57⟩) (.cons (.bin .add (.var 1 "_law_at" ⟨105, 59, 105, 66⟩) (.cst (.int 51) 0 ⟨105, 69, 105, 71⟩) ⟨105, 59, 105, 71⟩) (.cons (.cst (.int 4) 0 ⟨105, 73, 105, 74⟩) .nil)) ⟨105, 35, 105, 75⟩) ⟨105, 31, 105, 75⟩) ⟨105, 30, 105, 75⟩ ⟨105, 20, 105, 76⟩) ⟨105, 8, 105, 76⟩)
    .nil)) .nil ⟨103, 4, 105, 76⟩)
    (.cons (.iff (.cmp .eq (.call 15 "_law_drawn" ⟨106, 7, 106, 17⟩ (.var 0 "_law_script" ⟨106, 18, 106, 29⟩) (.cons (.bin .add (.var 1 "_law_at" ⟨106, 31, 106, 38⟩) (.cst (.int 52) 0 ⟨106, 41, 106, 43⟩) ⟨106, 31, 106, 43⟩) (.cons (.cst (.int 4) 0 ⟨106, 45, 106, 46⟩) .nil)) ⟨106, 7, 106, 47⟩) (.cst (.int 0) 0 ⟨106, 51, 106, 52⟩) ⟨106, 7, 106, 52⟩) (.cons (.set 4 "_law_kept" ⟨107, 8, 107, 17⟩ (.lshi (.lst (.cons (.tup (.cons (.cst (.int 9) 0 ⟨107, 22, 107, 23⟩) (.cons (.cst (.int 0) 0 ⟨107, 25, 107, 26⟩) (.cons (.cst (.int 11) 0 ⟨107, 28, 107, 30⟩) (.cons (.cst (.int 2) 0 ⟨107, 32, 107, 33⟩) .nil)))) 0 ⟨107, 21, 107, 34⟩) (.cons (.tup (.cons (.cst (.int 6) 0 ⟨107, 37, 107, 38⟩) (.cons (.cst (.int 2) 0 ⟨107, 40, 107, 41⟩) (.cons (.cst (.int 8) 0 ⟨107, 43, 107, 44⟩) (.cons (.cst (.int 4) 0 ⟨107, 46, 107, 47⟩) .nil)))) 0 ⟨107, 36, 107, 48⟩) (.cons (.tup (.cons (.cst (.int 3) 0 ⟨107, 51, 107, 52⟩) (.cons (.cst (.int 4) 0 ⟨107, 54, 107, 55⟩) (.cons (.cst (.int 5) 0 ⟨107, 57, 107, 58⟩) (.cons (.cst (.int 6) 0 ⟨107, 60, 107, 61⟩) .nil)))) 0 ⟨107, 50, 107, 62⟩) (.cons (.tup (.cons (.cst (.int 0) 0 ⟨107, 65, 107, 66⟩) (.cons (.cst (.int 6) 0 ⟨107, 68, 107, 69⟩) (.cons (.cst (.int 2) 0 ⟨107, 71, 107, 72⟩) (.cons (.cst (.int 8) 0 ⟨107, 74, 107, 75⟩) .nil)))) 0 ⟨107, 64, 107, 76⟩) .nil)))) ⟨107, 20, 107, 77⟩) (.bin .add (.cst (.int 2) 0 ⟨107, 79, 107, 80⟩) (.call 15 "_law_drawn" ⟨107, 83, 107, 93⟩ (.var 0 "_law_script" ⟨107, 94, 107, 105⟩) (.cons (.bin .add (.var 1 "_law_at" ⟨107, 107, 107, 114⟩) (.cst (.int 53) 0 ⟨107, 117, 107, 119⟩) ⟨107, 107, 107, 119⟩) (.cons (.cst (.int 3) 0 ⟨107, 121, 107, 122⟩) .nil)) ⟨107, 83, 107, 123⟩) ⟨107, 79, 107, 123⟩) ⟨107, 78, 107, 123⟩ ⟨107, 20, 107, 124⟩) ⟨107, 8, 107, 124⟩)
    .nil) .nil ⟨106, 4, 107, 124⟩)
    (.cons (.iff (.and (.cmp .lt (.prim .len ⟨108, 7, 108, 10⟩ (.var 4 "_law_kept" ⟨108, 11, 108, 20⟩) .nil ⟨108, 7, 108, 21⟩) (.var 2 "_law_most" ⟨108, 24, 108, 33⟩) ⟨108, 7, 108, 33⟩) (.cons (.cmp .lt (.prim .max ⟨108, 38, 108, 41⟩ (.bin .add (.lst (.cons (.cst (.int 0) 0 ⟨108, 43, 108, 44⟩) .nil) ⟨108, 42, 108, 45⟩) (.comp (.ix (.var 17 "_law_panel" ⟨108, 49, 108, 59⟩) (.cst (.int 3) 0 ⟨108, 60, 108, 61⟩) ⟨108, 49, 108, 62⟩) (.nm 17 "_law_panel" ⟨108, 67, 108, 77⟩) (.seq (.var 4 "_law_kept" ⟨108, 81, 108, 90⟩)) .nil ⟨.function, [(".0", .local), ("_law_panel", .local)], false, false, []⟩ [("_law_panel", 17)] ⟨108, 48, 108, 91⟩) ⟨108, 42, 108, 91⟩) .nil ⟨108, 38, 108, 92⟩) (.cst (.int 9) 0 ⟨108, 95, 108, 96⟩) ⟨108, 38, 108, 96⟩) (.cons (.cmp .eq (.call 15 "_law_drawn" ⟨108, 102, 108, 112⟩ (.var 0 "_law_script" ⟨108, 113, 108, 124⟩) (.cons (.bin .add (.var 1 "_law_at" ⟨108, 126, 108, 133⟩) (.cst (.int 54) 0 ⟨108, 136, 108, 138⟩) ⟨108, 126, 108, 138⟩) (.cons (.cst (.int 2) 0 ⟨108, 140, 108, 141⟩) .nil)) ⟨108, 102, 108, 142⟩) (.cst (.int 0) 0 ⟨108, 146, 108, 147⟩) ⟨108, 102, 108, 147⟩) .nil)) ⟨108, 7, 108, 148⟩) (.cons (.app 4 "_law_kept" ⟨109, 8, 109, 17⟩ ⟨109, 8, 109, 24⟩ ⟨109, 8, 109, 40⟩ (.tup (.cons (.cst (.int 0) 0 ⟨109, 26, 109, 27⟩) (.cons (.cst (.int 9) 0 ⟨109, 29, 109, 30⟩) (.cons (.cst (.int 12) 0 ⟨109, 32, 109, 34⟩) (.cons (.cst (.int 12) 0 ⟨109, 36, 109, 38⟩) .nil)))) 0 ⟨109, 25, 109, 39⟩) ⟨109, 8, 109, 40⟩)
    .nil) .nil ⟨108, 4, 109, 40⟩)
    (.cons (.ret (.prim .tuple ⟨110, 11, 110, 16⟩ (.var 4 "_law_kept" ⟨110, 17, 110, 26⟩) .nil ⟨110, 11, 110, 27⟩) ⟨110, 4, 110, 27⟩)
    .nil)))))))
theorem py16 : s16.py = defBody (top 25) := by kernel_rfl
theorem ok16 : s16.ok g16 exs (defScope (top 25)) = true := by kernel_rfl
theorem sc16 : FnScope n16 ["_law_script", "_law_at", "_law_most"] (defScope (top 25)) := scB_ok (by kernel_rfl)
def ds16 : List (List D → Rs D) := [d0, d1, d2, d3, d4, d5, d6, d7, d8, d9, d10, d11, d12, d13, d14, d15]
def d16 : List D → Rs D := defD (tbl ds16) 3 18 s16
def n17 : List Str := ["_law_one", "_law_other"]
def g17 : Sg := ⟨n17, fun _ => false, gls, [("is_int", 3), ("is_panel", 1), ("share_widths", 2), ("share_heights", 2), ("is_page", 1), ("check_page", 1), ("check_number", 3), ("goes_before", 3), ("find_pairs", 1), ("do_agree", 2), ("are_alike", 2), ("still_moves", 2), ("exchanged", 1), ("mirrored", 1), ("turned_pairs", 1), ("_law_drawn", 3), ("_law_page", 3)], bls⟩
def s17 : Ss := (.cons (.iff (.and (.cmp .le (.ix (.var 0 "_law_one" ⟨112, 7, 112, 15⟩) (.cst (.int 2) 0 ⟨112, 16, 112, 17⟩) ⟨112, 7, 112, 18⟩) (.ix (.var 1 "_law_other" ⟨112, 22, 112, 32⟩) (.cst (.int 0) 0 ⟨112, 33, 112, 34⟩) ⟨112, 22, 112, 35⟩) ⟨112, 7, 112, 35⟩) (.cons (.cmp .lt (.ix (.var 0 "_law_one" ⟨112, 40, 112, 48⟩) (.cst (.int 1) 0 ⟨112, 49, 112, 50⟩) ⟨112, 40, 112, 51⟩) (.ix (.var 1 "_law_other" ⟨112, 54, 112, 64⟩) (.cst (.int 3) 0 ⟨112, 65, 112, 66⟩) ⟨112, 54, 112, 67⟩) ⟨112, 40, 112, 67⟩) (.cons (.cmp .lt (.ix (.var 1 "_law_other" ⟨112, 73, 112, 83⟩) (.cst (.int 1) 0 ⟨112, 84, 112, 85⟩) ⟨112, 73, 112, 86⟩) (.ix (.var 0 "_law_one" ⟨112, 89, 112, 97⟩) (.cst (.int 3) 0 ⟨112, 98, 112, 99⟩) ⟨112, 89, 112, 100⟩) ⟨112, 73, 112, 100⟩) .nil)) ⟨112, 7, 112, 101⟩) (.cons (.ret (.cst (.bl true) 0 ⟨113, 15, 113, 19⟩) ⟨113, 8, 113, 19⟩)
    .nil) .nil ⟨112, 4, 113, 19⟩)
    (.cons (.ret (.and (.cmp .le (.ix (.var 0 "_law_one" ⟨114, 11, 114, 19⟩) (.cst (.int 3) 0 ⟨114, 20, 114, 21⟩) ⟨114, 11, 114, 22⟩) (.ix (.var 1 "_law_other" ⟨114, 26, 114, 36⟩) (.cst (.int 1) 0 ⟨114, 37, 114, 38⟩) ⟨114, 26, 114, 39⟩) ⟨114, 11, 114, 39⟩) (.cons (.cmp .lt (.ix (.var 0 "_law_one" ⟨114, 44, 114, 52⟩) (.cst (.int 0) 0 ⟨114, 53, 114, 54⟩) ⟨114, 44, 114, 55⟩) (.ix (.var 1 "_law_other" ⟨114, 58, 114, 68⟩) (.cst (.int 2) 0 ⟨114, 69, 114, 70⟩) ⟨114, 58, 114, 71⟩) ⟨114, 44, 114, 71⟩) (.cons (.cmp .lt (.ix (.var 1 "_law_other" ⟨114, 77, 114, 87⟩) (.cst (.int 0) 0 ⟨114, 88, 114, 89⟩) ⟨114, 77, 114, 90⟩) (.ix (.var 0 "_law_one" ⟨114, 93, 114, 101⟩) (.cst (.int 2) 0 ⟨114, 102, 114, 103⟩) ⟨114, 93, 114, 104⟩) ⟨114, 77, 114, 104⟩) .nil)) ⟨114, 11, 114, 105⟩) ⟨114, 4, 114, 105⟩)
    .nil))
theorem py17 : s17.py = defBody (top 26) := by kernel_rfl
theorem ok17 : s17.ok g17 exs (defScope (top 26)) = true := by kernel_rfl
theorem sc17 : FnScope n17 ["_law_one", "_law_other"] (defScope (top 26)) := scB_ok (by kernel_rfl)
def ds17 : List (List D → Rs D) := [d0, d1, d2, d3, d4, d5, d6, d7, d8, d9, d10, d11, d12, d13, d14, d15, d16]
def d17 : List D → Rs D := defD (tbl ds17) 2 2 s17
def n18 : List Str := ["_law_page_here", "_law_found", "_law_one", "_law_other"]
def g18 : Sg := ⟨n18, fun _ => false, gls, [("is_int", 3), ("is_panel", 1), ("share_widths", 2), ("share_heights", 2), ("is_page", 1), ("check_page", 1), ("check_number", 3), ("goes_before", 3), ("find_pairs", 1), ("do_agree", 2), ("are_alike", 2), ("still_moves", 2), ("exchanged", 1), ("mirrored", 1), ("turned_pairs", 1), ("_law_drawn", 3), ("_law_page", 3), ("_law_first", 2)], bls⟩
def s18 : Ss := (.cons (.set 1 "_law_found" ⟨116, 4, 116, 14⟩ (.lst .nil ⟨116, 17, 116, 19⟩) ⟨116, 4, 116, 19⟩)
    (.cons (.for (.nm 2 "_law_one" ⟨117, 8, 117, 16⟩) (.rng1 (.prim .len ⟨117, 26, 117, 29⟩ (.var 0 "_law_page_here" ⟨117, 30, 117, 44⟩) .nil ⟨117, 26, 117, 45⟩) ⟨117, 20, 117, 25⟩ ⟨117, 20, 117, 46⟩) (.cons (.set 1 "_law_found" ⟨118, 8, 118, 18⟩ (.bin .add (.var 1 "_law_found" ⟨118, 21, 118, 31⟩) (.comp (.tup (.cons (.var 2 "_law_one" ⟨118, 36, 118, 44⟩) (.cons (.var 3 "_law_other" ⟨118, 46, 118, 56⟩) .nil)) 0 ⟨118, 35, 118, 57⟩) (.nm 3 "_law_other" ⟨118, 62, 118, 72⟩) (.rng1 (.prim .len ⟨118, 82, 118, 85⟩ (.var 0 "_law_page_here" ⟨118, 86, 118, 100⟩) .nil ⟨118, 82, 118, 101⟩) ⟨118, 76, 118, 81⟩ ⟨118, 76, 118, 102⟩) (.cons (.call 17 "_law_first" ⟨118, 106, 118, 116⟩ (.ix (.var 0 "_law_page_here" ⟨118, 117, 118, 131⟩) (.var 2 "_law_one" ⟨118, 132, 118, 140⟩) ⟨118, 117, 118, 141⟩) (.cons (.ix (.var 0 "_law_page_here" ⟨118, 143, 118, 157⟩) (.var 3 "_law_other" ⟨118, 158, 118, 168⟩) ⟨118, 143, 118, 169⟩) .nil) ⟨118, 106, 118, 170⟩) .nil) ⟨.function, [(".0", .local), ("_law_other", .local), ("_law_first", .globalImplicit), ("_law_one", .free), ("_law_page_here", .free)], false, false, []⟩ [("_law_other", 3)] ⟨118, 34, 118, 171⟩) ⟨118, 21, 118, 171⟩) ⟨118, 8, 118, 171⟩)
    .nil) ⟨117, 4, 118, 171⟩)
    (.cons (.ret (.var 1 "_law_found" ⟨119, 11, 119, 21⟩) ⟨119, 4, 119, 21⟩)
    .nil)))
theorem py18 : s18.py = defBody (top 27) := by kernel_rfl
theorem ok18 : s18.ok g18 exs (defScope (top 27)) = true := by kernel_rfl
theorem sc18 : FnScope n18 ["_law_page_here"] (defScope (top 27)) := scB_ok (by kernel_rfl)
def ds18 : List (List D → Rs D) := [d0, d1, d2, d3, d4, d5, d6, d7, d8, d9, d10, d11, d12, d13, d14, d15, d16, d17]
def d18 : List D → Rs D := defD (tbl ds18) 1 4 s18
def n19 : List Str := ["_law_script", "_law_at", "_law_bad", "_law_k"]
def g19 : Sg := ⟨n19, fun _ => false, gls, [("is_int", 3), ("is_panel", 1), ("share_widths", 2), ("share_heights", 2), ("is_page", 1), ("check_page", 1), ("check_number", 3), ("goes_before", 3), ("find_pairs", 1), ("do_agree", 2), ("are_alike", 2), ("still_moves", 2), ("exchanged", 1), ("mirrored", 1), ("turned_pairs", 1), ("_law_drawn", 3), ("_law_page", 3), ("_law_first", 2), ("_law_pairs", 1)], bls⟩
def s19 : Ss := (.cons (.set 2 "_law_bad" ⟨121, 4, 121, 12⟩ (.lst (.cons (.cst .non 0 ⟨121, 16, 121, 20⟩) (.cons (.lst .nil ⟨121, 22, 121, 24⟩) (.cons (.lst (.cons (.tup (.cons (.cst (.int 0) 0 ⟨121, 28, 121, 29⟩) (.cons (.cst (.int 0) 0 ⟨121, 31, 121, 32⟩) (.cons (.cst (.int 1) 0 ⟨121, 34, 121, 35⟩) (.cons (.cst (.int 1) 0 ⟨121, 37, 121, 38⟩) .nil)))) 0 ⟨121, 27, 121, 39⟩) .nil) ⟨121, 26, 121, 40⟩) (.cons (.tup (.cons (.tup (.cons (.cst (.int 0) 0 ⟨121, 44, 121, 45⟩) (.cons (.cst (.int 0) 0 ⟨121, 47, 121, 48⟩) (.cons (.cst (.int 0) 0 ⟨121, 50, 121, 51⟩) (.cons (.cst (.int 1) 0 ⟨121, 53, 121, 54⟩) .nil)))) 0 ⟨121, 43, 121, 55⟩) .nil) 0 ⟨121, 42, 121, 57⟩) (.cons (.tup (.cons (.tup (.cons (.cst (.int 0) 0 ⟨121, 61, 121, 62⟩) (.cons (.cst (.int 0) 0 ⟨121, 64, 121, 65⟩) (.cons (.cst (.int 21) 0 ⟨121, 67, 121, 69⟩) (.cons (.cst (.int 1) 0 ⟨121, 71, 121, 72⟩) .nil)))) 0 ⟨121, 60, 121, 73⟩) .nil) 0 ⟨121, 59, 121, 75⟩) .nil))))) ⟨121, 15, 121, 76⟩) ⟨121, 4, 121, 76⟩)
    (.cons (.set 2 "_law_bad" ⟨122, 4, 122, 12⟩ (.bin .add (.var 2 "_law_bad" ⟨122, 15, 122, 23⟩) (.lst (.cons (.tup (.cons (.tup (.cons (.cst (.int 0) 0 ⟨122, 29, 122, 30⟩) (.cons (.cst (.int 0) 0 ⟨122, 32, 122, 33⟩) (.cons (.cst (.int 2) 0 ⟨122, 35, 122, 36⟩) (.cons (.cst (.int 2) 0 ⟨122, 38, 122, 39⟩) .nil)))) 0 ⟨122, 28, 122, 40⟩) (.cons (.tup (.cons (.cst (.int 1) 0 ⟨122, 43, 122, 44⟩) (.cons (.cst (.int 1) 0 ⟨122, 46, 122, 47⟩) (.cons (.cst (.int 3) 0 ⟨122, 49, 122, 50⟩) (.cons (.cst (.int 3) 0 ⟨122, 52, 122, 53⟩) .nil)))) 0 ⟨122, 42, 122, 54⟩) .nil)) 0 ⟨122, 27, 122, 55⟩) .nil) ⟨122, 26, 122, 56⟩) ⟨122, 15, 122, 56⟩) ⟨122, 4, 122, 56⟩)
    (.cons (.set 2 "_law_bad" ⟨123, 4, 123, 12⟩ (.bin .add (.var 2 "_law_bad" ⟨123, 15, 123, 23⟩) (.lst (.cons (.tup (.cons (.tup (.cons (.cst (.int 0) 0 ⟨123, 29, 123, 30⟩) (.cons (.cst (.int 0) 0 ⟨123, 32, 123, 33⟩) (.cons (.cst (.int 1) 0 ⟨123, 35, 123, 36⟩) .nil))) 0 ⟨123, 28, 123, 37⟩) .nil) 0 ⟨123, 27, 123, 39⟩) (.cons (.tup (.cons (.tup (.cons (.cst (.int 0) 0 ⟨123, 43, 123, 44⟩) (.cons (.cst (.int 0) 0 ⟨123, 46, 123, 47⟩) (.cons (.cst (.int 1) 0 ⟨123, 49, 123, 50⟩) (.cons (.cst (.str "1") 0 ⟨123, 52, 123, 55⟩) .nil)))) 0 ⟨123, 42, 123, 56⟩) .nil) 0 ⟨123, 41, 123, 58⟩) (.cons (.tup (.cons (.tup (.cons (.cst (.bl true) 0 ⟨123, 62, 123, 66⟩) (.cons (.cst (.int 0) 0 ⟨123, 68, 123, 69⟩) (.cons (.cst (.int 2) 0 ⟨123, 71, 123, 72⟩) (.cons (.cst (.int 2) 0 ⟨123, 74, 123, 75⟩) .nil)))) 0 ⟨123, 61, 123, 76⟩) .nil) 0 ⟨123, 60, 123, 78⟩) (.cons (.tup (.cons (.cst (.int 0) 0 ⟨123, 81, 123, 82⟩) (.cons (.cst (.int 0) 0 ⟨123, 84, 123, 85⟩) (.cons (.cst (.int 1) 0 ⟨123, 87, 123, 88⟩) (.cons (.cst (.int 1) 0 ⟨123, 90, 123, 91⟩) .nil)))) 0 ⟨123, 80, 123, 92⟩) .nil)))) ⟨123, 26, 123, 93⟩) ⟨123, 15, 123, 93⟩) ⟨123, 4, 123, 93⟩)
    (.cons (.ret (.ix (.bin .add (.var 2 "_law_bad" ⟨124, 12, 124, 20⟩) (.lst (.cons (.prim .tuple ⟨124, 24, 124, 29⟩ (.comp (.tup (.cons (.var 3 "_law_k" ⟨124, 32, 124, 38⟩) (.cons (.cst (.int 0) 0 ⟨124, 40, 124, 41⟩) (.cons (.bin .add (.var 3 "_law_k" ⟨124, 43, 124, 49⟩) (.cst (.int 1) 0 ⟨124, 52, 124, 53⟩) ⟨124, 43, 124, 53⟩) (.cons (.cst (.int 1) 0 ⟨124, 55, 124, 56⟩) .nil)))) 0 ⟨124, 31, 124, 57⟩) (.nm 3 "_law_k" ⟨124, 62, 124, 68⟩) (.rng1 (.cst (.int 9) 0 ⟨124, 78, 124, 79⟩) ⟨124, 72, 124, 77⟩ ⟨124, 72, 124, 80⟩) .nil ⟨.function, [(".0", .local), ("_law_k", .local)], false, false, []⟩ [("_law_k", 3)] ⟨124, 30, 124, 81⟩) .nil ⟨124, 24, 124, 82⟩) .nil) ⟨124, 23, 124, 83⟩) ⟨124, 12, 124, 83⟩) (.call 15 "_law_drawn" ⟨124, 85, 124, 95⟩ (.var 0 "_law_script" ⟨124, 96, 124, 107⟩) (.cons (.var 1 "_law_at" ⟨124, 109, 124, 116⟩) (.cons (.cst (.int 11) 0 ⟨124, 118, 124, 120⟩) .nil)) ⟨124, 85, 124, 121⟩) ⟨124, 11, 124, 122⟩) ⟨124, 4, 124, 122⟩)
    .nil))))
theorem py19 : s19.py = defBody (top 28) := by kernel_rfl
theorem ok19 : s19.ok g19 exs (defScope (top 28)) = true := by kernel_rfl
theorem sc19 : FnScope n19 ["_law_script", "_law_at"] (defScope (top 28)) := scB_ok (by kernel_rfl)
def ds19 : List (List D → Rs D) := [d0, d1, d2, d3, d4, d5, d6, d7, d8, d9, d10, d11, d12, d13, d14, d15, d16, d17, d18]
def d19 : List D → Rs D := defD (tbl ds19) 2 4 s19
def n20 : List Str := ["_law_script", "_law_at", "_law_many"]
def g20 : Sg := ⟨n20, fun _ => false, gls, [("is_int", 3), ("is_panel", 1), ("share_widths", 2), ("share_heights", 2), ("is_page", 1), ("check_page", 1), ("check_number", 3), ("goes_before", 3), ("find_pairs", 1), ("do_agree", 2), ("are_alike", 2), ("still_moves", 2), ("exchanged", 1), ("mirrored", 1), ("turned_pairs", 1), ("_law_drawn", 3), ("_law_page", 3), ("_law_first", 2), ("_law_pairs", 1), ("_law_badpage", 2)], bls⟩
def s20 : Ss := (.cons (.ret (.ix (.lst (.cons (.cst .non 0 ⟨126, 12, 126, 16⟩) (.cons (.neg (.cst (.int 1) 0 ⟨126, 19, 126, 20⟩) ⟨126, 18, 126, 20⟩) (.cons (.var 2 "_law_many" ⟨126, 22, 126, 31⟩) (.cons (.cst (.bl true) 0 ⟨126, 33, 126, 37⟩) (.cons (.cst (.str "0") 0 ⟨126, 39, 126, 42⟩) .nil))))) ⟨126, 11, 126, 43⟩) (.call 15 "_law_drawn" ⟨126, 44, 126, 54⟩ (.var 0 "_law_script" ⟨126, 55, 126, 66⟩) (.cons (.var 1 "_law_at" ⟨126, 68, 126, 75⟩) (.cons (.cst (.int 5) 0 ⟨126, 77, 126, 78⟩) .nil)) ⟨126, 44, 126, 79⟩) ⟨126, 11, 126, 80⟩) ⟨126, 4, 126, 80⟩)
    .nil)
theorem py20 : s20.py = defBody (top 29) := by kernel_rfl
theorem ok20 : s20.ok g20 exs (defScope (top 29)) = true := by kernel_rfl
theorem sc20 : FnScope n20 ["_law_script", "_law_at", "_law_many"] (defScope (top 29)) := scB_ok (by kernel_rfl)
def ds20 : List (List D → Rs D) := [d0, d1, d2, d3, d4, d5, d6, d7, d8, d9, d10, d11, d12, d13, d14, d15, d16, d17, d18, d19]
def d20 : List D → Rs D := defD (tbl ds20) 3 3 s20
def n21 : List Str := ["_law_way", "_law_one", "_law_two", "e"]
def g21 : Sg := ⟨n21, fun _ => false, gls, [("is_int", 3), ("is_panel", 1), ("share_widths", 2), ("share_heights", 2), ("is_page", 1), ("check_page", 1), ("check_number", 3), ("goes_before", 3), ("find_pairs", 1), ("do_agree", 2), ("are_alike", 2), ("still_moves", 2), ("exchanged", 1), ("mirrored", 1), ("turned_pairs", 1), ("_law_drawn", 3), ("_law_page", 3), ("_law_first", 2), ("_law_pairs", 1), ("_law_badpage", 2), ("_law_badnumber", 3)], bls⟩
def s21 : Ss := (.cons (.tryI (.cons (.iff (.cmp .lt (.var 0 "_law_way" ⟨129, 11, 129, 19⟩) (.cst (.int 2) 0 ⟨129, 22, 129, 23⟩) ⟨129, 11, 129, 23⟩) (.cons (.expr (.ccall [(13, "mirrored", ⟨130, 13, 130, 21⟩), (14, "turned_pairs", ⟨130, 23, 130, 35⟩)] ⟨130, 12, 130, 36⟩ (.var 0 "_law_way" ⟨130, 37, 130, 45⟩) ⟨130, 12, 130, 46⟩ (.var 1 "_law_one" ⟨130, 47, 130, 55⟩) .nil ⟨130, 12, 130, 56⟩) ⟨130, 12, 130, 56⟩)
    .nil) (.cons (.expr (.ccall [(10, "are_alike", ⟨132, 13, 132, 22⟩), (11, "still_moves", ⟨132, 24, 132, 35⟩)] ⟨132, 12, 132, 36⟩ (.bin .sub (.var 0 "_law_way" ⟨132, 37, 132, 45⟩) (.cst (.int 2) 0 ⟨132, 48, 132, 49⟩) ⟨132, 37, 132, 49⟩) ⟨132, 12, 132, 50⟩ (.var 1 "_law_one" ⟨132, 51, 132, 59⟩) (.cons (.var 2 "_law_two" ⟨132, 61, 132, 69⟩) .nil) ⟨132, 12, 132, 70⟩) ⟨132, 12, 132, 70⟩)
    .nil) ⟨129, 8, 132, 70⟩)
    .nil) 3 "e" [("InvalidPage", ⟨134, 16, 134, 26⟩, ⟨134, 27, 134, 28⟩, ⟨134, 30, 134, 41⟩, ⟨134, 16, 134, 42⟩), ("InvalidNumber", ⟨134, 44, 134, 54⟩, ⟨134, 55, 134, 56⟩, ⟨134, 58, 134, 71⟩, ⟨134, 44, 134, 72⟩)] ⟨133, 11, 133, 21⟩ ⟨134, 15, 134, 73⟩ ⟨134, 15, 134, 79⟩ 0 ⟨134, 80, 134, 84⟩ ⟨134, 15, 134, 85⟩ ⟨134, 8, 134, 85⟩ ⟨133, 4, 134, 85⟩ ⟨128, 4, 134, 85⟩)
    (.cons (.ret (.cst .non 0 ⟨135, 11, 135, 15⟩) ⟨135, 4, 135, 15⟩)
    .nil))
theorem py21 : s21.py = defBody (top 30) := by kernel_rfl
theorem ok21 : s21.ok g21 exs (defScope (top 30)) = true := by kernel_rfl
theorem sc21 : FnScope n21 ["_law_way", "_law_one", "_law_two"] (defScope (top 30)) := scB_ok (by kernel_rfl)
def ds21 : List (List D → Rs D) := [d0, d1, d2, d3, d4, d5, d6, d7, d8, d9, d10, d11, d12, d13, d14, d15, d16, d17, d18, d19, d20]
def d21 : List D → Rs D := defD (tbl ds21) 3 4 s21
def n22 : List Str := ["_law_one", "_law_other"]
def g22 : Sg := ⟨n22, fun _ => false, gls, [("is_int", 3), ("is_panel", 1), ("share_widths", 2), ("share_heights", 2), ("is_page", 1), ("check_page", 1), ("check_number", 3), ("goes_before", 3), ("find_pairs", 1), ("do_agree", 2), ("are_alike", 2), ("still_moves", 2), ("exchanged", 1), ("mirrored", 1), ("turned_pairs", 1), ("_law_drawn", 3), ("_law_page", 3), ("_law_first", 2), ("_law_pairs", 1), ("_law_badpage", 2), ("_law_badnumber", 3), ("_law_error", 3)], bls⟩
def s22 : Ss := (.cons (.ret (.and (.cmp .lt (.ix (.var 0 "_law_one" ⟨137, 11, 137, 19⟩) (.cst (.int 0) 0 ⟨137, 20, 137, 21⟩) ⟨137, 11, 137, 22⟩) (.ix (.var 1 "_law_other" ⟨137, 25, 137, 35⟩) (.cst (.int 2) 0 ⟨137, 36, 137, 37⟩) ⟨137, 25, 137, 38⟩) ⟨137, 11, 137, 38⟩) (.cons (.cmp .lt (.ix (.var 1 "_law_other" ⟨137, 43, 137, 53⟩) (.cst (.int 0) 0 ⟨137, 54, 137, 55⟩) ⟨137, 43, 137, 56⟩) (.ix (.var 0 "_law_one" ⟨137, 59, 137, 67⟩) (.cst (.int 2) 0 ⟨137, 68, 137, 69⟩) ⟨137, 59, 137, 70⟩) ⟨137, 43, 137, 70⟩) (.cons (.cmp .lt (.ix (.var 0 "_law_one" ⟨137, 76, 137, 84⟩) (.cst (.int 1) 0 ⟨137, 85, 137, 86⟩) ⟨137, 76, 137, 87⟩) (.ix (.var 1 "_law_other" ⟨137, 90, 137, 100⟩) (.cst (.int 3) 0 ⟨137, 101, 137, 102⟩) ⟨137, 90, 137, 103⟩) ⟨137, 76, 137, 103⟩) (.cons (.cmp .lt (.ix (.var 1 "_law_other" ⟨137, 110, 137, 120⟩) (.cst (.int 1) 0 ⟨137, 121, 137, 122⟩) ⟨137, 110, 137, 123⟩) (.ix (.var 0 "_law_one" ⟨137, 126, 137, 134⟩) (.cst (.int 3) 0 ⟨137, 135, 137, 136⟩) ⟨137, 126, 137, 137⟩) ⟨137, 110, 137, 137⟩) .nil))) ⟨137, 11, 137, 138⟩) ⟨137, 4, 137, 138⟩)
    .nil)
theorem py22 : s22.py = defBody (top 31) := by kernel_rfl
theorem ok22 : s22.ok g22 exs (defScope (top 31)) = true := by kernel_rfl
theorem sc22 : FnScope n22 ["_law_one", "_law_other"] (defScope (top 31)) := scB_ok (by kernel_rfl)
def ds22 : List (List D → Rs D) := [d0, d1, d2, d3, d4, d5, d6, d7, d8, d9, d10, d11, d12, d13, d14, d15, d16, d17, d18, d19, d20, d21]
def d22 : List D → Rs D := defD (tbl ds22) 2 2 s22
def n23 : List Str := ["_law_script", "_law_page_here", "_law_other", "_law_known", "_law_left", "_law_top", "_law_right", "_law_bottom", "_law_turned", "_law_number", "_law_rest", "_law_due", "_law_across", "_law_down", "_law_panel", "_law_one", "_law_same", "_law_odd", "_law_bad", "_law_told", "_law_a", "_law_b", "_law_c", "_law_d", "_law_pair"]
def g23 : Sg := ⟨n23, fun i => i == 11, gls, [("is_int", 3), ("is_panel", 1), ("share_widths", 2), ("share_heights", 2), ("is_page", 1), ("check_page", 1), ("check_number", 3), ("goes_before", 3), ("find_pairs", 1), ("do_agree", 2), ("are_alike", 2), ("still_moves", 2), ("exchanged", 1), ("mirrored", 1), ("turned_pairs", 1), ("_law_drawn", 3), ("_law_page", 3), ("_law_first", 2), ("_law_pairs", 1), ("_law_badpage", 2), ("_law_badnumber", 3), ("_law_error", 3), ("_law_overlap", 2)], bls⟩
def s23 : Ss := (.cons (.par [(1, "_law_page_here", ⟨139, 4, 139, 18⟩), (2, "_law_other", ⟨139, 20, 139, 30⟩)] 0 ⟨139, 4, 139, 30⟩ (.cons (.shi (.call 16 "_law_page" ⟨139, 34, 139, 43⟩ (.var 0 "_law_script" ⟨139, 44, 139, 55⟩) (.cons (.cst (.int 10) 0 ⟨139, 57, 139, 59⟩) (.cons (.cst (.int 5) 0 ⟨139, 61, 139, 62⟩) .nil)) ⟨139, 34, 139, 63⟩) (.cst (.int 3) 0 ⟨139, 65, 139, 66⟩) ⟨139, 64, 139, 66⟩ ⟨139, 34, 139, 67⟩) (.cons (.shi (.call 16 "_law_page" ⟨139, 69, 139, 78⟩ (.var 0 "_law_script" ⟨139, 79, 139, 90⟩) (.cons (.cst (.int 80) 0 ⟨139, 92, 139, 94⟩) (.cons (.cst (.int 5) 0 ⟨139, 96, 139, 97⟩) .nil)) ⟨139, 69, 139, 98⟩) (.cst (.int 3) 0 ⟨139, 100, 139, 101⟩) ⟨139, 99, 139, 101⟩ ⟨139, 69, 139, 102⟩) .nil)) 0 ⟨139, 33, 139, 103⟩ ⟨139, 4, 139, 103⟩)
    (.cons (.set 2 "_law_other" ⟨140, 4, 140, 14⟩ (.ix (.lst (.cons (.var 2 "_law_other" ⟨140, 18, 140, 28⟩) (.cons (.var 1 "_law_page_here" ⟨140, 30, 140, 44⟩) (.cons (.prim .tuple ⟨140, 46, 140, 51⟩ (.comp (.tup (.cons (.bin .add (.var 20 "_law_a" ⟨140, 54, 140, 60⟩) (.cst (.int 2) 0 ⟨140, 63, 140, 64⟩) ⟨140, 54, 140, 64⟩) (.cons (.bin .add (.var 21 "_law_b" ⟨140, 66, 140, 72⟩) (.cst (.int 1) 0 ⟨140, 75, 140, 76⟩) ⟨140, 66, 140, 76⟩) (.cons (.bin .add (.var 22 "_law_c" ⟨140, 78, 140, 84⟩) (.cst (.int 2) 0 ⟨140, 87, 140, 88⟩) ⟨140, 78, 140, 88⟩) (.cons (.bin .add (.var 23 "_law_d" ⟨140, 90, 140, 96⟩) (.cst (.int 1) 0 ⟨140, 99, 140, 100⟩) ⟨140, 90, 140, 100⟩) .nil)))) 0 ⟨140, 53, 140, 101⟩) (.tp [(20, "_law_a", ⟨140, 106, 140, 112⟩), (21, "_law_b", ⟨140, 114, 140, 120⟩), (22, "_law_c", ⟨140, 122, 140, 128⟩), (23, "_law_d", ⟨140, 130, 140, 136⟩)] 0 ⟨140, 106, 140, 136⟩) (.seq (.var 1 "_law_page_here" ⟨140, 140, 140, 154⟩)) .nil ⟨.function, [(".0", .local), ("_law_a", .local), ("_law_b", .local), ("_law_c", .local), ("_law_d", .local)], false, false, []⟩ [("_law_a", 20), ("_law_b", 21), ("_law_c", 22), ("_law_d", 23)] ⟨140, 52, 140, 155⟩) .nil ⟨140, 46, 140, 156⟩) .nil))) ⟨140, 17, 140, 157⟩) (.call 15 "_law_drawn" ⟨140, 158, 140, 168⟩ (.var 0 "_law_script" ⟨140, 169, 140, 180⟩) (.cons (.cst (.int 1) 0 ⟨140, 182, 140, 183⟩) (.cons (.cst (.int 3) 0 ⟨140, 185, 140, 186⟩) .nil)) ⟨140, 158, 140, 187⟩) ⟨140, 17, 140, 188⟩) ⟨140, 4, 140, 188⟩)
    (.cons (.set 3 "_law_known" ⟨141, 4, 141, 14⟩ (.call 18 "_law_pairs" ⟨141, 17, 141, 27⟩ (.var 1 "_law_page_here" ⟨141, 28, 141, 42⟩) .nil ⟨141, 17, 141, 43⟩) ⟨141, 4, 141, 43⟩)
    (.cons (.iff (.cmp .ne (.call 10 "are_alike" ⟨142, 7, 142, 16⟩ (.var 1 "_law_page_here" ⟨142, 17, 142, 31⟩) (.cons (.var 2 "_law_other" ⟨142, 33, 142, 43⟩) .nil) ⟨142, 7, 142, 44⟩) (.and (.cmp .eq (.prim .len ⟨142, 49, 142, 52⟩ (.var 1 "_law_page_here" ⟨142, 53, 142, 67⟩) .nil ⟨142, 49, 142, 68⟩) (.prim .len ⟨142, 72, 142, 75⟩ (.var 2 "_law_other" ⟨142, 76, 142, 86⟩) .nil ⟨142, 72, 142, 87⟩) ⟨142, 49, 142, 87⟩) (.cons (.cmp .eq (.var 3 "_law_known" ⟨142, 92, 142, 102⟩) (.call 18 "_law_pairs" ⟨142, 106, 142, 116⟩ (.var 2 "_law_other" ⟨142, 117, 142, 127⟩) .nil ⟨142, 106, 142, 128⟩) ⟨142, 92, 142, 128⟩) .nil) ⟨142, 49, 142, 128⟩) ⟨142, 7, 142, 129⟩) (.cons (.ret (.cst (.bl false) 0 ⟨143, 15, 143, 20⟩) ⟨143, 8, 143, 20⟩)
    .nil) .nil ⟨142, 4, 143, 20⟩)
    (.cons (.set 8 "_law_turned" ⟨144, 4, 144, 15⟩ (.prim .tuple ⟨144, 18, 144, 23⟩ (.comp (.tup (.cons (.bin .sub (.cst (.int 20) 0 ⟨144, 26, 144, 28⟩) (.var 6 "_law_right" ⟨144, 31, 144, 41⟩) ⟨144, 26, 144, 41⟩) (.cons (.var 5 "_law_top" ⟨144, 43, 144, 51⟩) (.cons (.bin .sub (.cst (.int 20) 0 ⟨144, 53, 144, 55⟩) (.var 4 "_law_left" ⟨144, 58, 144, 67⟩) ⟨144, 53, 144, 67⟩) (.cons (.var 7 "_law_bottom" ⟨144, 69, 144, 80⟩) .nil)))) 0 ⟨144, 25, 144, 81⟩) (.tp [(4, "_law_left", ⟨144, 86, 144, 95⟩), (5, "_law_top", ⟨144, 97, 144, 105⟩), (6, "_law_right", ⟨144, 107, 144, 117⟩), (7, "_law_bottom", ⟨144, 119, 144, 130⟩)] 0 ⟨144, 86, 144, 130⟩) (.seq (.var 1 "_law_page_here" ⟨144, 134, 144, 148⟩)) .nil ⟨.function, [(".0", .local), ("_law_left", .local), ("_law_top", .local), ("_law_right", .local), ("_law_bottom", .local)], false, false, []⟩ [("_law_left", 4), ("_law_top", 5), ("_law_right", 6), ("_law_bottom", 7)] ⟨144, 24, 144, 149⟩) .nil ⟨144, 18, 144, 150⟩) ⟨144, 4, 144, 150⟩)
    (.cons (.iff (.cmp .ne (.call 13 "mirrored" ⟨145, 7, 145, 15⟩ (.var 1 "_law_page_here" ⟨145, 16, 145, 30⟩) .nil ⟨145, 7, 145, 31⟩) (.var 8 "_law_turned" ⟨145, 35, 145, 46⟩) ⟨145, 7, 145, 46⟩) (.cons (.ret (.cst (.bl false) 0 ⟨146, 15, 146, 20⟩) ⟨146, 8, 146, 20⟩)
    .nil) .nil ⟨145, 4, 146, 20⟩)
    (.cons (.iff (.cmp .ne (.call 14 "turned_pairs" ⟨147, 7, 147, 19⟩ (.var 1 "_law_page_here" ⟨147, 20, 147, 34⟩) .nil ⟨147, 7, 147, 35⟩) (.comp (.var 24 "_law_pair" ⟨147, 40, 147, 49⟩) (.nm 24 "_law_pair" ⟨147, 54, 147, 63⟩) (.seq (.var 3 "_law_known" ⟨147, 67, 147, 77⟩)) (.cons (.cmp .isin (.tup (.cons (.ix (.var 24 "_law_pair" ⟨147, 82, 147, 91⟩) (.cst (.int 1) 0 ⟨147, 92, 147, 93⟩) ⟨147, 82, 147, 94⟩) (.cons (.ix (.var 24 "_law_pair" ⟨147, 96, 147, 105⟩) (.cst (.int 0) 0 ⟨147, 106, 147, 107⟩) ⟨147, 96, 147, 108⟩) .nil)) 0 ⟨147, 81, 147, 109⟩) (.call 18 "_law_pairs" ⟨147, 113, 147, 123⟩ (.var 8 "_law_turned" ⟨147, 124, 147, 135⟩) .nil ⟨147, 113, 147, 136⟩) ⟨147, 81, 147, 136⟩) .nil) ⟨.function, [(".0", .local), ("_law_pair", .local), ("_law_pairs", .globalImplicit), ("_law_turned", .free)], false, false, []⟩ [("_law_pair", 24)] ⟨147, 39, 147, 137⟩) ⟨147, 7, 147, 137⟩) (.cons (.ret (.cst (.bl false) 0 ⟨148, 15, 148, 20⟩) ⟨148, 8, 148, 20⟩)
    .nil) .nil ⟨147, 4, 148, 20⟩)
    (.cons (.iff (.cmp .ne (.var 1 "_law_page_here" ⟨149, 7, 149, 21⟩) (.tup .nil 0 ⟨149, 25, 149, 27⟩) ⟨149, 7, 149, 27⟩) (.cons (.set 9 "_law_number" ⟨150, 8, 150, 19⟩ (.call 15 "_law_drawn" ⟨150, 22, 150, 32⟩ (.var 0 "_law_script" ⟨150, 33, 150, 44⟩) (.cons (.cst (.int 2) 0 ⟨150, 46, 150, 47⟩) (.cons (.prim .len ⟨150, 49, 150, 52⟩ (.var 1 "_law_page_here" ⟨150, 53, 150, 67⟩) .nil ⟨150, 49, 150, 68⟩) .nil)) ⟨150, 22, 150, 69⟩) ⟨150, 8, 150, 69⟩)
    (.cons (.asg [(4, "_law_left", ⟨151, 8, 151, 17⟩), (5, "_law_top", ⟨151, 19, 151, 27⟩), (6, "_law_right", ⟨151, 29, 151, 39⟩), (7, "_law_bottom", ⟨151, 41, 151, 52⟩)] 0 ⟨151, 8, 151, 52⟩ (.ix (.var 1 "_law_page_here" ⟨151, 55, 151, 69⟩) (.var 9 "_law_number" ⟨151, 70, 151, 81⟩) ⟨151, 55, 151, 82⟩) ⟨151, 8, 151, 82⟩)
    (.cons (.par [(10, "_law_rest", ⟨152, 8, 152, 17⟩), (11, "_law_due", ⟨152, 19, 152, 27⟩)] 0 ⟨152, 8, 152, 27⟩ (.cons (.bin .add (.shi (.var 1 "_law_page_here" ⟨152, 31, 152, 45⟩) (.var 9 "_law_number" ⟨152, 47, 152, 58⟩) ⟨152, 46, 152, 58⟩ ⟨152, 31, 152, 59⟩) (.slo (.var 1 "_law_page_here" ⟨152, 62, 152, 76⟩) (.bin .add (.var 9 "_law_number" ⟨152, 77, 152, 88⟩) (.cst (.int 1) 0 ⟨152, 91, 152, 92⟩) ⟨152, 77, 152, 92⟩) ⟨152, 77, 152, 93⟩ ⟨152, 62, 152, 94⟩) ⟨152, 31, 152, 94⟩) (.cons (.lst .nil ⟨152, 96, 152, 98⟩) .nil)) 0 ⟨152, 30, 152, 99⟩ ⟨152, 8, 152, 99⟩)
    (.cons (.for (.nm 12 "_law_across" ⟨153, 12, 153, 23⟩) (.rng2 (.bin .sub (.cst (.int 0) 0 ⟨153, 33, 153, 34⟩) (.var 4 "_law_left" ⟨153, 37, 153, 46⟩) ⟨153, 33, 153, 46⟩) (.bin .sub (.cst (.int 21) 0 ⟨153, 48, 153, 50⟩) (.var 6 "_law_right" ⟨153, 53, 153, 63⟩) ⟨153, 48, 153, 63⟩) ⟨153, 27, 153, 32⟩ ⟨153, 27, 153, 64⟩) (.cons (.for (.nm 13 "_law_down" ⟨154, 16, 154, 25⟩) (.rng2 (.bin .sub (.cst (.int 0) 0 ⟨154, 35, 154, 36⟩) (.var 5 "_law_top" ⟨154, 39, 154, 47⟩) ⟨154, 35, 154, 47⟩) (.bin .sub (.cst (.int 21) 0 ⟨154, 49, 154, 51⟩) (.var 7 "_law_bottom" ⟨154, 54, 154, 65⟩) ⟨154, 49, 154, 65⟩) ⟨154, 29, 154, 34⟩ ⟨154, 29, 154, 66⟩) (.cons (.set 14 "_law_panel" ⟨155, 16, 155, 26⟩ (.tup (.cons (.bin .add (.var 4 "_law_left" ⟨155, 30, 155, 39⟩) (.var 12 "_law_across" ⟨155, 42, 155, 53⟩) ⟨155, 30, 155, 53⟩) (.cons (.bin .add (.var 5 "_law_top" ⟨155, 55, 155, 63⟩) (.var 13 "_law_down" ⟨155, 66, 155, 75⟩) ⟨155, 55, 155, 75⟩) (.cons (.bin .add (.var 6 "_law_right" ⟨155, 77, 155, 87⟩) (.var 12 "_law_across" ⟨155, 90, 155, 101⟩) ⟨155, 77, 155, 101⟩) (.cons (.bin .add (.var 7 "_law_bottom" ⟨155, 103, 155, 114⟩) (.var 13 "_law_down" ⟨155, 117, 155, 126⟩) ⟨155, 103, 155, 126⟩) .nil)))) 0 ⟨155, 29, 155, 127⟩) ⟨155, 16, 155, 127⟩)
    (.cons (.set 16 "_law_same" ⟨156, 16, 156, 25⟩ (.cmp .eq (.comp (.var 15 "_law_one" ⟨156, 29, 156, 37⟩) (.nm 15 "_law_one" ⟨156, 42, 156, 50⟩) (.seq (.var 10 "_law_rest" ⟨156, 54, 156, 63⟩)) (.cons (.call 22 "_law_overlap" ⟨156, 67, 156, 79⟩ (.var 15 "_law_one" ⟨156, 80, 156, 88⟩) (.cons (.var 14 "_law_panel" ⟨156, 90, 156, 100⟩) .nil) ⟨156, 67, 156, 101⟩) .nil) ⟨.function, [(".0", .local), ("_law_one", .local), ("_law_overlap", .globalImplicit), ("_law_panel", .free)], false, false, []⟩ [("_law_one", 15)] ⟨156, 28, 156, 102⟩) (.lst .nil ⟨156, 106, 156, 108⟩) ⟨156, 28, 156, 108⟩) ⟨156, 16, 156, 108⟩)
    (.cons (.for (.nm 15 "_law_one" ⟨157, 20, 157, 28⟩) (.seq (.var 10 "_law_rest" ⟨157, 32, 157, 41⟩)) (.cons (.set 16 "_law_same" ⟨158, 20, 158, 29⟩ (.and (.var 16 "_law_same" ⟨158, 32, 158, 41⟩) (.cons (.cmp .eq (.call 17 "_law_first" ⟨158, 46, 158, 56⟩ (.var 15 "_law_one" ⟨158, 57, 158, 65⟩) (.cons (.var 14 "_law_panel" ⟨158, 67, 158, 77⟩) .nil) ⟨158, 46, 158, 78⟩) (.call 17 "_law_first" ⟨158, 82, 158, 92⟩ (.var 15 "_law_one" ⟨158, 93, 158, 101⟩) (.cons (.ix (.var 1 "_law_page_here" ⟨158, 103, 158, 117⟩) (.var 9 "_law_number" ⟨158, 118, 158, 129⟩) ⟨158, 103, 158, 130⟩) .nil) ⟨158, 82, 158, 131⟩) ⟨158, 46, 158, 131⟩) .nil) ⟨158, 32, 158, 131⟩) ⟨158, 20, 158, 131⟩)
    (.cons (.set 16 "_law_same" ⟨159, 20, 159, 29⟩ (.and (.var 16 "_law_same" ⟨159, 32, 159, 41⟩) (.cons (.cmp .eq (.call 17 "_law_first" ⟨159, 46, 159, 56⟩ (.var 14 "_law_panel" ⟨159, 57, 159, 67⟩) (.cons (.var 15 "_law_one" ⟨159, 69, 159, 77⟩) .nil) ⟨159, 46, 159, 78⟩) (.call 17 "_law_first" ⟨159, 82, 159, 92⟩ (.ix (.var 1 "_law_page_here" ⟨159, 93, 159, 107⟩) (.var 9 "_law_number" ⟨159, 108, 159, 119⟩) ⟨159, 93, 159, 120⟩) (.cons (.var 15 "_law_one" ⟨159, 122, 159, 130⟩) .nil) ⟨159, 82, 159, 131⟩) ⟨159, 46, 159, 131⟩) .nil) ⟨159, 32, 159, 131⟩) ⟨159, 20, 159, 131⟩)
    .nil)) ⟨157, 16, 159, 131⟩)
    (.cons (.iff (.var 16 "_law_same" ⟨160, 19, 160, 28⟩) (.cons (.app 11 "_law_due" ⟨161, 20, 161, 28⟩ ⟨161, 20, 161, 35⟩ ⟨161, 20, 161, 61⟩ (.tup (.cons (.var 12 "_law_across" ⟨161, 37, 161, 48⟩) (.cons (.var 13 "_law_down" ⟨161, 50, 161, 59⟩) .nil)) 0 ⟨161, 36, 161, 60⟩) ⟨161, 20, 161, 61⟩)
    .nil) .nil ⟨160, 16, 161, 61⟩)
    .nil)))) ⟨154, 12, 161, 61⟩)
    .nil) ⟨153, 8, 161, 61⟩)
    (.cons (.iff (.cmp .ne (.call 11 "still_moves" ⟨162, 11, 162, 22⟩ (.var 1 "_law_page_here" ⟨162, 23, 162, 37⟩) (.cons (.var 9 "_law_number" ⟨162, 39, 162, 50⟩) .nil) ⟨162, 11, 162, 51⟩) (.var 11 "_law_due" ⟨162, 55, 162, 63⟩) ⟨162, 11, 162, 63⟩) (.cons (.ret (.cst (.bl false) 0 ⟨163, 19, 163, 24⟩) ⟨163, 12, 163, 24⟩)
    .nil) .nil ⟨162, 8, 163, 24⟩)
    .nil))))) .nil ⟨149, 4, 163, 24⟩)
    (.cons (.par [(17, "_law_odd", ⟨164, 4, 164, 12⟩), (18, "_law_bad", ⟨164, 14, 164, 22⟩)] 0 ⟨164, 4, 164, 22⟩ (.cons (.call 19 "_law_badpage" ⟨164, 26, 164, 38⟩ (.var 0 "_law_script" ⟨164, 39, 164, 50⟩) (.cons (.cst (.int 3) 0 ⟨164, 52, 164, 53⟩) .nil) ⟨164, 26, 164, 54⟩) (.cons (.call 20 "_law_badnumber" ⟨164, 56, 164, 70⟩ (.var 0 "_law_script" ⟨164, 71, 164, 82⟩) (.cons (.cst (.int 4) 0 ⟨164, 84, 164, 85⟩) (.cons (.prim .len ⟨164, 87, 164, 90⟩ (.var 1 "_law_page_here" ⟨164, 91, 164, 105⟩) .nil ⟨164, 87, 164, 106⟩) .nil)) ⟨164, 56, 164, 107⟩) .nil)) 0 ⟨164, 25, 164, 108⟩ ⟨164, 4, 164, 108⟩)
    (.cons (.set 19 "_law_told" ⟨165, 4, 165, 13⟩ (.lst (.cons (.call 21 "_law_error" ⟨165, 17, 165, 27⟩ (.cst (.int 0) 0 ⟨165, 28, 165, 29⟩) (.cons (.var 17 "_law_odd" ⟨165, 31, 165, 39⟩) (.cons (.cst (.int 0) 0 ⟨165, 41, 165, 42⟩) .nil)) ⟨165, 17, 165, 43⟩) (.cons (.call 21 "_law_error" ⟨165, 45, 165, 55⟩ (.cst (.int 1) 0 ⟨165, 56, 165, 57⟩) (.cons (.var 17 "_law_odd" ⟨165, 59, 165, 67⟩) (.cons (.cst (.int 0) 0 ⟨165, 69, 165, 70⟩) .nil)) ⟨165, 45, 165, 71⟩) (.cons (.call 21 "_law_error" ⟨165, 73, 165, 83⟩ (.cst (.int 2) 0 ⟨165, 84, 165, 85⟩) (.cons (.var 17 "_law_odd" ⟨165, 87, 165, 95⟩) (.cons (.var 17 "_law_odd" ⟨165, 97, 165, 105⟩) .nil)) ⟨165, 73, 165, 106⟩) .nil))) ⟨165, 16, 165, 107⟩) ⟨165, 4, 165, 107⟩)
    (.cons (.set 19 "_law_told" ⟨166, 4, 166, 13⟩ (.bin .add (.var 19 "_law_told" ⟨166, 16, 166, 25⟩) (.lst (.cons (.call 21 "_law_error" ⟨166, 29, 166, 39⟩ (.cst (.int 2) 0 ⟨166, 40, 166, 41⟩) (.cons (.var 1 "_law_page_here" ⟨166, 43, 166, 57⟩) (.cons (.var 17 "_law_odd" ⟨166, 59, 166, 67⟩) .nil)) ⟨166, 29, 166, 68⟩) (.cons (.call 21 "_law_error" ⟨166, 70, 166, 80⟩ (.cst (.int 3) 0 ⟨166, 81, 166, 82⟩) (.cons (.var 17 "_law_odd" ⟨166, 84, 166, 92⟩) (.cons (.var 18 "_law_bad" ⟨166, 94, 166, 102⟩) .nil)) ⟨166, 70, 166, 103⟩) .nil)) ⟨166, 28, 166, 104⟩) ⟨166, 16, 166, 104⟩) ⟨166, 4, 166, 104⟩)
    (.cons (.ret (.cmp .eq (.bin .add (.var 19 "_law_told" ⟨167, 11, 167, 20⟩) (.lst (.cons (.call 21 "_law_error" ⟨167, 24, 167, 34⟩ (.cst (.int 3) 0 ⟨167, 35, 167, 36⟩) (.cons (.var 1 "_law_page_here" ⟨167, 38, 167, 52⟩) (.cons (.var 18 "_law_bad" ⟨167, 54, 167, 62⟩) .nil)) ⟨167, 24, 167, 63⟩) .nil) ⟨167, 23, 167, 64⟩) ⟨167, 11, 167, 64⟩) (.bin .add (.rep (.cons (.cst (.int 0) 0 ⟨167, 69, 167, 70⟩) .nil) ⟨167, 68, 167, 71⟩ (.cst (.int 5) 0 ⟨167, 74, 167, 75⟩) ⟨167, 68, 167, 75⟩) (.lst (.cons (.cst (.int 1) 0 ⟨167, 79, 167, 80⟩) .nil) ⟨167, 78, 167, 81⟩) ⟨167, 68, 167, 81⟩) ⟨167, 11, 167, 81⟩) ⟨167, 4, 167, 81⟩)
    .nil))))))))))))
theorem py23 : s23.py = defBody (top 32) := by kernel_rfl
theorem ok23 : s23.ok g23 exs (defScope (top 32)) = true := by kernel_rfl
theorem sc23 : FnScope n23 ["_law_script"] (defScope (top 32)) := scB_ok (by kernel_rfl)
def ds23 : List (List D → Rs D) := [d0, d1, d2, d3, d4, d5, d6, d7, d8, d9, d10, d11, d12, d13, d14, d15, d16, d17, d18, d19, d20, d21, d22]
def d23 : List D → Rs D := defD (tbl ds23) 1 25 s23
def D0 : He.DefD := ⟨("is_int", none), "is_int", "is_int", defArgs (top 7), defBody (top 7), defScope (top 7), [], []⟩
def D1 : He.DefD := ⟨("is_panel", none), "is_panel", "is_panel", defArgs (top 8), defBody (top 8), defScope (top 8), [], []⟩
def D2 : He.DefD := ⟨("share_widths", none), "share_widths", "share_widths", defArgs (top 9), defBody (top 9), defScope (top 9), [], []⟩
def D3 : He.DefD := ⟨("share_heights", none), "share_heights", "share_heights", defArgs (top 10), defBody (top 10), defScope (top 10), [], []⟩
def D4 : He.DefD := ⟨("is_page", none), "is_page", "is_page", defArgs (top 11), defBody (top 11), defScope (top 11), [], []⟩
def D5 : He.DefD := ⟨("check_page", none), "check_page", "check_page", defArgs (top 12), defBody (top 12), defScope (top 12), [], []⟩
def D6 : He.DefD := ⟨("check_number", none), "check_number", "check_number", defArgs (top 13), defBody (top 13), defScope (top 13), [], []⟩
def D7 : He.DefD := ⟨("goes_before", none), "goes_before", "goes_before", defArgs (top 14), defBody (top 14), defScope (top 14), [], []⟩
def D8 : He.DefD := ⟨("find_pairs", none), "find_pairs", "find_pairs", defArgs (top 15), defBody (top 15), defScope (top 15), [], []⟩
def D9 : He.DefD := ⟨("do_agree", none), "do_agree", "do_agree", defArgs (top 17), defBody (top 17), defScope (top 17), [], []⟩
def D10 : He.DefD := ⟨("are_alike", none), "are_alike", "are_alike", defArgs (top 18), defBody (top 18), defScope (top 18), [], []⟩
def D11 : He.DefD := ⟨("still_moves", none), "still_moves", "still_moves", defArgs (top 19), defBody (top 19), defScope (top 19), [], []⟩
def D12 : He.DefD := ⟨("exchanged", none), "exchanged", "exchanged", defArgs (top 20), defBody (top 20), defScope (top 20), [], []⟩
def D13 : He.DefD := ⟨("mirrored", none), "mirrored", "mirrored", defArgs (top 21), defBody (top 21), defScope (top 21), [], []⟩
def D14 : He.DefD := ⟨("turned_pairs", none), "turned_pairs", "turned_pairs", defArgs (top 22), defBody (top 22), defScope (top 22), [], []⟩
def D15 : He.DefD := ⟨("_law_drawn", none), "_law_drawn", "_law_drawn", defArgs (top 24), defBody (top 24), defScope (top 24), [], []⟩
def D16 : He.DefD := ⟨("_law_page", none), "_law_page", "_law_page", defArgs (top 25), defBody (top 25), defScope (top 25), [], []⟩
def D17 : He.DefD := ⟨("_law_first", none), "_law_first", "_law_first", defArgs (top 26), defBody (top 26), defScope (top 26), [], []⟩
def D18 : He.DefD := ⟨("_law_pairs", none), "_law_pairs", "_law_pairs", defArgs (top 27), defBody (top 27), defScope (top 27), [], []⟩
def D19 : He.DefD := ⟨("_law_badpage", none), "_law_badpage", "_law_badpage", defArgs (top 28), defBody (top 28), defScope (top 28), [], []⟩
def D20 : He.DefD := ⟨("_law_badnumber", none), "_law_badnumber", "_law_badnumber", defArgs (top 29), defBody (top 29), defScope (top 29), [], []⟩
def D21 : He.DefD := ⟨("_law_error", none), "_law_error", "_law_error", defArgs (top 30), defBody (top 30), defScope (top 30), [], []⟩
def D22 : He.DefD := ⟨("_law_overlap", none), "_law_overlap", "_law_overlap", defArgs (top 31), defBody (top 31), defScope (top 31), [], []⟩
def D23 : He.DefD := ⟨("law", none), "law", "law", defArgs (top 32), defBody (top 32), defScope (top 32), [], []⟩
def fns : List He.DefD := [D0, D1, D2, D3, D4, D5, D6, D7, D8, D9, D10, D11, D12, D13, D14, D15, D16, D17, D18, D19, D20, D21, D22, D23]
def names : List Str := ["is_int", "is_panel", "share_widths", "share_heights", "is_page", "check_page", "check_number", "goes_before", "find_pairs", "do_agree", "are_alike", "still_moves", "exchanged", "mirrored", "turned_pairs", "_law_drawn", "_law_page", "_law_first", "_law_pairs", "_law_badpage", "_law_badnumber", "_law_error", "_law_overlap", "law"]
def fas : List He.Fa := faOf names bls gls exs
section
variable {P : Program} {w : World} {K : PySem.W.Frag} {mg : Str → Option Value} {base h : Heap}
theorem all1 (X : K.In h) (G : h.Ns mainGlobals mg) (c : He.SaysD fas fns K) (M : Mods K mg (clE K exs) bls gls exs) : AllP P w K mg base (clE K exs) 1 [("is_int", 3)] [d0] := by
  obtain ⟨fd, F⟩ := c.def_ 0 (d := D0) rfl
  exact (allP_nil).step M F sc0 py0 ok0 rfl rfl rfl (He.glo_ok X G (c.fact 0 (f := .glo "is_int") rfl)) (F.bindsN (ps := ["value", "least", "most"]) fun _ _ _ _ _ _ us hl => match us, hl with | [_, _, _], _ => rfl)
theorem all2 (X : K.In h) (G : h.Ns mainGlobals mg) (c : He.SaysD fas fns K) (M : Mods K mg (clE K exs) bls gls exs) : AllP P w K mg base (clE K exs) 2 [("is_int", 3), ("is_panel", 1)] [d0, d1] := by
  obtain ⟨fd, F⟩ := c.def_ 1 (d := D1) rfl
  exact (all1 X G c M).step M F sc1 py1 ok1 rfl rfl rfl (He.glo_ok X G (c.fact 1 (f := .glo "is_panel") rfl)) (F.bindsN (ps := ["value"]) fun _ _ _ _ _ _ us hl => match us, hl with | [_], _ => rfl)
theorem all3 (X : K.In h) (G : h.Ns mainGlobals mg) (c : He.SaysD fas fns K) (M : Mods K mg (clE K exs) bls gls exs) : AllP P w K mg base (clE K exs) 3 [("is_int", 3), ("is_panel", 1), ("share_widths", 2)] [d0, d1, d2] := by
  obtain ⟨fd, F⟩ := c.def_ 2 (d := D2) rfl
  exact (all2 X G c M).step M F sc2 py2 ok2 rfl rfl rfl (He.glo_ok X G (c.fact 2 (f := .glo "share_widths") rfl)) (F.bindsN (ps := ["one", "other"]) fun _ _ _ _ _ _ us hl => match us, hl with | [_, _], _ => rfl)
theorem all4 (X : K.In h) (G : h.Ns mainGlobals mg) (c : He.SaysD fas fns K) (M : Mods K mg (clE K exs) bls gls exs) : AllP P w K mg base (clE K exs) 4 [("is_int", 3), ("is_panel", 1), ("share_widths", 2), ("share_heights", 2)] [d0, d1, d2, d3] := by
  obtain ⟨fd, F⟩ := c.def_ 3 (d := D3) rfl
  exact (all3 X G c M).step M F sc3 py3 ok3 rfl rfl rfl (He.glo_ok X G (c.fact 3 (f := .glo "share_heights") rfl)) (F.bindsN (ps := ["one", "other"]) fun _ _ _ _ _ _ us hl => match us, hl with | [_, _], _ => rfl)
theorem all5 (X : K.In h) (G : h.Ns mainGlobals mg) (c : He.SaysD fas fns K) (M : Mods K mg (clE K exs) bls gls exs) : AllP P w K mg base (clE K exs) 5 [("is_int", 3), ("is_panel", 1), ("share_widths", 2), ("share_heights", 2), ("is_page", 1)] [d0, d1, d2, d3, d4] := by
  obtain ⟨fd, F⟩ := c.def_ 4 (d := D4) rfl
  exact (all4 X G c M).step M F sc4 py4 ok4 rfl rfl rfl (He.glo_ok X G (c.fact 4 (f := .glo "is_page") rfl)) (F.bindsN (ps := ["candidate"]) fun _ _ _ _ _ _ us hl => match us, hl with | [_], _ => rfl)
theorem all6 (X : K.In h) (G : h.Ns mainGlobals mg) (c : He.SaysD fas fns K) (M : Mods K mg (clE K exs) bls gls exs) : AllP P w K mg base (clE K exs) 6 [("is_int", 3), ("is_panel", 1), ("share_widths", 2), ("share_heights", 2), ("is_page", 1), ("check_page", 1)] [d0, d1, d2, d3, d4, d5] := by
  obtain ⟨fd, F⟩ := c.def_ 5 (d := D5) rfl
  exact (all5 X G c M).step M F sc5 py5 ok5 rfl rfl rfl (He.glo_ok X G (c.fact 5 (f := .glo "check_page") rfl)) (F.bindsN (ps := ["value"]) fun _ _ _ _ _ _ us hl => match us, hl with | [_], _ => rfl)
theorem all7 (X : K.In h) (G : h.Ns mainGlobals mg) (c : He.SaysD fas fns K) (M : Mods K mg (clE K exs) bls gls exs) : AllP P w K mg base (clE K exs) 7 [("is_int", 3), ("is_panel", 1), ("share_widths", 2), ("share_heights", 2), ("is_page", 1), ("check_page", 1), ("check_number", 3)] [d0, d1, d2, d3, d4, d5, d6] := by
  obtain ⟨fd, F⟩ := c.def_ 6 (d := D6) rfl
  exact (all6 X G c M).step M F sc6 py6 ok6 rfl rfl rfl (He.glo_ok X G (c.fact 6 (f := .glo "check_number") rfl)) (F.bindsN (ps := ["value", "least", "most"]) fun _ _ _ _ _ _ us hl => match us, hl with | [_, _, _], _ => rfl)
theorem all8 (X : K.In h) (G : h.Ns mainGlobals mg) (c : He.SaysD fas fns K) (M : Mods K mg (clE K exs) bls gls exs) : AllP P w K mg base (clE K exs) 8 [("is_int", 3), ("is_panel", 1), ("share_widths", 2), ("share_heights", 2), ("is_page", 1), ("check_page", 1), ("check_number", 3), ("goes_before", 3)] [d0, d1, d2, d3, d4, d5, d6, d7] := by
  obtain ⟨fd, F⟩ := c.def_ 7 (d := D7) rfl
  exact (all7 X G c M).step M F sc7 py7 ok7 rfl rfl rfl (He.glo_ok X G (c.fact 7 (f := .glo "goes_before") rfl)) (F.bindsN (ps := ["page", "one", "other"]) fun _ _ _ _ _ _ us hl => match us, hl with | [_, _, _], _ => rfl)
theorem all9 (X : K.In h) (G : h.Ns mainGlobals mg) (c : He.SaysD fas fns K) (M : Mods K mg (clE K exs) bls gls exs) : AllP P w K mg base (clE K exs) 9 [("is_int", 3), ("is_panel", 1), ("share_widths", 2), ("share_heights", 2), ("is_page", 1), ("check_page", 1), ("check_number", 3), ("goes_before", 3), ("find_pairs", 1)] [d0, d1, d2, d3, d4, d5, d6, d7, d8] := by
  obtain ⟨fd, F⟩ := c.def_ 8 (d := D8) rfl
  exact (all8 X G c M).step M F sc8 py8 ok8 rfl rfl rfl (He.glo_ok X G (c.fact 8 (f := .glo "find_pairs") rfl)) (F.bindsN (ps := ["page"]) fun _ _ _ _ _ _ us hl => match us, hl with | [_], _ => rfl)
theorem all10 (X : K.In h) (G : h.Ns mainGlobals mg) (c : He.SaysD fas fns K) (M : Mods K mg (clE K exs) bls gls exs) : AllP P w K mg base (clE K exs) 10 [("is_int", 3), ("is_panel", 1), ("share_widths", 2), ("share_heights", 2), ("is_page", 1), ("check_page", 1), ("check_number", 3), ("goes_before", 3), ("find_pairs", 1), ("do_agree", 2)] [d0, d1, d2, d3, d4, d5, d6, d7, d8, d9] := by
  obtain ⟨fd, F⟩ := c.def_ 9 (d := D9) rfl
  exact (all9 X G c M).step M F sc9 py9 ok9 rfl rfl rfl (He.glo_ok X G (c.fact 9 (f := .glo "do_agree") rfl)) (F.bindsN (ps := ["one", "other"]) fun _ _ _ _ _ _ us hl => match us, hl with | [_, _], _ => rfl)
theorem all11 (X : K.In h) (G : h.Ns mainGlobals mg) (c : He.SaysD fas fns K) (M : Mods K mg (clE K exs) bls gls exs) : AllP P w K mg base (clE K exs) 11 [("is_int", 3), ("is_panel", 1), ("share_widths", 2), ("share_heights", 2), ("is_page", 1), ("check_page", 1), ("check_number", 3), ("goes_before", 3), ("find_pairs", 1), ("do_agree", 2), ("are_alike", 2)] [d0, d1, d2, d3, d4, d5, d6, d7, d8, d9, d10] := by
  obtain ⟨fd, F⟩ := c.def_ 10 (d := D10) rfl
  exact (all10 X G c M).step M F sc10 py10 ok10 rfl rfl rfl (He.glo_ok X G (c.fact 10 (f := .glo "are_alike") rfl)) (F.bindsN (ps := ["one", "other"]) fun _ _ _ _ _ _ us hl => match us, hl with | [_, _], _ => rfl)
theorem all12 (X : K.In h) (G : h.Ns mainGlobals mg) (c : He.SaysD fas fns K) (M : Mods K mg (clE K exs) bls gls exs) : AllP P w K mg base (clE K exs) 12 [("is_int", 3), ("is_panel", 1), ("share_widths", 2), ("share_heights", 2), ("is_page", 1), ("check_page", 1), ("check_number", 3), ("goes_before", 3), ("find_pairs", 1), ("do_agree", 2), ("are_alike", 2), ("still_moves", 2)] [d0, d1, d2, d3, d4, d5, d6, d7, d8, d9, d10, d11] := by
  obtain ⟨fd, F⟩ := c.def_ 11 (d := D11) rfl
  exact (all11 X G c M).step M F sc11 py11 ok11 rfl rfl rfl (He.glo_ok X G (c.fact 11 (f := .glo "still_moves") rfl)) (F.bindsN (ps := ["page", "number"]) fun _ _ _ _ _ _ us hl => match us, hl with | [_, _], _ => rfl)
theorem all13 (X : K.In h) (G : h.Ns mainGlobals mg) (c : He.SaysD fas fns K) (M : Mods K mg (clE K exs) bls gls exs) : AllP P w K mg base (clE K exs) 13 [("is_int", 3), ("is_panel", 1), ("share_widths", 2), ("share_heights", 2), ("is_page", 1), ("check_page", 1), ("check_number", 3), ("goes_before", 3), ("find_pairs", 1), ("do_agree", 2), ("are_alike", 2), ("still_moves", 2), ("exchanged", 1)] [d0, d1, d2, d3, d4, d5, d6, d7, d8, d9, d10, d11, d12] := by
  obtain ⟨fd, F⟩ := c.def_ 12 (d := D12) rfl
  exact (all12 X G c M).step M F sc12 py12 ok12 rfl rfl rfl (He.glo_ok X G (c.fact 12 (f := .glo "exchanged") rfl)) (F.bindsN (ps := ["page"]) fun _ _ _ _ _ _ us hl => match us, hl with | [_], _ => rfl)
theorem all14 (X : K.In h) (G : h.Ns mainGlobals mg) (c : He.SaysD fas fns K) (M : Mods K mg (clE K exs) bls gls exs) : AllP P w K mg base (clE K exs) 14 [("is_int", 3), ("is_panel", 1), ("share_widths", 2), ("share_heights", 2), ("is_page", 1), ("check_page", 1), ("check_number", 3), ("goes_before", 3), ("find_pairs", 1), ("do_agree", 2), ("are_alike", 2), ("still_moves", 2), ("exchanged", 1), ("mirrored", 1)] [d0, d1, d2, d3, d4, d5, d6, d7, d8, d9, d10, d11, d12, d13] := by
  obtain ⟨fd, F⟩ := c.def_ 13 (d := D13) rfl
  exact (all13 X G c M).step M F sc13 py13 ok13 rfl rfl rfl (He.glo_ok X G (c.fact 13 (f := .glo "mirrored") rfl)) (F.bindsN (ps := ["page"]) fun _ _ _ _ _ _ us hl => match us, hl with | [_], _ => rfl)
theorem all15 (X : K.In h) (G : h.Ns mainGlobals mg) (c : He.SaysD fas fns K) (M : Mods K mg (clE K exs) bls gls exs) : AllP P w K mg base (clE K exs) 15 [("is_int", 3), ("is_panel", 1), ("share_widths", 2), ("share_heights", 2), ("is_page", 1), ("check_page", 1), ("check_number", 3), ("goes_before", 3), ("find_pairs", 1), ("do_agree", 2), ("are_alike", 2), ("still_moves", 2), ("exchanged", 1), ("mirrored", 1), ("turned_pairs", 1)] [d0, d1, d2, d3, d4, d5, d6, d7, d8, d9, d10, d11, d12, d13, d14] := by
  obtain ⟨fd, F⟩ := c.def_ 14 (d := D14) rfl
  exact (all14 X G c M).step M F sc14 py14 ok14 rfl rfl rfl (He.glo_ok X G (c.fact 14 (f := .glo "turned_pairs") rfl)) (F.bindsN (ps := ["page"]) fun _ _ _ _ _ _ us hl => match us, hl with | [_], _ => rfl)
theorem all16 (X : K.In h) (G : h.Ns mainGlobals mg) (c : He.SaysD fas fns K) (M : Mods K mg (clE K exs) bls gls exs) : AllP P w K mg base (clE K exs) 16 [("is_int", 3), ("is_panel", 1), ("share_widths", 2), ("share_heights", 2), ("is_page", 1), ("check_page", 1), ("check_number", 3), ("goes_before", 3), ("find_pairs", 1), ("do_agree", 2), ("are_alike", 2), ("still_moves", 2), ("exchanged", 1), ("mirrored", 1), ("turned_pairs", 1), ("_law_drawn", 3)] [d0, d1, d2, d3, d4, d5, d6, d7, d8, d9, d10, d11, d12, d13, d14, d15] := by
  obtain ⟨fd, F⟩ := c.def_ 15 (d := D15) rfl
  exact (all15 X G c M).step M F sc15 py15 ok15 rfl rfl rfl (He.glo_ok X G (c.fact 15 (f := .glo "_law_drawn") rfl)) (F.bindsN (ps := ["_law_script", "_law_k", "_law_many"]) fun _ _ _ _ _ _ us hl => match us, hl with | [_, _, _], _ => rfl)
theorem all17 (X : K.In h) (G : h.Ns mainGlobals mg) (c : He.SaysD fas fns K) (M : Mods K mg (clE K exs) bls gls exs) : AllP P w K mg base (clE K exs) 17 [("is_int", 3), ("is_panel", 1), ("share_widths", 2), ("share_heights", 2), ("is_page", 1), ("check_page", 1), ("check_number", 3), ("goes_before", 3), ("find_pairs", 1), ("do_agree", 2), ("are_alike", 2), ("still_moves", 2), ("exchanged", 1), ("mirrored", 1), ("turned_pairs", 1), ("_law_drawn", 3), ("_law_page", 3)] [d0, d1, d2, d3, d4, d5, d6, d7, d8, d9, d10, d11, d12, d13, d14, d15, d16] := by
  obtain ⟨fd, F⟩ := c.def_ 16 (d := D16) rfl
  exact (all16 X G c M).step M F sc16 py16 ok16 rfl rfl rfl (He.glo_ok X G (c.fact 16 (f := .glo "_law_page") rfl)) (F.bindsN (ps := ["_law_script", "_law_at", "_law_most"]) fun _ _ _ _ _ _ us hl => match us, hl with | [_, _, _], _ => rfl)
theorem all18 (X : K.In h) (G : h.Ns mainGlobals mg) (c : He.SaysD fas fns K) (M : Mods K mg (clE K exs) bls gls exs) : AllP P w K mg base (clE K exs) 18 [("is_int", 3), ("is_panel", 1), ("share_widths", 2), ("share_heights", 2), ("is_page", 1), ("check_page", 1), ("check_number", 3), ("goes_before", 3), ("find_pairs", 1), ("do_agree", 2), ("are_alike", 2), ("still_moves", 2), ("exchanged", 1), ("mirrored", 1), ("turned_pairs", 1), ("_law_drawn", 3), ("_law_page", 3), ("_law_first", 2)] [d0, d1, d2, d3, d4, d5, d6, d7, d8, d9, d10, d11, d12, d13, d14, d15, d16, d17] := by
  obtain ⟨fd, F⟩ := c.def_ 17 (d := D17) rfl
  exact (all17 X G c M).step M F sc17 py17 ok17 rfl rfl rfl (He.glo_ok X G (c.fact 17 (f := .glo "_law_first") rfl)) (F.bindsN (ps := ["_law_one", "_law_other"]) fun _ _ _ _ _ _ us hl => match us, hl with | [_, _], _ => rfl)
theorem all19 (X : K.In h) (G : h.Ns mainGlobals mg) (c : He.SaysD fas fns K) (M : Mods K mg (clE K exs) bls gls exs) : AllP P w K mg base (clE K exs) 19 [("is_int", 3), ("is_panel", 1), ("share_widths", 2), ("share_heights", 2), ("is_page", 1), ("check_page", 1), ("check_number", 3), ("goes_before", 3), ("find_pairs", 1), ("do_agree", 2), ("are_alike", 2), ("still_moves", 2), ("exchanged", 1), ("mirrored", 1), ("turned_pairs", 1), ("_law_drawn", 3), ("_law_page", 3), ("_law_first", 2), ("_law_pairs", 1)] [d0, d1, d2, d3, d4, d5, d6, d7, d8, d9, d10, d11, d12, d13, d14, d15, d16, d17, d18] := by
  obtain ⟨fd, F⟩ := c.def_ 18 (d := D18) rfl
  exact (all18 X G c M).step M F sc18 py18 ok18 rfl rfl rfl (He.glo_ok X G (c.fact 18 (f := .glo "_law_pairs") rfl)) (F.bindsN (ps := ["_law_page_here"]) fun _ _ _ _ _ _ us hl => match us, hl with | [_], _ => rfl)
theorem all20 (X : K.In h) (G : h.Ns mainGlobals mg) (c : He.SaysD fas fns K) (M : Mods K mg (clE K exs) bls gls exs) : AllP P w K mg base (clE K exs) 20 [("is_int", 3), ("is_panel", 1), ("share_widths", 2), ("share_heights", 2), ("is_page", 1), ("check_page", 1), ("check_number", 3), ("goes_before", 3), ("find_pairs", 1), ("do_agree", 2), ("are_alike", 2), ("still_moves", 2), ("exchanged", 1), ("mirrored", 1), ("turned_pairs", 1), ("_law_drawn", 3), ("_law_page", 3), ("_law_first", 2), ("_law_pairs", 1), ("_law_badpage", 2)] [d0, d1, d2, d3, d4, d5, d6, d7, d8, d9, d10, d11, d12, d13, d14, d15, d16, d17, d18, d19] := by
  obtain ⟨fd, F⟩ := c.def_ 19 (d := D19) rfl
  exact (all19 X G c M).step M F sc19 py19 ok19 rfl rfl rfl (He.glo_ok X G (c.fact 19 (f := .glo "_law_badpage") rfl)) (F.bindsN (ps := ["_law_script", "_law_at"]) fun _ _ _ _ _ _ us hl => match us, hl with | [_, _], _ => rfl)
theorem all21 (X : K.In h) (G : h.Ns mainGlobals mg) (c : He.SaysD fas fns K) (M : Mods K mg (clE K exs) bls gls exs) : AllP P w K mg base (clE K exs) 21 [("is_int", 3), ("is_panel", 1), ("share_widths", 2), ("share_heights", 2), ("is_page", 1), ("check_page", 1), ("check_number", 3), ("goes_before", 3), ("find_pairs", 1), ("do_agree", 2), ("are_alike", 2), ("still_moves", 2), ("exchanged", 1), ("mirrored", 1), ("turned_pairs", 1), ("_law_drawn", 3), ("_law_page", 3), ("_law_first", 2), ("_law_pairs", 1), ("_law_badpage", 2), ("_law_badnumber", 3)] [d0, d1, d2, d3, d4, d5, d6, d7, d8, d9, d10, d11, d12, d13, d14, d15, d16, d17, d18, d19, d20] := by
  obtain ⟨fd, F⟩ := c.def_ 20 (d := D20) rfl
  exact (all20 X G c M).step M F sc20 py20 ok20 rfl rfl rfl (He.glo_ok X G (c.fact 20 (f := .glo "_law_badnumber") rfl)) (F.bindsN (ps := ["_law_script", "_law_at", "_law_many"]) fun _ _ _ _ _ _ us hl => match us, hl with | [_, _, _], _ => rfl)
theorem all22 (X : K.In h) (G : h.Ns mainGlobals mg) (c : He.SaysD fas fns K) (M : Mods K mg (clE K exs) bls gls exs) : AllP P w K mg base (clE K exs) 22 [("is_int", 3), ("is_panel", 1), ("share_widths", 2), ("share_heights", 2), ("is_page", 1), ("check_page", 1), ("check_number", 3), ("goes_before", 3), ("find_pairs", 1), ("do_agree", 2), ("are_alike", 2), ("still_moves", 2), ("exchanged", 1), ("mirrored", 1), ("turned_pairs", 1), ("_law_drawn", 3), ("_law_page", 3), ("_law_first", 2), ("_law_pairs", 1), ("_law_badpage", 2), ("_law_badnumber", 3), ("_law_error", 3)] [d0, d1, d2, d3, d4, d5, d6, d7, d8, d9, d10, d11, d12, d13, d14, d15, d16, d17, d18, d19, d20, d21] := by
  obtain ⟨fd, F⟩ := c.def_ 21 (d := D21) rfl
  exact (all21 X G c M).step M F sc21 py21 ok21 rfl rfl rfl (He.glo_ok X G (c.fact 21 (f := .glo "_law_error") rfl)) (F.bindsN (ps := ["_law_way", "_law_one", "_law_two"]) fun _ _ _ _ _ _ us hl => match us, hl with | [_, _, _], _ => rfl)
theorem all23 (X : K.In h) (G : h.Ns mainGlobals mg) (c : He.SaysD fas fns K) (M : Mods K mg (clE K exs) bls gls exs) : AllP P w K mg base (clE K exs) 23 [("is_int", 3), ("is_panel", 1), ("share_widths", 2), ("share_heights", 2), ("is_page", 1), ("check_page", 1), ("check_number", 3), ("goes_before", 3), ("find_pairs", 1), ("do_agree", 2), ("are_alike", 2), ("still_moves", 2), ("exchanged", 1), ("mirrored", 1), ("turned_pairs", 1), ("_law_drawn", 3), ("_law_page", 3), ("_law_first", 2), ("_law_pairs", 1), ("_law_badpage", 2), ("_law_badnumber", 3), ("_law_error", 3), ("_law_overlap", 2)] [d0, d1, d2, d3, d4, d5, d6, d7, d8, d9, d10, d11, d12, d13, d14, d15, d16, d17, d18, d19, d20, d21, d22] := by
  obtain ⟨fd, F⟩ := c.def_ 22 (d := D22) rfl
  exact (all22 X G c M).step M F sc22 py22 ok22 rfl rfl rfl (He.glo_ok X G (c.fact 22 (f := .glo "_law_overlap") rfl)) (F.bindsN (ps := ["_law_one", "_law_other"]) fun _ _ _ _ _ _ us hl => match us, hl with | [_, _], _ => rfl)
theorem all24 (X : K.In h) (G : h.Ns mainGlobals mg) (c : He.SaysD fas fns K) (M : Mods K mg (clE K exs) bls gls exs) : AllP P w K mg base (clE K exs) 24 [("is_int", 3), ("is_panel", 1), ("share_widths", 2), ("share_heights", 2), ("is_page", 1), ("check_page", 1), ("check_number", 3), ("goes_before", 3), ("find_pairs", 1), ("do_agree", 2), ("are_alike", 2), ("still_moves", 2), ("exchanged", 1), ("mirrored", 1), ("turned_pairs", 1), ("_law_drawn", 3), ("_law_page", 3), ("_law_first", 2), ("_law_pairs", 1), ("_law_badpage", 2), ("_law_badnumber", 3), ("_law_error", 3), ("_law_overlap", 2), ("law", 1)] [d0, d1, d2, d3, d4, d5, d6, d7, d8, d9, d10, d11, d12, d13, d14, d15, d16, d17, d18, d19, d20, d21, d22, d23] := by
  obtain ⟨fd, F⟩ := c.def_ 23 (d := D23) rfl
  exact (all23 X G c M).step M F sc23 py23 ok23 rfl rfl rfl (He.glo_ok X G (c.fact 23 (f := .glo "law") rfl)) (F.bindsN (ps := ["_law_script"]) fun _ _ _ _ _ _ us hl => match us, hl with | [_], _ => rfl)
end
abbrev R : PySem.W.OpenRow := PySem.W.OpenLaw.row PySem.Challenge.rw_panelorder_k21_alike
abbrev hk : PySem.W.Hook := hookQ 4 fas fns (exsB exs)
def ob (s : PySem.W.SharedT) : AlE := obsQ 4 fas fns (exsB exs) (HandSHeadRun.getT s)
theorem ob_eq (s : PySem.W.SharedT) : ob s = hk.obs s.abs := obsQ_eq (HandSHeadRun.getT_eq s)
def loose : List PySem.Str := ["PanelError", "InvalidPage", "InvalidNumber", "SIZE", "MAX_PANELS", "is_int", "is_panel", "share_widths", "share_heights", "is_page", "check_page", "check_number", "goes_before", "find_pairs", "do_agree", "are_alike", "still_moves", "exchanged", "mirrored", "turned_pairs", "_law_drawn", "_law_page", "_law_first", "_law_pairs", "_law_badpage", "_law_badnumber", "_law_error", "_law_overlap"]
abbrev place : Nat := 32
abbrev K0 : Nat := 24
abbrev dLaw : List D → Rs D := d23
end K21
namespace K21
open PySem PySem.Spec Den
def inR (x a b : Int) : Bool := decide (a ≤ x) && decide (x ≤ b)
theorem v0 (x a b : Int) : d0 [.int x, .int a, .int b] = .ok (.bool (inR x a b)) := by
  simp [d0, defD, s0, startD, seqS, isiD, inR]
  by_cases h : a ≤ x <;> simp [h]
def okP (p : Pan) : Bool := inR p.a 0 20 && inR p.b 0 20 && inR p.c 0 20 && inR p.d 0 20 && decide (p.a < p.c) && decide (p.b < p.d)
theorem neI (i j : Int) : neD (.int i) (.int j) = .ok (.bool (!decide (i = j))) := neD_e (α := Int) (by decide) i j
theorem eqI (i j : Int) : eqD (.int i) (.int j) = .ok (.bool (decide (i = j))) := eqD_e (α := Int) (by decide) i j
theorem v1 (p : Pan) : d1 [pD p] = .ok (.bool (okP p)) := by
  have e : compL (setN 1) (fun x => Rs.ok true) (appE (tbl ds1 0) (consArg (vaR 1) (consArg (fun x => Rs.ok (PyData.int 0)) (consArg (fun x => Rs.ok (PyData.int 20)) noArg)))) [some (pD p), none] ([p.a, p.b, p.c, p.d].map PyData.int) = .ok ([p.a, p.b, p.c, p.d].map fun x => PyData.bool (inR x 0 20)) := by
    refine compL_all _ fun x _ => ?_
    simp [tbl, ds1, v0]
  have e2 := allD_bs (bs := [p.a, p.b, p.c, p.d].map fun x => inR x 0 20)
  simp at e e2
  simp [pD] at e
  simp [d1, defD, s1, startD, seqS, isiD, okP, pD, neI, e, e2]
  by_cases h1 : inR p.a 0 20 = true <;> by_cases h2 : inR p.b 0 20 = true <;> by_cases h3 : inR p.c 0 20 = true <;> by_cases h4 : inR p.d 0 20 = true <;> by_cases h5 : p.a < p.c <;> simp [h1, h2, h3, h4, h5]
theorem v2 (p q : Pan) : d2 [pD p, pD q] = .ok (.bool (decide (p.a < q.c) && decide (q.a < p.c))) := by
  simp [d2, defD, s2, startD, seqS, pD]
  by_cases h : p.a < q.c <;> simp [h]
theorem v3 (p q : Pan) : d3 [pD p, pD q] = .ok (.bool (decide (p.b < q.d) && decide (q.b < p.d))) := by
  simp [d3, defD, s3, startD, seqS, pD]
  by_cases h : p.b < q.d <;> simp [h]
def shW (p q : Pan) : Bool := decide (p.a < q.c) && decide (q.a < p.c)
def shH (p q : Pan) : Bool := decide (p.b < q.d) && decide (q.b < p.d)
def lap (p q : Pan) : Bool := shW p q && shH p q
def apart : List Pan → Bool
  | [] => true
  | p :: r => !(r.any (lap p)) && apart r
def okPage (P : List Pan) : Bool := decide (P.length ≤ 8) && P.all okP && apart P
theorem enuL_map (P : List Pan) : ∀ n, enuL n (P.map pD) = ((P.zipIdx n).map fun x => PyData.tuple [.int ((x.2 : Nat) : Int), pD x.1]) := by
  induction P with
  | nil => intro n; rfl
  | cons p r ih => intro n; simp only [List.map_cons, enuL, List.zipIdx_cons, ih]
theorem any_lap (p : Pan) (r : List Pan) : compL (setN 4) (fun _ => Rs.ok true) (andE (appE (tbl ds4 2) (consArg (vaR 2) (consArg (vaR 4) noArg))) (appE (tbl ds4 3) (consArg (vaR 2) (consArg (vaR 4) noArg)))) [c, x, some (pD p), u, none] (r.map pD) = .ok (r.map fun q => PyData.bool (lap p q)) := by
  refine compL_all _ fun q _ => ?_
  simp [tbl, ds4, v2, v3, lap, shW, shH]
  by_cases h1 : p.a < q.c <;> by_cases h2 : q.a < p.c <;> simp [h1, h2]
theorem v4 (P : List Pan) : d4 [.tuple (P.map pD)] = .ok (.bool (okPage P)) := by
  refine Wp.eq (wp_def rfl ?_)
  have e1 : compL (setN 3) (fun x => Rs.ok true) (appE (tbl ds4 1) (consArg (vaR 3) noArg)) [some (.tuple (P.map pD)), none, none, none, none] (P.map pD) = .ok (P.map fun p => PyData.bool (okP p)) := by
    refine compL_all _ fun p _ => ?_
    simp [tbl, ds4, v1]
  simp [s4, startD, isiD]
  split
  · rename_i h; simp [okPage]; omega
  · rename_i h
    simp [e1]
    by_cases h2 : ∀ p ∈ P, okP p = true
    · have h2' : P.all okP = true := by simpa using h2
      rw [if_pos h2, enuL_map]
      refine wp_for (fun k ρ => apart P = apart (P.drop k) ∧ ∃ x y, ρ = [some (.tuple (P.map pD)), x, y, none, none]) _ _ 0 ⟨rfl, _, _, rfl⟩ (fun i a ρ hi hI => ?_) fun ρ hI => ?_
      · obtain ⟨h3, x, y, rfl⟩ := hI
        have hlt : i < P.length := by
          have := (List.getElem?_eq_some_iff.mp hi).1
          simpa using this
        have ha : a = (P[i], i) := by
          have := (List.getElem?_eq_some_iff.mp hi).2
          simpa using this.symm
        subst ha
        have hc : cutD (P.map pD) (some ((i : Int) + 1)) none = (P.drop (i + 1)).map pD := by
          have := cut_from (P.map pD) (i + 1)
          rw [List.map_drop]; exact this
        rw [Nat.zero_add, List.drop_eq_getElem_cons hlt] at h3
        simp [-List.map_drop, hc, any_lap]
        split
        · rename_i h4
          have : apart P = false := by rw [h3]; simp [apart]; intro h5; obtain ⟨q, h6, h7⟩ := h4; rw [h5 q h6] at h7; cases h7
          simp [okPage, this]
        · rename_i h4
          rw [h3]
          have h5 : (List.drop (i + 1) P).any (lap P[i]) = false := by simpa using h4
          show (!(List.drop (i + 1) P).any (lap P[i]) && apart (List.drop (i + 1) P)) = _
          rw [h5]
          simp
      · obtain ⟨h3, x, y, rfl⟩ := hI
        have : P.drop (0 + P.zipIdx.length) = [] := List.drop_eq_nil_of_le (by simp)
        rw [this] at h3
        simp [okPage, h2', h3, apart]
        omega
    · have h2' : P.all okP = false := by simpa using h2
      rw [if_neg h2]
      simp [okPage, h2']
theorem v5 {v : D} {b : Bool} (h : d4 [v] = .ok (.bool b)) : d5 [v] = if b = true then .ok .none else .exc 0 := by
  have e : tbl ds5 4 = d4 := rfl
  simp [d5, defD, s5, startD, e, h]
  cases b <;> simp [seqS, h]
theorem v6 {v : D} {i j : Int} {b : Bool} (h : d0 [v, .int i, .int j] = .ok (.bool b)) : d6 [v, .int i, .int j] = if b = true then .ok .none else .exc 1 := by
  have e : tbl ds6 0 = d0 := rfl
  simp [d6, defD, s6, startD, e, h]
  cases b <;> simp [seqS, h]
def bef (p q : Pan) : Bool := (decide (p.c ≤ q.a) && shH p q) || (decide (p.d ≤ q.b) && shW p q)
theorem at_map {P : List Pan} {i : Nat} (h : i < P.length) : L2.atI (P.map pD) (i : Int) = some (pD P[i]) := by
  rw [atI_nn (by simpa using h)]
  simp
theorem v7 {P : List Pan} {i j : Nat} (hi : i < P.length) (hj : j < P.length) : d7 [.tuple (P.map pD), .int i, .int j] = .ok (.bool (bef P[i] P[j])) := by
  have e2 : tbl ds7 2 = d2 := rfl
  have e3 : tbl ds7 3 = d3 := rfl
  refine Wp.eq (wp_def rfl ?_)
  simp [s7, startD, at_map hi, at_map hj]
  have e4 : L2.atI [PyData.int (P[i]).a, PyData.int (P[i]).b, PyData.int (P[i]).c, PyData.int (P[i]).d] 2 = some (.int (P[i]).c) := by simp
  simp [pD, e2, e3]
  have v2' := v2 P[i] P[j]
  have v3' := v3 P[i] P[j]
  simp [pD] at v2' v3'
  simp [v2', v3']
  by_cases h1 : (P[i]).c ≤ (P[j]).a <;> by_cases h2 : (P[i]).d ≤ (P[j]).b <;> simp [h1, h2, bef, shW, shH]
  all_goals split <;> simp_all <;> omega
def befI (P : List Pan) (i j : Nat) : Bool := match P[i]?, P[j]? with
  | some p, some q => bef p q
  | _, _ => false
theorem befI_eq {P : List Pan} {i j : Nat} (hi : i < P.length) (hj : j < P.length) : befI P i j = bef P[i] P[j] := by
  unfold befI
  rw [List.getElem?_eq_getElem hi, List.getElem?_eq_getElem hj]
def row (P : List Pan) (i : Nat) : List (Nat × Nat) := ((List.range P.length).filter (befI P i)).map fun j => (i, j)
def prs (P : List Pan) : List (Nat × Nat) := (List.range P.length).flatMap (row P)
theorem row_len (P : List Pan) (a : Nat) : (row P a).length ≤ P.length := by
  unfold row
  rw [List.length_map]
  have := List.length_filter_le (befI P a) (List.range P.length)
  simpa using this
theorem rows_len (P : List Pan) : ∀ k : Nat, ((List.range k).flatMap (row P)).length ≤ k * P.length := fun k => by
  induction k with
  | zero => simp
  | succ k ih =>
    rw [List.range_succ, List.flatMap_append, List.length_append, Nat.succ_mul]
    have := row_len P k
    simp [-List.length_flatMap]
    omega
theorem prs_len (P : List Pan) : (prs P).length ≤ P.length * P.length := rows_len P P.length
theorem v9 {P : List Pan} (hP : P.length ≤ 8) : d8 [.tuple (P.map pD)] = .ok (Enc.e (prs P)) := by
  have e7 : tbl ds8 7 = d7 := rfl
  refine Wp.eq (wp_def rfl ?_)
  have e1 : compL2 (setN 2) (seqE (vaR 1)) (setN 3) (tstE (appE (tbl ds8 7) (consArg (vaR 0) (consArg (vaR 2) (consArg (vaR 3) noArg))))) (tupA (consArg (vaR 2) (consArg (vaR 3) noArg))) [3] [some (.tuple (P.map pD)), some (.list ((List.range P.length).map fun i : Nat => PyData.int (i : Int))), none, none] ((List.range P.length).map fun i : Nat => PyData.int (i : Int)) = .ok ((List.range P.length).flatMap fun i => ((List.range P.length).filter (befI P i)).map fun j : Nat => PyData.tuple [.int (i : Int), .int (j : Int)]) := by
    refine compL2_map (l1 := fun _ => List.range P.length) (g1 := fun i : Nat => PyData.int (i : Int)) _ fun i hi => ?_
    have hi' : i < P.length := by simpa using hi
    simp
    intro j hj
    simp [e7, v7 hi' hj, befI_eq hi' hj]
  have e2 : ((List.range P.length).flatMap fun i => ((List.range P.length).filter (befI P i)).map fun j : Nat => PyData.tuple [.int (i : Int), .int (j : Int)]) = (prs P).map Enc.e := by
    unfold prs row
    rw [List.map_flatMap]
    congr 1
    funext i
    rw [List.map_map]; rfl
  rw [e2] at e1
  have hl := prs_len P
  have hl2 : P.length * P.length ≤ 8 * 8 := Nat.mul_le_mul hP hP
  simp [s8, startD, rng0_map]
  refine ⟨by omega, ?_⟩
  rw [wp_noexc, e1]
  exact ⟨by rw [List.length_map]; unfold big; omega, rfl⟩
theorem okLen {P : List Pan} (h : okPage P = true) : P.length ≤ 8 := by
  unfold okPage at h
  simp at h
  exact h.1.1
theorem v5ok {P : List Pan} (h : okPage P = true) : d5 [.tuple (P.map pD)] = .ok .none := by
  have h5 := v5 (v4 P)
  rw [h, if_pos rfl] at h5
  exact h5
theorem pair_e (l : List (Nat × Nat)) : (Enc.e l : D) = .list (l.map fun p => PyData.tuple [.int (p.1 : Int), .int (p.2 : Int)]) := rfl
theorem nats_e (l : List Nat) : (Enc.e l : D) = .list (l.map fun p : Nat => PyData.int (p : Int)) := rfl
theorem v15 (p q : Pan) : d17 [pD p, pD q] = .ok (.bool (bef p q)) := by
  refine Wp.eq (wp_def rfl ?_)
  simp [s17, startD, pD, bef, shW, shH]
  by_cases h1 : p.c ≤ q.a <;> by_cases h2 : p.b < q.d <;> by_cases h3 : q.b < p.d <;> by_cases h4 : p.d ≤ q.b <;> by_cases h5 : p.a < q.c <;> simp [h1, h2, h3, h4, h5]
  all_goals omega
theorem v16 {P : List Pan} (hP : P.length ≤ 8) : d18 [.tuple (P.map pD)] = .ok (Enc.e (prs P)) := by
  have e15 : tbl ds18 17 = d17 := rfl
  refine Wp.eq (wp_def rfl ?_)
  have hl := prs_len P
  have hl2 : P.length * P.length ≤ 8 * 8 := Nat.mul_le_mul hP hP
  simp [s18, startD, rng0_map]
  refine ⟨by omega, ?_⟩
  refine wp_for (fun k ρ => ∃ x y, ρ = [some (.tuple (P.map pD)), some (Enc.e ((List.range k).flatMap (row P))), x, y]) _ _ 0 ⟨_, _, rfl⟩ (fun i a ρ hi hI => ?_) fun ρ hI => ?_
  · obtain ⟨x, y, rfl⟩ := hI
    have hi2 : i < P.length ∧ a = i := by
      have := List.getElem?_eq_some_iff.mp hi
      simp at this
      exact ⟨this.1, this.2.symm⟩
    obtain ⟨hi', rfl⟩ := hi2
    have e2 : ∀ d, compL (setN 3) (tstE (appE (tbl ds18 17) (consArg (bi ixD (vaR 0) (vaR 2)) (consArg (bi ixD (vaR 0) (vaR 3)) noArg)))) (tupA (consArg (vaR 2) (consArg (vaR 3) noArg))) [some (.tuple (P.map pD)), d, some (.int (a : Int)), none] ((List.range P.length).map fun i : Nat => PyData.int (i : Int)) = .ok ((row P a).map fun p => PyData.tuple [.int (p.1 : Int), .int (p.2 : Int)]) := fun d => by
      unfold row
      rw [List.map_map]
      refine compL_map _ fun j hj => ?_
      have hj' : j < P.length := by simpa using hj
      simp [at_map hi', at_map hj', e15, v15, befI_eq hi' hj']
    have h3 : ((List.range a).flatMap (row P)).length + (row P a).length ≤ 64 := by
      have := rows_len P (a + 1)
      rw [List.range_succ, List.flatMap_append, List.length_append] at this
      simp at this ⊢
      have h4 : (a + 1) * P.length ≤ 8 * 8 := Nat.mul_le_mul (by omega) hP
      omega
    simp [-List.length_flatMap, pair_e, rng0_map, e2]
    refine ⟨by omega, by unfold big; omega, ?_⟩
    rw [List.range_succ, List.flatMap_append, List.map_append]
    simp
  · obtain ⟨x, y, rfl⟩ := hI
    simp [prs]
def intsD (ns : List Int) : D := .list (ns.map PyData.int)
theorem intsD_at {ns : List Int} {i : Nat} (h : i < ns.length) : L2.atI (ns.map PyData.int) (i : Int) = some (.int ns[i]) := by
  rw [atI_nn (by simpa using h)]
  simp
theorem v13 (ns : List Int) (k : Nat) (m : Int) (hlen : ns.length ≤ 63) (hm : 0 < m) : ∃ r : Int, d15 [intsD ns, .int k, .int m] = .ok (.int r) ∧ 0 ≤ r ∧ r < m := by
  have : Wp (d15 [intsD ns, .int k, .int m]) fun d => ∃ r : Int, d = .int r ∧ 0 ≤ r ∧ r < m := by
    refine wp_def rfl ?_
    have e1 : neD (intsD ns) (.list []) = .ok (.bool (!decide (ns = []))) := neD_e (α := List Int) (by decide) ns []
    simp only [s15, x62]
    refine wp_cut (R := fun ρ => ρ = [some (intsD ns), some (.int k), some (.int m), some (.int (7 * k)), none, none]) ?_ fun ρ1 h => ?_
    · simp [startD]
    · subst h
      refine wp_cut (R := fun ρ => ∃ c x y, ρ = [some (intsD ns), some (.int k), some (.int m), some (.int c), x, y]) ?_ fun ρ1 h => ?_
      · simp [e1]
        intro hn
        have hl : 0 < ns.length := List.length_pos_iff.mpr hn
        obtain ⟨j, hl2, e2⟩ : ∃ j : Nat, j < ns.length ∧ (k : Int) % (ns.length : Int) = (j : Int) := ⟨k % ns.length, Nat.mod_lt _ hl, by omega⟩
        obtain ⟨t, e3⟩ : ∃ t : Nat, (k : Int) / (ns.length : Int) = (t : Int) := ⟨k / ns.length, by omega⟩
        have hat : L2.atI (ns.map PyData.int) (j : Int) = some (.int ns[j]) := intsD_at hl2
        generalize ns[j] = cell at hat
        have hle : (0 : Int) < ns.length ∧ (ns.length : Int) < 18446744073709551616 := ⟨by omega, by omega⟩
        by_cases c1 : (1000000000000000000 : Int) ≤ cell
        · by_cases c2 : (t : Int) < 60
          · simp [intsD, e2, hat, e3, hle, c1, c2]
            refine ⟨hl, ?_⟩
            refine wp_while (fun n ρ => ∃ r u : Int, n = u.toNat ∧ 0 ≤ u ∧ u ≤ 60 ∧ ρ = [some (.list (ns.map PyData.int)), some (.int k), some (.int m), some (.int cell), some (.int u), some (.int r)]) t _ _ (by omega) ⟨_, _, by omega, by omega, by omega, rfl⟩ ?_
            rintro n ρ ⟨r, u, hn', hu, hu2, rfl⟩
            by_cases h1 : 0 < r
            · by_cases h2 : 0 < u
              · simp [h1, h2]
                exact ⟨(u - 1).toNat, by omega, r / 1000000, u - 1, rfl, by omega, by omega, rfl, rfl⟩
              · simp [h1, h2]
                exact ⟨hm, Int.emod_nonneg _ (by omega), Int.emod_lt_of_pos _ hm⟩
            · simp [h1, e3, hle, hl]
          · simp [intsD, e2, hat, e3, hle, c1, c2]
            exact hn
        · simp [intsD, e2, hat, e3, hle, c1]
          exact hn
      · obtain ⟨c, x, y, rfl⟩ := h
        have hu : ∀ u : Int, 0 ≤ u % 2147483563 ∧ u % 2147483563 < 2147483563 := fun u => ⟨Int.emod_nonneg _ (by decide), Int.emod_lt_of_pos _ (by decide)⟩
        have hv : ∀ u : Int, 0 ≤ u % 2147483399 ∧ u % 2147483399 < 2147483399 := fun u => ⟨Int.emod_nonneg _ (by decide), Int.emod_lt_of_pos _ (by decide)⟩
        simp
        have h1 := hu (c % 2147483563 * 69069 + 104723 * (↑k + 1))
        generalize (c % 2147483563 * 69069 + 104723 * (↑k + 1)) % 2147483563 = u at *
        have h2 := hv (u * u + u / 3)
        generalize (u * u + u / 3) % 2147483399 = v at *
        exact ⟨⟨by omega, by omega⟩, ⟨by omega, by omega⟩, hm, Int.emod_nonneg _ (by omega), Int.emod_lt_of_pos _ hm⟩
  obtain ⟨d, e, r, rfl, h⟩ := wp_iff.mp this
  exact ⟨r, e, h⟩
theorem drawn (ns : List Int) (hlen : ns.length ≤ 63) (k : Nat) (m : Nat) (hm : 0 < m) : ∃ r : Nat, d15 [intsD ns, .int k, .int m] = .ok (.int r) ∧ r < m := by
  obtain ⟨r, e, h1, h2⟩ := v13 ns k m hlen (by omega)
  exact ⟨r.toNat, by rw [e]; congr 2; omega, by omega⟩
theorem drawnI (ns : List Int) (hlen : ns.length ≤ 63) (x m : Int) (hx : 0 ≤ x) (hm : 0 < m) : ∃ r : Nat, d15 [intsD ns, .int x, .int m] = .ok (.int r) ∧ (r : Int) < m := by
  obtain ⟨r, e, h⟩ := drawn ns hlen x.toNat m.toNat (by omega)
  have hx' : ((x.toNat : Nat) : Int) = x := by omega
  have hm' : ((m.toNat : Nat) : Int) = m := by omega
  rw [hx', hm'] at e
  exact ⟨r, e, by omega⟩
structure Sheet (F : List Pan) : Prop where
  box : ∀ p ∈ F, 0 ≤ p.a ∧ p.a < p.c ∧ p.c ≤ 12 ∧ 0 ≤ p.b ∧ p.b < p.d ∧ p.d ≤ 12
  ap : F.Pairwise fun p q => lap p q = false
theorem lap_symm (p q : Pan) : lap p q = lap q p := by
  unfold lap shW shH
  rw [Bool.and_comm (decide (p.a < q.c)), Bool.and_comm (decide (p.b < q.d))]
theorem lap_false {p q : Pan} : lap p q = false ↔ q.c ≤ p.a ∨ p.c ≤ q.a ∨ q.d ≤ p.b ∨ p.d ≤ q.b := by
  unfold lap shW shH
  rw [Bool.eq_false_iff]
  simp
  omega
theorem apart_iff (F : List Pan) : apart F = true ↔ F.Pairwise fun p q => lap p q = false := by
  induction F with
  | nil => simp [apart]
  | cons p r ih =>
    unfold apart
    rw [Bool.and_eq_true, ih, List.pairwise_cons]
    simp
theorem Sheet.page {F : List Pan} (h : Sheet F) (hl : F.length ≤ 8) : okPage F = true := by
  unfold okPage
  rw [(apart_iff F).mpr h.ap]
  simp [hl]
  intro p hp
  have := h.box p hp
  simp [okP, inR]
  omega
theorem Sheet.cut {F : List Pan} (h : Sheet F) {i : Nat} (hi : i < F.length) {x y : Pan} (hx : (F[i]).a ≤ x.a ∧ x.a < x.c ∧ x.c ≤ (F[i]).c ∧ (F[i]).b ≤ x.b ∧ x.b < x.d ∧ x.d ≤ (F[i]).d) (hy : (F[i]).a ≤ y.a ∧ y.a < y.c ∧ y.c ≤ (F[i]).c ∧ (F[i]).b ≤ y.b ∧ y.b < y.d ∧ y.d ≤ (F[i]).d)
    (hxy : lap x y = false) : Sheet (F.take i ++ [x] ++ F.drop (i + 1) ++ [y]) := by
  have e : F = F.take i ++ F[i] :: F.drop (i + 1) := by rw [← List.drop_eq_getElem_cons hi, List.take_append_drop]
  have hb := h.box F[i] (List.getElem_mem hi)
  have hap := h.ap
  rw [e, List.pairwise_append] at hap
  obtain ⟨a1, a2, a3⟩ := hap
  rw [List.pairwise_cons] at a2
  obtain ⟨a4, a5⟩ := a2
  refine ⟨fun p hp => ?_, ?_⟩
  · simp only [List.mem_append, List.mem_singleton] at hp
    rcases hp with ((hp | rfl) | hp) | rfl
    · exact h.box p (List.mem_of_mem_take hp)
    · omega
    · exact h.box p (List.mem_of_mem_drop hp)
    · omega
  · have k1 : ∀ p ∈ F.take i, lap p x = false ∧ lap p y = false := fun p hp => by
      have := lap_false.mp (a3 p hp F[i] List.mem_cons_self)
      exact ⟨lap_false.mpr (by omega), lap_false.mpr (by omega)⟩
    have k2 : ∀ p ∈ F.drop (i + 1), lap x p = false ∧ lap p y = false := fun p hp => by
      have := lap_false.mp (a4 p hp)
      exact ⟨lap_false.mpr (by omega), lap_false.mpr (by omega)⟩
    simp only [List.pairwise_append, List.pairwise_cons, List.mem_append, List.mem_singleton, List.Pairwise.nil, List.not_mem_nil]
    refine ⟨⟨⟨a1, ⟨fun _ z => z.elim, trivial⟩, fun p hp q hq => hq ▸ (k1 p hp).1⟩, a5, fun p hp q hq => ?_⟩, ⟨fun _ z => z.elim, trivial⟩, fun p hp q hq => ?_⟩
    · rcases hp with hp | rfl
      · exact a3 p hp q (List.mem_cons_of_mem _ hq)
      · exact (k2 q hq).1
    · subst hq
      rcases hp with (hp | rfl) | hp
      · exact (k1 p hp).2
      · exact hxy
      · exact (k2 p hp).2
theorem Sheet.sub {F K : List Pan} (h : Sheet F) (s : K.Sublist F) : Sheet K := ⟨fun p hp => h.box p (s.subset hp), h.ap.sublist s⟩
theorem cutAt (F : List Pan) (i : Nat) : cutD (F.map pD) none (some (i : Int)) = (F.take i).map pD ∧ cutD (F.map pD) (some ((i : Int) + 1)) none = (F.drop (i + 1)).map pD := by
  refine ⟨by rw [cut_to, List.map_take], ?_⟩
  have := cut_from (F.map pD) (i + 1)
  rw [List.map_drop]
  exact this
def PgI (ns : List Int) (at_ most : Nat) (n : Nat) (ρ : Ro) : Prop := ∃ (F : List Pan) (x5 x6 x7 x8 x9 x10 x11 x12 x13 x14 x15 x16 x17 : Option D), ρ = [some (intsD ns), some (.int at_), some (.int most), some (.list (F.map pD)), some (.list []), x5, x6, x7, x8, x9, x10, x11, x12, x13, x14, x15, x16, x17] ∧ Sheet F ∧ 0 < F.length ∧ F.length ≤ n
def PgJ (ns : List Int) (at_ most : Nat) (n k : Nat) (ρ : Ro) : Prop := ∃ (F : List Pan) (i w : Nat) (hi : i < F.length) (x13 x14 x15 x16 x17 : Option D), ρ = [some (intsD ns), some (.int at_), some (.int most), some (.list (F.map pD)), some (.list []), some (.int k), some (.int i), some (.int w), some (.int F[i].a), some (.int F[i].b), some (.int F[i].c), some (.int F[i].d), some (.int (if w = 0 then F[i].c - F[i].a else F[i].d - F[i].b)), x13, x14, x15, x16, x17] ∧ Sheet F ∧ 0 < F.length ∧ F.length ≤ n ∧ w < 2
def PgK (ns : List Int) (at_ most : Nat) (ρ : Ro) : Prop := ∃ (F K : List Pan) (x5 x6 x7 x8 x9 x10 x11 x12 x13 x14 x15 x16 x17 : Option D), ρ = [some (intsD ns), some (.int at_), some (.int most), some (.list (F.map pD)), some (.list (K.map pD)), x5, x6, x7, x8, x9, x10, x11, x12, x13, x14, x15, x16, x17] ∧ Sheet K ∧ K.length ≤ 8
theorem max_d (K : List Pan) : maxD [.list (.int 0 :: K.map fun p => PyData.int p.d)] = .ok (.int (maxL 0 (K.map (·.d)))) := by
  have : intsO (.int 0 :: K.map fun p => PyData.int p.d) = some (0 :: K.map (·.d)) := by
    have := ints_map (0 :: K.map (·.d))
    rw [List.map_cons, List.map_map] at this
    exact this
  simp [maxD, this]
theorem sheetA : Sheet [⟨2, 0, 8, 2⟩, ⟨6, 2, 8, 8⟩, ⟨0, 6, 6, 8⟩, ⟨0, 0, 2, 6⟩, ⟨3, 3, 5, 5⟩] := ⟨by decide, by decide⟩
theorem sheetB : Sheet [⟨9, 0, 11, 2⟩, ⟨6, 2, 8, 4⟩, ⟨3, 4, 5, 6⟩, ⟨0, 6, 2, 8⟩] := ⟨by decide, by decide⟩
theorem Sheet.add {K : List Pan} (h : Sheet K) (hk : ∀ p ∈ K, p.d < 9) : Sheet (K ++ [⟨0, 9, 12, 12⟩]) := by
  refine ⟨fun p hp => ?_, ?_⟩
  · rcases List.mem_append.mp hp with hp | hp
    · exact h.box p hp
    · rw [List.mem_singleton.mp hp]; decide
  · rw [List.pairwise_append]
    refine ⟨h.ap, by simp, fun p hp q hq => ?_⟩
    rw [List.mem_singleton.mp hq, lap_false]
    have := hk p hp
    simp
    omega
theorem v14 (ns : List Int) (hlen : ns.length ≤ 63) (at_ most : Nat) (hm : 0 < most) (hm8 : most ≤ 8) : ∃ P : List Pan, d16 [intsD ns, .int at_, .int most] = .ok (.tuple (P.map pD)) ∧ Sheet P ∧ P.length ≤ 8 := by
  have e13 : tbl ds16 15 = d15 := rfl
  have : Wp (d16 [intsD ns, .int at_, .int most]) fun d => ∃ P : List Pan, d = .tuple (P.map pD) ∧ Sheet P ∧ P.length ≤ 8 := by
    refine wp_def rfl ?_
    simp only [s16, x62]
    refine wp_cut (R := fun ρ => ρ = [some (intsD ns), some (.int at_), some (.int most), some (.list [pD ⟨0, 0, 12, 12⟩]), some (.list []), none, none, none, none, none, none, none, none, none, none, none, none, none]) ?_ fun ρ1 h => ?_
    · simp [startD, pD]
    · subst h
      refine wp_cut (R := PgI ns at_ most 8) ?_ fun ρ1 h => ?_
      · obtain ⟨r, hr, hr2⟩ := drawnI ns hlen at_ most (by omega) (by omega)
        simp only [x57, forS_eq, wp_bind]
        simp only [x62]
        rw [show (I.den (tbl ds16) _ _ : Rs (List D)) = .ok ((List.range r).map fun i : Nat => PyData.int (i : Int)) by simp [e13, hr, rng0_map]; omega, wp_ok]
        refine wp_for (fun k ρ => PgI ns at_ most (k + 1) ρ) _ _ 0 ?_ (fun i a ρ hi hI => ?_) fun ρ hI => ?_
        · refine ⟨[⟨0, 0, 12, 12⟩], _, _, _, _, _, _, _, _, _, _, _, _, _, rfl, ⟨by simp, by simp⟩, by simp, by simp⟩
        · obtain ⟨F, x5, x6, x7, x8, x9, x10, x11, x12, x13, x14, x15, x16, x17, rfl, hF, hF0, hFl⟩ := hI
          have ha : a = i := by
            have := List.getElem?_eq_some_iff.mp hi
            simp at this
            exact this.2.symm
          subst ha
          have har : a < r := by
            have := List.getElem?_eq_some_iff.mp hi
            simp at this
            exact this
          simp only [tg1, setN_eq, wp_ok]
          refine wp_cut (R := fun ρ => ∃ (i w : Nat), i < F.length ∧ w < 2 ∧ ρ = [some (intsD ns), some (.int at_), some (.int most), some (.list (F.map pD)), some (.list []), some (.int a), some (.int i), some (.int w), x8, x9, x10, x11, x12, x13, x14, x15, x16, x17]) ?_ fun ρ1 h => ?_
          · obtain ⟨p, hp, hp2⟩ := drawnI ns hlen (at_ + 1 + 4 * a) F.length (by omega) (by omega)
            obtain ⟨q, hq, hq2⟩ := drawnI ns hlen (at_ + 2 + 4 * a) 2 (by omega) (by omega)
            simp [e13, hp, hq]
            exact ⟨p, by omega, q, by omega, rfl, rfl⟩
          · obtain ⟨i, w, hi', hw, rfl⟩ := h
            refine wp_cut (R := fun ρ => ρ = [some (intsD ns), some (.int at_), some (.int most), some (.list (F.map pD)), some (.list []), some (.int a), some (.int i), some (.int w), some (.int F[i].a), some (.int F[i].b), some (.int F[i].c), some (.int F[i].d), x12, x13, x14, x15, x16, x17]) ?_ fun ρ1 h => ?_
            · simp [at_map hi', pD]
            · subst h
              refine wp_cut (R := PgJ ns at_ most (0 + a + 1) a) ?_ fun ρ1 h => ?_
              · have e0 : eqD (.int (w : Int)) (.int 0) = .ok (.bool (decide ((w : Int) = 0))) := eqI _ _
                simp [e0]
                split
                · rename_i hw0
                  exact ⟨F, i, w, hi', x13, x14, x15, x16, x17, by simp [hw0], hF, hF0, by omega, hw⟩
                · rename_i hw0
                  exact ⟨F, i, w, hi', x13, x14, x15, x16, x17, by simp [hw0], hF, hF0, by omega, hw⟩
              · obtain ⟨F, i, w, hi', x13, x14, x15, x16, x17, rfl, hF, hF0, hFl, hw⟩ := h
                have hb := hF.box F[i] (List.getElem_mem hi')
                generalize hsz : (if w = 0 then F[i].c - F[i].a else F[i].d - F[i].b) = sz
                by_cases h1 : 1 < sz
                · refine wp_cut0 (R := PgI ns at_ most (0 + a + 1 + 1)) ?_ fun ρ1 h => h
                  refine wp_if true (by simp [h1]) ?_
                  rw [if_pos rfl]
                  refine wp_cons (R := fun ρ => ∃ ln : Int, 1 ≤ ln ∧ ln < sz ∧ ρ = [some (intsD ns), some (.int at_), some (.int most), some (.list (F.map pD)), some (.list []), some (.int a), some (.int i), some (.int w), some (.int F[i].a), some (.int F[i].b), some (.int F[i].c), some (.int F[i].d), some (.int sz), some (.int ln), x14, x15, x16, x17]) ?_ fun ρ1 h => ?_
                  · obtain ⟨q, hq, hq2⟩ := drawnI ns hlen (at_ + 3 + 4 * a) (sz - 1) (by omega) (by omega)
                    simp [e13, hq]
                    omega
                  · obtain ⟨ln, hln, hln2, rfl⟩ := h
                    refine wp_cons (R := fun ρ => ∃ X : Pan, X = (if w = 0 then ⟨F[i].a, F[i].b, F[i].a + ln, F[i].d⟩ else ⟨F[i].a, F[i].b, F[i].c, F[i].b + ln⟩) ∧ ρ = [some (intsD ns), some (.int at_), some (.int most), some (.list (F.map pD)), some (.list []), some (.int a), some (.int i), some (.int w), some (.int F[i].a), some (.int F[i].b), some (.int F[i].c), some (.int F[i].d), some (.int sz), some (.int ln), some (pD X), x15, x16, x17]) ?_ fun ρ1 h => ?_
                    · by_cases hw0 : w = 0 <;> simp [eqI, hw0, pD]
                    · obtain ⟨X, hX, rfl⟩ := h
                      refine wp_cons (R := fun ρ => ∃ Y : Pan, Y = (if w = 0 then ⟨F[i].a + ln, F[i].b, F[i].c, F[i].d⟩ else ⟨F[i].a, F[i].b + ln, F[i].c, F[i].d⟩) ∧ ρ = [some (intsD ns), some (.int at_), some (.int most), some (.list (F.map pD)), some (.list []), some (.int a), some (.int i), some (.int w), some (.int F[i].a), some (.int F[i].b), some (.int F[i].c), some (.int F[i].d), some (.int sz), some (.int ln), some (pD X), some (pD Y), x16, x17]) ?_ fun ρ1 h => ?_
                      · by_cases hw0 : w = 0 <;> simp [eqI, hw0, pD]
                      · obtain ⟨Y, hY, rfl⟩ := h
                        have hXp : (F[i]).a ≤ X.a ∧ X.a < X.c ∧ X.c ≤ (F[i]).c ∧ (F[i]).b ≤ X.b ∧ X.b < X.d ∧ X.d ≤ (F[i]).d := by
                          by_cases hw0 : w = 0 <;> simp [hw0] at hX hsz <;> subst hX <;> simp <;> omega
                        have hYp : (F[i]).a ≤ Y.a ∧ Y.a < Y.c ∧ Y.c ≤ (F[i]).c ∧ (F[i]).b ≤ Y.b ∧ Y.b < Y.d ∧ Y.d ≤ (F[i]).d := by
                          by_cases hw0 : w = 0 <;> simp [hw0] at hY hsz <;> subst hY <;> simp <;> omega
                        have hXY : lap X Y = false := by
                          rw [lap_false]
                          by_cases hw0 : w = 0 <;> simp [hw0] at hX hY <;> subst hX hY <;> simp
                        obtain ⟨q, hq, hq2⟩ := drawnI ns hlen (at_ + 4 + 4 * a) 2 (by omega) (by omega)
                        refine wp_cons (R := fun ρ => ρ = [some (intsD ns), some (.int at_), some (.int most), some (.list (F.map pD)), some (.list []), some (.int a), some (.int i), some (.int w), some (.int F[i].a), some (.int F[i].b), some (.int F[i].c), some (.int F[i].d), some (.int sz), some (.int ln), some (pD X), some (pD Y), some (.int q), x17]) ?_ fun ρ1 h => ?_
                        · simp [e13, hq]
                        · subst h
                          have hlt : (F.take i ++ [X] ++ F.drop (i + 1) ++ [Y]).length = F.length + 1 := by
                            simp; omega
                          have cu1 := hF.cut hi' hXp hYp hXY
                          have cu2 := hF.cut hi' hYp hXp (by rw [lap_symm]; exact hXY)
                          have hq3 : q = 0 ∨ q = 1 := by omega
                          have hl4 : (List.take i F).length + 1 + (List.drop (i + 1) F).length + 1 ≤ 9 := by simp; omega
                          simp at hl4
                          rcases hq3 with rfl | rfl
                          · simp [-List.map_take, -List.map_drop, (cutAt F i).1, (cutAt F i).2]
                            rw [show List.map pD (List.take i F) ++ pD X :: (List.map pD (List.drop (i + 1) F) ++ [pD Y]) = List.map pD (F.take i ++ [X] ++ F.drop (i + 1) ++ [Y]) by simp]
                            have hlt' : (F.take i ++ [X] ++ F.drop (i + 1) ++ [Y]).length = F.length + 1 := by
                              simp; omega
                            exact ⟨by unfold big; omega, by unfold big; omega, by unfold big; omega, F.take i ++ [X] ++ F.drop (i + 1) ++ [Y], _, _, _, _, _, _, _, _, _, _, _, _, _, rfl, cu1, by omega, by omega⟩
                          · simp [-List.map_take, -List.map_drop, (cutAt F i).1, (cutAt F i).2]
                            rw [show List.map pD (List.take i F) ++ pD Y :: (List.map pD (List.drop (i + 1) F) ++ [pD X]) = List.map pD (F.take i ++ [Y] ++ F.drop (i + 1) ++ [X]) by simp]
                            have hlt' : (F.take i ++ [Y] ++ F.drop (i + 1) ++ [X]).length = F.length + 1 := by
                              simp; omega
                            exact ⟨by unfold big; omega, by unfold big; omega, by unfold big; omega, F.take i ++ [Y] ++ F.drop (i + 1) ++ [X], _, _, _, _, _, _, _, _, _, _, _, _, _, rfl, cu2, by omega, by omega⟩
                · simp [h1]
                  exact ⟨F, _, _, _, _, _, _, _, _, _, _, _, _, _, rfl, hF, hF0, by omega⟩
        · obtain ⟨F, x5, x6, x7, x8, x9, x10, x11, x12, x13, x14, x15, x16, x17, rfl, hF, hF0, hFl⟩ := hI
          exact ⟨F, _, _, _, _, _, _, _, _, _, _, _, _, _, rfl, hF, hF0, by simp at hFl; omega⟩
      · obtain ⟨F, x5, x6, x7, x8, x9, x10, x11, x12, x13, x14, x15, x16, x17, rfl, hF, hF0, hFl⟩ := h
        refine wp_cut (R := PgK ns at_ most) ?_ fun ρ1 h => ?_
        · simp only [x57, forS_eq, wp_bind]
          rw [show (I.den (tbl ds16) _ _ : Rs (List D)) = .ok ((F.zipIdx 0).map fun x => PyData.tuple [.int ((x.2 : Nat) : Int), pD x.1]) by simp [enuL_map], wp_ok]
          refine wp_for (fun k ρ => ∃ (K : List Pan) (x5 x6 x7 x8 x9 x10 x11 x12 x13 x14 x15 x16 x17 : Option D), ρ = [some (intsD ns), some (.int at_), some (.int most), some (.list (F.map pD)), some (.list (K.map pD)), x5, x6, x7, x8, x9, x10, x11, x12, x13, x14, x15, x16, x17] ∧ K.Sublist (F.take k)) _ _ 0 ?_ (fun i a ρ hi hI => ?_) fun ρ hI => ?_
          · exact ⟨[], _, _, _, _, _, _, _, _, _, _, _, _, _, rfl, by simp⟩
          · obtain ⟨K, x5, x6, x7, x8, x9, x10, x11, x12, x13, x14, x15, x16, x17, rfl, hK⟩ := hI
            have hlt : i < F.length := by
              have := (List.getElem?_eq_some_iff.mp hi).1
              simpa using this
            have ha : a = (F[i], i) := by
              have := (List.getElem?_eq_some_iff.mp hi).2
              simpa using this.symm
            subst ha
            obtain ⟨q, hq, hq2⟩ := drawnI ns hlen (at_ + 40 + i) 5 (by omega) (by omega)
            have hKl := hK.length_le
            simp at hKl
            have hs : F.take (0 + i + 1) = F.take (0 + i) ++ [F[i]] := by
              rw [Nat.zero_add, List.take_succ, List.getElem?_eq_getElem hlt]; rfl
            have k1 : (K ++ [F[i]]).Sublist (F.take (i + 1)) := by
              have := hK.append (List.Sublist.refl [F[i]])
              rw [← hs] at this
              simpa using this
            have k2 : K.Sublist (F.take (i + 1)) := (List.sublist_append_left K [F[i]]).trans k1
            by_cases h0 : 0 < q
            · simp [e13, hq, h0]
              exact ⟨by unfold big; omega, K ++ [F[i]], by simp, k1⟩
            · simp [e13, hq, h0]
              exact ⟨by unfold big; omega, K, rfl, k2⟩
          · obtain ⟨K, x5, x6, x7, x8, x9, x10, x11, x12, x13, x14, x15, x16, x17, rfl, hK⟩ := hI
            exact ⟨F, K, _, _, _, _, _, _, _, _, _, _, _, _, _, rfl, hF.sub (hK.trans (List.take_sublist _ _)), Nat.le_trans (hK.trans (List.take_sublist _ _)).length_le hFl⟩
        · clear hF hF0 hFl
          obtain ⟨F, K, x5, x6, x7, x8, x9, x10, x11, x12, x13, x14, x15, x16, x17, rfl, hK, hKl⟩ := h
          refine wp_cut (R := PgK ns at_ most) ?_ fun ρ1 h => ?_
          · obtain ⟨q, hq, hq2⟩ := drawnI ns hlen (at_ + 50) 4 (by omega) (by omega)
            obtain ⟨u, hu, hu2⟩ := drawnI ns hlen (at_ + 51) 4 (by omega) (by omega)
            by_cases h0 : q = 0
            · refine wp_if true (by simp [e13, hq, eqI, h0]) ?_
              rw [if_pos rfl]
              refine wp_cons (R := fun ρ => ρ = [some (intsD ns), some (.int at_), some (.int most), some (.list (F.map pD)), some (.list (List.map pD [⟨2, 0, 8, 2⟩, ⟨6, 2, 8, 8⟩, ⟨0, 6, 6, 8⟩, ⟨0, 0, 2, 6⟩, ⟨3, 3, 5, 5⟩])), x5, x6, x7, x8, x9, x10, x11, x12, x13, x14, x15, x16, x17]) ?_ fun ρ1 h => ?_
              · simp [pD]
              · subst h
                have hc := cut_to (List.map pD [⟨2, 0, 8, 2⟩, ⟨6, 2, 8, 8⟩, ⟨0, 6, 6, 8⟩, ⟨0, 0, 2, 6⟩, ⟨3, 3, 5, 5⟩]) (2 + u)
                rw [← List.map_take] at hc
                have hc' : cutD (List.map pD [⟨2, 0, 8, 2⟩, ⟨6, 2, 8, 8⟩, ⟨0, 6, 6, 8⟩, ⟨0, 0, 2, 6⟩, ⟨3, 3, 5, 5⟩]) none (some (2 + (u : Int))) = _ := hc
                generalize hL : ([⟨2, 0, 8, 2⟩, ⟨6, 2, 8, 8⟩, ⟨0, 6, 6, 8⟩, ⟨0, 0, 2, 6⟩, ⟨3, 3, 5, 5⟩] : List Pan) = L at *
                have hs : Sheet L := hL ▸ sheetA
                have hll : L.length = 5 := by rw [← hL]; rfl
                simp [-List.map_take, e13, hu, hc']
                exact ⟨F, L.take (2 + u), _, _, _, _, _, _, _, _, _, _, _, _, _, rfl, hs.sub (List.take_sublist _ _), by rw [List.length_take]; omega⟩
            · refine wp_if false (by simp [e13, hq, eqI]; omega) ?_
              exact ⟨F, K, _, _, _, _, _, _, _, _, _, _, _, _, _, rfl, hK, hKl⟩
          · clear hK hKl
            obtain ⟨F, K, x5, x6, x7, x8, x9, x10, x11, x12, x13, x14, x15, x16, x17, rfl, hK, hKl⟩ := h
            refine wp_cut (R := PgK ns at_ most) ?_ fun ρ1 h => ?_
            · obtain ⟨q, hq, hq2⟩ := drawnI ns hlen (at_ + 52) 4 (by omega) (by omega)
              obtain ⟨u, hu, hu2⟩ := drawnI ns hlen (at_ + 53) 3 (by omega) (by omega)
              by_cases h0 : q = 0
              · refine wp_if true (by simp [e13, hq, eqI, h0]) ?_
                rw [if_pos rfl]
                have hc := cut_to (List.map pD [⟨9, 0, 11, 2⟩, ⟨6, 2, 8, 4⟩, ⟨3, 4, 5, 6⟩, ⟨0, 6, 2, 8⟩]) (2 + u)
                rw [← List.map_take] at hc
                have hc' : cutD (List.map pD [⟨9, 0, 11, 2⟩, ⟨6, 2, 8, 4⟩, ⟨3, 4, 5, 6⟩, ⟨0, 6, 2, 8⟩]) none (some (2 + (u : Int))) = _ := hc
                have hL' : List.map pD [⟨9, 0, 11, 2⟩, ⟨6, 2, 8, 4⟩, ⟨3, 4, 5, 6⟩, ⟨0, 6, 2, 8⟩] = [.tuple [.int 9, .int 0, .int 11, .int 2], .tuple [.int 6, .int 2, .int 8, .int 4], .tuple [.int 3, .int 4, .int 5, .int 6], .tuple [.int 0, .int 6, .int 2, .int 8]] := rfl
                generalize hL : ([⟨9, 0, 11, 2⟩, ⟨6, 2, 8, 4⟩, ⟨3, 4, 5, 6⟩, ⟨0, 6, 2, 8⟩] : List Pan) = L at *
                have hs : Sheet L := hL ▸ sheetB
                have hll : L.length = 4 := by rw [← hL]; rfl
                simp [-List.map_take, -List.map_cons, e13, hu, ← hL', hc']
                exact ⟨F, L.take (2 + u), _, _, _, _, _, _, _, _, _, _, _, _, _, rfl, hs.sub (List.take_sublist _ _), by rw [List.length_take]; omega⟩
              · refine wp_if false (by simp [e13, hq, eqI]; omega) ?_
                exact ⟨F, K, _, _, _, _, _, _, _, _, _, _, _, _, _, rfl, hK, hKl⟩
            · clear hK hKl
              obtain ⟨F, K, x5, x6, x7, x8, x9, x10, x11, x12, x13, x14, x15, x16, x17, rfl, hK, hKl⟩ := h
              refine wp_cut (R := PgK ns at_ most) ?_ fun ρ1 h => ?_
              · obtain ⟨q, hq, hq2⟩ := drawnI ns hlen (at_ + 54) 2 (by omega) (by omega)
                have e1 : compL (setN 17) (fun _ => Rs.ok true) (bi ixD (vaR 17) fun _ => Rs.ok (PyData.int 3)) [some (intsD ns), some (.int at_), some (.int most), some (.list (F.map pD)), some (.list (K.map pD)), x5, x6, x7, x8, x9, x10, x11, x12, x13, x14, x15, x16, none] (K.map pD) = .ok (K.map fun p => PyData.int p.d) := by
                  refine compL_all _ fun p _ => ?_
                  simp [pD]
                have hlb : 1 + K.length ≤ big := by unfold big; omega
                refine wp_if (decide (K.length < most) && (decide (maxL 0 (K.map (·.d)) < 9) && decide (q = 0))) ?_ ?_
                · by_cases h1 : K.length < most
                  · by_cases h2 : maxL 0 (K.map (·.d)) < 9
                    · simp [e13, hq, eqI, e1, hlb, max_d, h1, h2]
                    · simp [e13, hq, eqI, e1, hlb, max_d, h1, h2]
                  · simp [h1]
                · cases hb : (decide (K.length < most) && (decide (maxL 0 (K.map (·.d)) < 9) && decide (q = 0))) with
                  | false =>
                    rw [if_neg (by decide)]
                    exact ⟨F, K, _, _, _, _, _, _, _, _, _, _, _, _, _, rfl, hK, hKl⟩
                  | true =>
                    rw [if_pos rfl]
                    simp at hb
                    have hmx := (maxL_spec (K.map (·.d)) 0).2.2
                    have hk9 : ∀ p ∈ K, p.d < 9 := fun p hp => by
                      have := hmx p.d (List.mem_map_of_mem hp)
                      omega
                    have e2 : appS 4 (tupA (consArg (fun _ => Rs.ok (PyData.int 0)) (consArg (fun _ => Rs.ok (PyData.int 9)) (consArg (fun _ => Rs.ok (PyData.int 12)) (consArg (fun _ => Rs.ok (PyData.int 12)) noArg))))) [some (intsD ns), some (.int at_), some (.int most), some (.list (F.map pD)), some (.list (K.map pD)), x5, x6, x7, x8, x9, x10, x11, x12, x13, x14, x15, x16, x17] = .ok (.nx, [some (intsD ns), some (.int at_), some (.int most), some (.list (F.map pD)), some (.list ((K ++ [(⟨0, 9, 12, 12⟩ : Pan)]).map pD)), x5, x6, x7, x8, x9, x10, x11, x12, x13, x14, x15, x16, x17]) := by
                      have hkb : K.length < big := by unfold big; omega
                      simp [appS, pD, hkb]
                    simp [-List.map_append, e2]
                    exact ⟨F, K ++ [⟨0, 9, 12, 12⟩], _, _, _, _, _, _, _, _, _, _, _, _, _, rfl, hK.add hk9, by simp; omega⟩
              · obtain ⟨F, K, x5, x6, x7, x8, x9, x10, x11, x12, x13, x14, x15, x16, x17, rfl, hK, hKl⟩ := h
                simp
                exact ⟨K, rfl, hK, hKl⟩
  obtain ⟨d, e, P, rfl, h⟩ := wp_iff.mp this
  exact ⟨P, e, h⟩
def tI (l : List Int) : D := .tuple (l.map PyData.int)
def bads : List D := [.none, .list [], .list [tI [0, 0, 1, 1]], .tuple [tI [0, 0, 0, 1]], .tuple [tI [0, 0, 21, 1]], .tuple [tI [0, 0, 2, 2], tI [1, 1, 3, 3]], .tuple [tI [0, 0, 1]], .tuple [.tuple [.int 0, .int 0, .int 1, .str "1"]], .tuple [.tuple [.bool true, .int 0, .int 2, .int 2]], tI [0, 0, 1, 1],
  .tuple ((List.range 9).map fun k : Nat => tI [(k : Int), 0, (k : Int) + 1, 1])]
theorem bad_page : ∀ b ∈ bads, d4 [b] = .ok (.bool false) := by
  intro b hb
  simp only [bads, List.mem_cons, List.not_mem_nil, or_false] at hb
  rcases hb with rfl | rfl | rfl | rfl | rfl | rfl | rfl | rfl | rfl | rfl | rfl <;> kernel_rfl
theorem v17 (ns : List Int) (hlen : ns.length ≤ 63) (at_ : Nat) : ∃ b, d19 [intsD ns, .int at_] = .ok b ∧ d4 [b] = .ok (.bool false) := by
  have e13 : tbl ds19 15 = d15 := rfl
  have : Wp (d19 [intsD ns, .int at_]) fun d => d ∈ bads := by
    refine wp_def rfl ?_
    obtain ⟨q, hq, hq2⟩ := drawnI ns hlen at_ 11 (by omega) (by omega)
    have e1 : compL (setN 3) (fun _ => Rs.ok true) (tupA (consArg (vaR 3) (consArg (fun _ => Rs.ok (PyData.int 0)) (consArg (bi addD (vaR 3) fun _ => Rs.ok (PyData.int 1)) (consArg (fun _ => Rs.ok (PyData.int 1)) noArg))))) [some (intsD ns), some (.int at_), some (.list (bads.take 10)), none] ((List.range 9).map fun i : Nat => PyData.int (i : Int)) = .ok ((List.range 9).map fun k : Nat => tI [(k : Int), 0, (k : Int) + 1, 1]) := by
      refine compL_all _ fun k _ => ?_
      simp [tI]
    simp only [s19, x62]
    refine wp_cut (R := fun ρ => ρ = [some (intsD ns), some (.int at_), some (.list (bads.take 5)), none]) ?_ fun ρ1 h => ?_
    · simp [startD, bads, tI]
    subst h
    refine wp_cut (R := fun ρ => ρ = [some (intsD ns), some (.int at_), some (.list (bads.take 6)), none]) ?_ fun ρ1 h => ?_
    · simp [bads, tI]; unfold big; omega
    subst h
    refine wp_cut (R := fun ρ => ρ = [some (intsD ns), some (.int at_), some (.list (bads.take 10)), none]) ?_ fun ρ1 h => ?_
    · simp [bads, tI]; unfold big; omega
    subst h
    have hb : bads = bads.take 10 ++ [.tuple ((List.range 9).map fun k : Nat => tI [(k : Int), 0, (k : Int) + 1, 1])] := rfl
    have hl10 : (bads.take 10).length = 10 := rfl
    have hl11 : bads.length = 11 := rfl
    rw [hb] at hl11
    have hq11 : q < (bads.take 10 ++ [PyData.tuple ((List.range 9).map fun k : Nat => tI [(k : Int), 0, (k : Int) + 1, 1])]).length := by rw [hl11]; omega
    obtain ⟨el, hmem, hat⟩ : ∃ el, el ∈ bads ∧ L2.atI (bads.take 10 ++ [PyData.tuple ((List.range 9).map fun k : Nat => tI [(k : Int), 0, (k : Int) + 1, 1])]) (q : Int) = some el := by
      refine ⟨_, ?_, atI_nn hq11⟩
      have h := List.getElem_mem hq11
      revert h
      generalize (bads.take 10 ++ [PyData.tuple ((List.range 9).map fun k : Nat => tI [(k : Int), 0, (k : Int) + 1, 1])])[q] = el
      intro h
      rw [hb]
      exact h
    clear hb
    generalize bads.take 10 = L at *
    have h9 : (-(big : Int) ≤ 9 ∧ (9 : Int) ≤ big) := by decide
    have hbig : L.length + 1 ≤ big := by rw [hl10]; decide
    simp [rng0_map, e1, e13, hq, hbig, hat]
    exact hmem
  obtain ⟨d, e, h⟩ := wp_iff.mp this
  exact ⟨d, e, bad_page d h⟩
theorem notnum : ∀ v ∈ ([.none, .bool true, .str "0"] : List D), ∀ a b : Int, d0 [v, .int a, .int b] = .ok (.bool false) := by
  intro v hv a b
  simp only [List.mem_cons, List.not_mem_nil, or_false] at hv
  rcases hv with rfl | rfl | rfl <;> simp [d0, defD, s0, startD, seqS, isiD]
theorem v18 (ns : List Int) (hlen : ns.length ≤ 63) (at_ n : Nat) : ∃ v, d20 [intsD ns, .int at_, .int n] = .ok v ∧ d0 [v, .int 0, .int ((n : Int) - 1)] = .ok (.bool false) := by
  have e13 : tbl ds20 15 = d15 := rfl
  obtain ⟨q, hq, hq2⟩ := drawnI ns hlen at_ 5 (by omega) (by omega)
  have : Wp (d20 [intsD ns, .int at_, .int n]) fun d => d ∈ ([.none, .bool true, .str "0"] : List D) ∨ d = .int (-1) ∨ d = .int n := by
    refine wp_def rfl ?_
    have hq5 : q = 0 ∨ q = 1 ∨ q = 2 ∨ q = 3 ∨ q = 4 := by omega
    have a4 : L2.atI [PyData.none, PyData.int (-1), PyData.int n, PyData.bool true, PyData.str "0"] (4 : Int) = some (.str "0") := rfl
    rcases hq5 with rfl | rfl | rfl | rfl | rfl <;> simp [s20, startD, e13, hq, a4]
  obtain ⟨d, e, h⟩ := wp_iff.mp this
  refine ⟨d, e, ?_⟩
  rcases h with h | rfl | rfl
  · exact notnum d h _ _
  · rw [v0]; rfl
  · rw [v0]
    simp [inR]; omega
theorem v5x {v : D} (h : d4 [v] = .ok (.bool false)) : d5 [v] = .exc 0 := by
  have := v5 h
  rw [this, if_neg (by decide)]
theorem v6x {v : D} {j : Int} (h : d0 [v, .int 0, .int j] = .ok (.bool false)) : d6 [v, .int 0, .int j] = .exc 1 := by
  have := v6 h
  rw [this, if_neg (by decide)]
instance encBool : Enc Bool := ⟨.bool, 0, sh_bool, fun a b => by
  show (a == b) = _
  cases a <;> cases b <;> rfl⟩
theorem neB (a b : Bool) : neD (.bool a) (.bool b) = .ok (.bool (!decide (a = b))) := neD_e (α := Bool) (by decide) a b
theorem mem_prs {P : List Pan} {i j : Nat} (hi : i < P.length) (hj : j < P.length) : (i, j) ∈ prs P ↔ befI P i j = true := by
  unfold prs row
  simp only [List.mem_flatMap, List.mem_range, List.mem_map, List.mem_filter, Prod.mk.injEq]
  constructor
  · rintro ⟨a, _, b, ⟨_, h⟩, rfl, rfl⟩
    exact h
  · intro h
    exact ⟨i, hi, j, ⟨hj, h⟩, rfl, rfl⟩
theorem page_e (P : List Pan) : (.tuple (P.map pD) : D) = Enc.e (Tu.mk P) := rfl
end K21
namespace K21
open PySem PySem.Spec Den
theorem w9 {P Q : List Pan} (hP : P.length ≤ 8) (hQ : Q.length ≤ 8) : d9 [.tuple (P.map pD), .tuple (Q.map pD)] = .ok (.bool (decide (P.length = Q.length) && decide (prs P = prs Q))) := by
  have e8 : tbl ds9 8 = d8 := rfl
  have e1 : eqD (Enc.e (prs P)) (Enc.e (prs Q)) = .ok (.bool (decide (prs P = prs Q))) := eqD_e (by decide) _ _
  have e2 : decide ((P.length : Int) = (Q.length : Int)) = decide (P.length = Q.length) := by
    rw [decide_eq_decide]; omega
  refine Wp.eq (wp_def rfl ?_)
  by_cases h : P.length = Q.length <;> simp [s9, startD, e8, v9 hP, v9 hQ, eqI, e2, e1, h]
theorem w10 {P Q : List Pan} (hP : okPage P = true) (hQ : okPage Q = true) : d10 [.tuple (P.map pD), .tuple (Q.map pD)] = .ok (.bool (decide (P.length = Q.length) && decide (prs P = prs Q))) := by
  have e5 : tbl ds10 5 = d5 := rfl
  have e9 : tbl ds10 9 = d9 := rfl
  refine Wp.eq (wp_def rfl ?_)
  simp [s10, startD, e5, e9, v5ok hP, v5ok hQ, w9 (okLen hP) (okLen hQ)]
def xch (p : Pan) : Pan := ⟨20 - p.c, p.b, 20 - p.a, p.d⟩
theorem w12 (P : List Pan) : d12 [.tuple (P.map pD)] = .ok (.tuple ((P.map xch).map pD)) := by
  refine Wp.eq (wp_def rfl ?_)
  have e1 : compL (setT [1, 2, 3, 4]) (fun _ => Rs.ok true) (tupA (consArg (bi subD (fun _ => Rs.ok (PyData.int 20)) (vaR 3)) (consArg (vaR 2) (consArg (bi subD (fun _ => Rs.ok (PyData.int 20)) (vaR 1)) (consArg (vaR 4) noArg))))) [some (.tuple (P.map pD)), none, none, none, none] (P.map pD) = .ok (P.map fun p => pD (xch p)) := by
    refine compL_all _ fun p _ => ?_
    simp [pD, xch]
  simp [s12, startD, e1]
theorem w13 {P : List Pan} (hP : okPage P = true) : d13 [.tuple (P.map pD)] = .ok (.tuple ((P.map xch).map pD)) := by
  have e5 : tbl ds13 5 = d5 := rfl
  have e12 : tbl ds13 12 = d12 := rfl
  refine Wp.eq (wp_def rfl ?_)
  have := w12 P
  generalize (P.map xch).map pD = X at *
  simp [s13, startD, e5, e12, v5ok hP, this]
def trn (P : List Pan) : List (Nat × Nat) := (prs P).filter fun p => decide ((p.2, p.1) ∈ prs (P.map xch))
theorem w14 {P : List Pan} (hP : okPage P = true) : d14 [.tuple (P.map pD)] = .ok (Enc.e (trn P)) := by
  have e5 : tbl ds14 5 = d5 := rfl
  have e12 : tbl ds14 12 = d12 := rfl
  have e8 : tbl ds14 8 = d8 := rfl
  have hl := okLen hP
  have h8 := v9 hl
  have h8x := v9 (P := P.map xch) (by simpa using hl)
  have h12 := w12 P
  refine Wp.eq (wp_def rfl ?_)
  have e4 : seqD (Enc.e (prs P)) = .ok ((prs P).map Enc.e) := rfl
  generalize hX : (P.map xch).map pD = X at *
  have e1 : compL (setN 2) (tstE (bi (inD false) (tupA (consArg (bi ixD (vaR 2) fun _ => Rs.ok (PyData.int 1)) (consArg (bi ixD (vaR 2) fun _ => Rs.ok (PyData.int 0)) noArg))) (vaR 1))) (vaR 2) [some (.tuple (P.map pD)), some (Enc.e (prs (P.map xch))), none] ((prs P).map Enc.e) = .ok ((trn P).map Enc.e) := by
    refine compL_map _ fun p _ => ?_
    have e2 : (Enc.e p : D) = .tuple [.int (p.1 : Int), .int (p.2 : Int)] := rfl
    have e3 : inD false (.tuple [.int (p.2 : Int), .int (p.1 : Int)]) (Enc.e (prs (P.map xch))) = .ok (.bool (decide ((p.2, p.1) ∈ prs (P.map xch)))) := inD_b (by decide) (p.2, p.1) (prs (P.map xch)) _ (by simp)
    simp [e2, e3]
  simp [s14, startD, e5, e12, e8, v5ok hP, h12, h8, h8x, e4, e1]
  rfl
end K21
namespace K21
open PySem PySem.Spec Den
def mv (p : Pan) (x y : Int) : Pan := ⟨p.a + x, p.b + y, p.c + x, p.d + y⟩
def goodB (P : List Pan) (n : Nat) (m : Pan) : Bool := okPage (P.take n ++ [m] ++ P.drop (n + 1)) && decide (prs P = prs (P.take n ++ [m] ++ P.drop (n + 1)))
def iv (lo : Int) (n : Nat) : List Int := (List.range n).map fun i : Nat => lo + (i : Int)
def rws (f : Pan → Bool) (p : Pan) (k : Nat) : List (Int × Int) := (iv (0 - p.a) k).flatMap fun x => ((iv (0 - p.b) (21 - p.d - (0 - p.b)).toNat).filter fun y => f (mv p x y)).map fun y => (x, y)
def cls (f : Pan → Bool) (p : Pan) (x : Int) (k : Nat) : List (Int × Int) := ((iv (0 - p.b) k).filter fun y => f (mv p x y)).map fun y => (x, y)
theorem iv_succ (lo : Int) (k : Nat) : iv lo (k + 1) = iv lo k ++ [lo + (k : Int)] := by
  unfold iv
  rw [List.range_succ, List.map_append]
  rfl
theorem rws_succ (f : Pan → Bool) (p : Pan) (k : Nat) : rws f p (k + 1) = rws f p k ++ cls f p (0 - p.a + (k : Int)) (21 - p.d - (0 - p.b)).toNat := by
  unfold rws cls
  rw [iv_succ, List.flatMap_append]
  simp
theorem cls_succ (f : Pan → Bool) (p : Pan) (x : Int) (k : Nat) : cls f p x (k + 1) = cls f p x k ++ (if f (mv p x (0 - p.b + (k : Int))) = true then [(x, 0 - p.b + (k : Int))] else []) := by
  unfold cls
  rw [iv_succ, List.filter_append, List.map_append]
  congr 1
  generalize 0 - p.b + (k : Int) = y
  by_cases h : f (mv p x y) = true <;> simp [h]
theorem cls_len (f : Pan → Bool) (p : Pan) (x : Int) (k : Nat) : (cls f p x k).length ≤ k := by
  unfold cls
  rw [List.length_map]
  refine Nat.le_trans (List.length_filter_le _ _) ?_
  unfold iv
  simp
theorem rws_len (f : Pan → Bool) (p : Pan) (k : Nat) : (rws f p k).length ≤ k * (21 - p.d - (0 - p.b)).toNat := by
  induction k with
  | zero => unfold rws iv; simp
  | succ k ih =>
    rw [rws_succ, List.length_append, Nat.succ_mul]
    have := cls_len f p (0 - p.a + (k : Int)) (21 - p.d - (0 - p.b)).toNat
    omega
theorem iv_e (lo : Int) (n : Nat) : rngD lo n = (iv lo n).map PyData.int := by
  unfold iv rngD
  rw [List.map_map]
  rfl
theorem iv_get {lo : Int} {n i : Nat} {a : Int} (h : (iv lo n)[i]? = some a) : i < n ∧ a = lo + (i : Int) := by
  unfold iv at h
  have := List.getElem?_eq_some_iff.mp h
  simp at this
  exact ⟨this.1, this.2.symm⟩
def SM (P : List Pan) (n : Nat) (p : Pan) (F : List (Int × Int)) (ρ : Ro) : Prop := ∃ (x7 x8 x9 x10 : Option D), ρ = [some (.tuple (P.map pD)), some (.int n), some (.int p.a), some (.int p.b), some (.int p.c), some (.int p.d), some (Enc.e F), x7, x8, x9, x10]
theorem w11 {P : List Pan} (hP : okPage P = true) {n : Nat} (hn : n < P.length) : d11 [.tuple (P.map pD), .int n] = .ok (Enc.e (rws (goodB P n) P[n] (21 - P[n].c - (0 - P[n].a)).toNat)) := by
  have e4 : tbl ds11 4 = d4 := rfl
  have e5 : tbl ds11 5 = d5 := rfl
  have e6 : tbl ds11 6 = d6 := rfl
  have e9 : tbl ds11 9 = d9 := rfl
  have hl := okLen hP
  have hop : okP P[n] = true := by
    have := hP
    unfold okPage at this
    simp at this
    exact this.1.2 P[n] (List.getElem_mem hn)
  simp [okP, inR] at hop
  have h6 : d6 [.int n, .int 0, .int ((P.length : Int) - 1)] = .ok .none := by
    have := v6 (v0 (n : Int) 0 ((P.length : Int) - 1))
    rw [this, if_pos]
    simp [inR]; omega
  refine Wp.eq (wp_def rfl ?_)
  unfold s11
  refine wp_cons (R := fun ρ => ρ = [some (.tuple (P.map pD)), some (.int n), none, none, none, none, none, none, none, none, none]) ?_ fun ρ1 h => ?_
  · simp [startD, e5, v5ok hP]
  subst h
  refine wp_cons (R := fun ρ => ρ = [some (.tuple (P.map pD)), some (.int n), none, none, none, none, none, none, none, none, none]) ?_ fun ρ1 h => ?_
  · simp [e6, h6]
  subst h
  refine wp_cons (R := fun ρ => ρ = [some (.tuple (P.map pD)), some (.int n), some (.int P[n].a), some (.int P[n].b), some (.int P[n].c), some (.int P[n].d), none, none, none, none, none]) ?_ fun ρ1 h => ?_
  · simp [at_map hn, pD]
  subst h
  refine wp_cons (R := SM P n P[n] []) ?_ fun ρ1 h => ?_
  · simp
    exact ⟨_, _, _, _, rfl⟩
  obtain ⟨x7, x8, x9, x10, rfl⟩ := h
  have hb : P[n].b + (21 - P[n].d) ≤ 21 := by omega
  refine wp_cons (R := SM P n P[n] (rws (goodB P n) P[n] (21 - P[n].c - (0 - P[n].a)).toNat)) ?_ fun ρ1 h => ?_
  · simp only [x57, forS_eq, wp_bind]
    rw [show (I.den (tbl ds11) _ _ : Rs (List D)) = .ok ((iv (0 - P[n].a) (21 - P[n].c - (0 - P[n].a)).toNat).map PyData.int) by
      have e20 : 20 - P[n].c + 1 = 21 - P[n].c := by omega
      simp [e20, iv_e]
      omega, wp_ok]
    refine wp_for (fun k ρ => SM P n P[n] (rws (goodB P n) P[n] k) ρ) _ _ 0 ⟨_, _, _, _, rfl⟩ (fun i x ρ hi hI => ?_) fun ρ hI => ?_
    · obtain ⟨x7, x8, x9, x10, rfl⟩ := hI
      obtain ⟨hi1, rfl⟩ := iv_get hi
      simp only [tg1, setN_eq, wp_ok]
      refine wp_cut0 (R := SM P n P[n] (rws (goodB P n) P[n] (0 + i + 1))) ?_ fun ρ1 h => h
      rw [Nat.zero_add, rws_succ]
      generalize hx : 0 - P[n].a + (i : Int) = x at *
      have hF : (rws (goodB P n) P[n] i).length ≤ 441 := by
        have h1 := rws_len (goodB P n) P[n] i
        have h2 : i * (21 - P[n].d - (0 - P[n].b)).toNat ≤ 21 * 21 := Nat.mul_le_mul (by omega) (by omega)
        omega
      generalize rws (goodB P n) P[n] i = F at *
      simp only [x57, forS_eq, wp_bind]
      rw [show (I.den (tbl ds11) _ _ : Rs (List D)) = .ok ((iv (0 - P[n].b) (21 - P[n].d - (0 - P[n].b)).toNat).map PyData.int) by
        have e20 : 20 - P[n].d + 1 = 21 - P[n].d := by omega
        simp [e20, iv_e]
        omega, wp_ok]
      refine wp_for (fun k ρ => ∃ (x8 x9 x10 : Option D), ρ = [some (.tuple (P.map pD)), some (.int n), some (.int P[n].a), some (.int P[n].b), some (.int P[n].c), some (.int P[n].d), some (Enc.e (F ++ cls (goodB P n) P[n] x k)), some (.int x), x8, x9, x10]) _ _ 0 ⟨x8, x9, x10, by simp [cls, iv]⟩ (fun j y ρ hj hJ => ?_) fun ρ hJ => ?_
      · obtain ⟨x8, x9, x10, rfl⟩ := hJ
        obtain ⟨hj1, rfl⟩ := iv_get hj
        have hc := cls_len (goodB P n) P[n] x j
        rw [Nat.zero_add, cls_succ]
        generalize hy : 0 - P[n].b + (j : Int) = y at *
        generalize cls (goodB P n) P[n] x j = C at *
        simp only [tg1, setN_eq, wp_ok]
        refine wp_cons (R := fun ρ => ρ = [some (.tuple (P.map pD)), some (.int n), some (.int P[n].a), some (.int P[n].b), some (.int P[n].c), some (.int P[n].d), some (Enc.e (F ++ C)), some (.int x), some (.int y), some (pD (mv P[n] x y)), x10]) ?_ fun ρ1 h => ?_
        · simp [pD, mv]
        subst h
        refine wp_cons (R := fun ρ => ρ = [some (.tuple (P.map pD)), some (.int n), some (.int P[n].a), some (.int P[n].b), some (.int P[n].c), some (.int P[n].d), some (Enc.e (F ++ C)), some (.int x), some (.int y), some (pD (mv P[n] x y)), some (.tuple ((P.take n ++ [mv P[n] x y] ++ P.drop (n + 1)).map pD))]) ?_ fun ρ1 h => ?_
        · have hbig : min n P.length + (1 + (P.length - (n + 1))) ≤ big := by unfold big; omega
          have hbig2 : min n P.length + 1 ≤ big := by unfold big; omega
          simp [-List.map_take, -List.map_drop, (cutAt P n).1, (cutAt P n).2]
          exact ⟨by unfold big; omega, by unfold big; omega⟩
        subst h
        have h4 := v4 (P.take n ++ [mv P[n] x y] ++ P.drop (n + 1))
        have hQl : (P.take n ++ [mv P[n] x y] ++ P.drop (n + 1)).length = P.length := by simp; omega
        have h9 := w9 (P := P) (Q := P.take n ++ [mv P[n] x y] ++ P.drop (n + 1)) hl (by rw [hQl]; exact hl)
        rw [hQl] at h9
        have hg : goodB P n (mv P[n] x y) = (okPage (P.take n ++ [mv P[n] x y] ++ P.drop (n + 1)) && decide (prs P = prs (P.take n ++ [mv P[n] x y] ++ P.drop (n + 1)))) := rfl
        generalize goodB P n (mv P[n] x y) = gb at *
        generalize decide (prs P = prs (P.take n ++ [mv P[n] x y] ++ P.drop (n + 1))) = b2 at *
        generalize okPage (P.take n ++ [mv P[n] x y] ++ P.drop (n + 1)) = b1 at *
        generalize (P.take n ++ [mv P[n] x y] ++ P.drop (n + 1)).map pD = QQ at *
        simp at h9
        refine wp_cut0 (R := fun ρ => ∃ (x8 x9 x10 : Option D), ρ = [some (.tuple (P.map pD)), some (.int n), some (.int P[n].a), some (.int P[n].b), some (.int P[n].c), some (.int P[n].d), some (Enc.e (F ++ (C ++ if gb = true then [(x, y)] else []))), some (.int x), x8, x9, x10]) ?_ fun ρ1 h => h
        refine wp_if gb ?_ ?_
        · rw [hg]
          cases b1 <;> cases b2 <;> simp [e4, e9, h4, h9]
        · cases gb with
          | false => exact ⟨some (.int y), some (pD (mv P[n] x y)), some (.tuple QQ), by simp⟩
          | true =>
            have hFC : F.length + C.length < big := by unfold big; omega
            have e7 : (Enc.e (F ++ C) : D) = .list ((F ++ C).map Enc.e) := rfl
            simp [appS, e7, hFC]
            show PyData.list _ = PyData.list ((F ++ (C ++ [(x, y)])).map Enc.e)
            rw [List.map_append, List.map_append]
            rfl
      · obtain ⟨x8, x9, x10, rfl⟩ := hJ
        have : 0 + (iv (0 - P[n].b) (21 - P[n].d - (0 - P[n].b)).toNat).length = (21 - P[n].d - (0 - P[n].b)).toNat := by unfold iv; simp
        rw [this]
        exact ⟨_, _, _, _, rfl⟩
    · have : 0 + (iv (0 - P[n].a) (21 - P[n].c - (0 - P[n].a)).toNat).length = (21 - P[n].c - (0 - P[n].a)).toNat := by unfold iv; simp
      rw [this] at hI
      exact hI
  obtain ⟨x7, x8, x9, x10, rfl⟩ := h
  simp
end K21
namespace K21
open PySem PySem.Spec Den
theorem w10x {v w : D} (h : d4 [v] = .ok (.bool false)) : d10 [v, w] = .exc 0 := by
  have e5 : tbl ds10 5 = d5 := rfl
  simp [d10, defD, s10, startD, seqS, e5, v5x h]
theorem w10y {P : List Pan} {v : D} (hP : okPage P = true) (h : d4 [v] = .ok (.bool false)) : d10 [.tuple (P.map pD), v] = .exc 0 := by
  have e5 : tbl ds10 5 = d5 := rfl
  simp [d10, defD, s10, startD, seqS, e5, v5ok hP, v5x h]
theorem w11x {v w : D} (h : d4 [v] = .ok (.bool false)) : d11 [v, w] = .exc 0 := by
  have e5 : tbl ds11 5 = d5 := rfl
  simp [d11, defD, s11, startD, seqS, e5, v5x h]
theorem w11y {P : List Pan} {v : D} (hP : okPage P = true) (h : d0 [v, .int 0, .int ((P.length : Int) - 1)] = .ok (.bool false)) : d11 [.tuple (P.map pD), v] = .exc 1 := by
  have e5 : tbl ds11 5 = d5 := rfl
  have e6 : tbl ds11 6 = d6 := rfl
  have h6 := v6 h
  rw [if_neg (by decide)] at h6
  simp [d11, defD, s11, startD, seqS, e5, e6, v5ok hP, h6]
theorem w13x {v : D} (h : d4 [v] = .ok (.bool false)) : d13 [v] = .exc 0 := by
  have e5 : tbl ds13 5 = d5 := rfl
  simp [d13, defD, s13, startD, seqS, e5, v5x h]
theorem w14x {v : D} (h : d4 [v] = .ok (.bool false)) : d14 [v] = .exc 0 := by
  have e5 : tbl ds14 5 = d5 := rfl
  simp [d14, defD, s14, startD, seqS, e5, v5x h]
theorem w21_0 {v a : D} (h : d4 [v] = .ok (.bool false)) : d21 [.int 0, v, a] = .ok (.int 0) := by
  have e1 : tbl ds21 13 = d13 := rfl
  have e2 : tbl ds21 14 = d14 := rfl
  simp [d21, defD, s21, startD, seqS, tryD, ccD, e1, e2, w13x h, w14x h, intD]
theorem w21_1 {v a : D} (h : d4 [v] = .ok (.bool false)) : d21 [.int 1, v, a] = .ok (.int 0) := by
  have e1 : tbl ds21 13 = d13 := rfl
  have e2 : tbl ds21 14 = d14 := rfl
  simp [d21, defD, s21, startD, seqS, tryD, ccD, e1, e2, w13x h, w14x h, intD]
theorem w21_2 {v a : D} {c : Nat} (hc : c < 2) (h : d10 [v, a] = .exc c) : d21 [.int 2, v, a] = .ok (.int c) := by
  have e1 : tbl ds21 10 = d10 := rfl
  have e2 : tbl ds21 11 = d11 := rfl
  simp [d21, defD, s21, startD, seqS, tryD, ccD, e1, e2, h, intD, hc]
theorem w21_3 {v a : D} {c : Nat} (hc : c < 2) (h : d11 [v, a] = .exc c) : d21 [.int 3, v, a] = .ok (.int c) := by
  have e1 : tbl ds21 10 = d10 := rfl
  have e2 : tbl ds21 11 = d11 := rfl
  simp [d21, defD, s21, startD, seqS, tryD, ccD, e1, e2, h, intD, hc]
theorem w22 (p q : Pan) : d22 [pD p, pD q] = .ok (.bool (lap p q)) := by
  refine Wp.eq (wp_def rfl ?_)
  simp [s22, startD, pD, lap, shW, shH]
  by_cases h1 : p.a < q.c <;> by_cases h2 : q.a < p.c <;> by_cases h3 : p.b < q.d <;> by_cases h4 : q.b < p.d <;> simp [h1, h2, h3, h4]
theorem okPage_iff (P : List Pan) : okPage P = true ↔ P.length ≤ 8 ∧ (∀ p ∈ P, okP p = true) ∧ P.Pairwise fun p q => lap p q = false := by
  unfold okPage
  simp [apart_iff, and_assoc]
theorem bef_self {p : Pan} (h : p.a < p.c) (h2 : p.b < p.d) : bef p p = false := by
  unfold bef
  have h3 : ¬ p.c ≤ p.a := by omega
  have h4 : ¬ p.d ≤ p.b := by omega
  simp [h3, h4]
def sameB (P : List Pan) (n : Nat) (p m : Pan) : Bool := (P.take n ++ P.drop (n + 1)).all fun q => !lap q m && (bef q m == bef q p) && (bef m q == bef p q)
theorem set_get {P : List Pan} {n : Nat} (hn : n < P.length) (m : Pan) (i : Nat) : (P.take n ++ [m] ++ P.drop (n + 1))[i]? = if i = n then some m else P[i]? := by
  have e : P.take n ++ [m] ++ P.drop (n + 1) = P.set n m := by
    rw [List.set_eq_take_append_cons_drop, if_pos hn, List.append_assoc]
    rfl
  rw [e, List.getElem?_set]
  by_cases h : n = i
  · subst h
    simp [hn]
  · rw [if_neg h, if_neg (fun e => h e.symm)]
theorem prs_congr {P Q : List Pan} (hl : P.length = Q.length) : prs P = prs Q ↔ ∀ i j, i < P.length → j < P.length → befI P i j = befI Q i j := by
  constructor
  · intro h i j hi hj
    have a1 := mem_prs (P := P) hi hj
    have a2 := mem_prs (P := Q) (i := i) (j := j) (by omega) (by omega)
    rw [h] at a1
    have a3 := a1.symm.trans a2
    rw [Bool.eq_iff_iff]
    exact a3
  · intro h
    unfold prs row
    rw [← hl]
    have : ∀ l : List Nat, (∀ i ∈ l, i < P.length) → (l.flatMap fun i => ((List.range P.length).filter (befI P i)).map fun j => (i, j)) = (l.flatMap fun i => ((List.range P.length).filter (befI Q i)).map fun j => (i, j)) := fun l hl2 => by
      induction l with
      | nil => rfl
      | cons a l ih =>
        rw [List.flatMap_cons, List.flatMap_cons, ih fun i hi => hl2 i (List.mem_cons_of_mem _ hi)]
        congr 2
        refine List.filter_congr fun j hj => ?_
        exact h a j (hl2 a List.mem_cons_self) (by simpa using hj)
    exact this _ fun i hi => by simpa using hi
end K21
namespace K21
open PySem PySem.Spec Den
theorem mem_rest {P : List Pan} {n : Nat} {q : Pan} : q ∈ P.take n ++ P.drop (n + 1) ↔ ∃ i, i ≠ n ∧ P[i]? = some q := by
  rw [List.mem_append]
  constructor
  · rintro (h | h)
    · obtain ⟨i, hi, e⟩ := List.mem_iff_getElem.mp h
      have hi' : i < n ∧ i < P.length := by simp at hi; omega
      refine ⟨i, by omega, ?_⟩
      rw [List.getElem?_eq_getElem hi'.2, ← e, List.getElem_take]
    · obtain ⟨i, hi, e⟩ := List.mem_iff_getElem.mp h
      have hi' : i < P.length - (n + 1) := by simpa using hi
      refine ⟨n + 1 + i, by omega, ?_⟩
      rw [List.getElem?_eq_getElem (by omega), ← e, List.getElem_drop]
  · rintro ⟨i, hi, e⟩
    obtain ⟨hl, e⟩ := List.getElem?_eq_some_iff.mp e
    by_cases h : i < n
    · left
      refine List.mem_iff_getElem.mpr ⟨i, by simp; omega, ?_⟩
      rw [List.getElem_take, e]
    · right
      refine List.mem_iff_getElem.mpr ⟨i - (n + 1), by simp; omega, ?_⟩
      rw [List.getElem_drop, ← e]
      congr 1
      omega
theorem good_same {P : List Pan} (hP : okPage P = true) {n : Nat} (hn : n < P.length) {m : Pan} (hm : okP m = true) : goodB P n m = sameB P n P[n] m := by
  obtain ⟨p1, p2, p3⟩ := (okPage_iff P).mp hP
  have hQl : (P.take n ++ [m] ++ P.drop (n + 1)).length = P.length := by simp; omega
  have op : ∀ p, okP p = true → p.a < p.c ∧ p.b < p.d := fun p h => by
    simp [okP] at h
    omega
  have bm := bef_self (op m hm).1 (op m hm).2
  have bp := bef_self (op P[n] (p2 _ (List.getElem_mem hn))).1 (op P[n] (p2 _ (List.getElem_mem hn))).2
  have e : P = P.take n ++ P[n] :: P.drop (n + 1) := by rw [← List.drop_eq_getElem_cons hn, List.take_append_drop]
  have hap := p3
  rw [e, List.pairwise_append, List.pairwise_cons] at hap
  obtain ⟨a1, ⟨a2, a3⟩, a4⟩ := hap
  have key : okPage (P.take n ++ [m] ++ P.drop (n + 1)) = true ↔ ∀ q ∈ P.take n ++ P.drop (n + 1), lap q m = false := by
    rw [okPage_iff, hQl]
    constructor
    · rintro ⟨_, _, h⟩ q hq
      rw [List.pairwise_append, List.pairwise_append] at h
      obtain ⟨⟨_, _, h1⟩, _, h2⟩ := h
      rcases List.mem_append.mp hq with hq | hq
      · exact h1 q hq m (by simp)
      · rw [lap_symm]
        exact h2 m (by simp) q hq
    · intro h
      refine ⟨p1, fun q hq => ?_, ?_⟩
      · simp only [List.mem_append, List.mem_singleton] at hq
        rcases hq with (hq | rfl) | hq
        · exact p2 q (List.mem_of_mem_take hq)
        · exact hm
        · exact p2 q (List.mem_of_mem_drop hq)
      · rw [List.pairwise_append, List.pairwise_append]
        refine ⟨⟨a1, by simp, fun x hx y hy => ?_⟩, a3, fun x hx y hy => ?_⟩
        · rw [List.mem_singleton.mp hy]
          exact h x (List.mem_append_left _ hx)
        · rcases List.mem_append.mp hx with hx | hx
          · exact a4 x hx y (List.mem_cons_of_mem _ hy)
          · rw [List.mem_singleton.mp hx, lap_symm]
            exact h y (List.mem_append_right _ hy)
  have bq : ∀ i j, befI (P.take n ++ [m] ++ P.drop (n + 1)) i j = match (if i = n then some m else P[i]?), (if j = n then some m else P[j]?) with
      | some p, some q => bef p q
      | _, _ => false := fun i j => by
    unfold befI
    rw [set_get hn, set_get hn]
    all_goals
      generalize (if i = n then some m else P[i]?) = a
      generalize (if j = n then some m else P[j]?) = b
      cases a <;> cases b <;> rfl
  have key2 : prs P = prs (P.take n ++ [m] ++ P.drop (n + 1)) ↔ ∀ q ∈ P.take n ++ P.drop (n + 1), bef q m = bef q P[n] ∧ bef m q = bef P[n] q := by
    rw [prs_congr hQl.symm]
    constructor
    · intro h q hq
      obtain ⟨i, hi, e1⟩ := mem_rest.mp hq
      have hil := (List.getElem?_eq_some_iff.mp e1).1
      have h1 := h i n hil hn
      have h2 := h n i hn hil
      rw [bq, if_neg hi, if_pos rfl] at h1
      rw [bq, if_pos rfl, if_neg hi] at h2
      unfold befI at h1 h2
      rw [e1, List.getElem?_eq_getElem hn] at h1 h2
      exact ⟨h1.symm, h2.symm⟩
    · intro h i j hi hj
      rw [bq]
      by_cases hin : i = n
      · subst hin
        rw [if_pos rfl]
        by_cases hjn : j = i
        · subst hjn
          rw [if_pos rfl]
          unfold befI
          rw [List.getElem?_eq_getElem hn]
          exact bp.trans bm.symm
        · rw [if_neg hjn]
          unfold befI
          rw [List.getElem?_eq_getElem hn, List.getElem?_eq_getElem hj]
          exact (h P[j] (mem_rest.mpr ⟨j, hjn, List.getElem?_eq_getElem hj⟩)).2.symm
      · rw [if_neg hin]
        by_cases hjn : j = n
        · subst hjn
          rw [if_pos rfl]
          unfold befI
          rw [List.getElem?_eq_getElem hn, List.getElem?_eq_getElem hi]
          exact (h P[i] (mem_rest.mpr ⟨i, hin, List.getElem?_eq_getElem hi⟩)).1.symm
        · rw [if_neg hjn]
          rfl
  rw [Bool.eq_iff_iff]
  unfold goodB sameB
  rw [Bool.and_eq_true, decide_eq_true_iff, key, key2, List.all_eq_true]
  constructor
  · rintro ⟨h1, h2⟩ q hq
    obtain ⟨h3, h4⟩ := h2 q hq
    simp [h1 q hq, h3, h4]
  · intro h
    refine ⟨fun q hq => ?_, fun q hq => ?_⟩
    · have := h q hq
      simp at this
      exact this.1.1
    · have := h q hq
      simp at this
      exact ⟨this.1.2, this.2⟩
end K21
namespace K21
open PySem PySem.Spec Den
theorem Sheet.take {F : List Pan} (h : Sheet F) (k : Nat) : Sheet (F.take k) := h.sub (List.take_sublist _ _)
theorem okP_iff (p : Pan) : okP p = true ↔ (0 ≤ p.a ∧ p.a ≤ 20) ∧ (0 ≤ p.b ∧ p.b ≤ 20) ∧ (0 ≤ p.c ∧ p.c ≤ 20) ∧ (0 ≤ p.d ∧ p.d ≤ 20) ∧ p.a < p.c ∧ p.b < p.d := by
  simp [okP, inR, and_assoc]
def sft (p : Pan) : Pan := ⟨p.a + 2, p.b + 1, p.c + 2, p.d + 1⟩
theorem sft_page {F : List Pan} (h : Sheet F) (hl : F.length ≤ 8) : okPage (F.map sft) = true := by
  rw [okPage_iff]
  refine ⟨by simpa using hl, fun p hp => ?_, ?_⟩
  · obtain ⟨q, hq, rfl⟩ := List.mem_map.mp hp
    have := h.box q hq
    rw [okP_iff]
    unfold sft
    dsimp only
    omega
  · rw [List.pairwise_map]
    refine h.ap.imp fun {a b} hab => ?_
    rw [lap_false] at hab ⊢
    simp [sft]
    omega
theorem rws_congr {f g : Pan → Bool} {p : Pan} {k : Nat} (h : ∀ x ∈ iv (0 - p.a) k, ∀ y ∈ iv (0 - p.b) (21 - p.d - (0 - p.b)).toNat, f (mv p x y) = g (mv p x y)) : rws f p k = rws g p k := by
  unfold rws
  have : ∀ l : List Int, (∀ x ∈ l, x ∈ iv (0 - p.a) k) → (l.flatMap fun x => ((iv (0 - p.b) (21 - p.d - (0 - p.b)).toNat).filter fun y => f (mv p x y)).map fun y => (x, y)) = (l.flatMap fun x => ((iv (0 - p.b) (21 - p.d - (0 - p.b)).toNat).filter fun y => g (mv p x y)).map fun y => (x, y)) := fun l hl => by
    induction l with
    | nil => rfl
    | cons a l ih =>
      rw [List.flatMap_cons, List.flatMap_cons, ih fun x hx => hl x (List.mem_cons_of_mem _ hx)]
      congr 2
      exact List.filter_congr fun y hy => h a (hl a List.mem_cons_self) y hy
  exact this _ fun x hx => hx
theorem iv_mem {lo x : Int} {k : Nat} (h : x ∈ iv lo k) : lo ≤ x ∧ x < lo + (k : Int) := by
  unfold iv at h
  obtain ⟨i, hi, rfl⟩ := List.mem_map.mp h
  have := List.mem_range.mp hi
  omega
def s23m : S := (.iff (.cmp .ne (.var 1 "_law_page_here" ⟨149, 7, 149, 21⟩) (.tup .nil 0 ⟨149, 25, 149, 27⟩) ⟨149, 7, 149, 27⟩) (.cons (.set 9 "_law_number" ⟨150, 8, 150, 19⟩ (.call 15 "_law_drawn" ⟨150, 22, 150, 32⟩ (.var 0 "_law_script" ⟨150, 33, 150, 44⟩) (.cons (.cst (.int 2) 0 ⟨150, 46, 150, 47⟩) (.cons (.prim .len ⟨150, 49, 150, 52⟩ (.var 1 "_law_page_here" ⟨150, 53, 150, 67⟩) .nil ⟨150, 49, 150, 68⟩) .nil)) ⟨150, 22, 150, 69⟩) ⟨150, 8, 150, 69⟩)
    (.cons (.asg [(4, "_law_left", ⟨151, 8, 151, 17⟩), (5, "_law_top", ⟨151, 19, 151, 27⟩), (6, "_law_right", ⟨151, 29, 151, 39⟩), (7, "_law_bottom", ⟨151, 41, 151, 52⟩)] 0 ⟨151, 8, 151, 52⟩ (.ix (.var 1 "_law_page_here" ⟨151, 55, 151, 69⟩) (.var 9 "_law_number" ⟨151, 70, 151, 81⟩) ⟨151, 55, 151, 82⟩) ⟨151, 8, 151, 82⟩)
    (.cons (.par [(10, "_law_rest", ⟨152, 8, 152, 17⟩), (11, "_law_due", ⟨152, 19, 152, 27⟩)] 0 ⟨152, 8, 152, 27⟩ (.cons (.bin .add (.shi (.var 1 "_law_page_here" ⟨152, 31, 152, 45⟩) (.var 9 "_law_number" ⟨152, 47, 152, 58⟩) ⟨152, 46, 152, 58⟩ ⟨152, 31, 152, 59⟩) (.slo (.var 1 "_law_page_here" ⟨152, 62, 152, 76⟩) (.bin .add (.var 9 "_law_number" ⟨152, 77, 152, 88⟩) (.cst (.int 1) 0 ⟨152, 91, 152, 92⟩) ⟨152, 77, 152, 92⟩) ⟨152, 77, 152, 93⟩ ⟨152, 62, 152, 94⟩) ⟨152, 31, 152, 94⟩) (.cons (.lst .nil ⟨152, 96, 152, 98⟩) .nil)) 0 ⟨152, 30, 152, 99⟩ ⟨152, 8, 152, 99⟩)
    (.cons (.for (.nm 12 "_law_across" ⟨153, 12, 153, 23⟩) (.rng2 (.bin .sub (.cst (.int 0) 0 ⟨153, 33, 153, 34⟩) (.var 4 "_law_left" ⟨153, 37, 153, 46⟩) ⟨153, 33, 153, 46⟩) (.bin .sub (.cst (.int 21) 0 ⟨153, 48, 153, 50⟩) (.var 6 "_law_right" ⟨153, 53, 153, 63⟩) ⟨153, 48, 153, 63⟩) ⟨153, 27, 153, 32⟩ ⟨153, 27, 153, 64⟩) (.cons (.for (.nm 13 "_law_down" ⟨154, 16, 154, 25⟩) (.rng2 (.bin .sub (.cst (.int 0) 0 ⟨154, 35, 154, 36⟩) (.var 5 "_law_top" ⟨154, 39, 154, 47⟩) ⟨154, 35, 154, 47⟩) (.bin .sub (.cst (.int 21) 0 ⟨154, 49, 154, 51⟩) (.var 7 "_law_bottom" ⟨154, 54, 154, 65⟩) ⟨154, 49, 154, 65⟩) ⟨154, 29, 154, 34⟩ ⟨154, 29, 154, 66⟩) (.cons (.set 14 "_law_panel" ⟨155, 16, 155, 26⟩ (.tup (.cons (.bin .add (.var 4 "_law_left" ⟨155, 30, 155, 39⟩) (.var 12 "_law_across" ⟨155, 42, 155, 53⟩) ⟨155, 30, 155, 53⟩) (.cons (.bin .add (.var 5 "_law_top" ⟨155, 55, 155, 63⟩) (.var 13 "_law_down" ⟨155, 66, 155, 75⟩) ⟨155, 55, 155, 75⟩) (.cons (.bin .add (.var 6 "_law_right" ⟨155, 77, 155, 87⟩) (.var 12 "_law_across" ⟨155, 90, 155, 101⟩) ⟨155, 77, 155, 101⟩) (.cons (.bin .add (.var 7 "_law_bottom" ⟨155, 103, 155, 114⟩) (.var 13 "_law_down" ⟨155, 117, 155, 126⟩) ⟨155, 103, 155, 126⟩) .nil)))) 0 ⟨155, 29, 155, 127⟩) ⟨155, 16, 155, 127⟩)
    (.cons (.set 16 "_law_same" ⟨156, 16, 156, 25⟩ (.cmp .eq (.comp (.var 15 "_law_one" ⟨156, 29, 156, 37⟩) (.nm 15 "_law_one" ⟨156, 42, 156, 50⟩) (.seq (.var 10 "_law_rest" ⟨156, 54, 156, 63⟩)) (.cons (.call 22 "_law_overlap" ⟨156, 67, 156, 79⟩ (.var 15 "_law_one" ⟨156, 80, 156, 88⟩) (.cons (.var 14 "_law_panel" ⟨156, 90, 156, 100⟩) .nil) ⟨156, 67, 156, 101⟩) .nil) ⟨.function, [(".0", .local), ("_law_one", .local), ("_law_overlap", .globalImplicit), ("_law_panel", .free)], false, false, []⟩ [("_law_one", 15)] ⟨156, 28, 156, 102⟩) (.lst .nil ⟨156, 106, 156, 108⟩) ⟨156, 28, 156, 108⟩) ⟨156, 16, 156, 108⟩)
    (.cons (.for (.nm 15 "_law_one" ⟨157, 20, 157, 28⟩) (.seq (.var 10 "_law_rest" ⟨157, 32, 157, 41⟩)) (.cons (.set 16 "_law_same" ⟨158, 20, 158, 29⟩ (.and (.var 16 "_law_same" ⟨158, 32, 158, 41⟩) (.cons (.cmp .eq (.call 17 "_law_first" ⟨158, 46, 158, 56⟩ (.var 15 "_law_one" ⟨158, 57, 158, 65⟩) (.cons (.var 14 "_law_panel" ⟨158, 67, 158, 77⟩) .nil) ⟨158, 46, 158, 78⟩) (.call 17 "_law_first" ⟨158, 82, 158, 92⟩ (.var 15 "_law_one" ⟨158, 93, 158, 101⟩) (.cons (.ix (.var 1 "_law_page_here" ⟨158, 103, 158, 117⟩) (.var 9 "_law_number" ⟨158, 118, 158, 129⟩) ⟨158, 103, 158, 130⟩) .nil) ⟨158, 82, 158, 131⟩) ⟨158, 46, 158, 131⟩) .nil) ⟨158, 32, 158, 131⟩) ⟨158, 20, 158, 131⟩)
    (.cons (.set 16 "_law_same" ⟨159, 20, 159, 29⟩ (.and (.var 16 "_law_same" ⟨159, 32, 159, 41⟩) (.cons (.cmp .eq (.call 17 "_law_first" ⟨159, 46, 159, 56⟩ (.var 14 "_law_panel" ⟨159, 57, 159, 67⟩) (.cons (.var 15 "_law_one" ⟨159, 69, 159, 77⟩) .nil) ⟨159, 46, 159, 78⟩) (.call 17 "_law_first" ⟨159, 82, 159, 92⟩ (.ix (.var 1 "_law_page_here" ⟨159, 93, 159, 107⟩) (.var 9 "_law_number" ⟨159, 108, 159, 119⟩) ⟨159, 93, 159, 120⟩) (.cons (.var 15 "_law_one" ⟨159, 122, 159, 130⟩) .nil) ⟨159, 82, 159, 131⟩) ⟨159, 46, 159, 131⟩) .nil) ⟨159, 32, 159, 131⟩) ⟨159, 20, 159, 131⟩)
    .nil)) ⟨157, 16, 159, 131⟩)
    (.cons (.iff (.var 16 "_law_same" ⟨160, 19, 160, 28⟩) (.cons (.app 11 "_law_due" ⟨161, 20, 161, 28⟩ ⟨161, 20, 161, 35⟩ ⟨161, 20, 161, 61⟩ (.tup (.cons (.var 12 "_law_across" ⟨161, 37, 161, 48⟩) (.cons (.var 13 "_law_down" ⟨161, 50, 161, 59⟩) .nil)) 0 ⟨161, 36, 161, 60⟩) ⟨161, 20, 161, 61⟩)
    .nil) .nil ⟨160, 16, 161, 61⟩)
    .nil)))) ⟨154, 12, 161, 61⟩)
    .nil) ⟨153, 8, 161, 61⟩)
    (.cons (.iff (.cmp .ne (.call 11 "still_moves" ⟨162, 11, 162, 22⟩ (.var 1 "_law_page_here" ⟨162, 23, 162, 37⟩) (.cons (.var 9 "_law_number" ⟨162, 39, 162, 50⟩) .nil) ⟨162, 11, 162, 51⟩) (.var 11 "_law_due" ⟨162, 55, 162, 63⟩) ⟨162, 11, 162, 63⟩) (.cons (.ret (.cst (.bl false) 0 ⟨163, 19, 163, 24⟩) ⟨163, 12, 163, 24⟩)
    .nil) .nil ⟨162, 8, 163, 24⟩)
    .nil))))) .nil ⟨149, 4, 163, 24⟩)
def s23q : Ss := (.cons (.par [(17, "_law_odd", ⟨164, 4, 164, 12⟩), (18, "_law_bad", ⟨164, 14, 164, 22⟩)] 0 ⟨164, 4, 164, 22⟩ (.cons (.call 19 "_law_badpage" ⟨164, 26, 164, 38⟩ (.var 0 "_law_script" ⟨164, 39, 164, 50⟩) (.cons (.cst (.int 3) 0 ⟨164, 52, 164, 53⟩) .nil) ⟨164, 26, 164, 54⟩) (.cons (.call 20 "_law_badnumber" ⟨164, 56, 164, 70⟩ (.var 0 "_law_script" ⟨164, 71, 164, 82⟩) (.cons (.cst (.int 4) 0 ⟨164, 84, 164, 85⟩) (.cons (.prim .len ⟨164, 87, 164, 90⟩ (.var 1 "_law_page_here" ⟨164, 91, 164, 105⟩) .nil ⟨164, 87, 164, 106⟩) .nil)) ⟨164, 56, 164, 107⟩) .nil)) 0 ⟨164, 25, 164, 108⟩ ⟨164, 4, 164, 108⟩)
    (.cons (.set 19 "_law_told" ⟨165, 4, 165, 13⟩ (.lst (.cons (.call 21 "_law_error" ⟨165, 17, 165, 27⟩ (.cst (.int 0) 0 ⟨165, 28, 165, 29⟩) (.cons (.var 17 "_law_odd" ⟨165, 31, 165, 39⟩) (.cons (.cst (.int 0) 0 ⟨165, 41, 165, 42⟩) .nil)) ⟨165, 17, 165, 43⟩) (.cons (.call 21 "_law_error" ⟨165, 45, 165, 55⟩ (.cst (.int 1) 0 ⟨165, 56, 165, 57⟩) (.cons (.var 17 "_law_odd" ⟨165, 59, 165, 67⟩) (.cons (.cst (.int 0) 0 ⟨165, 69, 165, 70⟩) .nil)) ⟨165, 45, 165, 71⟩) (.cons (.call 21 "_law_error" ⟨165, 73, 165, 83⟩ (.cst (.int 2) 0 ⟨165, 84, 165, 85⟩) (.cons (.var 17 "_law_odd" ⟨165, 87, 165, 95⟩) (.cons (.var 17 "_law_odd" ⟨165, 97, 165, 105⟩) .nil)) ⟨165, 73, 165, 106⟩) .nil))) ⟨165, 16, 165, 107⟩) ⟨165, 4, 165, 107⟩)
    (.cons (.set 19 "_law_told" ⟨166, 4, 166, 13⟩ (.bin .add (.var 19 "_law_told" ⟨166, 16, 166, 25⟩) (.lst (.cons (.call 21 "_law_error" ⟨166, 29, 166, 39⟩ (.cst (.int 2) 0 ⟨166, 40, 166, 41⟩) (.cons (.var 1 "_law_page_here" ⟨166, 43, 166, 57⟩) (.cons (.var 17 "_law_odd" ⟨166, 59, 166, 67⟩) .nil)) ⟨166, 29, 166, 68⟩) (.cons (.call 21 "_law_error" ⟨166, 70, 166, 80⟩ (.cst (.int 3) 0 ⟨166, 81, 166, 82⟩) (.cons (.var 17 "_law_odd" ⟨166, 84, 166, 92⟩) (.cons (.var 18 "_law_bad" ⟨166, 94, 166, 102⟩) .nil)) ⟨166, 70, 166, 103⟩) .nil)) ⟨166, 28, 166, 104⟩) ⟨166, 16, 166, 104⟩) ⟨166, 4, 166, 104⟩)
    (.cons (.ret (.cmp .eq (.bin .add (.var 19 "_law_told" ⟨167, 11, 167, 20⟩) (.lst (.cons (.call 21 "_law_error" ⟨167, 24, 167, 34⟩ (.cst (.int 3) 0 ⟨167, 35, 167, 36⟩) (.cons (.var 1 "_law_page_here" ⟨167, 38, 167, 52⟩) (.cons (.var 18 "_law_bad" ⟨167, 54, 167, 62⟩) .nil)) ⟨167, 24, 167, 63⟩) .nil) ⟨167, 23, 167, 64⟩) ⟨167, 11, 167, 64⟩) (.bin .add (.rep (.cons (.cst (.int 0) 0 ⟨167, 69, 167, 70⟩) .nil) ⟨167, 68, 167, 71⟩ (.cst (.int 5) 0 ⟨167, 74, 167, 75⟩) ⟨167, 68, 167, 75⟩) (.lst (.cons (.cst (.int 1) 0 ⟨167, 79, 167, 80⟩) .nil) ⟨167, 78, 167, 81⟩) ⟨167, 68, 167, 81⟩) ⟨167, 11, 167, 81⟩) ⟨167, 4, 167, 81⟩)
    .nil))))
def s23r : Ss := .cons s23m s23q
theorem s23e : s23 = (.cons (.par [(1, "_law_page_here", ⟨139, 4, 139, 18⟩), (2, "_law_other", ⟨139, 20, 139, 30⟩)] 0 ⟨139, 4, 139, 30⟩ (.cons (.shi (.call 16 "_law_page" ⟨139, 34, 139, 43⟩ (.var 0 "_law_script" ⟨139, 44, 139, 55⟩) (.cons (.cst (.int 10) 0 ⟨139, 57, 139, 59⟩) (.cons (.cst (.int 5) 0 ⟨139, 61, 139, 62⟩) .nil)) ⟨139, 34, 139, 63⟩) (.cst (.int 3) 0 ⟨139, 65, 139, 66⟩) ⟨139, 64, 139, 66⟩ ⟨139, 34, 139, 67⟩) (.cons (.shi (.call 16 "_law_page" ⟨139, 69, 139, 78⟩ (.var 0 "_law_script" ⟨139, 79, 139, 90⟩) (.cons (.cst (.int 80) 0 ⟨139, 92, 139, 94⟩) (.cons (.cst (.int 5) 0 ⟨139, 96, 139, 97⟩) .nil)) ⟨139, 69, 139, 98⟩) (.cst (.int 3) 0 ⟨139, 100, 139, 101⟩) ⟨139, 99, 139, 101⟩ ⟨139, 69, 139, 102⟩) .nil)) 0 ⟨139, 33, 139, 103⟩ ⟨139, 4, 139, 103⟩)
 (.cons (.set 2 "_law_other" ⟨140, 4, 140, 14⟩ (.ix (.lst (.cons (.var 2 "_law_other" ⟨140, 18, 140, 28⟩) (.cons (.var 1 "_law_page_here" ⟨140, 30, 140, 44⟩) (.cons (.prim .tuple ⟨140, 46, 140, 51⟩ (.comp (.tup (.cons (.bin .add (.var 20 "_law_a" ⟨140, 54, 140, 60⟩) (.cst (.int 2) 0 ⟨140, 63, 140, 64⟩) ⟨140, 54, 140, 64⟩) (.cons (.bin .add (.var 21 "_law_b" ⟨140, 66, 140, 72⟩) (.cst (.int 1) 0 ⟨140, 75, 140, 76⟩) ⟨140, 66, 140, 76⟩) (.cons (.bin .add (.var 22 "_law_c" ⟨140, 78, 140, 84⟩) (.cst (.int 2) 0 ⟨140, 87, 140, 88⟩) ⟨140, 78, 140, 88⟩) (.cons (.bin .add (.var 23 "_law_d" ⟨140, 90, 140, 96⟩) (.cst (.int 1) 0 ⟨140, 99, 140, 100⟩) ⟨140, 90, 140, 100⟩) .nil)))) 0 ⟨140, 53, 140, 101⟩) (.tp [(20, "_law_a", ⟨140, 106, 140, 112⟩), (21, "_law_b", ⟨140, 114, 140, 120⟩), (22, "_law_c", ⟨140, 122, 140, 128⟩), (23, "_law_d", ⟨140, 130, 140, 136⟩)] 0 ⟨140, 106, 140, 136⟩) (.seq (.var 1 "_law_page_here" ⟨140, 140, 140, 154⟩)) .nil ⟨.function, [(".0", .local), ("_law_a", .local), ("_law_b", .local), ("_law_c", .local), ("_law_d", .local)], false, false, []⟩ [("_law_a", 20), ("_law_b", 21), ("_law_c", 22), ("_law_d", 23)] ⟨140, 52, 140, 155⟩) .nil ⟨140, 46, 140, 156⟩) .nil))) ⟨140, 17, 140, 157⟩) (.call 15 "_law_drawn" ⟨140, 158, 140, 168⟩ (.var 0 "_law_script" ⟨140, 169, 140, 180⟩) (.cons (.cst (.int 1) 0 ⟨140, 182, 140, 183⟩) (.cons (.cst (.int 3) 0 ⟨140, 185, 140, 186⟩) .nil)) ⟨140, 158, 140, 187⟩) ⟨140, 17, 140, 188⟩) ⟨140, 4, 140, 188⟩)
 (.cons (.set 3 "_law_known" ⟨141, 4, 141, 14⟩ (.call 18 "_law_pairs" ⟨141, 17, 141, 27⟩ (.var 1 "_law_page_here" ⟨141, 28, 141, 42⟩) .nil ⟨141, 17, 141, 43⟩) ⟨141, 4, 141, 43⟩)
 (.cons (.iff (.cmp .ne (.call 10 "are_alike" ⟨142, 7, 142, 16⟩ (.var 1 "_law_page_here" ⟨142, 17, 142, 31⟩) (.cons (.var 2 "_law_other" ⟨142, 33, 142, 43⟩) .nil) ⟨142, 7, 142, 44⟩) (.and (.cmp .eq (.prim .len ⟨142, 49, 142, 52⟩ (.var 1 "_law_page_here" ⟨142, 53, 142, 67⟩) .nil ⟨142, 49, 142, 68⟩) (.prim .len ⟨142, 72, 142, 75⟩ (.var 2 "_law_other" ⟨142, 76, 142, 86⟩) .nil ⟨142, 72, 142, 87⟩) ⟨142, 49, 142, 87⟩) (.cons (.cmp .eq (.var 3 "_law_known" ⟨142, 92, 142, 102⟩) (.call 18 "_law_pairs" ⟨142, 106, 142, 116⟩ (.var 2 "_law_other" ⟨142, 117, 142, 127⟩) .nil ⟨142, 106, 142, 128⟩) ⟨142, 92, 142, 128⟩) .nil) ⟨142, 49, 142, 128⟩) ⟨142, 7, 142, 129⟩) (.cons (.ret (.cst (.bl false) 0 ⟨143, 15, 143, 20⟩) ⟨143, 8, 143, 20⟩)
    .nil) .nil ⟨142, 4, 143, 20⟩)
 (.cons (.set 8 "_law_turned" ⟨144, 4, 144, 15⟩ (.prim .tuple ⟨144, 18, 144, 23⟩ (.comp (.tup (.cons (.bin .sub (.cst (.int 20) 0 ⟨144, 26, 144, 28⟩) (.var 6 "_law_right" ⟨144, 31, 144, 41⟩) ⟨144, 26, 144, 41⟩) (.cons (.var 5 "_law_top" ⟨144, 43, 144, 51⟩) (.cons (.bin .sub (.cst (.int 20) 0 ⟨144, 53, 144, 55⟩) (.var 4 "_law_left" ⟨144, 58, 144, 67⟩) ⟨144, 53, 144, 67⟩) (.cons (.var 7 "_law_bottom" ⟨144, 69, 144, 80⟩) .nil)))) 0 ⟨144, 25, 144, 81⟩) (.tp [(4, "_law_left", ⟨144, 86, 144, 95⟩), (5, "_law_top", ⟨144, 97, 144, 105⟩), (6, "_law_right", ⟨144, 107, 144, 117⟩), (7, "_law_bottom", ⟨144, 119, 144, 130⟩)] 0 ⟨144, 86, 144, 130⟩) (.seq (.var 1 "_law_page_here" ⟨144, 134, 144, 148⟩)) .nil ⟨.function, [(".0", .local), ("_law_left", .local), ("_law_top", .local), ("_law_right", .local), ("_law_bottom", .local)], false, false, []⟩ [("_law_left", 4), ("_law_top", 5), ("_law_right", 6), ("_law_bottom", 7)] ⟨144, 24, 144, 149⟩) .nil ⟨144, 18, 144, 150⟩) ⟨144, 4, 144, 150⟩)
 (.cons (.iff (.cmp .ne (.call 13 "mirrored" ⟨145, 7, 145, 15⟩ (.var 1 "_law_page_here" ⟨145, 16, 145, 30⟩) .nil ⟨145, 7, 145, 31⟩) (.var 8 "_law_turned" ⟨145, 35, 145, 46⟩) ⟨145, 7, 145, 46⟩) (.cons (.ret (.cst (.bl false) 0 ⟨146, 15, 146, 20⟩) ⟨146, 8, 146, 20⟩)
    .nil) .nil ⟨145, 4, 146, 20⟩)
 (.cons (.iff (.cmp .ne (.call 14 "turned_pairs" ⟨147, 7, 147, 19⟩ (.var 1 "_law_page_here" ⟨147, 20, 147, 34⟩) .nil ⟨147, 7, 147, 35⟩) (.comp (.var 24 "_law_pair" ⟨147, 40, 147, 49⟩) (.nm 24 "_law_pair" ⟨147, 54, 147, 63⟩) (.seq (.var 3 "_law_known" ⟨147, 67, 147, 77⟩)) (.cons (.cmp .isin (.tup (.cons (.ix (.var 24 "_law_pair" ⟨147, 82, 147, 91⟩) (.cst (.int 1) 0 ⟨147, 92, 147, 93⟩) ⟨147, 82, 147, 94⟩) (.cons (.ix (.var 24 "_law_pair" ⟨147, 96, 147, 105⟩) (.cst (.int 0) 0 ⟨147, 106, 147, 107⟩) ⟨147, 96, 147, 108⟩) .nil)) 0 ⟨147, 81, 147, 109⟩) (.call 18 "_law_pairs" ⟨147, 113, 147, 123⟩ (.var 8 "_law_turned" ⟨147, 124, 147, 135⟩) .nil ⟨147, 113, 147, 136⟩) ⟨147, 81, 147, 136⟩) .nil) ⟨.function, [(".0", .local), ("_law_pair", .local), ("_law_pairs", .globalImplicit), ("_law_turned", .free)], false, false, []⟩ [("_law_pair", 24)] ⟨147, 39, 147, 137⟩) ⟨147, 7, 147, 137⟩) (.cons (.ret (.cst (.bl false) 0 ⟨148, 15, 148, 20⟩) ⟨148, 8, 148, 20⟩)
    .nil) .nil ⟨147, 4, 148, 20⟩)
 s23r))))))) := rfl
def LK (ns : List Int) (P : List Pan) (ρ : Ro) : Prop := ∃ (x2 x3 x8 x4 x5 x6 x7 x9 x10 x11 x12 x13 x14 x15 x16 x17 x18 x19 : Option D), ρ = [some (intsD ns), some (.tuple (P.map pD)), x2, x3, x4, x5, x6, x7, x8, x9, x10, x11, x12, x13, x14, x15, x16, x17, x18, x19, none, none, none, none, none]
theorem law1 {ns : List Int} (hlen : ns.length ≤ 63) {Q : D → Prop} (k : ∀ (P : List Pan) (ρ : Ro), okPage P = true → LK ns P ρ → Wp (Ss.den (tbl ds23) s23r ρ) fun p => match p with | (.rt d, _) => Q d | (.nx, _) => Q .none | _ => False) : Wp (d23 [intsD ns]) Q := by
  refine wp_def rfl ?_
  obtain ⟨P0, hP0, sP0, lP0⟩ := v14 ns hlen 10 5 (by decide) (by decide)
  obtain ⟨Q0, hQ0, sQ0, lQ0⟩ := v14 ns hlen 80 5 (by decide) (by decide)
  have hP0' : d16 [intsD ns, .int 10, .int 5] = _ := hP0
  have hQ0' : d16 [intsD ns, .int 80, .int 5] = _ := hQ0
  have e16 : tbl ds23 16 = d16 := rfl
  have e15 : tbl ds23 15 = d15 := rfl
  have e18 : tbl ds23 18 = d18 := rfl
  have e10 : tbl ds23 10 = d10 := rfl
  have e13 : tbl ds23 13 = d13 := rfl
  have e14 : tbl ds23 14 = d14 := rfl
  have sP := sP0.take 3
  have sQ := sQ0.take 3
  have cP : cutD (P0.map pD) none (some 3) = (P0.take 3).map pD := by
    have := cut_to (P0.map pD) 3
    rw [List.map_take]; exact this
  have cQ : cutD (Q0.map pD) none (some 3) = (Q0.take 3).map pD := by
    have := cut_to (Q0.map pD) 3
    rw [List.map_take]; exact this
  have lP : (P0.take 3).length ≤ 3 := by simp; omega
  have lQ : (Q0.take 3).length ≤ 3 := by simp; omega
  generalize P0.take 3 = P at *
  generalize Q0.take 3 = O0 at *
  have okP' := sP.page (by omega)
  have hl : P.length ≤ 8 := by omega
  rw [s23e]
  refine wp_cons (R := fun ρ => ρ = [some (intsD ns), some (.tuple (P.map pD)), some (.tuple (O0.map pD)), none, none, none, none, none, none, none, none, none, none, none, none, none, none, none, none, none, none, none, none, none, none]) ?_ fun ρ1 h => ?_
  · simp [startD, e16, hP0', hQ0', cP, cQ]
  subst h
  refine wp_cons (R := fun ρ => ∃ O : List Pan, okPage O = true ∧ O.length ≤ 3 ∧ ρ = [some (intsD ns), some (.tuple (P.map pD)), some (.tuple (O.map pD)), none, none, none, none, none, none, none, none, none, none, none, none, none, none, none, none, none, none, none, none, none, none]) ?_ fun ρ1 h => ?_
  · obtain ⟨q, hq, hq2⟩ := drawnI ns hlen 1 3 (by omega) (by omega)
    have e1 : compL (setT [20, 21, 22, 23]) (fun _ => Rs.ok true) (tupA (consArg (bi addD (vaR 20) fun _ => Rs.ok (PyData.int 2)) (consArg (bi addD (vaR 21) fun _ => Rs.ok (PyData.int 1)) (consArg (bi addD (vaR 22) fun _ => Rs.ok (PyData.int 2)) (consArg (bi addD (vaR 23) fun _ => Rs.ok (PyData.int 1)) noArg))))) [some (intsD ns), some (.tuple (P.map pD)), some (.tuple (O0.map pD)), none, none, none, none, none, none, none, none, none, none, none, none, none, none, none, none, none, none, none, none, none, none] (P.map pD) = .ok ((P.map sft).map pD) := by
      rw [List.map_map]
      refine compL_all _ fun p _ => ?_
      simp [pD, sft]
    have hq3 : q = 0 ∨ q = 1 ∨ q = 2 := by omega
    generalize hX : (P.map sft).map pD = X at *
    rcases hq3 with rfl | rfl | rfl <;> simp [e15, hq, e1]
    · exact ⟨O0, sQ.page (by omega), lQ, rfl⟩
    · exact ⟨P, okP', lP, rfl⟩
    · exact ⟨P.map sft, sft_page sP hl, by simpa using lP, by rw [hX]⟩
  obtain ⟨O, okO, lO, rfl⟩ := h
  refine wp_cons (R := fun ρ => ρ = [some (intsD ns), some (.tuple (P.map pD)), some (.tuple (O.map pD)), some (Enc.e (prs P)), none, none, none, none, none, none, none, none, none, none, none, none, none, none, none, none, none, none, none, none, none]) ?_ fun ρ1 h => ?_
  · simp [e18, v16 hl]
  subst h
  refine wp_cons (R := fun ρ => ρ = [some (intsD ns), some (.tuple (P.map pD)), some (.tuple (O.map pD)), some (Enc.e (prs P)), none, none, none, none, none, none, none, none, none, none, none, none, none, none, none, none, none, none, none, none, none]) ?_ fun ρ1 h => ?_
  · have e0 : eqD (Enc.e (prs P)) (Enc.e (prs O)) = .ok (.bool (decide (prs P = prs O))) := eqD_e (by decide) _ _
    have e2 : decide ((P.length : Int) = (O.length : Int)) = decide (P.length = O.length) := by
      rw [decide_eq_decide]; omega
    have h10 := w10 okP' okO
    have h18 := v16 (okLen okO)
    generalize decide (prs P = prs O) = b2 at *
    by_cases hb : P.length = O.length
    · rw [decide_eq_true hb] at h10 e2
      simp at h10
      simp [e10, e18, h10, h18, eqI, e2, e0, neB, hb]
    · rw [decide_eq_false hb] at h10 e2
      simp at h10
      simp [e10, e18, h10, h18, eqI, e2, e0, neB, hb]
  subst h
  refine wp_cons (R := fun ρ => ρ = [some (intsD ns), some (.tuple (P.map pD)), some (.tuple (O.map pD)), some (Enc.e (prs P)), none, none, none, none, some (.tuple ((P.map xch).map pD)), none, none, none, none, none, none, none, none, none, none, none, none, none, none, none, none]) ?_ fun ρ1 h => ?_
  · have e1 : compL (setT [4, 5, 6, 7]) (fun _ => Rs.ok true) (tupA (consArg (bi subD (fun _ => Rs.ok (PyData.int 20)) (vaR 6)) (consArg (vaR 5) (consArg (bi subD (fun _ => Rs.ok (PyData.int 20)) (vaR 4)) (consArg (vaR 7) noArg))))) [some (intsD ns), some (.tuple (P.map pD)), some (.tuple (O.map pD)), some (Enc.e (prs P)), none, none, none, none, none, none, none, none, none, none, none, none, none, none, none, none, none, none, none, none, none] (P.map pD) = .ok ((P.map xch).map pD) := by
      rw [List.map_map]
      refine compL_all _ fun p _ => ?_
      simp [pD, xch]
    generalize hX : (P.map xch).map pD = X at *
    simp [e1]
  subst h
  refine wp_cons (R := fun ρ => ρ = [some (intsD ns), some (.tuple (P.map pD)), some (.tuple (O.map pD)), some (Enc.e (prs P)), none, none, none, none, some (.tuple ((P.map xch).map pD)), none, none, none, none, none, none, none, none, none, none, none, none, none, none, none, none]) ?_ fun ρ1 h => ?_
  · have h13 := w13 okP'
    have e0 : neD (.tuple ((P.map xch).map pD)) (.tuple ((P.map xch).map pD)) = .ok (.bool (!decide ((⟨P.map xch⟩ : Tu Pan) = ⟨P.map xch⟩))) := neD_e (α := Tu Pan) (by decide) ⟨P.map xch⟩ ⟨P.map xch⟩
    generalize hX : (P.map xch).map pD = X at *
    simp [e13, h13, e0]
  subst h
  refine wp_cons (R := LK ns P) ?_ fun ρ1 h => k P ρ1 okP' h
  · have h14 := w14 okP'
    have h18 := v16 (P := P.map xch) (by simpa using hl)
    have e4 : seqD (Enc.e (prs P)) = .ok ((prs P).map Enc.e) := rfl
    have e0 : neD (Enc.e (trn P)) (.list ((trn P).map Enc.e)) = .ok (.bool (!decide (trn P = trn P))) := neD_e (α := List (Nat × Nat)) (by decide) (trn P) (trn P)
    generalize hX : (P.map xch).map pD = X at *
    have e1 : compL (setN 24) (tstE (bi (inD false) (tupA (consArg (bi ixD (vaR 24) fun _ => Rs.ok (PyData.int 1)) (consArg (bi ixD (vaR 24) fun _ => Rs.ok (PyData.int 0)) noArg))) (appE d18 (consArg (vaR 8) noArg)))) (vaR 24) [some (intsD ns), some (.tuple (P.map pD)), some (.tuple (O.map pD)), some (Enc.e (prs P)), none, none, none, none, some (.tuple X), none, none, none, none, none, none, none, none, none, none, none, none, none, none, none, none] ((prs P).map Enc.e) = .ok ((trn P).map Enc.e) := by
      refine compL_map _ fun p _ => ?_
      have e2 : (Enc.e p : D) = .tuple [.int (p.1 : Int), .int (p.2 : Int)] := rfl
      have e3 : inD false (.tuple [.int (p.2 : Int), .int (p.1 : Int)]) (Enc.e (prs (P.map xch))) = .ok (.bool (decide ((p.2, p.1) ∈ prs (P.map xch)))) := inD_b (by decide) (p.2, p.1) (prs (P.map xch)) _ (by simp)
      simp [e2, h18, e3]
    simp [e14, e18, h14, e4, e1, e0]
    exact ⟨_, _, _, _, _, _, _, _, _, _, _, _, _, _, _, _, _, _, rfl⟩
end K21
namespace K21
open PySem PySem.Spec Den
theorem eqB (a b : Bool) : eqD (.bool a) (.bool b) = .ok (.bool (decide (a = b))) := eqD_e (α := Bool) (by decide) a b
def LM (ns : List Int) (P : List Pan) (n : Nat) (hn : n < P.length) (F : List (Int × Int)) (ρ : Ro) : Prop := ∃ (x2 x3 x8 x12 x13 x14 x15 x16 x17 x18 x19 : Option D), ρ = [some (intsD ns), some (.tuple (P.map pD)), x2, x3, some (.int P[n].a), some (.int P[n].b), some (.int P[n].c), some (.int P[n].d), x8, some (.int n), some (.tuple ((P.take n ++ P.drop (n + 1)).map pD)), some (Enc.e F), x12, x13, x14, x15, x16, x17, x18, x19, none, none, none, none, none]
theorem law2 {ns : List Int} (hlen : ns.length ≤ 63) {P : List Pan} (hP : okPage P = true) {ρ : Ro} (h : LK ns P ρ) : Wp (s23m.den (tbl ds23) ρ) fun p => match p with | (.nx, ρ1) => LK ns P ρ1 | _ => False := by
  have hl := okLen hP
  have e15 : tbl ds23 15 = d15 := rfl
  have e17 : tbl ds23 17 = d17 := rfl
  have e22 : tbl ds23 22 = d22 := rfl
  have e11 : tbl ds23 11 = d11 := rfl
  obtain ⟨x2, x3, x8, x4, x5, x6, x7, x9, x10, x11, x12, x13, x14, x15, x16, x17, x18, x19, rfl⟩ := h
  have e5 : neD (.tuple (P.map pD)) (.tuple []) = .ok (.bool (!decide ((⟨P⟩ : Tu Pan) = ⟨[]⟩))) := neD_e (α := Tu Pan) (by decide) ⟨P⟩ ⟨[]⟩
  by_cases hP0 : P = []
  · refine wp_if false (by simp [e5, hP0] at *; simp [e5]) ?_
    exact ⟨_, _, _, _, _, _, _, _, _, _, _, _, _, _, _, _, _, _, rfl⟩
  refine wp_if true (by simp [e5, hP0]) ?_
  rw [if_pos rfl]
  have hp0 : 0 < P.length := List.length_pos_iff.mpr hP0
  obtain ⟨n, hq, hn'⟩ := drawnI ns hlen 2 P.length (by omega) (by omega)
  have hn : n < P.length := by omega
  have hop : okP P[n] = true := ((okPage_iff P).mp hP).2.1 _ (List.getElem_mem hn)
  simp [okP, inR] at hop
  refine wp_cons (R := fun ρ => ρ = [some (intsD ns), some (.tuple (P.map pD)), x2, x3, x4, x5, x6, x7, x8, some (.int n), x10, x11, x12, x13, x14, x15, x16, x17, x18, x19, none, none, none, none, none]) ?_ fun ρ1 h => ?_
  · simp [e15, hq]
  subst h
  refine wp_cons (R := fun ρ => ρ = [some (intsD ns), some (.tuple (P.map pD)), x2, x3, some (.int P[n].a), some (.int P[n].b), some (.int P[n].c), some (.int P[n].d), x8, some (.int n), x10, x11, x12, x13, x14, x15, x16, x17, x18, x19, none, none, none, none, none]) ?_ fun ρ1 h => ?_
  · simp [at_map hn, pD]
  subst h
  refine wp_cons (R := LM ns P n hn []) ?_ fun ρ1 h => ?_
  · have hbig : min n P.length + (P.length - (n + 1)) ≤ big := by unfold big; omega
    simp [-List.map_take, -List.map_drop, (cutAt P n).1, (cutAt P n).2]
    refine ⟨hbig, x2, x3, x8, x12, x13, x14, x15, x16, x17, x18, x19, ?_⟩
    simp
    rfl
  obtain ⟨x2, x3, x8, x12, x13, x14, x15, x16, x17, x18, x19, rfl⟩ := h
  refine wp_cons (R := LM ns P n hn (rws (sameB P n P[n]) P[n] (21 - P[n].c - (0 - P[n].a)).toNat)) ?_ fun ρ1 h => ?_
  · simp only [x57, forS_eq, wp_bind]
    rw [show (I.den (tbl ds23) _ _ : Rs (List D)) = .ok ((iv (0 - P[n].a) (21 - P[n].c - (0 - P[n].a)).toNat).map PyData.int) by
      simp [iv_e]
      omega, wp_ok]
    refine wp_for (fun k ρ => LM ns P n hn (rws (sameB P n P[n]) P[n] k) ρ) _ _ 0 ⟨_, _, _, _, _, _, _, _, _, _, _, rfl⟩ (fun i x ρ hi hI => ?_) fun ρ hI => ?_
    · obtain ⟨x2, x3, x8, x12, x13, x14, x15, x16, x17, x18, x19, rfl⟩ := hI
      obtain ⟨hi1, rfl⟩ := iv_get hi
      simp only [tg1, setN_eq, wp_ok]
      refine wp_cut0 (R := LM ns P n hn (rws (sameB P n P[n]) P[n] (0 + i + 1))) ?_ fun ρ1 h => h
      rw [Nat.zero_add, rws_succ]
      generalize hx : 0 - P[n].a + (i : Int) = x at *
      have hF : (rws (sameB P n P[n]) P[n] i).length ≤ 441 := by
        have h1 := rws_len (sameB P n P[n]) P[n] i
        have h2 : i * (21 - P[n].d - (0 - P[n].b)).toNat ≤ 21 * 21 := Nat.mul_le_mul (by omega) (by omega)
        omega
      generalize rws (sameB P n P[n]) P[n] i = F at *
      simp only [x57, forS_eq, wp_bind]
      rw [show (I.den (tbl ds23) _ _ : Rs (List D)) = .ok ((iv (0 - P[n].b) (21 - P[n].d - (0 - P[n].b)).toNat).map PyData.int) by
        simp [iv_e]
        omega, wp_ok]
      refine wp_for (fun k ρ => ∃ (x13 x14 x15 x16 : Option D), ρ = [some (intsD ns), some (.tuple (P.map pD)), x2, x3, some (.int P[n].a), some (.int P[n].b), some (.int P[n].c), some (.int P[n].d), x8, some (.int n), some (.tuple ((P.take n ++ P.drop (n + 1)).map pD)), some (Enc.e (F ++ cls (sameB P n P[n]) P[n] x k)), some (.int x), x13, x14, x15, x16, x17, x18, x19, none, none, none, none, none]) _ _ 0 ⟨x13, x14, x15, x16, by simp [cls, iv]⟩ (fun j y ρ hj hJ => ?_) fun ρ hJ => ?_
      · obtain ⟨x13, x14, x15, x16, rfl⟩ := hJ
        obtain ⟨hj1, rfl⟩ := iv_get hj
        have hc := cls_len (sameB P n P[n]) P[n] x j
        rw [Nat.zero_add, cls_succ]
        generalize hy : 0 - P[n].b + (j : Int) = y at *
        generalize cls (sameB P n P[n]) P[n] x j = C at *
        simp only [tg1, setN_eq, wp_ok]
        refine wp_cons (R := fun ρ => ρ = [some (intsD ns), some (.tuple (P.map pD)), x2, x3, some (.int P[n].a), some (.int P[n].b), some (.int P[n].c), some (.int P[n].d), x8, some (.int n), some (.tuple ((P.take n ++ P.drop (n + 1)).map pD)), some (Enc.e (F ++ C)), some (.int x), some (.int y), some (pD (mv P[n] x y)), x15, x16, x17, x18, x19, none, none, none, none, none]) ?_ fun ρ1 h => ?_
        · simp [pD, mv]
        subst h
        generalize hL : P.take n ++ P.drop (n + 1) = L at *
        have hLl : L.length ≤ 8 := by rw [← hL]; simp; omega
        have hsB : sameB P n P[n] (mv P[n] x y) = L.all fun q => !lap q (mv P[n] x y) && (bef q (mv P[n] x y) == bef q P[n]) && (bef (mv P[n] x y) q == bef P[n] q) := by rw [← hL]; rfl
        have hat := at_map hn
        generalize mv P[n] x y = m at *
        refine wp_cons (R := fun ρ => ρ = [some (intsD ns), some (.tuple (P.map pD)), x2, x3, some (.int P[n].a), some (.int P[n].b), some (.int P[n].c), some (.int P[n].d), x8, some (.int n), some (.tuple (L.map pD)), some (Enc.e (F ++ C)), some (.int x), some (.int y), some (pD m), x15, some (.bool (decide (L.filter (fun q => lap q m) = []))), x17, x18, x19, none, none, none, none, none]) ?_ fun ρ1 h => ?_
        · have e1 : ∀ x16 : Option D, compL (setN 15) (tstE (appE d22 (consArg (vaR 15) (consArg (vaR 14) noArg)))) (vaR 15) [some (intsD ns), some (.tuple (P.map pD)), x2, x3, some (.int P[n].a), some (.int P[n].b), some (.int P[n].c), some (.int P[n].d), x8, some (.int n), some (.tuple (L.map pD)), some (Enc.e (F ++ C)), some (.int x), some (.int y), some (pD m), none, x16, x17, x18, x19, none, none, none, none, none] (L.map pD) = .ok ((L.filter (fun q => lap q m)).map pD) := fun x16 => by
            refine compL_map _ fun q _ => ?_
            simp [w22]
          have e2 : eqD (.list ((L.filter (fun q => lap q m)).map pD)) (.list []) = .ok (.bool (decide (L.filter (fun q => lap q m) = []))) := eqD_e (α := List Pan) (by decide) (L.filter (fun q => lap q m)) []
          simp [e22, e1, e2]
        subst h
        refine wp_cons (R := fun ρ => ∃ x15 : Option D, ρ = [some (intsD ns), some (.tuple (P.map pD)), x2, x3, some (.int P[n].a), some (.int P[n].b), some (.int P[n].c), some (.int P[n].d), x8, some (.int n), some (.tuple (L.map pD)), some (Enc.e (F ++ C)), some (.int x), some (.int y), some (pD m), x15, some (.bool (sameB P n P[n] m)), x17, x18, x19, none, none, none, none, none]) ?_ fun ρ1 h => ?_
        · simp only [x57, forS_eq, wp_bind]
          rw [show (I.den (tbl ds23) _ _ : Rs (List D)) = .ok (L.map pD) by simp, wp_ok]
          refine wp_for (fun k ρ => ∃ x15 : Option D, ρ = [some (intsD ns), some (.tuple (P.map pD)), x2, x3, some (.int P[n].a), some (.int P[n].b), some (.int P[n].c), some (.int P[n].d), x8, some (.int n), some (.tuple (L.map pD)), some (Enc.e (F ++ C)), some (.int x), some (.int y), some (pD m), x15, some (.bool (decide (L.filter (fun q => lap q m) = []) && (L.take k).all fun q => (bef q m == bef q P[n]) && (bef m q == bef P[n] q))), x17, x18, x19, none, none, none, none, none]) _ _ 0 ⟨x15, by simp⟩ (fun k q ρ hk hK => ?_) fun ρ hK => ?_
          · obtain ⟨x15, rfl⟩ := hK
            have hkl : k < L.length ∧ L[k]? = some q := ⟨(List.getElem?_eq_some_iff.mp hk).1, hk⟩
            have ht : L.take (0 + k + 1) = L.take (0 + k) ++ [q] := by
              rw [Nat.zero_add, List.take_succ, hkl.2]; rfl
            have hq1 : ([q].all fun q => (bef q m == bef q P[n]) && (bef m q == bef P[n] q)) = ((bef q m == bef q P[n]) && (bef m q == bef P[n] q)) := by simp
            rw [ht, List.all_append, hq1]
            generalize decide (L.filter (fun q => lap q m) = []) = b0 at *
            generalize ((L.take (0 + k)).all fun q => (bef q m == bef q P[n]) && (bef m q == bef P[n] q)) = b1 at *
            simp only [tg1, setN_eq, wp_ok]
            have q1 := v15 q m
            have q2 := v15 q P[n]
            have q3 := v15 m q
            have q4 := v15 P[n] q
            generalize bef q m = c1 at *
            generalize bef q P[n] = c2 at *
            generalize bef m q = c3 at *
            generalize bef P[n] q = c4 at *
            cases b0 <;> cases b1 <;> cases c1 <;> cases c2 <;> cases c3 <;> cases c4 <;> simp [e17, hat, q1, q2, q3, q4, eqB]
          · obtain ⟨x15, rfl⟩ := hK
            refine ⟨x15, ?_⟩
            have e9 : (decide (L.filter (fun q => lap q m) = []) && (L.take (0 + L.length)).all fun q => (bef q m == bef q P[n]) && (bef m q == bef P[n] q)) = sameB P n P[n] m := by
              rw [hsB, Nat.zero_add, List.take_length, Bool.eq_iff_iff]
              simp only [Bool.and_eq_true, decide_eq_true_iff, List.filter_eq_nil_iff, List.all_eq_true, Bool.not_eq_true', Bool.not_eq_true]
              constructor
              · rintro ⟨h1, h2⟩ q hq
                exact ⟨⟨h1 q hq, (h2 q hq).1⟩, (h2 q hq).2⟩
              · intro h
                exact ⟨fun q hq => (h q hq).1.1, fun q hq => ⟨(h q hq).1.2, (h q hq).2⟩⟩
            rw [e9]
        obtain ⟨x15, rfl⟩ := h
        generalize sameB P n P[n] m = gb at *
        refine wp_cut0 (R := fun ρ => ∃ (x13 x14 x15 x16 : Option D), ρ = [some (intsD ns), some (.tuple (P.map pD)), x2, x3, some (.int P[n].a), some (.int P[n].b), some (.int P[n].c), some (.int P[n].d), x8, some (.int n), some (.tuple (L.map pD)), some (Enc.e (F ++ (C ++ if gb = true then [(x, y)] else []))), some (.int x), x13, x14, x15, x16, x17, x18, x19, none, none, none, none, none]) ?_ fun ρ1 h => h
        refine wp_if gb (by simp) ?_
        cases gb with
        | false => exact ⟨some (.int y), some (pD m), x15, some (.bool false), by simp⟩
        | true =>
          have hFC : F.length + C.length < big := by unfold big; omega
          have e7 : (Enc.e (F ++ C) : D) = .list ((F ++ C).map Enc.e) := rfl
          simp [appS, e7, hFC]
          show PyData.list _ = PyData.list ((F ++ (C ++ [(x, y)])).map Enc.e)
          rw [List.map_append, List.map_append]
          rfl
      · obtain ⟨x13, x14, x15, x16, rfl⟩ := hJ
        have : 0 + (iv (0 - P[n].b) (21 - P[n].d - (0 - P[n].b)).toNat).length = (21 - P[n].d - (0 - P[n].b)).toNat := by unfold iv; simp
        rw [this]
        exact ⟨_, _, _, _, _, _, _, _, _, _, _, rfl⟩
    · have : 0 + (iv (0 - P[n].a) (21 - P[n].c - (0 - P[n].a)).toNat).length = (21 - P[n].c - (0 - P[n].a)).toNat := by unfold iv; simp
      rw [this] at hI
      exact hI
  obtain ⟨x2, x3, x8, x12, x13, x14, x15, x16, x17, x18, x19, rfl⟩ := h
  have hsame : rws (sameB P n P[n]) P[n] (21 - P[n].c - (0 - P[n].a)).toNat = rws (goodB P n) P[n] (21 - P[n].c - (0 - P[n].a)).toNat := rws_congr fun x hx y hy => by
    have h1 := iv_mem hx
    have h2 := iv_mem hy
    rw [good_same hP hn]
    rw [okP_iff]
    unfold mv
    dsimp only
    omega
  rw [hsame]
  have h11 := w11 hP hn
  have e0 := neD_e (by decide) (rws (goodB P n) P[n] (21 - P[n].c - (0 - P[n].a)).toNat) (rws (goodB P n) P[n] (21 - P[n].c - (0 - P[n].a)).toNat)
  generalize rws (goodB P n) P[n] (21 - P[n].c - (0 - P[n].a)).toNat = F at *
  simp [e11, h11, e0]
  exact ⟨_, _, _, _, _, _, _, _, _, _, _, _, _, _, _, _, _, _, rfl⟩
end K21
namespace K21
open PySem PySem.Spec Den
theorem law3 {ns : List Int} (hlen : ns.length ≤ 63) {P : List Pan} (hP : okPage P = true) {ρ : Ro} (h : LK ns P ρ) : Wp (Ss.den (tbl ds23) s23q ρ) fun p => match p with | (.rt d, _) => d = .bool true | (.nx, _) => PyData.none = .bool true | _ => False := by
  have e19 : tbl ds23 19 = d19 := rfl
  have e20 : tbl ds23 20 = d20 := rfl
  have e21 : tbl ds23 21 = d21 := rfl
  obtain ⟨x2, x3, x8, x4, x5, x6, x7, x9, x10, x11, x12, x13, x14, x15, x16, x17, x18, x19, rfl⟩ := h
  obtain ⟨b, hb1, hb2⟩ := v17 ns hlen 3
  obtain ⟨v, hv1, hv2⟩ := v18 ns hlen 4 P.length
  have hb1' : d19 [intsD ns, .int 3] = .ok b := hb1
  have hv1' : d20 [intsD ns, .int 4, .int P.length] = .ok v := hv1
  unfold s23q
  refine wp_cons (R := fun ρ => ρ = [some (intsD ns), some (.tuple (P.map pD)), x2, x3, x4, x5, x6, x7, x8, x9, x10, x11, x12, x13, x14, x15, x16, some b, some v, x19, none, none, none, none, none]) ?_ fun ρ1 h => ?_
  · simp [e19, e20, hb1', hv1']
  subst h
  refine wp_cons (R := fun ρ => ρ = [some (intsD ns), some (.tuple (P.map pD)), x2, x3, x4, x5, x6, x7, x8, x9, x10, x11, x12, x13, x14, x15, x16, some b, some v, some (.list [.int 0, .int 0, .int 0]), none, none, none, none, none]) ?_ fun ρ1 h => ?_
  · have k1 := w21_0 (a := .int 0) hb2
    have k2 := w21_1 (a := .int 0) hb2
    have k3 := w21_2 (by decide) (w10x (w := b) hb2)
    simp [e21, k1, k2, k3]
  subst h
  refine wp_cons (R := fun ρ => ρ = [some (intsD ns), some (.tuple (P.map pD)), x2, x3, x4, x5, x6, x7, x8, x9, x10, x11, x12, x13, x14, x15, x16, some b, some v, some (.list [.int 0, .int 0, .int 0, .int 0, .int 0]), none, none, none, none, none]) ?_ fun ρ1 h => ?_
  · have k1 := w21_2 (by decide) (w10y hP hb2)
    have k2 := w21_3 (by decide) (w11x (w := v) hb2)
    have hb5 : 5 ≤ big := by decide
    simp [e21, k1, k2, hb5]
  subst h
  have k1 := w21_3 (by decide) (w11y hP hv2)
  have e7 : eqD (.list [.int 0, .int 0, .int 0, .int 0, .int 0, .int 1]) (.list [.int 0, .int 0, .int 0, .int 0, .int 0, .int 1]) = .ok (.bool true) := eqD_e (α := List Int) (by decide) [0, 0, 0, 0, 0, 1] [0, 0, 0, 0, 0, 1]
  have hb6 : 6 ≤ big := by decide
  simp [e21, k1, e7, hb6, List.replicate]
theorem math (ns : List Int) (h : ns.length ≤ 63) : dLaw [.list (ns.map PyData.int)] = .ok (.bool true) :=
  Wp.eq (law1 h fun P ρ ok hρ => wp_cons (R := LK ns P) ((law2 h ok hρ).imp fun p hp => by
    obtain ⟨fl, ρ'⟩ := p
    cases fl with
    | nx => exact hp
    | rt d => exact hp.elim
    | bk => exact hp.elim
    | ct => exact hp.elim) fun ρ1 h1 => (law3 h ok h1).imp fun p hp => by
    obtain ⟨fl, ρ'⟩ := p
    exact hp)
end K21
namespace K21
open PySem PySem.Spec PyProof.Rows L2 Den
theorem run (w : World) : HandSHeadRun.RunEq R (PySem.W.view R.prog [place]) hk ob 2000 loose w := by
  intro os
  kernel_rfl
end K21
open PySem PySem.W PySem.Calls PyProof.Rows
theorem PySem.Challenge.cw_panelorder_k21_alike_holds : PySem.Challenge.rw_panelorder_k21_alike.Holds := by
  w_on; o_law
  refine HandSHeadRun.head_any (r := OpenLaw.row PySem.Challenge.rw_panelorder_k21_alike) (q := view (OpenLaw.row PySem.Challenge.rw_panelorder_k21_alike).prog [K21.place]) (H := K21.hk) (ob := K21.ob) (M := 2000) (loose := K21.loose) (d := HandSHeadRun.topDef (OpenLaw.row PySem.Challenge.rw_panelorder_k21_alike).prog K21.place) (kwd := []) K21.ob_eq
    (by kernel_rfl) (fun s => by kernel_rfl) K21.run (by kernel_rfl) (by kernel_rfl) (by kernel_rfl) (by rfl) (by first | assumption | decide +kernel) (by decide +kernel) ⟨rfl, rfl, rfl, rfl, rfl, by decide +kernel⟩ ?hw ?hc
  case hw => w_witness2
  case hc =>
    refine Den.walk_ofQ (l := PySem.Challenge.rw_panelorder_k21_alike) (n := 63) (k := K21.K0) (x := "_law_script") (CX := fun w => L2.CX (PySem.Challenge.rw_panelorder_k21_alike).prog w) rfl (by decide) (by kernel_rfl) ⟨rfl, by decide, by decide⟩ ?F (fun w H s e s' h => Den.cx_no H s e s' h)
    intro w mg fa h Y G hmg0
    obtain ⟨K, KX, c, cx⟩ := Y
    have hmg : mg ("law" : PySem.Str) = some (.ref fa) := by
      have e : (HandSHeadRun.topDef (OpenLaw.row PySem.Challenge.rw_panelorder_k21_alike).prog K21.place).name = ("law" : PySem.Str) := by kernel_rfl
      rw [← e]
      exact hmg0
    have M := Den.mods_of KX G c cx rfl
    obtain ⟨fd, F⟩ := c.def_ 23 (d := K21.D23) rfl
    have e := hmg.symm.trans (He.glo_ok KX G (c.fact 23 (f := .glo "law") rfl))
    cases e
    have b := L2.FunD.bindsA (ps := ["_law_script"]) F fun _ _ _ _ _ _ us hl => match us, hl with | [_], _ => rfl
    refine ⟨K, fd, Den.spD K (Den.clE K K21.exs) 1 K21.dLaw, KX, fun s v => b s [v] rfl, fun H a ns hl hb hS => Den.law_pre (K21.math ns hl) hS, fun base _ _ => ?_⟩
    exact Den.def_ok (S := K21.g23) F K21.sc23 K21.py23 K21.ok23 rfl rfl rfl rfl M (K21.all23 KX G c M).at_
