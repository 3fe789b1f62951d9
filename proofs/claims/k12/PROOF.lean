import PyProof.Rows.All
import Wide.All
import OpenK.AllK
import Wide.FinOn
import HandS.ForMost
import HandS.Flow
import HandS.IsInst
import HandS.Defaults
import HandS.DictComp
import HandS.Zip
import HandS.Walk
import HandS.Deep
import HandS.TupAny
import HandS.Wide
import HandS.Style
import HandS.Text
import HandS.Replace
import HandS.FStr
import HandS.Codes
import PySem.Challenge.RW_piercednames_k12_tokens_of_lines
set_option Elab.async false
set_option linter.all false
set_option maxRecDepth 100000
set_option autoImplicit false
set_option pp.maxSteps 500
set_option maxHeartbeats 8000000
/-! DI: plain data over the hand layer: every reading lifted to a transformer over data, without the heap. -/
namespace DI
open PySem L2

/-- plain data -/
inductive D where
  | non | bl (b : Bool) | int (i : Int) | str (x : Str)
  | lst (xs : List D) | tup (xs : List D)
  | dK (kvs : List (Key × D)) | dT (kvs : List (List Key × D))
  | wtup (xs : List D)
  | bag

abbrev Bg := Option (Addr × Addr)

mutual
/-- the value v stands for the data d, by what P protects -/
inductive Dp (K : PySem.W.Frag) (B : Bg) (P : Hp) : V → D → Prop
  | non : Dp K B P .non .non
  | bl (b : Bool) : Dp K B P (.bl b) (.bl b)
  | int (i : Int) : Dp K B P (.int i) (.int i)
  | str (x : Str) : Dp K B P (.str x) (.str x)
  | lst {a : Addr} {xs : List V} {ds : List D} : P a = some (.lst xs) → DpA K B P xs ds → Dp K B P (.ref a) (.lst ds)
  | tup {a : Addr} {xs : List V} {ds : List D} : P a = some (.tup xs) → DpA K B P xs ds → Dp K B P (.ref a) (.tup ds)
  | wtup {a : Addr} {xs : List V} {ds : List D} : SqT K (fun _ => none) a xs → DpA K B P xs ds → Dp K B P (.ref a) (.wtup ds)
  | dK {a : Addr} {kvs : List (Key × V)} {kds : List (Key × D)} : P a = some (.dK kvs) → kvs.map (·.1) = kds.map (·.1) → DpA K B P (kvs.map (·.2)) (kds.map (·.2)) → Dp K B P (.ref a) (.dK kds)
  | dT {a : Addr} {kvs : List (List Key × V)} {kds : List (List Key × D)} : P a = some (.dT kvs) → kvs.map (·.1) = kds.map (·.1) → DpA K B P (kvs.map (·.2)) (kds.map (·.2)) → Dp K B P (.ref a) (.dT kds)
  | bag {b c : Addr} : B = some (b, c) → Dp K B P (.ref b) .bag
inductive DpA (K : PySem.W.Frag) (B : Bg) (P : Hp) : List V → List D → Prop
  | nil : DpA K B P [] []
  | cons {v : V} {vs : List V} {d : D} {ds : List D} : Dp K B P v d → DpA K B P vs ds → DpA K B P (v :: vs) (d :: ds)
end

theorem same_rd {H H' : Hp} {a : Addr} {u : HO} (e : Same H H') (h : Rd H a u) : Rd H' a u := by
  rcases h with h | ⟨o, h⟩
  · exact Or.inl (e a _ h)
  · exact Or.inr ⟨o, e a _ h⟩
theorem same_t {K : PySem.W.Frag} {H H' : Hp} {a : Addr} {xs : List V} (e : Same H H') (h : SqT K H a xs) : SqT K H' a xs := by
  rcases h with h | h
  · exact Or.inl (same_rd e h)
  · exact Or.inr h
theorem same_new {H : Hp} {p : Addr} {o : HO} (h : H p = none) : Same H (upd H p o) := fun a u e => by
  rw [upd_ne (ne_of_none e h)]
  exact e

mutual
theorem Dp.mono {K : PySem.W.Frag} {B : Bg} {P P' : Hp} (e : Same P P') : ∀ {v : V} {d : D}, Dp K B P v d → Dp K B P' v d
  | _, _, .non => .non
  | _, _, .bl b => .bl b
  | _, _, .int i => .int i
  | _, _, .str x => .str x
  | _, _, .lst h a => .lst (e _ _ h) (DpA.mono e a)
  | _, _, .tup h a => .tup (e _ _ h) (DpA.mono e a)
  | _, _, .wtup h a => .wtup h (DpA.mono e a)
  | _, _, .dK h k a => .dK (e _ _ h) k (DpA.mono e a)
  | _, _, .dT h k a => .dT (e _ _ h) k (DpA.mono e a)
  | _, _, .bag h => .bag h
theorem DpA.mono {K : PySem.W.Frag} {B : Bg} {P P' : Hp} (e : Same P P') : ∀ {vs : List V} {ds : List D}, DpA K B P vs ds → DpA K B P' vs ds
  | _, _, .nil => .nil
  | _, _, .cons h t => .cons (Dp.mono e h) (DpA.mono e t)
end

section
variable {K : PySem.W.Frag} {B : Bg} {P : Hp}
theorem DpA.length : ∀ {vs : List V} {ds : List D}, DpA K B P vs ds → vs.length = ds.length
  | _, _, .nil => rfl
  | _, _, .cons _ t => by rw [List.length_cons, List.length_cons, DpA.length t]
theorem DpA.append : ∀ {vs ws : List V} {ds es : List D}, DpA K B P vs ds → DpA K B P ws es → DpA K B P (vs ++ ws) (ds ++ es)
  | _, _, _, _, .nil, s => s
  | _, _, _, _, .cons h t, s => .cons h (DpA.append t s)
theorem DpA.one {v : V} {d : D} (h : Dp K B P v d) : DpA K B P [v] [d] := .cons h .nil
theorem DpA.get : ∀ {vs : List V} {ds : List D} {i : Nat} {d : D}, DpA K B P vs ds → ds[i]? = some d → ∃ v, vs[i]? = some v ∧ Dp K B P v d
  | _, _, _, _, .nil, e => by simp at e
  | _, _, 0, _, .cons h _, e => by simp at e; subst e; exact ⟨_, rfl, h⟩
  | _, _, i + 1, d, .cons _ t, e => by
    obtain ⟨v, h1, h2⟩ := DpA.get (i := i) (d := d) t (by simpa using e)
    exact ⟨v, by simpa using h1, h2⟩
theorem DpA.get' : ∀ {vs : List V} {ds : List D} {i : Nat} {v : V}, DpA K B P vs ds → vs[i]? = some v → ∃ d, ds[i]? = some d ∧ Dp K B P v d
  | _, _, _, _, .nil, e => by simp at e
  | _, _, 0, _, .cons h _, e => by simp at e; subst e; exact ⟨_, rfl, h⟩
  | _, _, i + 1, v, .cons _ t, e => by
    obtain ⟨d, h1, h2⟩ := DpA.get' (i := i) (v := v) t (by simpa using e)
    exact ⟨d, by simpa using h1, h2⟩
theorem DpA.take : ∀ {vs : List V} {ds : List D} (n : Nat), DpA K B P vs ds → DpA K B P (vs.take n) (ds.take n)
  | _, _, 0, _ => .nil
  | _, _, _ + 1, .nil => .nil
  | _, _, n + 1, .cons h t => .cons h (DpA.take n t)
theorem DpA.drop : ∀ {vs : List V} {ds : List D} (n : Nat), DpA K B P vs ds → DpA K B P (vs.drop n) (ds.drop n)
  | _, _, 0, h => h
  | _, _, _ + 1, .nil => .nil
  | _, _, n + 1, .cons _ t => DpA.drop n t
theorem DpA.set {v : V} {d : D} (h : Dp K B P v d) : ∀ {vs : List V} {ds : List D} (i : Nat), DpA K B P vs ds → DpA K B P (vs.set i v) (ds.set i d)
  | _, _, _, .nil => .nil
  | _, _, 0, .cons _ t => .cons h t
  | _, _, i + 1, .cons q t => .cons q (DpA.set h i t)
end

/-! ### the bag of the laws: the only thing that calls may change -/
def BagOk (B : Bg) (P H : Hp) : Prop := ∀ b c, B = some (b, c) → P b = none ∧ ∃ (cells : List Int) (t r m n : Int), P c = some (.lst (cells.map V.int)) ∧
  H b = some (.lst [.ref c, .int t, .int r, .int m, .int n]) ∧ 0 ≤ t ∧ 0 ≤ r ∧ 0 ≤ m ∧ m < 2147483629

/-- from (P, H) to (P', H'): all is kept but the bag -/
structure Gr (B : Bg) (P H P' H' : Hp) : Prop where
  ex : Same P' H'
  pp : Same P P'
  hh : ∀ a o, H a = some o → (∀ b c, B = some (b, c) → a ≠ b) → H' a = some o
  off : ∀ a, H a ≠ none → P a = none → P' a = none
  bag : BagOk B P' H'

theorem Gr.refl {B : Bg} {P H : Hp} (e : Same P H) (b : BagOk B P H) : Gr B P H P H := ⟨e, Same.refl _, fun _ _ h _ => h, fun _ _ h => h, b⟩
theorem Gr.kept {B : Bg} {P H P' H' : Hp} (g : Gr B P H P' H') (b0 : BagOk B P H) {a : Addr} (h : H a ≠ none) : H' a ≠ none := by
  intro z
  cases e : H a with
  | none => exact h e
  | some o =>
    by_cases hb : ∃ b c, B = some (b, c) ∧ a = b
    · obtain ⟨b, c, e1, rfl⟩ := hb
      obtain ⟨_, _, _, _, _, _, _, q, _⟩ := g.bag _ _ e1
      rw [q] at z
      cases z
    · rw [g.hh a o e fun b c e1 e2 => hb ⟨b, c, e1, e2⟩] at z
      cases z
theorem Gr.fresh {B : Bg} {P H P' H' : Hp} (g : Gr B P H P' H') (b0 : BagOk B P H) {a : Addr} (h : H' a = none) : H a = none := by
  cases e : H a with
  | none => rfl
  | some o => exact absurd h (g.kept b0 (by rw [e]; exact Option.some_ne_none _))
theorem Gr.trans {B : Bg} {P H P1 H1 P2 H2 : Hp} (b0 : BagOk B P H) (g : Gr B P H P1 H1) (k : Gr B P1 H1 P2 H2) : Gr B P H P2 H2 :=
  ⟨k.ex, g.pp.trans k.pp, fun a o h n => k.hh a o (g.hh a o h n) n, fun a h z => k.off a (g.kept b0 h) (g.off a h z), k.bag⟩

/-- a new thing, protected at once -/
theorem Gr.new {B : Bg} {P H : Hp} {p : Addr} {o : HO} (e : Same P H) (b : BagOk B P H) (hp : H p = none) : Gr B P H (upd P p o) (upd H p o) := by
  have hP : P p = none := e.free hp
  refine ⟨fun a u h => ?_, same_new hP, fun a u h _ => ?_, fun a h z => ?_, fun b' c' e1 => ?_⟩
  · by_cases ha : a = p
    · subst ha; rw [upd_same] at h ⊢; exact h
    · rw [upd_ne ha] at h ⊢; exact e _ _ h
  · rw [upd_ne (ne_of_none h hp)]; exact h
  · by_cases ha : a = p
    · subst ha; exact absurd hp h
    · rw [upd_ne ha]; exact z
  · obtain ⟨h1, cells, t, r, m, n, h2, h3, h4⟩ := b _ _ e1
    have nb : b' ≠ p := ne_of_none h3 hp
    refine ⟨by rw [upd_ne nb]; exact h1, cells, t, r, m, n, ?_, by rw [upd_ne nb]; exact h3, h4⟩
    rw [upd_ne (ne_of_none (e _ _ h2) hp)]
    exact h2
/-- a new thing, not protected -/
theorem Gr.loose {B : Bg} {P H : Hp} {p : Addr} {o : HO} (e : Same P H) (b : BagOk B P H) (hp : H p = none) : Gr B P H P (upd H p o) := by
  refine ⟨e.trans (same_new hp), Same.refl _, fun a u h _ => ?_, fun a h z => z, fun b' c' e1 => ?_⟩
  · rw [upd_ne (ne_of_none h hp)]; exact h
  · obtain ⟨h1, cells, t, r, m, n, h2, h3, h4⟩ := b _ _ e1
    refine ⟨h1, cells, t, r, m, n, h2, by rw [upd_ne (ne_of_none h3 hp)]; exact h3, h4⟩

/-! ### what an expression gives: a value, or a new list that nobody else knows -/
inductive Rz where
  | val (d : D) | new (ds : List D)
@[reducible] def Rz.d : Rz → D
  | .val d => d
  | .new ds => .lst ds
def RzOk (K : PySem.W.Frag) (B : Bg) (P' H' H : Hp) : Rz → V → Prop
  | .val d, v => Dp K B P' v d
  | .new ds, v => ∃ l vs, v = .ref l ∧ P' l = none ∧ H l = none ∧ H' l = some (.lst vs) ∧ DpA K B P' vs ds

theorem RzOk.frz {K : PySem.W.Frag} {B : Bg} {P H P1 H1 : Hp} {r : Rz} {v : V} (b0 : BagOk B P H) (g : Gr B P H P1 H1) (z : RzOk K B P1 H1 H r v) : ∃ P2, Gr B P H P2 H1 ∧ Dp K B P2 v r.d := by
  cases r with
  | val d => exact ⟨P1, g, z⟩
  | new ds =>
    obtain ⟨l, vs, rfl, h1, h2, h3, h4⟩ := z
    have s1 : Same P1 (upd P1 l (.lst vs)) := same_new h1
    refine ⟨upd P1 l (.lst vs), ⟨fun a u h => ?_, g.pp.trans s1, g.hh, fun a h z => ?_, fun b' c' e1 => ?_⟩, ?_⟩
    · by_cases ha : a = l
      · subst ha; rw [upd_same] at h; rw [← h]; exact h3
      · rw [upd_ne ha] at h; exact g.ex _ _ h
    · by_cases ha : a = l
      · subst ha; exact absurd h2 h
      · rw [upd_ne ha]; exact g.off a h z
    · obtain ⟨_, _, _, _, _, _, _, h8, _⟩ := b0 _ _ e1
      obtain ⟨q1, cells, t, r, m, n, q2, q3, q4⟩ := g.bag _ _ e1
      have nb : b' ≠ l := ne_of_none h8 h2
      exact ⟨by rw [upd_ne nb]; exact q1, cells, t, r, m, n, s1 _ _ q2, q3, q4⟩
    · exact .lst upd_same (h4.mono s1)

/-! ### slots -/
inductive Sl where
  | no | val (d : D) | own (ds : List D)
abbrev DEnv := List Sl
def Sl.frz : Sl → Sl
  | .own ds => .val (.lst ds)
  | s => s
def DEnv.frz (δ : DEnv) : DEnv := δ.map Sl.frz

structure Rep (K : PySem.W.Frag) (B : Bg) (P H : Hp) (σ : L2.St) (δ : DEnv) : Prop where
  ex : Same P H
  bag : BagOk B P H
  val : ∀ (i : Nat) (d : D), δ[i]? = some (Sl.val d) → ∃ v, σ[i]? = some (some v) ∧ Dp K B P v d
  own : ∀ (i : Nat) (ds : List D), δ[i]? = some (Sl.own ds) → ∃ l vs, σ[i]? = some (some (V.ref l)) ∧ P l = none ∧ (∀ b c, B = some (b, c) → l ≠ b) ∧ H l = some (.lst vs) ∧ DpA K B P vs ds
  sep : ∀ (i j : Nat) (ds es : List D) (l : Addr), δ[i]? = some (Sl.own ds) → δ[j]? = some (Sl.own es) → σ[i]? = some (some (V.ref l)) → σ[j]? = some (some (V.ref l)) → i = j
  len : σ.length = δ.length

theorem Rep.mono {K : PySem.W.Frag} {B : Bg} {P H P' H' : Hp} {σ : L2.St} {δ : DEnv} (R : Rep K B P H σ δ) (g : Gr B P H P' H') : Rep K B P' H' σ δ := by
  refine ⟨g.ex, g.bag, fun i d h => ?_, fun i ds h => ?_, R.sep, R.len⟩
  · obtain ⟨v, h1, h2⟩ := R.val i d h
    exact ⟨v, h1, h2.mono g.pp⟩
  · obtain ⟨l, vs, h1, h2, h3, h4, h5⟩ := R.own i ds h
    exact ⟨l, vs, h1, g.off l (by rw [h4]; exact Option.some_ne_none _) h2, h3, g.hh l _ h4 h3, h5.mono g.pp⟩

abbrev EV := DEnv → (Rz → Prop) → Prop
abbrev TV := DEnv → (Bool → Prop) → Prop
abbrev AV := DEnv → (List D → Prop) → Prop

def lift (K : PySem.W.Frag) (f : EV) : TE := fun σ H Q => ∃ B P δ Qd, Rep K B P H σ δ ∧ f δ Qd ∧ ∀ r v P' H', Qd r → Gr B P H P' H' → RzOk K B P' H' H r v → Q v H'
def liftT (K : PySem.W.Frag) (f : TV) : TT := fun σ H Q => ∃ B P δ Qd, Rep K B P H σ δ ∧ f δ Qd ∧ ∀ b P' H', Qd b → Gr B P H P' H' → Q b H'
def liftA (K : PySem.W.Frag) (f : AV) : TA := fun σ H Q => ∃ B P δ Qd, Rep K B P H σ δ ∧ f δ Qd ∧ ∀ ds vs P' H', Qd ds → Gr B P H P' H' → DpA K B P' vs ds → Q vs H'

section
variable {K : PySem.W.Frag} {B : Bg} {P H : Hp} {σ : L2.St} {δ : DEnv}
/-- the value frozen -/
theorem lift_d {f : EV} {Q : VK} (R : Rep K B P H σ δ) (Qd : D → Prop) (h : f δ fun r => Qd r.d) (k : ∀ d v P' H', Qd d → Gr B P H P' H' → Dp K B P' v d → Q v H') : lift K f σ H Q :=
  ⟨B, P, δ, _, R, h, fun r v P' H' q g z => by
    obtain ⟨P2, g2, z2⟩ := z.frz R.bag g
    exact k _ v P2 H' q g2 z2⟩
/-- the whole heap but the bag as what is protected -/
def tot (B : Bg) (H : Hp) : Hp := fun a => match B with
  | some (b, _) => if a = b then none else H a
  | none => H a
theorem tot_some {a : Addr} {o : HO} (h : tot B H a = some o) : H a = some o := by
  unfold tot at h
  cases B with
  | none => exact h
  | some bc =>
    obtain ⟨b, c⟩ := bc
    dsimp only at h
    by_cases e : a = b
    · rw [if_pos e] at h; cases h
    · rw [if_neg e] at h; exact h
theorem tot_of {a : Addr} {o : HO} (h : H a = some o) (n : ∀ b c, B = some (b, c) → a ≠ b) : tot B H a = some o := by
  unfold tot
  cases B with
  | none => exact h
  | some bc =>
    obtain ⟨b, c⟩ := bc
    dsimp only
    rw [if_neg (n b c rfl)]
    exact h
theorem tot_bag {b c : Addr} (e : B = some (b, c)) : tot B H b = none := by
  unfold tot
  subst e
  dsimp only
  rw [if_pos rfl]
theorem Rep.tot (R : Rep K B P H σ δ) : Rep K B (tot B H) H σ (DEnv.frz δ) := by
  have pt : Same P (DI.tot B H) := fun a o h => tot_of (R.ex _ _ h) fun b c e1 e2 => by
    subst e2
    rw [(R.bag _ _ e1).1] at h
    cases h
  have fz : ∀ (i : Nat) (s : Sl), (DEnv.frz δ)[i]? = some s → ∃ s0 : Sl, δ[i]? = some s0 ∧ s0.frz = s := fun i s h => by
    unfold DEnv.frz at h
    rw [List.getElem?_map] at h
    cases e : δ[i]? with
    | none => rw [e] at h; cases h
    | some s0 => rw [e] at h; exact ⟨s0, rfl, Option.some.inj h⟩
  refine ⟨fun a o h => tot_some h, fun b c e1 => ?_, fun i d h => ?_, fun i ds h => ?_, fun i j ds es l h => ?_, ?_⟩
  · obtain ⟨h1, cells, t, r, m, n, h2, h3, h4⟩ := R.bag _ _ e1
    exact ⟨tot_bag e1, cells, t, r, m, n, pt _ _ h2, h3, h4⟩
  · obtain ⟨s0, h1, h2⟩ := fz i _ h
    cases s0 with
    | no => cases h2
    | val d0 =>
      cases h2
      obtain ⟨v, h3, h4⟩ := R.val i d h1
      exact ⟨v, h3, h4.mono pt⟩
    | own ds =>
      cases h2
      obtain ⟨l, vs, h3, h4, h5, h6, h7⟩ := R.own i ds h1
      exact ⟨.ref l, h3, .lst (tot_of h6 h5) (h7.mono pt)⟩
  · obtain ⟨s0, h1, h2⟩ := fz i _ h
    cases s0 <;> cases h2
  · obtain ⟨s0, h1, h2⟩ := fz i _ h
    cases s0 <;> cases h2
  · unfold DEnv.frz
    rw [List.length_map]
    exact R.len
theorem Gr.drop {P' H' : Hp} (R : Rep K B P H σ δ) (g : Gr B (tot B H) H P' H') : Gr B P H P H' := by
  have pt : Same P (tot B H) := fun a o h => tot_of (R.ex _ _ h) fun b c e1 e2 => by
    subst e2
    rw [(R.bag _ _ e1).1] at h
    cases h
  refine ⟨fun a o h => g.ex _ _ (g.pp _ _ (pt _ _ h)), Same.refl _, g.hh, fun a _ z => z, fun b c e1 => ?_⟩
  obtain ⟨h1, cells, t, r, m, n, h2, h3, h4⟩ := R.bag _ _ e1
  obtain ⟨_, cells', t', r', m', n', q2, q3, q4⟩ := g.bag _ _ e1
  exact ⟨h1, cells, t', r', m', n', h2, q3, q4⟩
end

def D.scal : D → Bool
  | .non | .bl _ | .int _ | .str _ => true
  | _ => false
theorem Dp.scal {K K' : PySem.W.Frag} {B B' : Bg} {P P' : Hp} {v : V} {d : D} (h : Dp K B P v d) (e : d.scal = true) : Dp K' B' P' v d := by
  cases h with
  | non => exact .non
  | bl b => exact .bl b
  | int i => exact .int i
  | str x => exact .str x
  | _ => cases e

/-! ### the judgements -/
structure QE (X : Cx) (e : Expr) (f : EV) : Prop where
  pe : PE X e (lift X.K f)
structure QT (X : Cx) (e : Expr) (f : TV) : Prop where
  pt : PT X e (liftT X.K f)
structure QA (X : Cx) (es : List Expr) (f : AV) : Prop where
  pa : PA X es (liftA X.K f)

theorem pe_imp {X : Cx} {e : Expr} {t t' : TE} (h : PE X e t) (i : ∀ σ H Q, t' σ H Q → t σ H Q) : PE X e t' := ⟨fun pins s σ H Q I q => h.run pins s σ H Q I (i σ H Q q)⟩
theorem pt_imp {X : Cx} {e : Expr} {t t' : TT} (h : PT X e t) (i : ∀ σ H Q, t' σ H Q → t σ H Q) : PT X e t' := ⟨fun pins s σ H Q I q => h.run pins s σ H Q I (i σ H Q q)⟩
theorem pa_imp {X : Cx} {e : List Expr} {t t' : TA} (h : PA X e t) (i : ∀ σ H Q, t' σ H Q → t σ H Q) : PA X e t' := ⟨fun pos pins s σ H Q I q => h.run pos pins s σ H Q I (i σ H Q q)⟩
theorem ps_imp {X : Cx} {e : Stmt} {t t' : TS} (h : PS X e t) (i : ∀ D σ H, t' D σ H → t D σ H) : PS X e t' := ⟨fun pins s σ H D I q => h.run pins s σ H D I (i D σ H q)⟩
theorem pss_imp {X : Cx} {e : List Stmt} {t t' : TS} (h : PSs X e t) (i : ∀ D σ H, t' D σ H → t D σ H) : PSs X e t' := ⟨fun pins s σ H D I q => h.run pins s σ H D I (i D σ H q)⟩

end DI

namespace DI
open PySem L2

section
variable {X : Cx} {e a b : Expr} {es : List Expr} {fa fb f g : EV} {fr : AV} {pos : Pos}

/-! ### constants, names -/
def eC (d : D) : EV := fun _ Q => Q (.val d)
theorem qe_of {t : TE} (h : PE X e t) (i : ∀ B P H σ δ (Qd : Rz → Prop) (Q : VK), Rep X.K B P H σ δ → f δ Qd → (∀ r v P' H', Qd r → Gr B P H P' H' → RzOk X.K B P' H' H r v → Q v H') → t σ H Q) : QE X e f :=
  ⟨pe_imp h fun σ H Q ⟨B, P, δ, Qd, R, hf, k⟩ => i B P H σ δ Qd Q R hf k⟩
theorem q_int {i : Int} {j : Nat} : QE X (.Constant (.int i) j pos) (eC (.int i)) := qe_of pe_int fun B P H σ δ Qd Q R h k => k _ (.int i) P H h (.refl R.ex R.bag) (.int i)
theorem q_bl {i : Bool} {j : Nat} : QE X (.Constant (.bool i) j pos) (eC (.bl i)) := qe_of pe_bl fun B P H σ δ Qd Q R h k => k _ (.bl i) P H h (.refl R.ex R.bag) (.bl i)
theorem q_non {j : Nat} : QE X (.Constant .none j pos) (eC .non) := qe_of pe_non fun B P H σ δ Qd Q R h k => k _ .non P H h (.refl R.ex R.bag) .non
theorem q_str {i : Str} {j : Nat} : QE X (.Constant (.str i) j pos) (eC (.str i)) := qe_of pe_str fun B P H σ δ Qd Q R h k => k _ (.str i) P H h (.refl R.ex R.bag) (.str i)

def eV (i : Nat) : EV := fun δ Q => match δ[i]? with
  | some (.val d) => Q (.val d)
  | _ => False
theorem q_var (i : Nat) {x : Str} (hN : X.N[i]? = some x := by rfl) (hv : Vis X.env.scope x := by first | exact Or.inl rfl | exact Or.inr (Or.inl rfl) | exact Or.inr (Or.inr rfl)) (hd : (x == ("__debug__" : Str)) = false := by decide)
    (hcd : (x == ("__classdict__" : Str)) = false := by decide) : QE X (.Name x pos) (eV i) := qe_of (pe_var hN hv hd hcd) fun B P H σ δ Qd Q R h k => by
  unfold eV at h
  cases e : δ[i]? with
  | none => rw [e] at h; exact h.elim
  | some s =>
    rw [e] at h
    cases s with
    | no => exact h.elim
    | own ds => exact h.elim
    | val d =>
      obtain ⟨v, h1, h2⟩ := R.val i d e
      exact ⟨v, h1, k _ v P H h (.refl R.ex R.bag) h2⟩
/-- a constant of the module -/
theorem q_glob {x : Str} {v : V} {u : Value} {d : D} (hm : X.mg x = some u) (r : RelV v u) (hd : Dp X.K none (fun _ => none) v d) (nb : ∀ B P, Dp X.K B P v d) (hg : Gl X x := by rfl) (hdb : (x == ("__debug__" : Str)) = false := by decide) : QE X (.Name x pos) (eC d) :=
  qe_of (pe_glob hg hm r hdb) fun B P H σ δ Qd Q R h k => k _ v P H h (.refl R.ex R.bag) (nb B P)

/-! ### transient: the result is a scalar, all lists may be read -/
def eTr (f : EV) : EV := fun δ Q => f (DEnv.frz δ) fun r => r.d.scal = true ∧ Q (.val r.d)
theorem q_tr (h : QE X e f) : QE X e (eTr f) := qe_of h.pe fun B P H σ δ Qd Q R hf k =>
  lift_d R.tot (fun d => d.scal = true ∧ Qd (.val d)) hf fun d v P' H' ⟨q1, q2⟩ gr z => k _ v P H' q2 (Gr.drop R gr) (z.scal q1)

/-! ### two-place operations -/
def eOp (g : D → D → (Rz → Prop) → Prop) (fa fb : EV) : EV := fun δ Q => fa δ fun x => fb δ fun y => g x.d y.d Q
/-- an operation over data -/
def OpL (X : Cx) (f : Value → Value → Sem Value) (g : D → D → (Rz → Prop) → Prop) : Prop :=
  ∃ r : R2, OpR X f r ∧ ∀ B P H x y dx dy (Qd : Rz → Prop) (Q : VK), Same P H → BagOk B P H → Dp X.K B P x dx → Dp X.K B P y dy → g dx dy Qd →
    (∀ rz v P' H', Qd rz → Gr B P H P' H' → RzOk X.K B P' H' H rz v → Q v H') → r x y H Q
theorem RzOk.back {K : PySem.W.Frag} {B : Bg} {P H P1 H1 P' H' : Hp} {r : Rz} {v : V} (b0 : BagOk B P H) (g : Gr B P H P1 H1) (z : RzOk K B P' H' H1 r v) : RzOk K B P' H' H r v := by
  cases r with
  | val d => exact z
  | new ds =>
    obtain ⟨l, vs, h1, h2, h3, h4⟩ := z
    exact ⟨l, vs, h1, h2, g.fresh b0 h3, h4⟩
theorem op_run {fn : Value → Value → Sem Value} {go : D → D → (Rz → Prop) → Prop} {ta tb : EV} {K : PySem.W.Frag} {r : R2} (hK : K = X.K)
    (hr : ∀ B P H x y dx dy (Qd : Rz → Prop) (Q : VK), Same P H → BagOk B P H → Dp X.K B P x dx → Dp X.K B P y dy → go dx dy Qd → (∀ rz v P' H', Qd rz → Gr B P H P' H' → RzOk X.K B P' H' H rz v → Q v H') → r x y H Q)
    {B : Bg} {P H : Hp} {σ : L2.St} {δ : DEnv} {Qd : Rz → Prop} {Q : VK} (R : Rep X.K B P H σ δ) (h : eOp go ta tb δ Qd) (k : ∀ rz v P' H', Qd rz → Gr B P H P' H' → RzOk X.K B P' H' H rz v → Q v H') :
    tOp r (lift X.K ta) (lift X.K tb) σ H Q := by
  refine lift_d R (fun x => tb δ fun y => go x y.d Qd) h fun dx x P1 H1 q1 g1 z1 => ?_
  refine lift_d (R.mono g1) (fun y => go dx y Qd) q1 fun dy y P2 H2 q2 g2 z2 => ?_
  have g12 := g1.trans R.bag g2
  refine hr B P2 H2 x y dx dy Qd Q g2.ex g2.bag (z1.mono g2.pp) z2 q2 fun rz v P3 H3 q3 g3 z3 => ?_
  exact k rz v P3 H3 q3 (g12.trans R.bag g3) (z3.back R.bag g12)
theorem q_op {op : Operator} {go : D → D → (Rz → Prop) → Prop} (ho : OpL X (binaryOp op) go) (ha : QE X a fa) (hb : QE X b fb) : QE X (.BinOp a op b pos) (eOp go fa fb) := by
  obtain ⟨r, h1, h2⟩ := ho
  exact qe_of (pe_op h1 ha.pe hb.pe) fun B P H σ δ Qd Q R h k => op_run (fn := binaryOp op) (K := X.K) rfl h2 R h k
theorem q_cmp {op : CmpOp} {go : D → D → (Rz → Prop) → Prop} (ho : OpL X (compareOp op) go) (ha : QE X a fa) (hb : QE X b fb) (hm : behindInMarks op b = false := by rfl) : QE X (.Compare a [op] [b] pos) (eOp go fa fb) := by
  obtain ⟨r, h1, h2⟩ := ho
  exact qe_of (pe_cmpR h1 ha.pe hb.pe hm) fun B P H σ δ Qd Q R h k => op_run (fn := compareOp op) (K := X.K) rfl h2 R h k
theorem q_ixR {r : R2} {go : D → D → (Rz → Prop) → Prop} (h1 : IxR X r)
    (h2 : ∀ B P H x y dx dy (Qd : Rz → Prop) (Q : VK), Same P H → BagOk B P H → Dp X.K B P x dx → Dp X.K B P y dy → go dx dy Qd → (∀ rz v P' H', Qd rz → Gr B P H P' H' → RzOk X.K B P' H' H rz v → Q v H') → r x y H Q)
    (ha : QE X a fa) (hb : QE X b fb) (hs : PlainIx b) : QE X (.Subscript a b pos) (eOp go fa fb) :=
  qe_of (pe_ix h1 ha.pe hb.pe hs) fun B P H σ δ Qd Q R h k => op_run (fn := fun _ _ => pure .none) (K := X.K) rfl h2 R h k

/-! ### arguments, displays -/
def aNil : AV := fun _ Q => Q []
def aCons (f : EV) (fr : AV) : AV := fun δ Q => f δ fun r => fr δ fun ds => Q (r.d :: ds)
theorem q_nil : QA X [] aNil := ⟨pa_imp pa_nil fun σ H Q ⟨B, P, δ, Qd, R, hf, k⟩ => k [] [] P H hf (.refl R.ex R.bag) .nil⟩
theorem q_cons (ha : QE X e f) (hr : QA X es fr) (hs : starEach (e :: es) X.env = (false, eval e X.env) :: starEach es X.env := by rfl) : QA X (e :: es) (aCons f fr) :=
  ⟨pa_imp (pa_cons ha.pe hr.pa hs) fun σ H Q ⟨B, P, δ, Qd, R, hf, k⟩ => by
    refine lift_d R (fun x => fr δ fun ds => Qd (x :: ds)) hf fun dx x P1 H1 q1 g1 z1 => ?_
    exact ⟨B, P1, δ, _, R.mono g1, q1, fun ds vs P2 H2 q2 g2 z2 => k _ _ P2 H2 q2 (g1.trans R.bag g2) (.cons (z1.mono g2.pp) z2)⟩⟩
def eLst (fr : AV) : EV := fun δ Q => fr δ fun ds => ds.length ≤ sizeLine ∧ Q (.new ds)
def eTup (fr : AV) : EV := fun δ Q => fr δ fun ds => ds.length ≤ sizeLine ∧ Q (.val (.tup ds))
theorem new_ok {K : PySem.W.Frag} {B : Bg} {P H P1 H1 : Hp} {vs : List V} {ds : List D} {p : Addr} (b0 : BagOk B P H) (g : Gr B P H P1 H1) (hp : H1 p = none) (z : DpA K B P1 vs ds) :
    Gr B P H P1 (upd H1 p (.lst vs)) ∧ RzOk K B P1 (upd H1 p (.lst vs)) H (.new ds) (.ref p) :=
  ⟨g.trans b0 (.loose g.ex g.bag hp), p, vs, rfl, g.ex.free hp, g.fresh b0 hp, upd_same, z⟩
theorem tup_ok {K : PySem.W.Frag} {B : Bg} {P H P1 H1 : Hp} {vs : List V} {ds : List D} {p : Addr} (b0 : BagOk B P H) (g : Gr B P H P1 H1) (hp : H1 p = none) (z : DpA K B P1 vs ds) :
    Gr B P H (upd P1 p (.tup vs)) (upd H1 p (.tup vs)) ∧ RzOk K B (upd P1 p (.tup vs)) (upd H1 p (.tup vs)) H (.val (.tup ds)) (.ref p) :=
  ⟨g.trans b0 (.new g.ex g.bag hp), .tup upd_same (z.mono (same_new (g.ex.free hp)))⟩
theorem q_lst (h : QA X es fr) : QE X (.List es pos) (eLst fr) := qe_of (pe_lst h.pa) fun B P H σ δ Qd Q R hf k =>
  ⟨B, P, δ, _, R, hf, fun ds vs P1 H1 ⟨q1, q2⟩ g1 z1 => ⟨by rw [z1.length]; exact q1, fun p hp => by
    obtain ⟨g2, z2⟩ := new_ok R.bag g1 hp z1
    exact k _ _ P1 _ q2 g2 z2⟩⟩
theorem q_tup {n : Nat} (h : QA X es fr) : QE X (.Tuple es n pos) (eTup fr) := qe_of (pe_tup h.pa) fun B P H σ δ Qd Q R hf k =>
  ⟨B, P, δ, _, R, hf, fun ds vs P1 H1 ⟨q1, q2⟩ g1 z1 => ⟨by rw [z1.length]; exact q1, fun p hp => by
    obtain ⟨g2, z2⟩ := tup_ok R.bag g1 hp z1
    exact k _ _ _ _ q2 g2 z2⟩⟩

/-! ### calls of built-in things -/
def eCall (g : List D → (Rz → Prop) → Prop) (fr : AV) : EV := fun δ Q => fr δ fun ds => g ds Q
def CallL (X : Cx) (f : Value) (g : List D → (Rz → Prop) → Prop) : Prop :=
  ∃ r : List V → Hp → VK → Prop, CallR X f r ∧ ∀ B P H xs ds (Qd : Rz → Prop) (Q : VK), Same P H → BagOk B P H → DpA X.K B P xs ds → g ds Qd →
    (∀ rz v P' H', Qd rz → Gr B P H P' H' → RzOk X.K B P' H' H rz v → Q v H') → r xs H Q
theorem call_run {go : List D → (Rz → Prop) → Prop} {r : List V → Hp → VK → Prop} {fr : AV}
    (hr : ∀ B P H xs ds (Qd : Rz → Prop) (Q : VK), Same P H → BagOk B P H → DpA X.K B P xs ds → go ds Qd → (∀ rz v P' H', Qd rz → Gr B P H P' H' → RzOk X.K B P' H' H rz v → Q v H') → r xs H Q)
    {B : Bg} {P H : Hp} {σ : L2.St} {δ : DEnv} {Qd : Rz → Prop} {Q : VK} (R : Rep X.K B P H σ δ) (h : eCall go fr δ Qd) (k : ∀ rz v P' H', Qd rz → Gr B P H P' H' → RzOk X.K B P' H' H rz v → Q v H') :
    tCB r (liftA X.K fr) σ H Q :=
  ⟨B, P, δ, _, R, h, fun ds vs P1 H1 q1 g1 z1 => hr B P1 H1 vs ds Qd Q g1.ex g1.bag z1 q1 fun rz v P2 H2 q2 g2 z2 => k rz v P2 H2 q2 (g1.trans R.bag g2) (z2.back R.bag g1)⟩
theorem q_callB {x : Str} {id : String} {p : Pos} {go : List D → (Rz → Prop) → Prop} (hc : CallL X (.builtin id) go) (hm : X.mg x = none) (hv : bootBuiltins x = some (.builtin id)) (ha : QA X (e :: es) fr) (hg : Gl X x := by rfl) (hn : x ≠ "__name__" := by decide) (hdb : (x == ("__debug__" : Str)) = false := by decide)
    (he : starEach (e :: es) X.env = (false, eval e X.env) :: starEach es X.env := by rfl) (hpl : (backTo pos (starEach es X.env)).any (·.1) = false := by rfl) : QE X (.Call (.Name x p) (e :: es) [] pos) (eCall go fr) := by
  obtain ⟨r, h1, h2⟩ := hc
  exact qe_of (pe_callB h1 hg hm hv ha.pa hn hdb he hpl) fun B P H σ δ Qd Q R h k => call_run h2 R h k
theorem q_callTy {x : Str} {T : String} {p : Pos} {go : List D → (Rz → Prop) → Prop} (hc : CallL X (.type T) go) (hm : X.mg x = none) (hv : bootBuiltins x = some (.type T)) (ha : QA X (e :: es) fr) (hg : Gl X x := by rfl) (hn : x ≠ "__name__" := by decide) (hdb : (x == ("__debug__" : Str)) = false := by decide)
    (he : starEach (e :: es) X.env = (false, eval e X.env) :: starEach es X.env := by rfl) (hpl : (backTo pos (starEach es X.env)).any (·.1) = false := by rfl) : QE X (.Call (.Name x p) (e :: es) [] pos) (eCall go fr) := by
  obtain ⟨r, h1, h2⟩ := hc
  exact qe_of (pe_callTy h1 hg hm hv ha.pa hn hdb he hpl) fun B P H σ δ Qd Q R h k => call_run h2 R h k

/-! ### a def of the program, by its promise over data -/
abbrev Spec := List D → (Rz → Prop) → Prop
def SpD (K : PySem.W.Frag) (n : Nat) (S : Spec) : Sp := fun vs H Q _ => ∃ B P ds Qd, Same P H ∧ BagOk B P H ∧ DpA K B P vs ds ∧ ds.length = n ∧ S ds Qd ∧ ∀ rz v P' H', Qd rz → Gr B P H P' H' → RzOk K B P' H' H rz v → Q v H'
structure Cal (X : Cx) (x : Str) (ps : List Str) (S : Spec) : Prop where
  len : ∀ ds Q, S ds Q → ds.length = ps.length
  ex : ∃ (k : Nat) (f : Addr) (fd : FuncData), FnOk X.prog X.w X.K X.mg X.base CX0 k f fd ps (SpD X.K ps.length S) ∧ Room k X.A ∧ X.mg x = some (.ref f) ∧ PySem.W.keepIn X.K (.ref f) = true ∧ Binds X.K fd ps []
theorem q_call {x : Str} {p : Pos} {ps : List Str} {S : Spec} (C : Cal X x ps S) (ha : QA X (e :: es) fr) (hg : Gl X x := by rfl) (hdb : (x == ("__debug__" : Str)) = false := by decide)
    (he : starEach (e :: es) X.env = (false, eval e X.env) :: starEach es X.env := by rfl) (hpl : (backTo pos (starEach es X.env)).any (·.1) = false := by rfl) : QE X (.Call (.Name x p) (e :: es) [] pos) (eCall S fr) := by
  obtain ⟨k, f, fd, F, hr, hm, hk, hb⟩ := C.ex
  refine qe_of (pe_call F hr hg hm hk hb .nil pass0 ha.pa hdb he hpl) fun B P H σ δ Qd Q R h k => ?_
  refine ⟨B, P, δ, _, R, h, fun ds vs P1 H1 q1 g1 z1 => ?_⟩
  show SpD X.K ps.length S (vs ++ []) H1 Q E0
  rw [List.append_nil]
  exact ⟨B, P1, ds, Qd, g1.ex, g1.bag, z1, C.len _ _ q1, q1, fun rz v P2 H2 q2 g2 z2 => k rz v P2 H2 q2 (g1.trans R.bag g2) (z2.back R.bag g1)⟩
theorem q_call0 {x : Str} {p : Pos} {S : Spec} (C : Cal X x [] S) (hg : Gl X x := by rfl) (hdb : (x == ("__debug__" : Str)) = false := by decide) : QE X (.Call (.Name x p) [] [] pos) (eCall S aNil) := by
  obtain ⟨k, f, fd, F, hr, hm, hk, hb⟩ := C.ex
  refine qe_of (pe_call0 F hr hg hm hk hb .nil pass0 hdb) fun B P H σ δ Qd Q R h k => ?_
  exact ⟨B, P, [], Qd, R.ex, R.bag, .nil, rfl, h, k⟩
end
end DI

namespace DI
open PySem L2

/-! ### operations over data -/
def addD : D → D → (Rz → Prop) → Prop
  | .int i, .int j, Q => Q (.val (.int (i + j)))
  | .str x, .str y, Q => x.length + y.length ≤ sizeLine ∧ Q (.val (.str (x ++ y)))
  | .lst x, .lst y, Q => x.length + y.length ≤ sizeLine ∧ Q (.new (x ++ y))
  | .tup x, .tup y, Q => x.length + y.length ≤ sizeLine ∧ Q (.val (.tup (x ++ y)))
  | _, _, _ => False
def subD : D → D → (Rz → Prop) → Prop
  | .int i, .int j, Q => Q (.val (.int (i - j)))
  | _, _, _ => False
def mulD : D → D → (Rz → Prop) → Prop
  | .int i, .int j, Q => (CMul i j ∨ CMulW i j) ∧ Q (.val (.int (i * j)))
  | .lst x, .int k, Q => (0 ≤ k ∧ k < 1000000 ∧ x.length * k.toNat ≤ sizeLine) ∧ Q (.new (List.replicate k.toNat x).flatten)
  | _, _, _ => False
def fdivD : D → D → (Rz → Prop) → Prop
  | .int i, .int j, Q => CDivW i j ∧ Q (.val (.int (i / j)))
  | _, _, _ => False
def modD : D → D → (Rz → Prop) → Prop
  | .int i, .int j, Q => 0 < j ∧ Q (.val (.int (i % j)))
  | _, _, _ => False
def powD : D → D → (Rz → Prop) → Prop
  | .int i, .int j, Q => CPow i j ∧ Q (.val (.int (i ^ j.toNat)))
  | _, _, _ => False
def shlD : D → D → (Rz → Prop) → Prop
  | .int i, .int j, Q => CPow i j ∧ Q (.val (.int (i * 2 ^ j.toNat)))
  | _, _, _ => False

/-- an object without the heap's tuple or list: its readings -/
theorem Dp.lst' {K : PySem.W.Frag} {B : Bg} {P : Hp} {v : V} {ds : List D} (h : Dp K B P v (.lst ds)) : ∃ a xs, v = .ref a ∧ P a = some (.lst xs) ∧ DpA K B P xs ds := by
  cases h with
  | lst h1 h2 => exact ⟨_, _, rfl, h1, h2⟩
theorem Dp.tup' {K : PySem.W.Frag} {B : Bg} {P : Hp} {v : V} {ds : List D} (h : Dp K B P v (.tup ds)) : ∃ a xs, v = .ref a ∧ P a = some (.tup xs) ∧ DpA K B P xs ds := by
  cases h with
  | tup h1 h2 => exact ⟨_, _, rfl, h1, h2⟩
theorem Dp.wtup' {K : PySem.W.Frag} {B : Bg} {P : Hp} {v : V} {ds : List D} (h : Dp K B P v (.wtup ds)) : ∃ a xs, v = .ref a ∧ (∀ H, SqT K H a xs) ∧ DpA K B P xs ds := by
  cases h with
  | wtup h1 h2 => exact ⟨_, _, rfl, fun H => same_t (fun _ _ z => by cases z) h1, h2⟩
theorem Dp.int' {K : PySem.W.Frag} {B : Bg} {P : Hp} {v : V} {i : Int} (h : Dp K B P v (.int i)) : v = .int i := by cases h; rfl
theorem Dp.str' {K : PySem.W.Frag} {B : Bg} {P : Hp} {v : V} {i : Str} (h : Dp K B P v (.str i)) : v = .str i := by cases h; rfl
theorem Dp.bl' {K : PySem.W.Frag} {B : Bg} {P : Hp} {v : V} {i : Bool} (h : Dp K B P v (.bl i)) : v = .bl i := by cases h; rfl
theorem Dp.non' {K : PySem.W.Frag} {B : Bg} {P : Hp} {v : V} (h : Dp K B P v .non) : v = .non := by cases h; rfl
theorem DpA.replicate {K : PySem.W.Frag} {B : Bg} {P : Hp} {vs : List V} {ds : List D} (h : DpA K B P vs ds) : ∀ n : Nat, DpA K B P (List.replicate n vs).flatten (List.replicate n ds).flatten
  | 0 => .nil
  | n + 1 => by
    rw [List.replicate_succ, List.replicate_succ, List.flatten_cons, List.flatten_cons]
    exact h.append (DpA.replicate h n)

section
variable {X : Cx}
theorem op_addL : OpL X (binaryOp .Add) addD := by
  refine ⟨_, op_add.or (op_add_str.or (op_cat.or op_catA)), fun B P H x y dx dy Qd Q e b zx zy h k => ?_⟩
  cases dx with
  | int i =>
    cases dy with
    | int j => cases zx.int'; cases zy.int'; exact .inl ⟨i, j, rfl, rfl, k _ _ P H h (.refl e b) (.int _)⟩
    | _ => exact h.elim
  | str i =>
    cases dy with
    | str j => cases zx.str'; cases zy.str'; exact .inr (.inl ⟨i, j, rfl, rfl, h.1, k _ _ P H h.2 (.refl e b) (.str _)⟩)
    | _ => exact h.elim
  | lst i =>
    cases dy with
    | lst j =>
      obtain ⟨a1, x1, rfl, p1, z1⟩ := zx.lst'
      obtain ⟨a2, x2, rfl, p2, z2⟩ := zy.lst'
      refine .inr (.inr (.inl ⟨a1, a2, x1, x2, rfl, rfl, e _ _ p1, e _ _ p2, by rw [z1.length, z2.length]; exact h.1, fun p hp => ?_⟩))
      obtain ⟨g2, w2⟩ := new_ok b (.refl e b) hp (z1.append z2)
      exact k _ _ P _ h.2 g2 w2
    | _ => exact h.elim
  | tup i =>
    cases dy with
    | tup j =>
      obtain ⟨a1, x1, rfl, p1, z1⟩ := zx.tup'
      obtain ⟨a2, x2, rfl, p2, z2⟩ := zy.tup'
      refine .inr (.inr (.inr ⟨a1, a2, x1, x2, rfl, rfl, .inl (.inl (e _ _ p1)), .inl (.inl (e _ _ p2)), by rw [z1.length, z2.length]; exact h.1, fun q => ?_, fun q1 q2 => ?_, fun q1 q2 p hp => ?_⟩))
      · subst q
        cases z1
        exact k _ _ P H h.2 (.refl e b) zy
      · subst q2
        cases z2
        refine k _ _ P H h.2 (.refl e b) ?_
        rw [List.append_nil]
        exact zx
      · obtain ⟨g2, w2⟩ := tup_ok b (.refl e b) hp (z1.append z2)
        exact k _ _ _ _ h.2 g2 w2
    | _ => exact h.elim
  | _ => cases dy <;> exact h.elim
theorem op_subL : OpL X (binaryOp .Sub) subD := by
  refine ⟨_, op_sub, fun B P H x y dx dy Qd Q e b zx zy h k => ?_⟩
  cases dx with
  | int i =>
    cases dy with
    | int j => cases zx.int'; cases zy.int'; exact ⟨i, j, rfl, rfl, k _ _ P H h (.refl e b) (.int _)⟩
    | _ => exact h.elim
  | _ => cases dy <;> exact h.elim
theorem op_mulL : OpL X (binaryOp .Mult) mulD := by
  refine ⟨_, op_mul.or (op_mulW.or op_rep), fun B P H x y dx dy Qd Q e b zx zy h k => ?_⟩
  cases dx with
  | int i =>
    cases dy with
    | int j =>
      cases zx.int'; cases zy.int'
      rcases h with ⟨h1 | h1, h2⟩
      · exact .inl ⟨i, j, rfl, rfl, h1, k _ _ P H h2 (.refl e b) (.int _)⟩
      · exact .inr (.inl ⟨i, j, rfl, rfl, h1, k _ _ P H h2 (.refl e b) (.int _)⟩)
    | _ => exact h.elim
  | lst i =>
    cases dy with
    | int j =>
      cases zy.int'
      obtain ⟨a1, x1, rfl, p1, z1⟩ := zx.lst'
      obtain ⟨⟨h1, h2, h3⟩, h4⟩ := h
      refine .inr (.inr ⟨a1, j, x1, rfl, rfl, e _ _ p1, by omega, by omega, by rw [z1.length]; exact h3, fun p hp => ?_⟩)
      obtain ⟨g2, w2⟩ := new_ok b (.refl e b) hp (z1.replicate j.toNat)
      exact k _ _ P _ h4 g2 w2
    | _ => exact h.elim
  | _ => cases dy <;> exact h.elim
theorem op_fdivL : OpL X (binaryOp .FloorDiv) fdivD := by
  refine ⟨_, op_fdivW, fun B P H x y dx dy Qd Q e b zx zy h k => ?_⟩
  cases dx with
  | int i =>
    cases dy with
    | int j => cases zx.int'; cases zy.int'; exact ⟨i, j, rfl, rfl, h.1, k _ _ P H h.2 (.refl e b) (.int _)⟩
    | _ => exact h.elim
  | _ => cases dy <;> exact h.elim
theorem op_modL : OpL X (binaryOp .Mod) modD := by
  refine ⟨_, op_mod, fun B P H x y dx dy Qd Q e b zx zy h k => ?_⟩
  cases dx with
  | int i =>
    cases dy with
    | int j => cases zx.int'; cases zy.int'; exact ⟨i, j, rfl, rfl, h.1, k _ _ P H h.2 (.refl e b) (.int _)⟩
    | _ => exact h.elim
  | _ => cases dy <;> exact h.elim
theorem op_powL : OpL X (binaryOp .Pow) powD := by
  refine ⟨_, op_pow, fun B P H x y dx dy Qd Q e b zx zy h k => ?_⟩
  cases dx with
  | int i =>
    cases dy with
    | int j => cases zx.int'; cases zy.int'; exact ⟨i, j, rfl, rfl, h.1, k _ _ P H h.2 (.refl e b) (.int _)⟩
    | _ => exact h.elim
  | _ => cases dy <;> exact h.elim
theorem op_shlL : OpL X (binaryOp .LShift) shlD := by
  refine ⟨_, op_shl, fun B P H x y dx dy Qd Q e b zx zy h k => ?_⟩
  cases dx with
  | int i =>
    cases dy with
    | int j => cases zx.int'; cases zy.int'; exact ⟨i, j, rfl, rfl, h.1, k _ _ P H h.2 (.refl e b) (.int _)⟩
    | _ => exact h.elim
  | _ => cases dy <;> exact h.elim
end

/-! ### data as the library's data; == and != -/
mutual
def D.isPy : D → Bool
  | .non | .bl _ | .int _ | .str _ => true
  | .lst xs | .tup xs => isPyA xs
  | .dK _ | .dT _ | .wtup _ | .bag => false
def isPyA : List D → Bool
  | [] => true
  | x :: xs => x.isPy && isPyA xs
end
mutual
def D.py : D → PyData
  | .non => .none
  | .bl b => .bool b
  | .int i => .int i
  | .str x => .str x
  | .lst xs => .list (pyA xs)
  | .tup xs => .tuple (pyA xs)
  | .dK _ | .dT _ | .wtup _ | .bag => .none
def pyA : List D → List PyData
  | [] => []
  | x :: xs => x.py :: pyA xs
end
mutual
theorem Dp.py {K : PySem.W.Frag} {B : Bg} {P H : Hp} (e : Same P H) : ∀ {v : V} {d : D}, Dp K B P v d → d.isPy = true → L2.Dp K H v d.py
  | _, _, .non, _ => by rw [D.py]; exact .non
  | _, _, .bl b, _ => by rw [D.py]; exact .bl b
  | _, _, .int i, _ => by rw [D.py]; exact .int i
  | _, _, .str x, _ => by rw [D.py]; exact .str x
  | _, _, .lst h a, q => by
    rw [D.isPy] at q
    rw [D.py]
    exact .lst (.inl (.inl (e _ _ h))) (DpA.py e a q)
  | _, _, .tup h a, q => by
    rw [D.isPy] at q
    rw [D.py]
    exact .tup (.inl (.inl (e _ _ h))) (DpA.py e a q)
  | _, _, .dK _ _ _, q => by rw [D.isPy] at q; cases q
  | _, _, .dT _ _ _, q => by rw [D.isPy] at q; cases q
  | _, _, .wtup _ _, q => by rw [D.isPy] at q; cases q
  | _, _, .bag _, q => by rw [D.isPy] at q; cases q
theorem DpA.py {K : PySem.W.Frag} {B : Bg} {P H : Hp} (e : Same P H) : ∀ {vs : List V} {ds : List D}, DpA K B P vs ds → isPyA ds = true → L2.DpAll K H vs (pyA ds)
  | _, _, .nil, _ => by rw [pyA]; exact .nil
  | _, _, .cons h t, q => by
    rw [isPyA, Bool.and_eq_true] at q
    rw [pyA]
    exact .cons (Dp.py e h q.1) (DpA.py e t q.2)
end
def D.ok (d : D) : Bool := d.isPy && SeqAt.shaped d.py
/-- == of scalars -/
def eqS : D → D → Bool
  | .non, .non => true
  | .bl a, .bl b => a == b
  | .bl a, .int b => (if a then 1 else 0) == b
  | .int a, .bl b => a == (if b then 1 else 0)
  | .int a, .int b => a == b
  | .str a, .str b => a == b
  | _, _ => false
def scB : D → D → Bool
  | .bl _, .int _ => false
  | .int _, .bl _ => false
  | x, y => x.scal && y.scal
theorem eqS_V {K : PySem.W.Frag} {B : Bg} {P : Hp} {x y : V} {dx dy : D} (zx : Dp K B P x dx) (zy : Dp K B P y dy) (h : (dx.scal && dy.scal) = true) (h2 : scB dx dy = true) : L2.scal x y = true ∧ decide (x = y) = eqS dx dy := by
  cases zx <;> first | (simp [D.scal] at h; done) | skip
  all_goals (cases zy <;> first | (simp [D.scal] at h; done) | (simp [scB] at h2; done) | skip)
  all_goals (refine ⟨rfl, ?_⟩; rw [Bool.eq_iff_iff]; simp [eqS])
theorem eqS_P {K : PySem.W.Frag} {B : Bg} {P H : Hp} {x y : V} {dx dy : D} (e : Same P H) (zx : Dp K B P x dx) (zy : Dp K B P y dy) (h : (dx.scal && dy.scal) = true) (h2 : scB dx dy = false) :
    (dx.ok && dy.ok) = true ∧ PyData.eqv dx.py dy.py = eqS dx dy := by
  cases zx <;> first | (simp [D.scal] at h; done) | skip
  all_goals (cases zy <;> first | (simp [D.scal] at h; done) | (simp [scB, D.scal] at h2; done) | skip)
  · rename_i b i
    refine ⟨by cases b <;> rfl, ?_⟩
    rw [D.py, D.py, PyData.eqv, eqS]
  · rename_i i b
    refine ⟨by cases b <;> rfl, ?_⟩
    rw [D.py, D.py, PyData.eqv, eqS]
def eqD (x y : D) (Q : Bool → Prop) : Prop := ((x.scal && y.scal) = true ∧ Q (eqS x y)) ∨ ((x.ok && y.ok) = true ∧ Q (PyData.eqv x.py y.py))
def eqB : D → D → (Rz → Prop) → Prop := fun x y Q => eqD x y fun c => Q (.val (.bl c))
def neB : D → D → (Rz → Prop) → Prop := fun x y Q => eqD x y fun c => Q (.val (.bl (!c)))
theorem op_eqL {X : Cx} (hu : X.A.units + 64 < cLine) : OpL X (compareOp .Eq) eqB := by
  refine ⟨_, op_eq.or (op_eqD hu), fun B P H x y dx dy Qd Q e b zx zy h k => ?_⟩
  have two : (dx.ok && dy.ok) = true → ∀ c, PyData.eqv dx.py dy.py = c → Qd (.val (.bl (c))) → rEqD X.K x y H (fun v H' => ∃ c', v = .bl c' ∧ H' = H ∧ Q (.bl (c')) H) := fun h1 c hc q => by
    rw [Bool.and_eq_true] at h1
    unfold D.ok at h1
    rw [Bool.and_eq_true, Bool.and_eq_true] at h1
    exact ⟨_, _, zx.py e h1.1.1, zy.py e h1.2.1, h1.1.2, h1.2.2, c, by rw [hc], rfl, k _ _ P H q (.refl e b) (.bl _)⟩
  have fin : rEqD X.K x y H (fun v H' => ∃ c', v = .bl c' ∧ H' = H ∧ Q (.bl (c')) H) → rEqD X.K x y H Q := fun ⟨d, e', a1, a2, a3, a4, c', a5, _, a6⟩ => by
    cases a5
    exact ⟨d, e', a1, a2, a3, a4, a6⟩
  rcases h with ⟨h1, h2⟩ | ⟨h1, h2⟩
  · by_cases hs : scB dx dy = true
    · obtain ⟨q1, q2⟩ := eqS_V zx zy h1 hs
      refine .inl ⟨q1, ?_⟩
      rw [q2]
      exact k _ _ P H h2 (.refl e b) (.bl _)
    · obtain ⟨q1, q2⟩ := eqS_P e zx zy h1 (by simpa using hs)
      exact .inr (fin (two q1 _ q2 h2))
  · exact .inr (fin (two h1 _ rfl h2))
theorem op_neL {X : Cx} (hu : X.A.units + 64 < cLine) : OpL X (compareOp .NotEq) neB := by
  refine ⟨_, op_ne.or (op_neD hu), fun B P H x y dx dy Qd Q e b zx zy h k => ?_⟩
  have two : (dx.ok && dy.ok) = true → ∀ c, PyData.eqv dx.py dy.py = c → Qd (.val (.bl (!c))) → rEqD X.K x y H (fun v H' => ∃ c', v = .bl c' ∧ H' = H ∧ Q (.bl (!c')) H) := fun h1 c hc q => by
    rw [Bool.and_eq_true] at h1
    unfold D.ok at h1
    rw [Bool.and_eq_true, Bool.and_eq_true] at h1
    exact ⟨_, _, zx.py e h1.1.1, zy.py e h1.2.1, h1.1.2, h1.2.2, c, by rw [hc], rfl, k _ _ P H q (.refl e b) (.bl _)⟩
  have fin : rEqD X.K x y H (fun v H' => ∃ c', v = .bl c' ∧ H' = H ∧ Q (.bl (!c')) H) → rNeD X.K x y H Q := fun ⟨d, e', a1, a2, a3, a4, c', a5, _, a6⟩ => by
    cases a5
    exact ⟨d, e', a1, a2, a3, a4, a6⟩
  rcases h with ⟨h1, h2⟩ | ⟨h1, h2⟩
  · by_cases hs : scB dx dy = true
    · obtain ⟨q1, q2⟩ := eqS_V zx zy h1 hs
      refine .inl ⟨q1, ?_⟩
      rw [q2]
      exact k _ _ P H h2 (.refl e b) (.bl _)
    · obtain ⟨q1, q2⟩ := eqS_P e zx zy h1 (by simpa using hs)
      exact .inr (fin (two q1 _ q2 h2))
  · exact .inr (fin (two h1 _ rfl h2))
end DI

namespace DI
open PySem L2

/-! ### order -/
def ltB : D → D → (Rz → Prop) → Prop
  | .int i, .int j, Q => Q (.val (.bl (decide (i < j))))
  | .str i, .str j, Q => Q (.val (.bl (decide (i.cps.toList < j.cps.toList))))
  | _, _, _ => False
def leB : D → D → (Rz → Prop) → Prop
  | .int i, .int j, Q => Q (.val (.bl (decide (i ≤ j))))
  | _, _, _ => False
def gtB : D → D → (Rz → Prop) → Prop
  | .int i, .int j, Q => Q (.val (.bl (decide (j < i))))
  | _, _, _ => False
def geB : D → D → (Rz → Prop) → Prop
  | .int i, .int j, Q => Q (.val (.bl (decide (j ≤ i))))
  | _, _, _ => False
section
variable {X : Cx}
theorem op_ltL : OpL X (compareOp .Lt) ltB := by
  refine ⟨_, op_lt.or op_lt_str, fun B P H x y dx dy Qd Q e b zx zy h k => ?_⟩
  cases dx with
  | int i =>
    cases dy with
    | int j => cases zx.int'; cases zy.int'; exact .inl ⟨i, j, rfl, rfl, k _ _ P H h (.refl e b) (.bl _)⟩
    | _ => exact h.elim
  | str i =>
    cases dy with
    | str j => cases zx.str'; cases zy.str'; exact .inr ⟨i, j, rfl, rfl, k _ _ P H h (.refl e b) (.bl _)⟩
    | _ => exact h.elim
  | _ => cases dy <;> exact h.elim
theorem op_leL : OpL X (compareOp .LtE) leB := by
  refine ⟨_, op_le, fun B P H x y dx dy Qd Q e b zx zy h k => ?_⟩
  cases dx with
  | int i =>
    cases dy with
    | int j => cases zx.int'; cases zy.int'; exact ⟨i, j, rfl, rfl, k _ _ P H h (.refl e b) (.bl _)⟩
    | _ => exact h.elim
  | _ => cases dy <;> exact h.elim
theorem op_gtL : OpL X (compareOp .Gt) gtB := by
  refine ⟨_, op_gt, fun B P H x y dx dy Qd Q e b zx zy h k => ?_⟩
  cases dx with
  | int i =>
    cases dy with
    | int j => cases zx.int'; cases zy.int'; exact ⟨i, j, rfl, rfl, k _ _ P H h (.refl e b) (.bl _)⟩
    | _ => exact h.elim
  | _ => cases dy <;> exact h.elim
theorem op_geL : OpL X (compareOp .GtE) geB := by
  refine ⟨_, op_ge, fun B P H x y dx dy Qd Q e b zx zy h k => ?_⟩
  cases dx with
  | int i =>
    cases dy with
    | int j => cases zx.int'; cases zy.int'; exact ⟨i, j, rfl, rfl, k _ _ P H h (.refl e b) (.bl _)⟩
    | _ => exact h.elim
  | _ => cases dy <;> exact h.elim
end

/-! ### is None -/
def isNon : D → Bool
  | .non => true
  | _ => false
def isB : D → D → (Rz → Prop) → Prop
  | x, .non, Q => Q (.val (.bl (isNon x)))
  | _, _, _ => False
def isntB : D → D → (Rz → Prop) → Prop
  | x, .non, Q => Q (.val (.bl (!isNon x)))
  | _, _, _ => False
theorem isNon_V {K : PySem.W.Frag} {B : Bg} {P : Hp} {v : V} {d : D} (h : Dp K B P v d) : decide (v = .non) = isNon d := by
  cases h <;> first | rfl | (rw [isNon]; exact decide_eq_false (fun z => by cases z))
theorem op_isL {X : Cx} : OpL X (compareOp .Is) isB := by
  refine ⟨_, op_isN, fun B P H x y dx dy Qd Q e b zx zy h k => ?_⟩
  cases dy with
  | non =>
    cases zy.non'
    refine ⟨rfl, ?_⟩
    rw [isNon_V zx]
    have h : Qd (.val (.bl (isNon dx))) := by cases dx <;> exact h
    exact k _ _ P H h (.refl e b) (.bl _)
  | _ => cases dx <;> exact h.elim
theorem op_isntL {X : Cx} : OpL X (compareOp .IsNot) isntB := by
  refine ⟨_, op_notN, fun B P H x y dx dy Qd Q e b zx zy h k => ?_⟩
  cases dy with
  | non =>
    cases zy.non'
    refine ⟨rfl, ?_⟩
    rw [isNon_V zx]
    have h : Qd (.val (.bl (!isNon dx))) := by cases dx <;> exact h
    exact k _ _ P H h (.refl e b) (.bl _)
  | _ => cases dx <;> exact h.elim

/-! ### in -/
def inTxt (x z : Str) : Bool := match x.cps.toList with
  | [c] => decide (c ∈ z.cps.toList)
  | _ => !(Builtin.Str.occurrences z x 0 z.length 1).isEmpty
def allScal : List D → Bool
  | [] => true
  | x :: xs => x.scal && allScal xs
def inSeq (x : D) (xs : List D) (Q : Bool → Prop) : Prop := (x.scal = true ∧ allScal xs = true ∧ Q (xs.any fun y => eqS y x)) ∨ ((x.ok && (D.lst xs).ok) = true ∧ Q ((pyA xs).any fun z => PyData.eqv z x.py))
def keyD : D → Option Key
  | .int i => some (.inl i)
  | .str x => some (.inr x)
  | _ => none
def keysD : List D → Option (List Key)
  | [] => some []
  | x :: xs => match keyD x, keysD xs with
    | some k, some ks => some (k :: ks)
    | _, _ => none
def inD (neg : Bool) : D → D → (Rz → Prop) → Prop
  | .str x, .str z, Q => Q (.val (.bl (neg != inTxt x z)))
  | x, .lst xs, Q => inSeq x xs fun c => Q (.val (.bl (neg != c)))
  | x, .tup xs, Q => x.scal = true ∧ allScal xs = true ∧ Q (.val (.bl (neg != xs.any fun y => eqS y x)))
  | x, .wtup xs, Q => x.scal = true ∧ allScal xs = true ∧ Q (.val (.bl (neg != xs.any fun y => eqS y x)))
  | x, .dK kvs, Q => ∃ k, keyD x = some k ∧ Q (.val (.bl (neg != (kvs.map (·.1)).any fun y => decide (y = k))))
  | .tup xs, .dT kvs, Q => ∃ ks, keysD xs = some ks ∧ Q (.val (.bl (neg != (kvs.map (·.1)).any fun y => decide (y = ks))))
  | _, _, _ => False
theorem flat_of {K : PySem.W.Frag} {B : Bg} {P : Hp} {v : V} {d : D} (h : Dp K B P v d) (e : d.scal = true) : flatV v = true := by
  cases h <;> first | rfl | cases e
theorem eqV_S {K : PySem.W.Frag} {B : Bg} {P : Hp} {v w : V} {d e : D} (h : Dp K B P v d) (g : Dp K B P w e) (hd : d.scal = true) (he : e.scal = true) : eqV v w = eqS d e := by
  cases h <;> first | (cases hd; done) | skip
  all_goals (cases g <;> first | (cases he; done) | rfl)
theorem flat_all {K : PySem.W.Frag} {B : Bg} {P : Hp} : ∀ {vs : List V} {ds : List D}, DpA K B P vs ds → allScal ds = true → vs.all flatV = true
  | _, _, .nil, _ => rfl
  | _, _, .cons h t, q => by
    rw [allScal, Bool.and_eq_true] at q
    rw [List.all_cons, flat_of h q.1, flat_all t q.2]
    rfl
theorem inV_S {K : PySem.W.Frag} {B : Bg} {P : Hp} {v : V} {d : D} (z : Dp K B P v d) (hd : d.scal = true) : ∀ {vs : List V} {ds : List D}, DpA K B P vs ds → allScal ds = true → inV v vs = ds.any fun y => eqS y d
  | _, _, .nil, _ => rfl
  | _, _, .cons h t, q => by
    rw [allScal, Bool.and_eq_true] at q
    have ih := inV_S z hd t q.2
    unfold inV at ih ⊢
    rw [List.any_cons, List.any_cons, ih, eqV_S h z q.1 hd]

theorem keyD_V {K : PySem.W.Frag} {B : Bg} {P : Hp} {v : V} {d : D} {k : Key} (h : Dp K B P v d) (e : keyD d = some k) : v = kV k := by
  cases h <;> (simp [keyD] at e) <;> (subst e; rfl)
theorem keysD_V {K : PySem.W.Frag} {B : Bg} {P : Hp} : ∀ {vs : List V} {ds : List D} {ks : List Key}, DpA K B P vs ds → keysD ds = some ks → vs = ks.map kV
  | _, _, _, .nil, e => by
    rw [keysD] at e
    cases e
    rfl
  | _, _, ks, .cons (d := d) (ds := ds) h t, e => by
    rw [keysD] at e
    cases e1 : keyD d with
    | none => rw [e1] at e; cases e
    | some k =>
      cases e2 : keysD ds with
      | none => rw [e1, e2] at e; cases e
      | some ks' =>
        rw [e1, e2] at e
        cases e
        rw [keyD_V h e1, keysD_V t e2]
        rfl
theorem valV_isSome {κ : Type} [DecidableEq κ] (kvs : List (κ × V)) (k : κ) : (valV kvs k).isSome = (kvs.map (·.1)).any fun y => decide (y = k) := by
  induction kvs with
  | nil => rfl
  | cons p r ih =>
    unfold valV at ih ⊢
    rw [List.find?_cons, List.map_cons, List.any_cons]
    by_cases h : p.1 = k
    · simp [h]
    · simp only [h, decide_false, Bool.false_or]
      exact ih
section
variable {X : Cx}
theorem op_inDc (hu : X.A.units + 1 < cLine) : OpR X (compareOp .In) (fun y x H Q => ∃ a ov, x = .ref a ∧ DGet H a y ov ∧ Q (.bl ov.isSome) H) := by
  intro pins s σ H y x v u Q I ry rx h
  obtain ⟨a, ov, rfl, g, q⟩ := h
  obtain rfl : u = Value.ref a := rx
  exact d_in hu I g ry fun s3 I3 => ⟨.bl ov.isSome, H, I3, rfl, q⟩
theorem op_notInDc (hu : X.A.units + 1 < cLine) : OpR X (compareOp .NotIn) (fun y x H Q => ∃ a ov, x = .ref a ∧ DGet H a y ov ∧ Q (.bl (!ov.isSome)) H) := by
  intro pins s σ H y x v u Q I ry rx h
  obtain ⟨a, ov, rfl, g, q⟩ := h
  obtain rfl : u = Value.ref a := rx
  exact d_notIn hu I g ry fun s3 I3 => ⟨.bl (!ov.isSome), H, I3, rfl, q⟩
theorem op_inL (hu : X.A.units + 65 < cLine) : OpL X (compareOp .In) (inD false) := by
  refine ⟨_, op_in_sign.or (op_in_str.or (op_in_seq.or ((op_inD hu).or (op_inDc (by omega))))), fun B P H x y dx dy Qd Q e b zx zy h k => ?_⟩
  have big : ∀ c : Bool, Qd (.val (.bl c)) → Q (.bl c) H := fun c q => k _ _ P H q (.refl e b) (.bl c)
  have seq : ∀ (p : Addr) (vs : List V) (ds : List D), y = .ref p → (SqL X.K H p vs ∨ SqT X.K H p vs) → DpA X.K B P vs ds → dx.scal = true → allScal ds = true → Qd (.val (.bl (false != ds.any fun y => eqS y dx))) → rIn X.K false x y H Q := fun p vs ds ey hs z h1 h2 q => by
    refine ⟨p, vs, ey, hs, flat_of zx h1, flat_all z h2, ?_⟩
    rw [inV_S zx h1 z h2]
    rw [Bool.false_bne] at q
    exact big _ q
  cases dy with
  | str w =>
    cases dx with
    | str x' =>
      cases zx.str'; cases zy.str'
      rw [inD, Bool.false_bne, inTxt] at h
      split at h
      · rename_i c hc
        refine .inl ⟨c, w, ?_, rfl, big _ h⟩
        obtain ⟨⟨l⟩⟩ := x'
        simp at hc
        rw [hc]
      · exact .inr (.inl ⟨x', w, rfl, rfl, big _ h⟩)
    | _ => exact h.elim
  | lst ds =>
    obtain ⟨a1, x1, e1, p1, z1⟩ := zy.lst'
    have h : inSeq dx ds fun c => Qd (.val (.bl (false != c))) := by cases dx <;> exact h
    rcases h with ⟨h1, h2, h3⟩ | ⟨h1, h2⟩
    · exact .inr (.inr (.inl (seq a1 x1 ds e1 (.inl (.inl (.inl (e _ _ p1)))) z1 h1 h2 h3)))
    · rw [Bool.and_eq_true] at h1
      unfold D.ok at h1
      rw [Bool.and_eq_true, Bool.and_eq_true] at h1
      have e2 := zy.py e h1.2.1
      have e3 := h1.2.2
      rw [D.py] at e2 e3
      refine .inr (.inr (.inr (.inl ⟨dx.py, pyA ds, zx.py e h1.1.1, e2, h1.1.2, e3, ?_⟩)))
      rw [Bool.false_bne] at h2
      exact big _ h2
  | tup ds =>
    obtain ⟨a1, x1, e1, p1, z1⟩ := zy.tup'
    have h : dx.scal = true ∧ allScal ds = true ∧ Qd (.val (.bl (false != ds.any fun y => eqS y dx))) := by cases dx <;> exact h
    exact .inr (.inr (.inl (seq a1 x1 ds e1 (.inr (.inl (.inl (e _ _ p1)))) z1 h.1 h.2.1 h.2.2)))
  | wtup ds =>
    obtain ⟨a1, x1, e1, p1, z1⟩ := zy.wtup'
    have h : dx.scal = true ∧ allScal ds = true ∧ Qd (.val (.bl (false != ds.any fun y => eqS y dx))) := by cases dx <;> exact h
    exact .inr (.inr (.inl (seq a1 x1 ds e1 (.inr (p1 H)) z1 h.1 h.2.1 h.2.2)))
  | dK kds =>
    cases zy with
    | @dK a kvs _ h1 h2 h3 =>
      have h : ∃ kk, keyD dx = some kk ∧ Qd (.val (.bl (false != (kds.map (·.1)).any fun y => decide (y = kk)))) := by cases dx <;> exact h
      obtain ⟨kk, h4, h5⟩ := h
      rw [keyD_V zx h4]
      refine .inr (.inr (.inr (.inr ⟨a, valV kvs kk, rfl, DGet.k (e _ _ h1), ?_⟩)))
      rw [valV_isSome, h2]
      rw [Bool.false_bne] at h5
      exact big _ h5
  | dT kds =>
    cases zy with
    | @dT a kvs _ h1 h2 h3 =>
      cases dx with
      | tup xs =>
        obtain ⟨ks, h4, h5⟩ := h
        obtain ⟨a2, x2, rfl, p2, z2⟩ := zx.tup'
        rw [keysD_V z2 h4] at p2
        refine .inr (.inr (.inr (.inr ⟨a, valV kvs ks, rfl, DGet.t (e _ _ h1) (e _ _ p2), ?_⟩)))
        rw [valV_isSome, h2]
        rw [Bool.false_bne] at h5
        exact big _ h5
      | _ => exact h.elim
  | _ => cases dx <;> exact h.elim
theorem op_notInL (hu : X.A.units + 65 < cLine) : OpL X (compareOp .NotIn) (inD true) := by
  refine ⟨_, op_notIn_sign.or (op_notin_str.or (op_notIn_seq.or ((op_notInD hu).or (op_notInDc (by omega))))), fun B P H x y dx dy Qd Q e b zx zy h k => ?_⟩
  have big : ∀ c : Bool, Qd (.val (.bl c)) → Q (.bl c) H := fun c q => k _ _ P H q (.refl e b) (.bl c)
  have seq : ∀ (p : Addr) (vs : List V) (ds : List D), y = .ref p → (SqL X.K H p vs ∨ SqT X.K H p vs) → DpA X.K B P vs ds → dx.scal = true → allScal ds = true → Qd (.val (.bl (true != ds.any fun y => eqS y dx))) → rIn X.K true x y H Q := fun p vs ds ey hs z h1 h2 q => by
    refine ⟨p, vs, ey, hs, flat_of zx h1, flat_all z h2, ?_⟩
    rw [inV_S zx h1 z h2]
    rw [Bool.true_bne] at q
    exact big _ q
  cases dy with
  | str w =>
    cases dx with
    | str x' =>
      cases zx.str'; cases zy.str'
      rw [inD, Bool.true_bne, inTxt] at h
      split at h
      · rename_i c hc
        refine .inl ⟨c, w, ?_, rfl, big _ h⟩
        obtain ⟨⟨l⟩⟩ := x'
        simp at hc
        rw [hc]
      · exact .inr (.inl ⟨x', w, rfl, rfl, big _ h⟩)
    | _ => exact h.elim
  | lst ds =>
    obtain ⟨a1, x1, e1, p1, z1⟩ := zy.lst'
    have h : inSeq dx ds fun c => Qd (.val (.bl (true != c))) := by cases dx <;> exact h
    rcases h with ⟨h1, h2, h3⟩ | ⟨h1, h2⟩
    · exact .inr (.inr (.inl (seq a1 x1 ds e1 (.inl (.inl (.inl (e _ _ p1)))) z1 h1 h2 h3)))
    · rw [Bool.and_eq_true] at h1
      unfold D.ok at h1
      rw [Bool.and_eq_true, Bool.and_eq_true] at h1
      have e2 := zy.py e h1.2.1
      have e3 := h1.2.2
      rw [D.py] at e2 e3
      refine .inr (.inr (.inr (.inl ⟨dx.py, pyA ds, zx.py e h1.1.1, e2, h1.1.2, e3, ?_⟩)))
      rw [Bool.true_bne] at h2
      exact big _ h2
  | tup ds =>
    obtain ⟨a1, x1, e1, p1, z1⟩ := zy.tup'
    have h : dx.scal = true ∧ allScal ds = true ∧ Qd (.val (.bl (true != ds.any fun y => eqS y dx))) := by cases dx <;> exact h
    exact .inr (.inr (.inl (seq a1 x1 ds e1 (.inr (.inl (.inl (e _ _ p1)))) z1 h.1 h.2.1 h.2.2)))
  | wtup ds =>
    obtain ⟨a1, x1, e1, p1, z1⟩ := zy.wtup'
    have h : dx.scal = true ∧ allScal ds = true ∧ Qd (.val (.bl (true != ds.any fun y => eqS y dx))) := by cases dx <;> exact h
    exact .inr (.inr (.inl (seq a1 x1 ds e1 (.inr (p1 H)) z1 h.1 h.2.1 h.2.2)))
  | dK kds =>
    cases zy with
    | @dK a kvs _ h1 h2 h3 =>
      have h : ∃ kk, keyD dx = some kk ∧ Qd (.val (.bl (true != (kds.map (·.1)).any fun y => decide (y = kk)))) := by cases dx <;> exact h
      obtain ⟨kk, h4, h5⟩ := h
      rw [keyD_V zx h4]
      refine .inr (.inr (.inr (.inr ⟨a, valV kvs kk, rfl, DGet.k (e _ _ h1), ?_⟩)))
      rw [valV_isSome, h2]
      rw [Bool.true_bne] at h5
      exact big _ h5
  | dT kds =>
    cases zy with
    | @dT a kvs _ h1 h2 h3 =>
      cases dx with
      | tup xs =>
        obtain ⟨ks, h4, h5⟩ := h
        obtain ⟨a2, x2, rfl, p2, z2⟩ := zx.tup'
        rw [keysD_V z2 h4] at p2
        refine .inr (.inr (.inr (.inr ⟨a, valV kvs ks, rfl, DGet.t (e _ _ h1) (e _ _ p2), ?_⟩)))
        rw [valV_isSome, h2]
        rw [Bool.true_bne] at h5
        exact big _ h5
      | _ => exact h.elim
  | _ => cases dx <;> exact h.elim
end
end DI

namespace DI
open PySem L2

/-! ### subscripts -/
def ixD : D → D → (Rz → Prop) → Prop
  | .lst xs, .int i, Q => ∃ d, atI xs i = some d ∧ Q (.val d)
  | .tup xs, .int i, Q => ∃ d, atI xs i = some d ∧ Q (.val d)
  | .wtup xs, .int i, Q => ∃ d, atI xs i = some d ∧ Q (.val d)
  | .str z, .int i, Q => z.length ≤ sizeLine ∧ ∃ c, atI z.cps.toList i = some c ∧ Q (.val (.str ⟨#[c]⟩))
  | _, _, _ => False
theorem atI_D {K : PySem.W.Frag} {B : Bg} {P : Hp} {vs : List V} {ds : List D} {i : Int} {d : D} (z : DpA K B P vs ds) (h : atI ds i = some d) : ∃ v, atI vs i = some v ∧ Dp K B P v d := by
  unfold atI at h ⊢
  rw [z.length]
  cases e : ixN ds.length i with
  | none => rw [e] at h; cases h
  | some j =>
    rw [e] at h
    exact z.get h
section
variable {X : Cx} {e a b : Expr} {es : List Expr} {fa fb f : EV} {fr : AV} {pos : Pos}
theorem q_ix (ha : QE X a fa) (hb : QE X b fb) (hs : PlainIx b := by exact fun _ _ => rfl) : QE X (.Subscript a b pos) (eOp ixD fa fb) := by
  refine q_ixR ix_seq (fun B P H x y dx dy Qd Q e b zx zy h k => ?_) ha hb hs
  cases dx with
  | lst xs =>
    cases dy with
    | int i =>
      cases zy.int'
      obtain ⟨a1, x1, rfl, p1, z1⟩ := zx.lst'
      obtain ⟨d, h1, h2⟩ := h
      obtain ⟨v, h3, h4⟩ := atI_D z1 h1
      exact .inl ⟨a1, x1, i, v, rfl, rfl, .inl (.inl (e _ _ p1)), h3, k _ _ P H h2 (.refl e b) h4⟩
    | _ => exact h.elim
  | tup xs =>
    cases dy with
    | int i =>
      cases zy.int'
      obtain ⟨a1, x1, rfl, p1, z1⟩ := zx.tup'
      obtain ⟨d, h1, h2⟩ := h
      obtain ⟨v, h3, h4⟩ := atI_D z1 h1
      exact .inr (.inl ⟨a1, x1, i, v, rfl, rfl, .inl (.inl (e _ _ p1)), h3, k _ _ P H h2 (.refl e b) h4⟩)
    | _ => exact h.elim
  | wtup xs =>
    cases dy with
    | int i =>
      cases zy.int'
      obtain ⟨a1, x1, rfl, p1, z1⟩ := zx.wtup'
      obtain ⟨d, h1, h2⟩ := h
      obtain ⟨v, h3, h4⟩ := atI_D z1 h1
      exact .inr (.inl ⟨a1, x1, i, v, rfl, rfl, p1 H, h3, k _ _ P H h2 (.refl e b) h4⟩)
    | _ => exact h.elim
  | str z =>
    cases dy with
    | int i =>
      cases zy.int'
      cases zx.str'
      obtain ⟨h0, c, h1, h2⟩ := h
      exact .inr (.inr ⟨z, i, c, rfl, rfl, h0, h1, k _ _ P H h2 (.refl e b) (.str _)⟩)
    | _ => exact h.elim
  | _ => cases dy <;> exact h.elim

/-! ### slices -/
def cutD (xs : List D) (lo hi : Option Int) : List D := (xs.drop (HT.sIx xs.length 0 lo)).take (HT.sIx xs.length xs.length hi - HT.sIx xs.length 0 lo)
def slD : D → Option Int → Option Int → (Rz → Prop) → Prop
  | .lst xs, lo, hi, Q => Q (.new (cutD xs lo hi))
  | .tup xs, lo, hi, Q => Q (.val (.tup (cutD xs lo hi)))
  | .str z, lo, hi, Q => z.length ≤ sizeLine ∧ Q (.val (.str (cutS z lo hi)))
  | _, _, _, _ => False
abbrev OV := DEnv → (Option Int → Prop) → Prop
def oNo : OV := fun _ Q => Q none
def oSome (f : EV) : OV := fun δ Q => f δ fun r => ∃ i, r.d = .int i ∧ Q (some i)
def liftO (K : PySem.W.Frag) (f : OV) : TO := fun σ H Q => ∃ B P δ Qd, Rep K B P H σ δ ∧ f δ Qd ∧ ∀ o P' H', Qd o → Gr B P H P' H' → Q o H'
structure QO (X : Cx) (e : Option Expr) (f : OV) : Prop where
  po : PO X e (liftO X.K f)
theorem po_imp {X : Cx} {e : Option Expr} {t t' : TO} (h : PO X e t) (i : ∀ σ H Q, t' σ H Q → t σ H Q) : PO X e t' := ⟨fun pins s σ H Q I q => h.run pins s σ H Q I (i σ H Q q)⟩
theorem q_no : QO X none oNo := ⟨po_imp po_none fun σ H Q ⟨B, P, δ, Qd, R, hf, k⟩ => k none P H hf (.refl R.ex R.bag)⟩
theorem q_some (h : QE X e f) : QO X (some e) (oSome f) := ⟨po_imp (po_some h.pe) fun σ H Q ⟨B, P, δ, Qd, R, hf, k⟩ =>
  lift_d R (fun d => ∃ i, d = .int i ∧ Qd (some i)) hf fun d v P' H' ⟨i, q1, q2⟩ g z => by
    subst q1
    exact ⟨i, z.int', k _ P' H' q2 g⟩⟩
def eSl (fa : EV) (fl fh : OV) : EV := fun δ Q => fa δ fun x => fl δ fun lo => fh δ fun hi => slD x.d lo hi Q
theorem cutV_D {K : PySem.W.Frag} {B : Bg} {P : Hp} {vs : List V} {ds : List D} (z : DpA K B P vs ds) (lo hi : Option Int) : DpA K B P (cutV vs lo hi) (cutD ds lo hi) := by
  unfold cutV cutD
  rw [z.length]
  exact (z.drop _).take _
theorem q_sl {lo hi : Option Expr} {p2 : Pos} {fl fh : OV} (ha : QE X a fa) (hl : QO X lo fl) (hh : QO X hi fh) : QE X (.Subscript a (.Slice lo hi none p2) pos) (eSl fa fl fh) := by
  refine qe_of (pe_slice (sl_list.or (sl_tupA.or sl_str)) ha.pe hl.po hh.po) fun B P H σ δ Qd Q R h k => ?_
  refine lift_d R (fun x => fl δ fun lo => fh δ fun hi => slD x lo hi Qd) h fun dx x P1 H1 q1 g1 z1 => ?_
  refine ⟨B, P1, δ, _, R.mono g1, q1, fun lo P2 H2 q2 g2 => ⟨B, P2, δ, _, (R.mono g1).mono g2, q2, fun hi P3 H3 q3 g3 => ?_⟩⟩
  have g13 : Gr B P1 H1 P3 H3 := g2.trans g1.bag g3
  have g := g1.trans R.bag g13
  have zx := z1.mono g13.pp
  cases dx with
  | lst xs =>
    obtain ⟨a1, x1, rfl, p1, w1⟩ := zx.lst'
    refine .inl ⟨a1, x1, rfl, .inl (.inl (g.ex _ _ p1)), fun p hp => ?_⟩
    obtain ⟨g4, w4⟩ := new_ok R.bag g hp (cutV_D w1 lo hi)
    exact k _ _ P3 _ q3 g4 w4
  | tup xs =>
    obtain ⟨a1, x1, rfl, p1, w1⟩ := zx.tup'
    refine .inr (.inl ⟨a1, x1, rfl, .inl (.inl (g.ex _ _ p1)), fun hw => ?_, fun hw p hp => ?_⟩)
    · refine k _ _ P3 H3 q3 g ?_
      have e1 : cutD xs lo hi = xs := by
        unfold cutD
        rw [← w1.length, hw.1, hw.2, List.drop_zero, Nat.sub_zero, w1.length]
        exact List.take_length
      show Dp X.K B P3 (.ref a1) (.tup (cutD xs lo hi))
      rw [e1]
      exact .tup p1 w1
    · obtain ⟨g4, w4⟩ := tup_ok R.bag g hp (cutV_D w1 lo hi)
      exact k _ _ _ _ q3 g4 w4
  | str z =>
    cases zx.str'
    exact .inr (.inr ⟨z, rfl, q3.1, k _ _ P3 H3 q3.2 g (.str _)⟩)
  | _ => exact q3.elim

/-! ### built-in functions -/
def lenD : List D → (Rz → Prop) → Prop
  | [.lst xs], Q => Q (.val (.int xs.length))
  | [.tup xs], Q => Q (.val (.int xs.length))
  | [.wtup xs], Q => Q (.val (.int xs.length))
  | [.str z], Q => z.length ≤ sizeLine ∧ Q (.val (.int z.length))
  | [.dK kvs], Q => Q (.val (.int kvs.length))
  | _, _ => False
theorem DpA.one' {K : PySem.W.Frag} {B : Bg} {P : Hp} {vs : List V} {d : D} (z : DpA K B P vs [d]) : ∃ v, vs = [v] ∧ Dp K B P v d := by
  cases z with
  | cons h t => cases t; exact ⟨_, rfl, h⟩
theorem call_lenL : CallL X (.builtin "len") lenD := by
  refine ⟨_, call_len_seq.or (call_len_str.or call_lenD), fun B P H xs ds Qd Q e b z h k => ?_⟩
  match ds, h with
  | [.lst ys], h =>
    obtain ⟨v, rfl, zv⟩ := z.one'
    obtain ⟨a1, x1, rfl, p1, w1⟩ := zv.lst'
    refine .inl ⟨a1, x1, rfl, .inl (.inl (.inl (e _ _ p1))), ?_⟩
    rw [w1.length]
    exact k _ _ P H h (.refl e b) (.int _)
  | [.tup ys], h =>
    obtain ⟨v, rfl, zv⟩ := z.one'
    obtain ⟨a1, x1, rfl, p1, w1⟩ := zv.tup'
    refine .inl ⟨a1, x1, rfl, .inr (.inl (.inl (e _ _ p1))), ?_⟩
    rw [w1.length]
    exact k _ _ P H h (.refl e b) (.int _)
  | [.wtup ys], h =>
    obtain ⟨v, rfl, zv⟩ := z.one'
    obtain ⟨a1, x1, rfl, p1, w1⟩ := zv.wtup'
    refine .inl ⟨a1, x1, rfl, .inr (p1 H), ?_⟩
    rw [w1.length]
    exact k _ _ P H h (.refl e b) (.int _)
  | [.str y], h =>
    obtain ⟨v, rfl, zv⟩ := z.one'
    cases zv.str'
    exact .inr (.inl ⟨y, rfl, h.1, k _ _ P H h.2 (.refl e b) (.int _)⟩)
  | [.dK kvs], h =>
    obtain ⟨v, rfl, zv⟩ := z.one'
    cases zv with
    | @dK a kvs' _ h1 h2 h3 =>
      refine .inr (.inr ⟨a, kvs', rfl, e _ _ h1, ?_⟩)
      have el : kvs'.length = kvs.length := by
        have := congrArg List.length h2
        rwa [List.length_map, List.length_map] at this
      rw [el]
      exact k _ _ P H h (.refl e b) (.int _)
  | [], h => exact h.elim
  | [.non], h => exact h.elim
  | [.bl _], h => exact h.elim
  | [.int _], h => exact h.elim
  | [.dT _], h => exact h.elim
  | [.bag], h => exact h.elim
  | x :: y :: r, h => cases x <;> exact h.elim
def listD : List D → (Rz → Prop) → Prop
  | [.lst xs], Q => Q (.new xs)
  | [.tup xs], Q => Q (.new xs)
  | [.wtup xs], Q => Q (.new xs)
  | _, _ => False
theorem call_listL : CallL X (.type "list") listD := by
  refine ⟨_, call_list_of, fun B P H xs ds Qd Q e b z h k => ?_⟩
  match ds, h with
  | [.lst ys], h =>
    obtain ⟨v, rfl, zv⟩ := z.one'
    obtain ⟨a1, x1, rfl, p1, w1⟩ := zv.lst'
    refine ⟨a1, x1, rfl, .inl (.inl (.inl (e _ _ p1))), fun p hp => ?_⟩
    obtain ⟨g2, w2⟩ := new_ok b (.refl e b) hp w1
    exact k _ _ P _ h g2 w2
  | [.tup ys], h =>
    obtain ⟨v, rfl, zv⟩ := z.one'
    obtain ⟨a1, x1, rfl, p1, w1⟩ := zv.tup'
    refine ⟨a1, x1, rfl, .inr (.inl (.inl (e _ _ p1))), fun p hp => ?_⟩
    obtain ⟨g2, w2⟩ := new_ok b (.refl e b) hp w1
    exact k _ _ P _ h g2 w2
  | [.wtup ys], h =>
    obtain ⟨v, rfl, zv⟩ := z.one'
    obtain ⟨a1, x1, rfl, p1, w1⟩ := zv.wtup'
    refine ⟨a1, x1, rfl, .inr (p1 H), fun p hp => ?_⟩
    obtain ⟨g2, w2⟩ := new_ok b (.refl e b) hp w1
    exact k _ _ P _ h g2 w2
  | [], h => exact h.elim
  | [.non], h => exact h.elim
  | [.bl _], h => exact h.elim
  | [.int _], h => exact h.elim
  | [.str _], h => exact h.elim
  | [.dK _], h => exact h.elim
  | [.dT _], h => exact h.elim
  | [.bag], h => exact h.elim
  | x :: y :: r, h => cases x <;> exact h.elim
def tupleD : List D → (Rz → Prop) → Prop
  | [.lst xs], Q => Q (.val (.tup xs))
  | [.tup xs], Q => Q (.val (.tup xs))
  | _, _ => False
theorem call_tupleL : CallL X (.type "tuple") tupleD := by
  refine ⟨_, call_tuple_of, fun B P H xs ds Qd Q e b z h k => ?_⟩
  match ds, h with
  | [.lst ys], h =>
    obtain ⟨v, rfl, zv⟩ := z.one'
    obtain ⟨a1, x1, rfl, p1, w1⟩ := zv.lst'
    refine ⟨a1, x1, rfl, .inl ⟨.inl (.inl (e _ _ p1)), fun p hp => ?_⟩⟩
    obtain ⟨g2, w2⟩ := tup_ok b (.refl e b) hp w1
    exact k _ _ _ _ h g2 w2
  | [.tup ys], h =>
    obtain ⟨v, rfl, zv⟩ := z.one'
    obtain ⟨a1, x1, rfl, p1, w1⟩ := zv.tup'
    exact ⟨a1, x1, rfl, .inr ⟨.inl (.inl (e _ _ p1)), k _ _ P H h (.refl e b) zv⟩⟩
  | [], h => exact h.elim
  | [.non], h => exact h.elim
  | [.bl _], h => exact h.elim
  | [.int _], h => exact h.elim
  | [.str _], h => exact h.elim
  | [.dK _], h => exact h.elim
  | [.dT _], h => exact h.elim
  | [.wtup _], h => exact h.elim
  | [.bag], h => exact h.elim
  | x :: y :: r, h => cases x <;> exact h.elim
def intD : List D → (Rz → Prop) → Prop
  | [.int i], Q => Q (.val (.int i))
  | [.str x], Q => ∃ n, PySem.intText? x = some n ∧ x.length ≤ 640 ∧ Q (.val (.int n))
  | _, _ => False
theorem call_intL : CallL X (.type "int") intD := by
  refine ⟨_, call_int1.or call_int_str, fun B P H xs ds Qd Q e b z h k => ?_⟩
  match ds, h with
  | [.int i], h =>
    obtain ⟨v, rfl, zv⟩ := z.one'
    cases zv.int'
    exact .inl (.inl ⟨i, rfl, k _ _ P H h (.refl e b) (.int _)⟩)
  | [.str i], h =>
    obtain ⟨v, rfl, zv⟩ := z.one'
    cases zv.str'
    obtain ⟨n, h1, h2, h3⟩ := h
    exact .inr ⟨i, n, rfl, h1, h2, k _ _ P H h3 (.refl e b) (.int _)⟩
  | [], h => exact h.elim
  | [.non], h => exact h.elim
  | [.bl _], h => exact h.elim
  | [.lst _], h => exact h.elim
  | [.tup _], h => exact h.elim
  | [.dK _], h => exact h.elim
  | [.dT _], h => exact h.elim
  | [.wtup _], h => exact h.elim
  | [.bag], h => exact h.elim
  | x :: y :: r, h => cases x <;> exact h.elim
def strD : List D → (Rz → Prop) → Prop
  | [.int i], Q => i.natAbs.log2 < 1920 ∧ Q (.val (.str (toString i)))
  | _, _ => False
theorem call_strL : CallL X (.type "str") strD := by
  refine ⟨_, call_str_int, fun B P H xs ds Qd Q e b z h k => ?_⟩
  match ds, h with
  | [.int i], h =>
    obtain ⟨v, rfl, zv⟩ := z.one'
    cases zv.int'
    exact ⟨i, rfl, h.1, k _ _ P H h.2 (.refl e b) (.str _)⟩
  | [], h => exact h.elim
  | [.non], h => exact h.elim
  | [.bl _], h => exact h.elim
  | [.str _], h => exact h.elim
  | [.lst _], h => exact h.elim
  | [.tup _], h => exact h.elim
  | [.dK _], h => exact h.elim
  | [.dT _], h => exact h.elim
  | [.wtup _], h => exact h.elim
  | [.bag], h => exact h.elim
  | x :: y :: r, h => cases x <;> exact h.elim
def absD : List D → (Rz → Prop) → Prop
  | [.int i], Q => Q (.val (.int (if i < 0 then -i else i)))
  | _, _ => False
theorem call_absL : CallL X (.builtin "abs") absD := by
  refine ⟨_, call_abs, fun B P H xs ds Qd Q e b z h k => ?_⟩
  match ds, h with
  | [.int i], h =>
    obtain ⟨v, rfl, zv⟩ := z.one'
    cases zv.int'
    exact ⟨i, rfl, k _ _ P H h (.refl e b) (.int _)⟩
  | [], h => exact h.elim
  | [.non], h => exact h.elim
  | [.bl _], h => exact h.elim
  | [.str _], h => exact h.elim
  | [.lst _], h => exact h.elim
  | [.tup _], h => exact h.elim
  | [.dK _], h => exact h.elim
  | [.dT _], h => exact h.elim
  | [.wtup _], h => exact h.elim
  | [.bag], h => exact h.elim
  | x :: y :: r, h => cases x <;> exact h.elim
/-- the truths of a list of bools -/
def blsD : List D → Option (List Bool)
  | [] => some []
  | .bl b :: r => (blsD r).map (b :: ·)
  | _ => none
theorem blsD_V {K : PySem.W.Frag} {B : Bg} {P : Hp} : ∀ {vs : List V} {ds : List D} {bs : List Bool}, DpA K B P vs ds → blsD ds = some bs → vs = bs.map V.bl
  | _, _, _, .nil, h => by rw [blsD] at h; cases h; rfl
  | _, _, _, .cons (d := .bl b) (ds := ds) z t, h => by
    rw [blsD] at h
    cases e : blsD ds with
    | none => rw [e] at h; cases h
    | some r =>
      rw [e] at h
      cases h
      rw [blsD_V t e]
      cases z.bl'
      rfl
  | _, _, _, .cons (d := .non) _ _, h => by simp [blsD] at h
  | _, _, _, .cons (d := .int _) _ _, h => by simp [blsD] at h
  | _, _, _, .cons (d := .str _) _ _, h => by simp [blsD] at h
  | _, _, _, .cons (d := .lst _) _ _, h => by simp [blsD] at h
  | _, _, _, .cons (d := .tup _) _ _, h => by simp [blsD] at h
  | _, _, _, .cons (d := .wtup _) _ _, h => by simp [blsD] at h
  | _, _, _, .cons (d := .dK _) _ _, h => by simp [blsD] at h
  | _, _, _, .cons (d := .dT _) _ _, h => by simp [blsD] at h
  | _, _, _, .cons (d := .bag) _ _, h => by simp [blsD] at h
def allD : List D → (Rz → Prop) → Prop
  | [.lst xs], Q => ∃ bs, blsD xs = some bs ∧ Q (.val (.bl (bs.all id)))
  | _, _ => False
def anyD : List D → (Rz → Prop) → Prop
  | [.lst xs], Q => ∃ bs, blsD xs = some bs ∧ Q (.val (.bl (bs.any id)))
  | _, _ => False
theorem call_allL (hc : X.calm = true) : CallL X (.builtin "all") allD := by
  refine ⟨_, cr_all hc, fun B P H xs ds Qd Q e b z h k => ?_⟩
  match ds, h with
  | [.lst ys], h =>
    obtain ⟨v, rfl, zv⟩ := z.one'
    obtain ⟨a1, x1, rfl, p1, w1⟩ := zv.lst'
    obtain ⟨bs, h1, h2⟩ := h
    have := blsD_V w1 h1
    subst this
    exact ⟨a1, bs, rfl, .inl (.inl (e _ _ p1)), k _ _ P H h2 (.refl e b) (.bl _)⟩
  | [], h => exact h.elim
  | [.non], h => exact h.elim
  | [.bl _], h => exact h.elim
  | [.int _], h => exact h.elim
  | [.str _], h => exact h.elim
  | [.tup _], h => exact h.elim
  | [.dK _], h => exact h.elim
  | [.dT _], h => exact h.elim
  | [.wtup _], h => exact h.elim
  | [.bag], h => exact h.elim
  | x :: y :: r, h => cases x <;> exact h.elim
theorem call_anyL (hc : X.calm = true) : CallL X (.builtin "any") anyD := by
  refine ⟨_, cr_any hc, fun B P H xs ds Qd Q e b z h k => ?_⟩
  match ds, h with
  | [.lst ys], h =>
    obtain ⟨v, rfl, zv⟩ := z.one'
    obtain ⟨a1, x1, rfl, p1, w1⟩ := zv.lst'
    obtain ⟨bs, h1, h2⟩ := h
    have := blsD_V w1 h1
    subst this
    exact ⟨a1, bs, rfl, .inl (.inl (e _ _ p1)), k _ _ P H h2 (.refl e b) (.bl _)⟩
  | [], h => exact h.elim
  | [.non], h => exact h.elim
  | [.bl _], h => exact h.elim
  | [.int _], h => exact h.elim
  | [.str _], h => exact h.elim
  | [.tup _], h => exact h.elim
  | [.dK _], h => exact h.elim
  | [.dT _], h => exact h.elim
  | [.wtup _], h => exact h.elim
  | [.bag], h => exact h.elim
  | x :: y :: r, h => cases x <;> exact h.elim
end
end DI

namespace DI
open PySem L2

/-! ### isinstance -/
def tyD : D → Option String
  | .non => some "NoneType"
  | .bl _ => some "bool"
  | .int _ => some "int"
  | .str _ => some "str"
  | .lst _ => some "list"
  | .tup _ => some "tuple"
  | .wtup _ => some "tuple"
  | .dK _ => some "dict"
  | .dT _ => some "dict"
  | .bag => none
def isiB (t T : String) : Bool := (kitB t T).getD false
/-- the type names that isinstance is asked for -/
def okTy (T : String) : Bool := ["NoneType", "bool", "int", "str", "list", "tuple", "dict"].all fun t => (kitB t T).isSome
theorem tyD_ok {d : D} {t T : String} (h : tyD d = some t) (o : okTy T = true) : kitB t T = some (isiB t T) := by
  have h2 : t ∈ ["NoneType", "bool", "int", "str", "list", "tuple", "dict"] := by
    cases d <;> (simp [tyD] at h) <;> (subst h; simp)
  unfold okTy at o
  have h3 := List.all_eq_true.mp o t h2
  unfold isiB
  cases e : kitB t T with
  | none => rw [e] at h3; cases h3
  | some c => rfl
theorem tyX_of {K : PySem.W.Frag} {B : Bg} {P H : Hp} {v : V} {d : D} {t : String} (e : Same P H) (z : Dp K B P v d) (h : tyD d = some t) : TyX K H v (.type t) := by
  cases z with
  | non => cases h; exact .base .non
  | bl b => cases h; exact .base (.bl b)
  | int i => cases h; exact .base (.int i)
  | str x => cases h; exact .base (.str x)
  | lst h1 _ => cases h; exact .base (.lst (e _ _ h1))
  | tup h1 _ => cases h; exact .base (.tup (e _ _ h1))
  | wtup h1 _ =>
    cases h
    rcases h1 with (h1 | ⟨o, h1⟩) | ⟨o, its, n, h1, h2, _⟩
    · cases h1
    · cases h1
    · exact .kTuple h1 h2
  | dK h1 _ _ => cases h; exact .base (.dK (e _ _ h1))
  | dT h1 _ _ => cases h; exact .base (.dT (e _ _ h1))
  | bag _ => cases h
section
variable {X : Cx} {e a b c : Expr} {es : List Expr} {fa fb f : EV} {fr : AV} {pos p p2 : Pos} {ft fu : TV}
def eIsi (T : String) (f : EV) : EV := fun δ Q => f (DEnv.frz δ) fun r => ∃ t, tyD r.d = some t ∧ Q (.val (.bl (isiB t T)))
theorem q_isi {y : Str} {T : String} (ha : QE X a f) (hm : X.mg "isinstance" = none) (hmT : X.mg y = none) (hv : bootBuiltins y = some (.type T)) (ok : okTy T = true) (hg : Gl X "isinstance" := by rfl) (hgT : Gl X y := by rfl)
    (hn : y ≠ "__name__" := by decide) (hdb : (y == ("__debug__" : Str)) = false := by decide) (hs : starEach [a, .Name y p2] X.env = (false, eval a X.env) :: starEach [.Name y p2] X.env := by rfl) :
    QE X (.Call (.Name "isinstance" p) [a, .Name y p2] [] pos) (eIsi T f) := by
  refine qe_of (pe_callB call_isi hg hm (by decide +kernel) (pa_cons ha.pe (pa_cons (pe_bltn (v := .ty T) hgT hmT hv rfl hn hdb) pa_nil) hs) (he := hs)) fun B P H σ δ Qd Q R h k => ?_
  refine lift_d R.tot (fun d => ∃ t, tyD d = some t ∧ Qd (.val (.bl (isiB t T)))) h fun d v P' H' ⟨t, q1, q2⟩ g z => ?_
  exact ⟨v, .ty T, .type t, .type T, isiB t T, rfl, .ty T, tyX_of g.ex z q1, kit_ty (tyD_ok q1 ok), k _ _ P H' q2 (Gr.drop R g) (.bl _)⟩
/-- isinstance(x, (S, T)) -/
def eIsi2 (S T : String) (f : EV) : EV := fun δ Q => f (DEnv.frz δ) fun r => ∃ t, tyD r.d = some t ∧ Q (.val (.bl (isiB t S || isiB t T)))
theorem q_isi2 {y z : Str} {S T : String} {p3 p4 : Pos} {n : Nat} (ha : QE X a f) (hm : X.mg "isinstance" = none) (hmS : X.mg y = none) (hvS : bootBuiltins y = some (.type S)) (okS : okTy S = true) (hmT : X.mg z = none) (hvT : bootBuiltins z = some (.type T)) (okT : okTy T = true)
    (hg : Gl X "isinstance" := by rfl) (hgS : Gl X y := by rfl) (hgT : Gl X z := by rfl) (hnS : y ≠ "__name__" := by decide) (hdbS : (y == ("__debug__" : Str)) = false := by decide) (hnT : z ≠ "__name__" := by decide) (hdbT : (z == ("__debug__" : Str)) = false := by decide)
    (hs : starEach [a, .Tuple [.Name y p2, .Name z p3] n p4] X.env = (false, eval a X.env) :: starEach [.Tuple [.Name y p2, .Name z p3] n p4] X.env := by rfl) :
    QE X (.Call (.Name "isinstance" p) [a, .Tuple [.Name y p2, .Name z p3] n p4] [] pos) (eIsi2 S T f) := by
  refine qe_of (pe_callB call_isiT hg hm (by decide +kernel) (pa_cons ha.pe (pa_cons (pe_tup (pa_cons (pe_bltn (v := .ty S) hgS hmS hvS rfl hnS hdbS) (pa_cons (pe_bltn (v := .ty T) hgT hmT hvT rfl hnT hdbT) pa_nil))) pa_nil) hs) (he := hs)) fun B P H σ δ Qd Q R h k => ?_
  refine lift_d R.tot (fun d => ∃ t, tyD d = some t ∧ Qd (.val (.bl (isiB t S || isiB t T)))) h fun d v P' H' ⟨t, q1, q2⟩ g z => ?_
  refine ⟨by show 2 ≤ sizeLine; decide, fun q hq => ?_⟩
  have s1 : Same H' (upd H' q (.tup [.ty S, .ty T])) := same_new hq
  refine ⟨v, q, [.ty S, .ty T], .type t, [.type S, .type T], isiB t S || isiB t T, rfl, upd_same, .cons (.ty S) (.cons (.ty T) .nil), tyX_of (g.ex.trans s1) z q1, ?_, ?_⟩
  · refine kitAny_cons (kit_ty (tyD_ok q1 okS)) (fun hf => ?_) fun ht => by rw [ht]; rfl
    rw [hf, Bool.false_or]
    exact kitAny_cons (kit_ty (tyD_ok q1 okT)) (fun hf => by rw [hf]; exact kitAny_nil) fun ht => ht
  · have gd := Gr.drop R g
    exact k _ _ P _ q2 (gd.trans R.bag (.loose gd.ex gd.bag hq)) (.bl _)

/-! ### truth, tests -/
def tru : D → Option Bool
  | .non => some false
  | .bl b => some b
  | .int i => some (i != 0)
  | .str y => if y.length ≤ sizeLine then some ((y.length : Int) != 0) else none
  | .lst xs => some (!xs.isEmpty)
  | .tup xs => some (!xs.isEmpty)
  | .wtup xs => some (!xs.isEmpty)
  | .dK kvs => some (!kvs.isEmpty)
  | .dT _ => none
  | .bag => none
theorem isEmpty_len {α β : Type} {xs : List α} {ys : List β} (h : xs.length = ys.length) : (!xs.isEmpty) = !ys.isEmpty := by
  cases xs <;> cases ys <;> first | rfl | (simp at h)
theorem tru_V {K : PySem.W.Frag} {B : Bg} {P H : Hp} {v : V} {d : D} {k : Bool} (e : Same P H) (z : Dp K B P v d) (h : tru d = some k) : TruV K v H k := by
  cases z with
  | non => cases h; rfl
  | bl b => cases h; rfl
  | int i => cases h; rfl
  | str x =>
    simp only [tru] at h
    split at h
    · rename_i hl; cases h; exact ⟨hl, rfl⟩
    · cases h
  | lst h1 h2 => cases h; exact .inl ⟨_, .inl (.inl (e _ _ h1)), (isEmpty_len h2.length).symm⟩
  | tup h1 h2 => cases h; exact .inr (.inl ⟨_, .inl (.inl (e _ _ h1)), (isEmpty_len h2.length).symm⟩)
  | wtup h1 h2 => cases h; exact .inr (.inl ⟨_, same_t (fun _ _ z => by cases z) h1, (isEmpty_len h2.length).symm⟩)
  | dK h1 h2 h3 =>
    cases h
    refine .inr (.inr ⟨_, e _ _ h1, (isEmpty_len ?_).symm⟩)
    have := congrArg List.length h2
    rwa [List.length_map, List.length_map] at this
  | dT h1 _ _ => cases h
  | bag _ => cases h
def tE (f : EV) : TV := fun δ Q => f (DEnv.frz δ) fun r => ∃ k, tru r.d = some k ∧ Q k
theorem qt_of {t : TT} (h : PT X e t) (i : ∀ B P H σ δ (Qd : Bool → Prop) (Q : Bool → Hp → Prop), Rep X.K B P H σ δ → ft δ Qd → (∀ c P' H', Qd c → Gr B P H P' H' → Q c H') → t σ H Q) : QT X e ft :=
  ⟨pt_imp h fun σ H Q ⟨B, P, δ, Qd, R, hf, k⟩ => i B P H σ δ Qd Q R hf k⟩
theorem q_t (ha : QE X a f) (he : ∀ whole, isTrue a X.env whole = (do let v ← whole; standAt a.pos; holding [v] (truthy v)) := by intro _; rfl) : QT X a (tE f) :=
  qt_of (pt_truth ha.pe he) fun B P H σ δ Qd Q R h k =>
    lift_d R.tot (fun d => ∃ c, tru d = some c ∧ Qd c) h fun d v P' H' ⟨c, q1, q2⟩ g z => ⟨c, tru_V g.ex z q1, k c P H' q2 (Gr.drop R g)⟩
/-- a comparison as a test: its value is a bool -/
def tCmp (go : D → D → (Rz → Prop) → Prop) (fa fb : EV) : TV := fun δ Q => eOp go fa fb (DEnv.frz δ) fun r => ∃ k, r = .val (.bl k) ∧ Q k
theorem q_tcmp {op : CmpOp} {go : D → D → (Rz → Prop) → Prop} (ho : OpL X (compareOp op) go) (ha : QE X a fa) (hb : QE X b fb) (hm : behindInMarks op b = false := by rfl) : QT X (.Compare a [op] [b] pos) (tCmp go fa fb) := by
  obtain ⟨r, h1, h2⟩ := ho
  refine qt_of (pt_cmpR h1 ha.pe hb.pe hm) fun B P H σ δ Qd Q R h k => ?_
  refine op_run (fn := compareOp op) (K := X.K) rfl h2 R.tot h fun rz v P' H' ⟨c, q1, q2⟩ g z => ?_
  subst q1
  exact ⟨c, Dp.bl' z, k c P H' q2 (Gr.drop R g)⟩
def tNt (ft : TV) : TV := fun δ Q => ft δ fun c => Q (!c)
theorem q_tnot (ha : QT X a ft) : QT X (.UnaryOp .Not a pos) (tNt ft) :=
  qt_of (pt_not ha.pt) fun B P H σ δ Qd Q R h k => ⟨B, P, δ, _, R, h, fun c P' H' q g => k _ P' H' q g⟩
structure QW (X : Cx) (e : Expr) (f : TV) : Prop where
  pw : PW X e (liftT X.K f)
theorem pw_imp {t t' : TT} (h : PW X e t) (i : ∀ σ H Q, t' σ H Q → t σ H Q) : PW X e t' := ⟨fun wh pins s σ H Q I q => h.run wh pins s σ H Q I (i σ H Q q)⟩
def tAn (ft fu : TV) : TV := fun δ Q => ft δ fun c => if c = true then fu δ Q else Q false
def tO (ft fu : TV) : TV := fun δ Q => ft δ fun c => if c = true then Q true else fu δ Q
theorem q_w (h : QW X e ft) : QT X e ft := ⟨h.pw.pt⟩
theorem q_wand1 (ha : QT X a ft) : QW X (.BoolOp .And [a] pos) ft := ⟨pw_and1 ha.pt⟩
theorem q_wor1 (ha : QT X a ft) : QW X (.BoolOp .Or [a] pos) ft := ⟨pw_or1 ha.pt⟩
theorem q_wand {rest : List Expr} (ha : QT X a ft) (hb : QW X (.BoolOp .And (b :: rest) pos) fu) : QW X (.BoolOp .And (a :: b :: rest) pos) (tAn ft fu) :=
  ⟨pw_imp (pw_and ha.pt hb.pw) fun σ H Q ⟨B, P, δ, Qd, R, h, k⟩ => ⟨B, P, δ, _, R, h, fun c P1 H1 q g => by
    cases c with
    | true => exact iteT ⟨B, P1, δ, Qd, R.mono g, q, fun c2 P2 H2 q2 g2 => k c2 P2 H2 q2 (g.trans R.bag g2)⟩
    | false => exact iteF (k false P1 H1 q g)⟩⟩
theorem q_wor {rest : List Expr} (ha : QT X a ft) (hb : QW X (.BoolOp .Or (b :: rest) pos) fu) : QW X (.BoolOp .Or (a :: b :: rest) pos) (tO ft fu) :=
  ⟨pw_imp (pw_or ha.pt hb.pw) fun σ H Q ⟨B, P, δ, Qd, R, h, k⟩ => ⟨B, P, δ, _, R, h, fun c P1 H1 q g => by
    cases c with
    | true => exact iteT (k true P1 H1 q g)
    | false => exact iteF ⟨B, P1, δ, Qd, R.mono g, q, fun c2 P2 H2 q2 g2 => k c2 P2 H2 q2 (g.trans R.bag g2)⟩⟩⟩
/-- a if t else b -/
def eIf (ft : TV) (fa fb : EV) : EV := fun δ Q => ft δ fun c => if c = true then fa δ Q else fb δ Q
theorem q_if (hc : QT X c ft) (ha : QE X a fa) (hb : QE X b fb) : QE X (.IfExp c a b pos) (eIf ft fa fb) := by
  refine qe_of (pe_ifExp hc.pt ha.pe hb.pe) fun B P H σ δ Qd Q R h k => ⟨B, P, δ, _, R, h, fun c P1 H1 q g => ?_⟩
  cases c with
  | true => exact iteT ⟨B, P1, δ, Qd, R.mono g, q, fun r v P2 H2 q2 g2 z2 => k r v P2 H2 q2 (g.trans R.bag g2) (z2.back R.bag g)⟩
  | false => exact iteF ⟨B, P1, δ, Qd, R.mono g, q, fun r v P2 H2 q2 g2 z2 => k r v P2 H2 q2 (g.trans R.bag g2) (z2.back R.bag g)⟩
/-- values by truth -/
def eAnd (fa fb : EV) : EV := fun δ Q => fa δ fun x => ∃ k, tru x.d = some k ∧ if k = true then fb δ Q else Q (.val x.d)
def eOr (fa fb : EV) : EV := fun δ Q => fa δ fun x => ∃ k, tru x.d = some k ∧ if k = true then Q (.val x.d) else fb δ Q
def eNot (fa : EV) : EV := fun δ Q => fa (DEnv.frz δ) fun x => ∃ k, tru x.d = some k ∧ Q (.val (.bl (!k)))
theorem q_one {op : BoolOp} (ha : QE X a fa) : QE X (.BoolOp op [a] pos) fa := ⟨pe_one ha.pe⟩
theorem q_and {rest : List Expr} (ha : QE X a fa) (hb : QE X (.BoolOp .And (b :: rest) pos) fb) : QE X (.BoolOp .And (a :: b :: rest) pos) (eAnd fa fb) := by
  refine qe_of (pe_andT ha.pe hb.pe) fun B P H σ δ Qd Q R h k => ?_
  refine lift_d R (fun d => ∃ c, tru d = some c ∧ if c = true then fb δ Qd else Qd (.val d)) h fun d v P1 H1 ⟨c, q1, q2⟩ g z => ⟨c, tru_V g.ex z q1, ?_⟩
  cases c with
  | true => exact iteT ⟨B, P1, δ, Qd, R.mono g, q2, fun r v P2 H2 q2 g2 z2 => k r v P2 H2 q2 (g.trans R.bag g2) (z2.back R.bag g)⟩
  | false => exact iteF (k _ v P1 H1 q2 g z)
theorem q_or {rest : List Expr} (ha : QE X a fa) (hb : QE X (.BoolOp .Or (b :: rest) pos) fb) : QE X (.BoolOp .Or (a :: b :: rest) pos) (eOr fa fb) := by
  refine qe_of (pe_orT ha.pe hb.pe) fun B P H σ δ Qd Q R h k => ?_
  refine lift_d R (fun d => ∃ c, tru d = some c ∧ if c = true then Qd (.val d) else fb δ Qd) h fun d v P1 H1 ⟨c, q1, q2⟩ g z => ⟨c, tru_V g.ex z q1, ?_⟩
  cases c with
  | true => exact iteT (k _ v P1 H1 q2 g z)
  | false => exact iteF ⟨B, P1, δ, Qd, R.mono g, q2, fun r v P2 H2 q2 g2 z2 => k r v P2 H2 q2 (g.trans R.bag g2) (z2.back R.bag g)⟩
theorem q_not (ha : QE X a fa) : QE X (.UnaryOp .Not a pos) (eNot fa) :=
  qe_of (pe_notT ha.pe) fun B P H σ δ Qd Q R h k =>
    lift_d R.tot (fun d => ∃ c, tru d = some c ∧ Qd (.val (.bl (!c)))) h fun d v P' H' ⟨c, q1, q2⟩ g z => ⟨c, tru_V g.ex z q1, k _ _ P H' q2 (Gr.drop R g) (.bl _)⟩
def negD : D → (Rz → Prop) → Prop
  | .int i, Q => Q (.val (.int (-i)))
  | _, _ => False
def eNeg (fa : EV) : EV := fun δ Q => fa δ fun x => negD x.d Q
theorem q_neg (ha : QE X a fa) : QE X (.UnaryOp .USub a pos) (eNeg fa) :=
  qe_of (pe_un un_neg ha.pe) fun B P H σ δ Qd Q R h k =>
    lift_d R (fun d => negD d Qd) h fun d v P' H' q g z => by
      cases d with
      | int i => cases z.int'; exact ⟨i, rfl, k _ _ P' H' q g (.int _)⟩
      | _ => exact q.elim
end
end DI

namespace DI
open PySem PySem.Spec PyProof.Rows L2

/-! ### what is walked -/
abbrev IV := DEnv → (List D → Prop) → Prop
structure WalkD (K : PySem.W.Frag) (B : Bg) (P0 : Hp) (J : It) (xs : List D) : Prop where
  go : ∀ P H i, Same P0 P → Same P H → BagOk B P H → i < xs.length → J.go i H ∧ ∀ v H', J.yld i H v H' → ∃ P' d, xs[i]? = some d ∧ Gr B P H P' H' ∧ Dp K B P' v d
  stop : ∀ P H, Same P0 P → Same P H → J.stop xs.length H
def liftI (K : PySem.W.Frag) (f : IV) : TI := fun σ H R => ∃ B P δ Qd, Rep K B P H σ δ ∧ f δ Qd ∧ ∀ xs J P' H', Qd xs → Gr B P H P' H' → WalkD K B P' J xs → R J H'
structure QI (X : Cx) (tg e : Expr) (f : IV) : Prop where
  pi : PI X tg e (liftI X.K f)
theorem pi_imp {X : Cx} {tg e : Expr} {t t' : TI} (h : PI X tg e t) (i : ∀ σ H Q, t' σ H Q → t σ H Q) : PI X tg e t' := ⟨fun pins s σ H Q I q => h.run pins s σ H Q I (i σ H Q q)⟩
theorem qi_of {X : Cx} {tg e : Expr} {t : TI} {f : IV} (h : PI X tg e t) (i : ∀ B P H σ δ (Qd : List D → Prop) (R : It → Hp → Prop), Rep X.K B P H σ δ → f δ Qd → (∀ xs J P' H', Qd xs → Gr B P H P' H' → WalkD X.K B P' J xs → R J H') → t σ H R) : QI X tg e f :=
  ⟨pi_imp h fun σ H Q ⟨B, P, δ, Qd, R, hf, k⟩ => i B P H σ δ Qd Q R hf k⟩
section
variable {X : Cx} {tg e a b : Expr} {f fa fb : EV} {fr : AV} {pos p : Pos}
/-- a list, a tuple or a text, by its value -/
theorem pi_seq {tl : TE} (hl : PE X e tl) : PI X tg e (fun σ H R => tl σ H fun x H1 => (∃ a, x = .ref a ∧ (∃ xs, SqL X.K H1 a xs) ∧ R (Itl X.K a) H1) ∨ (∃ a, x = .ref a ∧ (∃ xs, SqT X.K H1 a xs) ∧ R (Itt X.K a) H1) ∨ (∃ z, x = .str z ∧ R (Its z) H1)) := by
  refine ⟨fun pins s σ H R I h => ?_⟩
  refine thn (hl.run pins s σ H _ I h) fun v s1 ⟨x, H1, I1, r1, q1⟩ => ?_
  rcases q1 with ⟨a, e, ⟨xs, hq⟩, q⟩ | ⟨a, e, ⟨xs, hq⟩, q⟩ | ⟨x, ex, q⟩
  · subst e
    cases r1
    obtain ⟨its, rv, p, hz⟩ := I1.list hq
    refine wpAny_pyIter_list p.isList ?_
    refine ⟨s1.heap.objs.size, [s1.heap.objs.size], _, _, H1, rfl, I1.kept (t' := s1.toks) fun b o e => Heap.get?_push_of_some _ e, turn_list a _, ⟨_, Heap.get?_push_size _ rfl, rfl, rfl⟩, fun b hb => ?_, q⟩
    have e : b = s1.heap.objs.size := by simpa using hb
    subst e
    exact I1.fpOk (Nat.le_refl _) (I1.hok.fresh (Nat.le_refl _))
  · subst e
    cases r1
    obtain ⟨its, rv, p, hz⟩ := I1.tuple hq
    refine wpAny_pyIter_tuple (show s1.heap.IsTuple a its.toArray from p) ?_
    refine ⟨s1.heap.objs.size, [s1.heap.objs.size], _, _, H1, rfl, I1.kept (t' := s1.toks) fun b o e => Heap.get?_push_of_some _ e, turn_tuple a _, ⟨_, Heap.get?_push_size _ rfl, rfl, rfl⟩, fun b hb => ?_, q⟩
    have e : b = s1.heap.objs.size := by simpa using hb
    subst e
    exact I1.fpOk (Nat.le_refl _) (I1.hok.fresh (Nat.le_refl _))
  · subst ex
    obtain ⟨t, rfl⟩ := r1
    cases ha : x.cps.all (· < 128)
    · exact wpAny_pyIter_wide ha (pi_one (tk := s1.toks) I1 _ (turn_str _ x t "str_iterator" (.inr rfl)) ⟨_, Heap.get?_push_size _ rfl, rfl, rfl⟩ q)
    · exact wpAny_pyIter_ascii ha (pi_one (tk := s1.toks) I1 _ (turn_str _ x t "str_ascii_iterator" (.inl rfl)) ⟨_, Heap.get?_push_size _ rfl, rfl, rfl⟩ q)
def chs (z : Str) : List D := z.cps.toList.map fun c => .str ⟨#[c]⟩
def seqD : D → Option (List D)
  | .lst xs => some xs
  | .tup xs => some xs
  | .wtup xs => some xs
  | .str z => some (chs z)
  | _ => none
def iSeq (f : EV) : IV := fun δ Q => f δ fun r => ∃ xs, seqD r.d = some xs ∧ Q xs
theorem walk_at {K : PySem.W.Frag} {B : Bg} {P0 : Hp} {J : It} {vs : List V} {ds : List D} (z : DpA K B P0 vs ds) (hgo : ∀ P H i v, Same P0 P → Same P H → vs[i]? = some v → J.go i H) (hy : ∀ P H i v H', Same P0 P → Same P H → J.yld i H v H' → H' = H ∧ vs[i]? = some v)
    (hst : ∀ P H, Same P0 P → Same P H → J.stop vs.length H) : WalkD K B P0 J ds := by
  refine ⟨fun P H i e1 e2 b hi => ?_, fun P H e1 e2 => by rw [← z.length]; exact hst P H e1 e2⟩
  have hi' : i < vs.length := by rw [z.length]; exact hi
  refine ⟨hgo P H i vs[i] e1 e2 (by simp [hi']), fun v H' y => ?_⟩
  obtain ⟨rfl, h⟩ := hy P H i v H' e1 e2 y
  obtain ⟨d, h1, h2⟩ := z.get' h
  exact ⟨P, d, h1, .refl e2 b, h2.mono e1⟩
theorem q_seq (he : QE X e f) : QI X tg e (iSeq f) := by
  refine qi_of (pi_seq he.pe) fun B P H σ δ Qd R Rp h k => ?_
  refine lift_d Rp (fun d => ∃ xs, seqD d = some xs ∧ Qd xs) h fun d v P' H' ⟨xs, q1, q2⟩ g z => ?_
  cases d with
  | lst ds =>
    cases q1
    obtain ⟨a1, x1, rfl, p1, w1⟩ := z.lst'
    refine .inl ⟨a1, rfl, ⟨x1, .inl (.inl (g.ex _ _ p1))⟩, k _ _ P' H' q2 g ?_⟩
    have sq : ∀ P H, Same P' P → Same P H → SqL X.K H a1 x1 := fun P H e1 e2 => .inl (.inl (e2 _ _ (e1 _ _ p1)))
    exact walk_at w1 (fun P H i v e1 e2 hv => ⟨x1, v, sq P H e1 e2, hv⟩) (fun P H i v H' e1 e2 y => ⟨y.1, y.2 _ (sq P H e1 e2)⟩) fun P H e1 e2 => ⟨x1, sq P H e1 e2, Nat.le_refl _⟩
  | tup ds =>
    cases q1
    obtain ⟨a1, x1, rfl, p1, w1⟩ := z.tup'
    have sq : ∀ P H, Same P' P → Same P H → SqT X.K H a1 x1 := fun P H e1 e2 => .inl (.inl (e2 _ _ (e1 _ _ p1)))
    refine .inr (.inl ⟨a1, rfl, ⟨x1, .inl (.inl (g.ex _ _ p1))⟩, k _ _ P' H' q2 g ?_⟩)
    exact walk_at w1 (fun P H i v e1 e2 hv => ⟨x1, v, sq P H e1 e2, hv⟩) (fun P H i v H' e1 e2 y => ⟨y.1, y.2 _ (sq P H e1 e2)⟩) fun P H e1 e2 => ⟨x1, sq P H e1 e2, Nat.le_refl _⟩
  | wtup ds =>
    cases q1
    obtain ⟨a1, x1, rfl, p1, w1⟩ := z.wtup'
    refine .inr (.inl ⟨a1, rfl, ⟨x1, p1 H'⟩, k _ _ P' H' q2 g ?_⟩)
    exact walk_at w1 (fun P H i v e1 e2 hv => ⟨x1, v, p1 H, hv⟩) (fun P H i v H' e1 e2 y => ⟨y.1, y.2 _ (p1 H)⟩) fun P H e1 e2 => ⟨x1, p1 H, Nat.le_refl _⟩
  | str s =>
    cases q1
    cases z.str'
    refine .inr (.inr ⟨s, rfl, k _ _ P' H' q2 g ⟨fun P H i e1 e2 b hi => ?_, fun P H e1 e2 => ?_⟩⟩)
    · have hi' : i < s.cps.size := by simpa [chs] using hi
      refine ⟨hi', fun v H' y => ?_⟩
      obtain ⟨rfl, c, hc, rfl⟩ := y
      refine ⟨P, .str ⟨#[c]⟩, ?_, .refl e2 b, .str _⟩
      unfold chs
      rw [List.getElem?_map, Array.getElem?_toList, hc]
      rfl
    · show s.cps.size ≤ (chs s).length
      simp [chs]
  | _ => cases q1
/-- range(n), range(a, b) -/
def rngD (lo : Int) (n : Nat) : List D := (List.range n).map fun i => .int (lo + (i : Nat))
def iRg1 (f : EV) : IV := fun δ Q => f δ fun r => ∃ j : Int, r.d = .int j ∧ -1000000000 ≤ j ∧ j ≤ 1000000000 ∧ Q (rngD 0 j.toNat)
def iRg2 (fa fb : EV) : IV := fun δ Q => fa δ fun x => fb δ fun y => ∃ i j : Int, x.d = .int i ∧ y.d = .int j ∧ -1000000000 ≤ i ∧ i ≤ 1000000000 ∧ -1000000000 ≤ j ∧ j ≤ 1000000000 ∧ Q (rngD i (j - i).toNat)
theorem walk_rng {K : PySem.W.Frag} {B : Bg} {P0 : Hp} {lo : Int} {n : Nat} : WalkD K B P0 (Itr lo n) (rngD lo n) := by
  refine ⟨fun P H i e1 e2 b hi => ?_, fun P H e1 e2 => ?_⟩
  · have hi' : i < n := by simpa [rngD] using hi
    refine ⟨hi', fun v H' y => ?_⟩
    obtain ⟨rfl, rfl⟩ := y
    refine ⟨P, .int (lo + i), ?_, .refl e2 b, .int _⟩
    unfold rngD
    rw [List.getElem?_map, List.getElem?_range hi']
    rfl
  · show n ≤ (rngD lo n).length
    simp [rngD]
theorem q_rg1 (ha : QE X a f) (hm : X.mg "range" = none) (hg : Gl X "range" := by rfl) (hs : starEach [a] X.env = [(false, eval a X.env)] := by rfl) : QI X tg (.Call (.Name "range" p) [a] [] pos) (iRg1 f) := by
  refine qi_of (pi_range1 hg hm (pa_cons ha.pe pa_nil hs) (hs := hs)) fun B P H σ δ Qd R Rp h k => ?_
  refine lift_d Rp (fun d => ∃ j : Int, d = .int j ∧ -1000000000 ≤ j ∧ j ≤ 1000000000 ∧ Qd (rngD 0 j.toNat)) h fun d v P' H' ⟨j, q1, q2, q3, q4⟩ g z => ?_
  subst q1
  cases z.int'
  exact ⟨j, rfl, by omega, by omega, k _ _ P' H' q4 g walk_rng⟩
theorem q_rg2 (ha : QE X a fa) (hb : QE X b fb) (hm : X.mg "range" = none) (hg : Gl X "range" := by rfl) (hs : starEach [a, b] X.env = (false, eval a X.env) :: starEach [b] X.env := by rfl) (hs2 : starEach [b] X.env = [(false, eval b X.env)] := by rfl) (hpl : (backTo pos (starEach [b] X.env)).any (·.1) = false := by rfl) : QI X tg (.Call (.Name "range" p) [a, b] [] pos) (iRg2 fa fb) := by
  refine qi_of (pi_range2 hg hm (pa_cons ha.pe (pa_cons hb.pe pa_nil hs2) hs) (hs := hs.trans (by rw [hs2])) (hs2 := hs2)) fun B P H σ δ Qd R Rp h k => ?_
  refine lift_d Rp (fun x => fb δ fun y => ∃ i j : Int, x = .int i ∧ y.d = .int j ∧ -1000000000 ≤ i ∧ i ≤ 1000000000 ∧ -1000000000 ≤ j ∧ j ≤ 1000000000 ∧ Qd (rngD i (j - i).toNat)) h fun d v P1 H1 q g1 z1 => ?_
  refine lift_d (Rp.mono g1) (fun y => ∃ i j : Int, d = .int i ∧ y = .int j ∧ -1000000000 ≤ i ∧ i ≤ 1000000000 ∧ -1000000000 ≤ j ∧ j ≤ 1000000000 ∧ Qd (rngD i (j - i).toNat)) q fun d2 v2 P2 H2 ⟨i, j, q1, q2, q3, q4, q5, q6, q7⟩ g2 z2 => ?_
  subst q1
  subst q2
  cases z1.int'
  cases z2.int'
  exact ⟨i, j, rfl, ⟨by omega, by omega, by omega, by omega⟩, k _ _ P2 H2 q7 (g1.trans Rp.bag g2) walk_rng⟩
/-- zip of two lists, of two tuples -/
def zipD (xs ys : List D) : List D := (xs.zip ys).map fun p => .tup [p.1, p.2]
def zpD : D → D → Option (List D)
  | .lst xs, .lst ys => some (zipD xs ys)
  | .tup xs, .tup ys => some (zipD xs ys)
  | _, _ => none
def iZp (fa fb : EV) : IV := fun δ Q => fa δ fun x => fb δ fun y => ∃ zs, zpD x.d y.d = some zs ∧ Q zs
theorem walk_zp {K : PySem.W.Frag} {B : Bg} {P0 : Hp} {J : It} {vs us : List V} {ds es : List D} (z : DpA K B P0 vs ds) (y : DpA K B P0 us es)
    (hgo : ∀ P H i v u, Same P0 P → Same P H → vs[i]? = some v → us[i]? = some u → J.go i H)
    (hy : ∀ P H i v H', Same P0 P → Same P H → J.yld i H v H' → ∃ T x y, v = .ref T ∧ H T = none ∧ H' = upd H T (.tup [x, y]) ∧ vs[i]? = some x ∧ us[i]? = some y)
    (hst : ∀ P H i, Same P0 P → Same P H → (vs.length ≤ i ∨ us.length ≤ i) → J.stop i H) : WalkD K B P0 J (zipD ds es) := by
  have hl : (zipD ds es).length = min vs.length us.length := by
    unfold zipD
    rw [List.length_map, List.length_zip, z.length, y.length]
  refine ⟨fun P H i e1 e2 b hi => ?_, fun P H e1 e2 => hst P H _ e1 e2 (by rw [hl]; omega)⟩
  rw [hl] at hi
  have h1 : i < vs.length := by omega
  have h2 : i < us.length := by omega
  refine ⟨hgo P H i vs[i] us[i] e1 e2 (by simp [h1]) (by simp [h2]), fun v H' yy => ?_⟩
  obtain ⟨T, x, w, rfl, hT, rfl, g1, g2⟩ := hy P H i v H' e1 e2 yy
  obtain ⟨d1, k1, k2⟩ := z.get' g1
  obtain ⟨d2, l1, l2⟩ := y.get' g2
  refine ⟨upd P T (.tup [x, w]), .tup [d1, d2], ?_, .new e2 b hT, ?_⟩
  · unfold zipD
    have hz : (ds.zip es)[i]? = some (d1, d2) := List.getElem?_zip_eq_some.mpr ⟨k1, l1⟩
    rw [List.getElem?_map, hz]
    rfl
  · have sn : Same P0 (upd P T (.tup [x, w])) := e1.trans (same_new (e2.free hT))
    exact .tup upd_same (.cons (k2.mono sn) (.cons (l2.mono sn) .nil))
theorem q_zp {elts : List Expr} {kk : Nat} {tpos : Pos} (ha : QE X a fa) (hb : QE X b fb) (hm : X.mg "zip" = none) (hg : Gl X "zip" := by rfl) (hs : starEach [a, b] X.env = (false, eval a X.env) :: starEach [b] X.env := by rfl) (hs2 : starEach [b] X.env = [(false, eval b X.env)] := by rfl) (hpl : (backTo pos (starEach [b] X.env)).any (·.1) = false := by rfl) :
    QI X (.Tuple elts kk tpos) (.Call (.Name "zip" p) [a, b] [] pos) (iZp fa fb) := by
  refine qi_of (RZ.pi_zipA hg hm (pa_cons ha.pe (pa_cons hb.pe pa_nil hs2) hs) hs hpl) fun B P H σ δ Qd R Rp h k => ?_
  refine lift_d Rp (fun x => fb δ fun y => ∃ zs, zpD x y.d = some zs ∧ Qd zs) h fun d v P1 H1 q g1 z1 => ?_
  refine lift_d (Rp.mono g1) (fun y => ∃ zs, zpD d y = some zs ∧ Qd zs) q fun d2 v2 P2 H2 ⟨zs, q1, q2⟩ g2 z2 => ?_
  have zx := z1.mono g2.pp
  have g := g1.trans Rp.bag g2
  cases d with
  | lst xs =>
    cases d2 with
    | lst ys =>
      cases q1
      obtain ⟨a1, x1, rfl, p1, w1⟩ := zx.lst'
      obtain ⟨a2, x2, rfl, p2, w2⟩ := z2.lst'
      have s1 : ∀ P H, Same P2 P → Same P H → SqL X.K H a1 x1 := fun P H e1 e2 => .inl (.inl (e2 _ _ (e1 _ _ p1)))
      have s2 : ∀ P H, Same P2 P → Same P H → SqL X.K H a2 x2 := fun P H e1 e2 => .inl (.inl (e2 _ _ (e1 _ _ p2)))
      refine ⟨a1, a2, x1, x2, rfl, .inl ⟨s1 P2 H2 (.refl _) g.ex, s2 P2 H2 (.refl _) g.ex, k _ _ P2 H2 q2 g ?_⟩⟩
      refine walk_zp w1 w2 (fun P H i v u e1 e2 h1 h2 => ⟨x1, x2, v, u, s1 P H e1 e2, s2 P H e1 e2, h1, h2⟩) (fun P H i v H' e1 e2 y => ?_) fun P H i e1 e2 hi => ⟨x1, x2, s1 P H e1 e2, s2 P H e1 e2, hi⟩
      obtain ⟨T, x, w, h1, h2, h3, h4, h5⟩ := y
      exact ⟨T, x, w, h1, h2, h3, h4 _ (s1 P H e1 e2), h5 _ (s2 P H e1 e2)⟩
    | _ => cases q1
  | tup xs =>
    cases d2 with
    | tup ys =>
      cases q1
      obtain ⟨a1, x1, rfl, p1, w1⟩ := zx.tup'
      obtain ⟨a2, x2, rfl, p2, w2⟩ := z2.tup'
      have s1 : ∀ P H, Same P2 P → Same P H → SqT X.K H a1 x1 := fun P H e1 e2 => .inl (.inl (e2 _ _ (e1 _ _ p1)))
      have s2 : ∀ P H, Same P2 P → Same P H → SqT X.K H a2 x2 := fun P H e1 e2 => .inl (.inl (e2 _ _ (e1 _ _ p2)))
      refine ⟨a1, a2, x1, x2, rfl, .inr ⟨s1 P2 H2 (.refl _) g.ex, s2 P2 H2 (.refl _) g.ex, k _ _ P2 H2 q2 g ?_⟩⟩
      refine walk_zp w1 w2 (fun P H i v u e1 e2 h1 h2 => ⟨x1, x2, v, u, s1 P H e1 e2, s2 P H e1 e2, h1, h2⟩) (fun P H i v H' e1 e2 y => ?_) fun P H i e1 e2 hi => ⟨x1, x2, s1 P H e1 e2, s2 P H e1 e2, hi⟩
      obtain ⟨T, x, w, h1, h2, h3, h4, h5⟩ := y
      exact ⟨T, x, w, h1, h2, h3, h4 _ (s1 P H e1 e2), h5 _ (s2 P H e1 e2)⟩
    | _ => cases q1
  | _ => cases d2 <;> cases q1
end
end DI

namespace DI
open PySem L2

/-! ### targets -/
inductive Tg where
  | one (i : Nat) | tup (is : List Nat)
def setAll : List Nat → List D → DEnv → Option DEnv
  | [], [], δ => some δ
  | i :: is, d :: ds, δ => setAll is ds (δ.set i (.val d))
  | _, _, _ => none
def Tg.bind : Tg → D → DEnv → (DEnv → Prop) → Prop
  | .one i, d, δ, Q => Q (δ.set i (.val d))
  | .tup is, .tup ds, δ, Q => ∃ δ', setAll is ds δ = some δ' ∧ Q δ'
  | _, _, _, _ => False
def gNames : List Nat → TGs
  | [] => gNil
  | i :: is => gCons (gName i) (gNames is)
def Tg.g (K : PySem.W.Frag) : Tg → TG
  | .one i => gName i
  | .tup is => gTup K is.length (gNames is)
def Tg.ix : Tg → List Nat
  | .one i => [i]
  | .tup is => is
structure QG (X : Cx) (e : Expr) (t : Tg) : Prop where
  pg : PG X e (t.g X.K)
structure QGs (X : Cx) (es : List Expr) (is : List Nat) : Prop where
  pgs : PGs X es (gNames is)
  len : es.length = is.length
section
variable {X : Cx} {pos : Pos}
theorem q_name {i : Nat} {x : Str} (hN : X.N.Nodup) (hi : X.N[i]? = some x := by rfl) (hx : Loc X.env.scope x := by first | exact Or.inl rfl | exact Or.inr rfl) (hf : X.fn x = true ∨ X.env.scope.names.lookup x = some .local := by first | exact .inl rfl | exact .inr rfl | assumption) : QG X (.Name x pos) (.one i) := ⟨pg_name hN hi hx hf⟩
theorem q_gnil : QGs X [] [] := ⟨pgs_nil, rfl⟩
theorem q_gcons {e : Expr} {es : List Expr} {i : Nat} {is : List Nat} (h1 : QG X e (.one i)) (h2 : QGs X es is) (hs : (assignEach (e :: es) X.env).map (·.2) = assign e X.env :: (assignEach es X.env).map (·.2) := by rfl) : QGs X (e :: es) (i :: is) := ⟨pgs_cons h1.pg h2.pgs hs, by rw [List.length_cons, List.length_cons, h2.len]⟩
end
/-- the slots of plain values, changed -/
theorem Rep.set_val {K : PySem.W.Frag} {B : Bg} {P H : Hp} {σ : L2.St} {δ : DEnv} {v : V} {d : D} (R : Rep K B P H σ δ) (i : Nat) (z : Dp K B P v d) : Rep K B P H (σ.set i (some v)) (δ.set i (.val d)) := by
  have hl := R.len
  have back : ∀ (j : Nat) (s : Sl), (δ.set i (Sl.val d))[j]? = some s → (i = j ∧ s = .val d ∧ j < δ.length) ∨ (i ≠ j ∧ δ[j]? = some s) := fun j s h => by
    by_cases e : i = j
    · subst e
      by_cases hi : i < δ.length
      · rw [List.getElem?_set_self hi] at h
        exact .inl ⟨rfl, (Option.some.inj h).symm, hi⟩
      · rw [List.getElem?_eq_none (by rw [List.length_set]; omega)] at h
        cases h
    · rw [List.getElem?_set_ne e] at h
      exact .inr ⟨e, h⟩
  refine ⟨R.ex, R.bag, fun j d' h => ?_, fun j ds h => ?_, fun j k ds es l h1 h2 h3 h4 => ?_, by rw [List.length_set, List.length_set]; exact hl⟩
  · rcases back j _ h with ⟨rfl, e, hj⟩ | ⟨ne, h⟩
    · cases e
      exact ⟨v, by rw [List.getElem?_set_self (by omega)], z⟩
    · obtain ⟨v', h1, h2⟩ := R.val j d' h
      exact ⟨v', by rw [List.getElem?_set_ne ne]; exact h1, h2⟩
  · rcases back j _ h with ⟨rfl, e, hj⟩ | ⟨ne, h⟩
    · cases e
    · obtain ⟨l, vs, h1, h2⟩ := R.own j ds h
      exact ⟨l, vs, by rw [List.getElem?_set_ne ne]; exact h1, h2⟩
  · rcases back j _ h1 with ⟨_, e, _⟩ | ⟨n1, h1⟩
    · cases e
    rcases back k _ h2 with ⟨_, e, _⟩ | ⟨n2, h2⟩
    · cases e
    rw [List.getElem?_set_ne n1] at h3
    rw [List.getElem?_set_ne n2] at h4
    exact R.sep j k ds es l h1 h2 h3 h4
theorem wipe_set0 {i : Nat} {x : Option V} : ∀ (r : List Nat) (σ : L2.St), i ∉ r → (wipe (σ.set i x) r).set i none = (wipe σ r).set i none
  | [], σ, _ => by unfold wipe; rw [List.set_set]
  | b :: r, σ, hr => by
    have nb : b ≠ i := fun e => hr (by rw [e]; exact List.mem_cons_self)
    have nr : i ∉ r := fun e => hr (List.mem_cons_of_mem _ e)
    unfold wipe
    rw [List.set_comm _ _ nb, wipe_set0 r σ nr, List.set_comm _ _ nb.symm]
theorem wipe_set {i : Nat} {x : Option V} {σ : L2.St} : ∀ {ws : List Nat}, i ∈ ws → wipe (σ.set i x) ws = wipe σ ws
  | [], h => by cases h
  | a :: r, hi => by
    unfold wipe
    by_cases hr : i ∈ r
    · rw [wipe_set hr]
    · have e : i = a := by
        rcases List.mem_cons.mp hi with e | e
        · exact e
        · exact absurd e hr
      subst e
      exact wipe_set0 r σ hr
theorem setAll_ok {K : PySem.W.Frag} {B : Bg} {P H : Hp} : ∀ {is : List Nat} {vs : List V} {ds : List D} {σ : L2.St} {δ δ' : DEnv} {Q : L2.St → Hp → Prop}, DpA K B P vs ds → Rep K B P H σ δ → setAll is ds δ = some δ' →
    (∀ σ', Rep K B P H σ' δ' → (∀ ws : List Nat, (∀ i ∈ is, i ∈ ws) → wipe σ' ws = wipe σ ws) → Q σ' H) → gNames is vs σ H Q
  | [], _, _, σ, δ, δ', Q, .nil, R, h, k => by
    cases h
    exact ⟨rfl, k σ R fun _ _ => rfl⟩
  | i :: is, _, _, σ, δ, δ', Q, .cons (v := v) (vs := vs) z t, R, h, k => by
    refine ⟨v, vs, rfl, ?_⟩
    refine setAll_ok (σ := σ.set i (some v)) t (R.set_val i z) h fun σ' R' w => k σ' R' fun ws hw => ?_
    rw [w ws fun j hj => hw j (List.mem_cons_of_mem _ hj)]
    exact wipe_set (hw i List.mem_cons_self)
  | [], _, _, σ, δ, δ', Q, .cons _ _, R, h, k => by simp [setAll] at h
  | _ :: _, _, _, σ, δ, δ', Q, .nil, R, h, k => by simp [setAll] at h
theorem Tg.ok {K : PySem.W.Frag} {B : Bg} {P H : Hp} {t : Tg} {v : V} {d : D} {σ : L2.St} {δ : DEnv} {Qd : DEnv → Prop} {Q : L2.St → Hp → Prop} (z : Dp K B P v d) (R : Rep K B P H σ δ) (h : t.bind d δ Qd)
    (k : ∀ δ' σ', Qd δ' → Rep K B P H σ' δ' → (∀ ws : List Nat, (∀ i ∈ t.ix, i ∈ ws) → wipe σ' ws = wipe σ ws) → Q σ' H) : t.g K v σ H Q := by
  cases t with
  | one i =>
    have q := setAll_ok (is := [i]) (Q := fun σ' H' => H' = H ∧ ∀ ws : List Nat, i ∈ ws → wipe σ' ws = wipe σ ws) (DpA.one z) R (δ' := δ.set i (.val d)) rfl fun σ' _ w => ⟨rfl, fun ws hw => w ws fun j hj => by rw [List.mem_singleton.mp hj]; exact hw⟩
    obtain ⟨v', r, e, q⟩ := q
    cases e
    obtain ⟨_, _, w⟩ := q
    exact k _ _ h (R.set_val i z) fun ws hw => w ws (hw i List.mem_cons_self)
  | tup is =>
    cases d with
    | tup ds =>
      obtain ⟨δ', h1, h2⟩ := h
      obtain ⟨a1, x1, rfl, p1, w1⟩ := z.tup'
      have el : ∀ {is : List Nat} {ds : List D} {δ δ' : DEnv}, setAll is ds δ = some δ' → ds.length = is.length := by
        intro is
        induction is with
        | nil => intro ds δ δ' h; cases ds with | nil => rfl | cons _ _ => simp [setAll] at h
        | cons i is ih => intro ds δ δ' h; cases ds with | nil => simp [setAll] at h | cons d ds => rw [List.length_cons, List.length_cons, ih h]
      refine ⟨a1, x1, rfl, .inl (.inl (R.ex _ _ p1)), by rw [w1.length]; exact el h1, ?_⟩
      exact setAll_ok w1 R h1 fun σ' R' w => k δ' σ' h2 R' w
    | _ => exact h.elim
theorem q_gtup {X : Cx} {es : List Expr} {n : Nat} {is : List Nat} {pos : Pos} (h : QGs X es is) (hc : X.calm = true := by rfl) (hn : (assignEach es X.env).length = is.length := by rfl) (hst : (assignEach es X.env).findIdx? (·.1) = none := by rfl) : QG X (.Tuple es n pos) (.tup is) :=
  ⟨pg_tup hc h.pgs hn hst⟩

/-! ### comprehensions -/
def wipeD (δ : DEnv) : List Nat → DEnv
  | [] => δ
  | v :: vs => (wipeD δ vs).set v .no
theorem Rep.set_no {K : PySem.W.Frag} {B : Bg} {P H : Hp} {σ : L2.St} {δ : DEnv} (R : Rep K B P H σ δ) (i : Nat) (s : Option V) : Rep K B P H (σ.set i s) (δ.set i .no) := by
  have hl := R.len
  have back : ∀ (j : Nat) (s : Sl), (δ.set i Sl.no)[j]? = some s → s = .no ∨ (i ≠ j ∧ δ[j]? = some s) := fun j s h => by
    by_cases e : i = j
    · subst e
      by_cases hi : i < δ.length
      · rw [List.getElem?_set_self hi] at h
        exact .inl (Option.some.inj h).symm
      · rw [List.getElem?_eq_none (by rw [List.length_set]; omega)] at h
        cases h
    · rw [List.getElem?_set_ne e] at h
      exact .inr ⟨e, h⟩
  refine ⟨R.ex, R.bag, fun j d' h => ?_, fun j ds h => ?_, fun j k ds es l h1 h2 h3 h4 => ?_, by rw [List.length_set, List.length_set]; exact hl⟩
  · rcases back j _ h with e | ⟨ne, h⟩
    · cases e
    · obtain ⟨v', h1, h2⟩ := R.val j d' h
      exact ⟨v', by rw [List.getElem?_set_ne ne]; exact h1, h2⟩
  · rcases back j _ h with e | ⟨ne, h⟩
    · cases e
    · obtain ⟨l, vs, h1, h2⟩ := R.own j ds h
      exact ⟨l, vs, by rw [List.getElem?_set_ne ne]; exact h1, h2⟩
  · rcases back j _ h1 with e | ⟨n1, h1⟩
    · cases e
    rcases back k _ h2 with e | ⟨n2, h2⟩
    · cases e
    rw [List.getElem?_set_ne n1] at h3
    rw [List.getElem?_set_ne n2] at h4
    exact R.sep j k ds es l h1 h2 h3 h4
theorem Rep.wipe {K : PySem.W.Frag} {B : Bg} {P H : Hp} {σ : L2.St} {δ : DEnv} (R : Rep K B P H σ δ) : ∀ vs : List Nat, Rep K B P H (L2.wipe σ vs) (wipeD δ vs)
  | [] => R
  | v :: vs => by
    unfold L2.wipe wipeD
    exact (R.wipe vs).set_no v none
theorem wipe_wipe (σ : L2.St) (vs : List Nat) : wipe (wipe σ vs) vs = wipe σ vs := by
  have h : ∀ (ws : List Nat) (τ : L2.St), (∀ i ∈ ws, ∀ x, τ[i]? = some x → x = none) → wipe τ ws = τ := by
    intro ws
    induction ws with
    | nil => intro τ _; rfl
    | cons a r ih =>
      intro τ hτ
      unfold wipe
      rw [ih τ fun i hi => hτ i (List.mem_cons_of_mem _ hi)]
      apply List.ext_getElem?
      intro j
      by_cases e : a = j
      · subst e
        by_cases hj : a < τ.length
        · rw [List.getElem?_set_self hj]
          have q : τ[a]? = some τ[a] := List.getElem?_eq_getElem hj
          rw [q, hτ a List.mem_cons_self _ q]
        · rw [List.getElem?_eq_none (by rw [List.length_set]; omega), List.getElem?_eq_none (by omega)]
      · rw [List.getElem?_set_ne e]
  refine h vs _ fun i hi x hx => ?_
  cases x with
  | none => rfl
  | some v => exact absurd hi (wipe_some hx).2
def lcL (δ : DEnv) (t : Tg) (ft : TV) (fe : EV) : List D → (List D → Prop) → Prop
  | [], Q => Q []
  | x :: r, Q => t.bind x δ fun δ' => ft δ' fun b => if b = true then fe δ' fun y => lcL δ t ft fe r fun ys => Q (y.d :: ys) else lcL δ t ft fe r Q
def eLc (fi : IV) (t : Tg) (ft : TV) (fe : EV) (vs : List Nat) : EV := fun δ Q => fi δ fun xs => xs.length ≤ sizeLine ∧ lcL (wipeD δ vs) t ft fe xs fun ds => Q (.new ds)
def tTrue : TV := fun _ Q => Q true
/-- the object that is being made changes -/
theorem Gr.touch {B : Bg} {P H P1 H1 : Hp} {l : Addr} {o : HO} (b0 : BagOk B P H) (g : Gr B P H P1 H1) (h0 : H l = none) (h1 : P1 l = none) : Gr B P H P1 (upd H1 l o) := by
  refine ⟨fun a u h => ?_, g.pp, fun a u h n => ?_, g.off, fun b' c' e1 => ?_⟩
  · rw [upd_ne (ne_of_none h h1)]; exact g.ex _ _ h
  · rw [upd_ne (ne_of_none h h0)]; exact g.hh a u h n
  · obtain ⟨_, _, _, _, _, _, _, q8, _⟩ := b0 _ _ e1
    obtain ⟨q1, cells, t, r, m, n, q2, q3, q4⟩ := g.bag _ _ e1
    have nb : b' ≠ l := ne_of_none q8 h0
    exact ⟨q1, cells, t, r, m, n, q2, by rw [upd_ne nb]; exact q3, q4⟩
theorem lc_run {X : Cx} {fi : IV} {t : Tg} {ft : TV} {fe : EV} {vs : List Nat} {tt : TT} (hix : ∀ i ∈ t.ix, i ∈ vs) (htt : ∀ σ H Q, liftT X.K ft σ H Q → tt σ H Q)
    {B : Bg} {P H : Hp} {σ : L2.St} {δ : DEnv} {Qd : Rz → Prop} {Q : VK} (R : Rep X.K B P H σ δ) (h : eLc fi t ft fe vs δ Qd) (k : ∀ rz v P' H', Qd rz → Gr B P H P' H' → RzOk X.K B P' H' H rz v → Q v H') :
    tLc (liftI X.K fi) (t.g X.K) tt (lift X.K fe) vs σ H Q := by
  refine ⟨B, P, δ, _, R, h, fun xs J P1 H1 ⟨hsz, q1⟩ g1 w1 => fun A hA => ?_⟩
  have hAH : H A = none := g1.fresh R.bag hA
  have R1 := (R.mono g1).wipe vs
  refine ⟨fun i m H' => m = xs.length - i ∧ i ≤ xs.length ∧ ∃ P' us ds, Gr B P1 H1 P' H' ∧ P' A = none ∧ H' A = some (.lst us) ∧ DpA X.K B P' us ds ∧ ds.length ≤ i ∧ lcL (wipeD δ vs) t ft fe (xs.drop i) fun ys => Qd (.new (ds ++ ys)), ⟨xs.length, by simp, Nat.zero_le _, P1, [], [], ?_, g1.ex.free hA, upd_same, .nil, Nat.le_refl _, ?_⟩, ?_⟩
  · exact .loose g1.ex g1.bag hA
  · exact q1
  · rintro i m H' ⟨rfl, hi, P', us, ds, g2, hPA, hHA, z, hlen, q⟩
    by_cases hlt : i < xs.length
    · obtain ⟨go, yl⟩ := w1.go P' H' i g2.pp g2.ex g2.bag hlt
      refine .inr ⟨go, fun H'' => ∃ P'' us' ds', Gr B P1 H1 P'' H'' ∧ P'' A = none ∧ H'' A = some (.lst us') ∧ DpA X.K B P'' us' ds' ∧ ds'.length ≤ i + 1 ∧ lcL (wipeD δ vs) t ft fe (xs.drop (i + 1)) fun ys => Qd (.new (ds' ++ ys)), fun H'' hN => ⟨xs.length - (i + 1), by omega, rfl, hlt, hN⟩, fun x H'' hy => ?_⟩
      obtain ⟨P3, d, hd, g3, zx⟩ := yl x H'' hy
      have g13 := g2.trans g1.bag g3
      have hA3 : P3 A = none := g3.off A (by rw [hHA]; exact Option.some_ne_none _) hPA
      have nbA : ∀ b c, B = some (b, c) → A ≠ b := fun b c e1 e2 => by
        subst e2
        obtain ⟨_, _, _, _, _, _, _, q8, _⟩ := g1.bag _ _ e1
        rw [hA] at q8
        cases q8
      have hH3 : H'' A = some (.lst us) := g3.hh A _ hHA nbA
      have ed : xs.drop i = d :: xs.drop (i + 1) := by
        have hx : xs[i] = d := by
          rw [List.getElem?_eq_getElem hlt] at hd
          exact Option.some.inj hd
        rw [List.drop_eq_getElem_cons hlt, hx]
      rw [ed] at q
      refine Tg.ok zx (R1.mono g13) q fun δ' σ' qb Rb w => ⟨?_, htt _ _ _ ?_⟩
      · rw [w vs hix, wipe_wipe]
      · refine ⟨B, P3, δ', _, Rb, qb, fun b P4 H4 q4 g4 => ?_⟩
        have hA4 : P4 A = none := g4.off A (by rw [hH3]; exact Option.some_ne_none _) hA3
        have hH4 : H4 A = some (.lst us) := g4.hh A _ hH3 nbA
        have g14 := g13.trans g1.bag g4
        cases b with
        | false =>
          refine iteF ⟨P4, us, ds, g14, hA4, hH4, z.mono (g3.pp.trans g4.pp), by omega, ?_⟩
          exact q4
        | true =>
          refine iteT ?_
          refine lift_d (Rb.mono g4) (fun y => lcL (wipeD δ vs) t ft fe (xs.drop (i + 1)) fun ys => Qd (.new (ds ++ y :: ys))) q4 fun y v P5 H5 q5 g5 z5 => ?_
          have hA5 : P5 A = none := g5.off A (by rw [hH4]; exact Option.some_ne_none _) hA4
          have hH5 : H5 A = some (.lst us) := g5.hh A _ hH4 nbA
          have g15 := g14.trans g1.bag g5
          refine ⟨us, hH5, by rw [z.length]; omega, P5, us ++ [v], ds ++ [y], g15.touch g1.bag hA hA5, hA5, upd_same, (z.mono ((g3.pp.trans g4.pp).trans g5.pp)).append (.one z5), by rw [List.length_append]; simp; omega, ?_⟩
          have e2 : (fun ys => Qd (.new (ds ++ y :: ys))) = fun ys => Qd (.new ((ds ++ [y]) ++ ys)) := by
            funext ys
            rw [List.append_assoc]
            rfl
          rw [e2] at q5
          exact q5
    · have e : i = xs.length := by omega
      subst e
      rw [List.drop_length] at q
      refine .inl ⟨w1.stop P' H' g2.pp g2.ex, ?_⟩
      have q : Qd (.new (ds ++ [])) := q
      rw [List.append_nil] at q
      exact k _ _ P' H' q (g1.trans R.bag g2) ⟨A, us, rfl, hPA, hAH, hHA, z⟩
end DI

namespace DI
open PySem L2
section
variable {X : Cx} {e a b c elt tg iter : Expr} {ifs : List Expr} {scope : Scope} {own : List (Str × Nat)} {pos spos py : Pos} {fi : IV} {t : Tg} {ft : TV} {fe f fa fb : EV} {y : Str}
theorem lcY {σ : L2.St} {H : Hp} {Q : Bool → Hp → Prop} (h : liftT X.K tTrue σ H Q) : tYes σ H Q := by
  obtain ⟨B, P, δ, Qd, R, h, k⟩ := h
  exact k true P H h (.refl R.ex R.bag)
theorem q_lc (hN : X.N.Nodup) (hi : QI X tg iter fi) (ok : BlkOk X.N X.env.scope scope own) (hg : ∀ (s : Shared) (H : Hp) (C : Addr) (cl : List (Str × Addr)) (fp : List Addr), QG (X.blk s H scope (compEnvC scope cl C X.env) fp) tg t)
    (he : ∀ (s : Shared) (H : Hp) (C : Addr) (cl : List (Str × Addr)) (fp : List Addr), QE (X.blk s H scope (compEnvC scope cl C X.env) fp) elt fe) (hix : ∀ i ∈ t.ix, i ∈ own.map (·.2) := by decide) (hc : X.calm = true := by rfl) (hs : ∀ x, foldedSetIterable iter X.env x = pure x := by intro _; rfl) :
    QE X (.ListComp elt [⟨tg, iter, [], 0⟩] scope pos) (eLc fi t tTrue fe (own.map (·.2))) :=
  qe_of (pe_lc hc hN hi.pi ok (fun s H C cl fp => (hg s H C cl fp).pg) (fun s H C cl fp => pts_nil) (fun s H C cl fp => (he s H C cl fp).pe) hs) fun B P H σ δ Qd Q R h k => lc_run hix (fun _ _ _ q => lcY q) R h k
theorem q_lcIf (hN : X.N.Nodup) (hi : QI X tg iter fi) (ok : BlkOk X.N X.env.scope scope own) (hg : ∀ (s : Shared) (H : Hp) (C : Addr) (cl : List (Str × Addr)) (fp : List Addr), QG (X.blk s H scope (compEnvC scope cl C X.env) fp) tg t)
    (ht : ∀ (s : Shared) (H : Hp) (C : Addr) (cl : List (Str × Addr)) (fp : List Addr), QT (X.blk s H scope (compEnvC scope cl C X.env) fp) c ft)
    (he : ∀ (s : Shared) (H : Hp) (C : Addr) (cl : List (Str × Addr)) (fp : List Addr), QE (X.blk s H scope (compEnvC scope cl C X.env) fp) elt fe) (hix : ∀ i ∈ t.ix, i ∈ own.map (·.2) := by decide) (hc : X.calm = true := by rfl) (hs : ∀ x, foldedSetIterable iter X.env x = pure x := by intro _; rfl) :
    QE X (.ListComp elt [⟨tg, iter, [c], 0⟩] scope pos) (eLc fi t ft fe (own.map (·.2))) :=
  qe_of (pe_lc hc hN hi.pi ok (fun s H C cl fp => (hg s H C cl fp).pg) (fun s H C cl fp => pts_one (ht s H C cl fp).pt) (fun s H C cl fp => (he s H C cl fp).pe) hs) fun B P H σ δ Qd Q R h k => lc_run hix (fun _ _ _ q => q) R h k

/-! ### statements -/
structure KD where
  nx : DEnv → Prop
  rt : Rz → Prop
  bk : DEnv → Prop := fun _ => False
  ct : DEnv → Prop := fun _ => False
abbrev SV := KD → DEnv → Prop
/-- the state between two statements: (P0, H0) the def's entry, Pc what is to stay protected -/
structure StD (K : PySem.W.Frag) (B : Bg) (P0 H0 Pc H : Hp) (σ : L2.St) (δ : DEnv) : Prop where
  ex : ∃ P, Gr B P0 H0 P H ∧ Same Pc P ∧ Rep K B P H σ δ ∧ ∀ (i : Nat) (ds : List D) (l : Addr), δ[i]? = some (Sl.own ds) → σ[i]? = some (some (V.ref l)) → H0 l = none
structure KOk (K : PySem.W.Frag) (B : Bg) (P0 H0 Pc : Hp) (Kd : KD) (D : Ends) : Prop where
  nx : ∀ δ σ H, Kd.nx δ → StD K B P0 H0 Pc H σ δ → D.nx σ H
  bk : ∀ δ σ H, Kd.bk δ → StD K B P0 H0 Pc H σ δ → D.bk σ H
  ct : ∀ δ σ H, Kd.ct δ → StD K B P0 H0 Pc H σ δ → D.ct σ H
  rt : ∀ r v P' H', Kd.rt r → Gr B P0 H0 P' H' → RzOk K B P' H' H0 r v → D.rt v H'
def liftS (K : PySem.W.Frag) (f : SV) : TS := fun D σ H => ∃ B P0 H0 Pc δ Kd, BagOk B P0 H0 ∧ StD K B P0 H0 Pc H σ δ ∧ f Kd δ ∧ KOk K B P0 H0 Pc Kd D
structure QS (X : Cx) (s : Stmt) (f : SV) : Prop where
  ps : PS X s (liftS X.K f)
structure QSs (X : Cx) (ss : List Stmt) (f : SV) : Prop where
  pss : PSs X ss (liftS X.K f)
theorem qs_of {s : Stmt} {g : SV} {u : TS} (h : PS X s u) (i : ∀ B P0 H0 Pc H σ δ (Kd : KD) (D : Ends), BagOk B P0 H0 → StD X.K B P0 H0 Pc H σ δ → g Kd δ → KOk X.K B P0 H0 Pc Kd D → u D σ H) : QS X s g :=
  ⟨ps_imp h fun D σ H ⟨B, P0, H0, Pc, δ, Kd, b0, S, hf, k⟩ => i B P0 H0 Pc H σ δ Kd D b0 S hf k⟩
def sSkip : SV := fun K δ => K.nx δ
def sSeq (f g : SV) : SV := fun K δ => f { K with nx := g K } δ
theorem q_snil : QSs X [] sSkip := ⟨pss_imp pss_nil fun D σ H ⟨B, P0, H0, Pc, δ, Kd, b0, S, hf, k⟩ => k.nx δ σ H hf S⟩
theorem q_scons {s : Stmt} {ss : List Stmt} {f g : SV} (h1 : QS X s f) (h2 : QSs X ss g) : QSs X (s :: ss) (sSeq f g) :=
  ⟨pss_imp (pss_cons h1.ps h2.pss) fun D σ H ⟨B, P0, H0, Pc, δ, Kd, b0, S, hf, k⟩ =>
    ⟨B, P0, H0, Pc, δ, _, b0, S, hf, ⟨fun δ' σ' H' q S' => ⟨B, P0, H0, Pc, δ', Kd, b0, S', q, k⟩, k.bk, k.ct, k.rt⟩⟩⟩
theorem q_sone {s : Stmt} {f : SV} (h1 : QS X s f) : QSs X [s] f := ⟨pss_one h1.ps⟩
/-- behind an expression's value -/
theorem StD.mono {K : PySem.W.Frag} {B : Bg} {P0 H0 Pc H P H' P' : Hp} {σ : L2.St} {δ : DEnv} (b0 : BagOk B P0 H0) (g0 : Gr B P0 H0 P H) (hc : Same Pc P) (R : Rep K B P H σ δ) (ho : ∀ (i : Nat) (ds : List D) (l : Addr), δ[i]? = some (Sl.own ds) → σ[i]? = some (some (V.ref l)) → H0 l = none) (g : Gr B P H P' H') :
    StD K B P0 H0 Pc H' σ δ := ⟨P', g0.trans b0 g, hc.trans g.pp, R.mono g, ho⟩
@[reducible] def Rz.sl : Rz → Sl
  | .val d => .val d
  | .new ds => .own ds
theorem set_back {δ : DEnv} {i : Nat} {x : Sl} (j : Nat) (s : Sl) (h : (δ.set i x)[j]? = some s) : (i = j ∧ s = x ∧ j < δ.length) ∨ (i ≠ j ∧ δ[j]? = some s) := by
  by_cases e : i = j
  · subst e
    by_cases hi : i < δ.length
    · rw [List.getElem?_set_self hi] at h
      exact .inl ⟨rfl, (Option.some.inj h).symm, hi⟩
    · rw [List.getElem?_eq_none (by rw [List.length_set]; omega)] at h
      cases h
  · rw [List.getElem?_set_ne e] at h
    exact .inr ⟨e, h⟩
/-- a new list that nobody knows, in a slot -/
theorem Rep.set_own {K : PySem.W.Frag} {B : Bg} {P H : Hp} {σ : L2.St} {δ : DEnv} {l : Addr} {vs : List V} {ds : List D} (R : Rep K B P H σ δ) (i : Nat) (h1 : P l = none) (h2 : H l = some (.lst vs)) (h3 : ∀ b c, B = some (b, c) → l ≠ b) (h4 : DpA K B P vs ds)
    (h5 : ∀ (j : Nat) (es : List D), δ[j]? = some (Sl.own es) → i ≠ j → σ[j]? ≠ some (some (V.ref l))) : Rep K B P H (σ.set i (some (.ref l))) (δ.set i (.own ds)) := by
  have hl := R.len
  refine ⟨R.ex, R.bag, fun j d' h => ?_, fun j ds' h => ?_, fun j k ds' es l' q1 q2 q3 q4 => ?_, by rw [List.length_set, List.length_set]; exact hl⟩
  · rcases set_back j _ h with ⟨rfl, e, hj⟩ | ⟨ne, h⟩
    · cases e
    · obtain ⟨v', k1, k2⟩ := R.val j d' h
      exact ⟨v', by rw [List.getElem?_set_ne ne]; exact k1, k2⟩
  · rcases set_back j _ h with ⟨rfl, e, hj⟩ | ⟨ne, h⟩
    · cases e
      exact ⟨l, vs, by rw [List.getElem?_set_self (by omega)], h1, h3, h2, h4⟩
    · obtain ⟨l', vs', k1, k2⟩ := R.own j ds' h
      exact ⟨l', vs', by rw [List.getElem?_set_ne ne]; exact k1, k2⟩
  · rcases set_back j _ q1 with ⟨rfl, e, hj⟩ | ⟨n1, q1⟩
    · rcases set_back k _ q2 with ⟨rfl, e2, hk⟩ | ⟨n2, q2⟩
      · rfl
      · rw [List.getElem?_set_self (by omega)] at q3
        cases q3
        rw [List.getElem?_set_ne n2] at q4
        exact absurd q4 (h5 k es q2 n2)
    · rw [List.getElem?_set_ne n1] at q3
      rcases set_back k _ q2 with ⟨rfl, e2, hk⟩ | ⟨n2, q2⟩
      · rw [List.getElem?_set_self (by omega)] at q4
        cases q4
        exact absurd q3 (h5 j ds' q1 n1)
      · rw [List.getElem?_set_ne n2] at q4
        exact R.sep j k ds' es l' q1 q2 q3 q4
/-- a result stored at a slot -/
theorem StD.put {K : PySem.W.Frag} {B : Bg} {P0 H0 Pc H P H1 P1 : Hp} {σ : L2.St} {δ : DEnv} {r : Rz} {v : V} (i : Nat) (b0 : BagOk B P0 H0) (g0 : Gr B P0 H0 P H) (hc : Same Pc P) (R : Rep K B P H σ δ) (ho : ∀ (i : Nat) (ds : List D) (l : Addr), δ[i]? = some (Sl.own ds) → σ[i]? = some (some (V.ref l)) → H0 l = none)
    (g : Gr B P H P1 H1) (z : RzOk K B P1 H1 H r v) : StD K B P0 H0 Pc H1 (σ.set i (some v)) (δ.set i r.sl) := by
  have R1 := R.mono g
  cases r with
  | val d =>
    refine ⟨P1, g0.trans b0 g, hc.trans g.pp, R1.set_val i z, fun j ds l h1 h2 => ?_⟩
    rcases set_back j _ h1 with ⟨_, e, _⟩ | ⟨ne, h1⟩
    · cases e
    · rw [List.getElem?_set_ne ne] at h2
      exact ho j ds l h1 h2
  | new ds =>
    obtain ⟨l, vs, rfl, q1, q2, q3, q4⟩ := z
    have hb : ∀ b c, B = some (b, c) → l ≠ b := fun b c e1 e2 => by
      subst e2
      obtain ⟨_, _, _, _, _, _, _, q8, _⟩ := R.bag _ _ e1
      rw [q2] at q8
      cases q8
    refine ⟨P1, g0.trans b0 g, hc.trans g.pp, R1.set_own i q1 q3 hb q4 fun j es h1 _ h2 => ?_, fun j ds' l' h1 h2 => ?_⟩
    · obtain ⟨l', vs', k1, _, _, k4, _⟩ := R.own j es h1
      rw [h2] at k1
      cases k1
      rw [q2] at k4
      cases k4
    · rcases set_back j _ h1 with ⟨rfl, e, hj⟩ | ⟨ne, h1⟩
      · have hl := R.len
        rw [List.getElem?_set_self (by omega)] at h2
        cases h2
        exact g0.fresh b0 q2
      · rw [List.getElem?_set_ne ne] at h2
        exact ho j ds' l' h1 h2
def sAsg (i : Nat) (f : EV) : SV := fun K δ => f δ fun r => K.nx (δ.set i r.sl)
theorem asg_run {te : TE} {i : Nat} (hte : ∀ σ H Q, lift X.K f σ H Q → te σ H Q) {B : Bg} {P0 H0 Pc H : Hp} {σ : L2.St} {δ : DEnv} {Kd : KD} {D : Ends} (b0 : BagOk B P0 H0) (S : StD X.K B P0 H0 Pc H σ δ) (h : sAsg i f Kd δ) (k : KOk X.K B P0 H0 Pc Kd D) : tAsg te (gName i) D σ H := by
  obtain ⟨P, g0, hc, R, ho⟩ := S.ex
  exact hte _ _ _ ⟨B, P, δ, _, R, h, fun r v P1 H1 q g z => k.nx _ _ _ q (.put i b0 g0 hc R ho g z)⟩
theorem q_asg {i : Nat} {pos' : Pos} (hN : X.N.Nodup) (he : QE X e f) (hi : X.N[i]? = some y := by rfl) (hx : Loc X.env.scope y := by first | exact Or.inl rfl | exact Or.inr rfl) (hs : swapsWith e (some (.Name y pos')) pos.line X.env = pure false := by rfl)
    (hf : X.fn y = true ∨ X.env.scope.names.lookup y = some .local := by first | exact .inl rfl | exact .inr rfl | assumption) : QS X (.Assign [.Name y pos'] e pos) (sAsg i f) :=
  qs_of (ps_set hN hi hx he.pe hs hf) fun B P0 H0 Pc H σ δ Kd D b0 S h k => asg_run (fun _ _ _ q => q) b0 S h k
/-- y = [..] -/
theorem q_asgLc {i : Nat} (hN : X.N.Nodup) (hi : QI X tg iter fi) (ok : BlkOk X.N X.env.scope scope own) (hg : ∀ (s : Shared) (H : Hp) (C : Addr) (cl : List (Str × Addr)) (fp : List Addr), QG (X.blk s H scope (compEnvC scope cl C X.env) fp) tg t)
    (he : ∀ (s : Shared) (H : Hp) (C : Addr) (cl : List (Str × Addr)) (fp : List Addr), QE (X.blk s H scope (compEnvC scope cl C X.env) fp) elt fe) (hsw : swapsWith (.ListComp elt [⟨tg, iter, [], 0⟩] scope pos) (some (.Name y py)) spos.line X.env = pure true) (hix : ∀ i ∈ t.ix, i ∈ own.map (·.2) := by decide) (hc : X.calm = true := by rfl)
    (hy : X.N[i]? = some y := by rfl) (hyl : X.env.scope.names.lookup y = some .local := by rfl) (hs : ∀ x, foldedSetIterable iter X.env x = pure x := by intro _; rfl) :
    QS X (.Assign [.Name y py] (.ListComp elt [⟨tg, iter, [], 0⟩] scope pos) spos) (sAsg i (eLc fi t tTrue fe (own.map (·.2)))) :=
  qs_of (ps_setLc hc hN hy hyl hsw hi.pi ok (fun s H C cl fp => (hg s H C cl fp).pg) (fun s H C cl fp => pts_nil) (fun s H C cl fp => (he s H C cl fp).pe) hs) fun B P0 H0 Pc H σ δ Kd D b0 S h k =>
    asg_run (fun σ H Q ⟨B, P, δ, Qd, R, h, k⟩ => lc_run hix (fun _ _ _ q => lcY q) R h k) b0 S h k
theorem q_asgLcIf {i : Nat} (hN : X.N.Nodup) (hi : QI X tg iter fi) (ok : BlkOk X.N X.env.scope scope own) (hg : ∀ (s : Shared) (H : Hp) (C : Addr) (cl : List (Str × Addr)) (fp : List Addr), QG (X.blk s H scope (compEnvC scope cl C X.env) fp) tg t)
    (ht : ∀ (s : Shared) (H : Hp) (C : Addr) (cl : List (Str × Addr)) (fp : List Addr), QT (X.blk s H scope (compEnvC scope cl C X.env) fp) c ft)
    (he : ∀ (s : Shared) (H : Hp) (C : Addr) (cl : List (Str × Addr)) (fp : List Addr), QE (X.blk s H scope (compEnvC scope cl C X.env) fp) elt fe) (hsw : swapsWith (.ListComp elt [⟨tg, iter, [c], 0⟩] scope pos) (some (.Name y py)) spos.line X.env = pure true) (hix : ∀ i ∈ t.ix, i ∈ own.map (·.2) := by decide) (hc : X.calm = true := by rfl)
    (hy : X.N[i]? = some y := by rfl) (hyl : X.env.scope.names.lookup y = some .local := by rfl) (hs : ∀ x, foldedSetIterable iter X.env x = pure x := by intro _; rfl) :
    QS X (.Assign [.Name y py] (.ListComp elt [⟨tg, iter, [c], 0⟩] scope pos) spos) (sAsg i (eLc fi t ft fe (own.map (·.2)))) :=
  qs_of (ps_setLc hc hN hy hyl hsw hi.pi ok (fun s H C cl fp => (hg s H C cl fp).pg) (fun s H C cl fp => pts_one (ht s H C cl fp).pt) (fun s H C cl fp => (he s H C cl fp).pe) hs) fun B P0 H0 Pc H σ δ Kd D b0 S h k =>
    asg_run (fun σ H Q ⟨B, P, δ, Qd, R, h, k⟩ => lc_run hix (fun _ _ _ q => q) R h k) b0 S h k
/-- return e; return of a list that is the def's own -/
def sRet (f : EV) : SV := fun K δ => f δ K.rt
theorem q_ret (he : QE X e f) : QS X (.Return (some e) pos) (sRet f) :=
  qs_of (ps_ret he.pe) fun B P0 H0 Pc H σ δ Kd D b0 S h k => by
    obtain ⟨P, g0, hc, R, ho⟩ := S.ex
    exact ⟨B, P, δ, _, R, h, fun r v P1 H1 q g z => k.rt r v P1 H1 q (g0.trans b0 g) (z.back b0 g0)⟩
def sRetO (i : Nat) : SV := fun K δ => match δ[i]? with
  | some (.own ds) => K.rt (.new ds)
  | some (.val d) => K.rt (.val d)
  | _ => False
theorem q_retO (i : Nat) {x : Str} {pos' : Pos} (hN : X.N[i]? = some x := by rfl) (hv : Vis X.env.scope x := by first | exact Or.inl rfl | exact Or.inr (Or.inl rfl) | exact Or.inr (Or.inr rfl)) (hd : (x == ("__debug__" : Str)) = false := by decide) (hcd : (x == ("__classdict__" : Str)) = false := by decide) :
    QS X (.Return (some (.Name x pos')) pos) (sRetO i) :=
  qs_of (ps_ret (pe_var hN hv hd hcd)) fun B P0 H0 Pc H σ δ Kd D b0 S h k => by
    obtain ⟨P, g0, hc, R, ho⟩ := S.ex
    unfold sRetO at h
    cases e : δ[i]? with
    | none => rw [e] at h; exact h.elim
    | some s =>
      rw [e] at h
      cases s with
      | no => exact h.elim
      | val d =>
        obtain ⟨v, h1, h2⟩ := R.val i d e
        exact ⟨v, h1, k.rt _ v P H h g0 h2⟩
      | own ds =>
        obtain ⟨l, vs, h1, h2, h3, h4, h5⟩ := R.own i ds e
        exact ⟨.ref l, h1, k.rt _ _ P H h g0 ⟨l, vs, rfl, h2, ho i ds l e h1, h4, h5⟩⟩
end
end DI

namespace DI
open PySem L2
section
variable {X : Cx} {e a b c tg iter : Expr} {pos : Pos} {fi : IV} {t : Tg} {ft : TV} {f fa fb : EV} {y : Str} {ss us : List Stmt} {g h : SV}
/-! ### if, while, for -/
def sIf (ft : TV) (g h : SV) : SV := fun K δ => ft δ fun c => if c = true then g K δ else h K δ
theorem q_sif (hc : QT X c ft) (hs : QSs X ss g) (hu : QSs X us h) : QS X (.If c ss us pos) (sIf ft g h) :=
  qs_of (ps_if hc.pt hs.pss hu.pss) fun B P0 H0 Pc H σ δ Kd D b0 S q k => by
    obtain ⟨P, g0, hc, R, ho⟩ := S.ex
    refine ⟨B, P, δ, _, R, q, fun c P1 H1 q g => ?_⟩
    have S1 := StD.mono b0 g0 hc R ho g
    cases c with
    | true => exact iteT ⟨B, P0, H0, Pc, δ, Kd, b0, S1, q, k⟩
    | false => exact iteF ⟨B, P0, H0, Pc, δ, Kd, b0, S1, q, k⟩
def whN (ft : TV) (g : SV) (K : KD) : Nat → DEnv → Prop
  | 0, _ => False
  | n + 1, δ => ft δ fun c => if c = true then g { K with nx := whN ft g K n, ct := whN ft g K n, bk := K.nx } δ else K.nx δ
def sWh (ft : TV) (g : SV) : SV := fun K δ => ∃ n, whN ft g K n δ
theorem q_swh (hc : QT X c ft) (hs : QSs X ss g) (hp : PassesOwn (model X.prog X.w) X.A X.env X.xe := by exact PassesOwn.never) : QS X (.While c ss [] pos) (sWh ft g) :=
  qs_of (ps_while hp hc.pt hs.pss) fun B P0 H0 Pc H σ δ Kd D b0 S q k => by
    obtain ⟨n, q⟩ := q
    refine ⟨fun m σ' H' => ∃ δ', StD X.K B P0 H0 Pc H' σ' δ' ∧ whN ft g Kd m δ', ⟨n, δ, S, q⟩, ?_⟩
    rintro m σ' H' ⟨δ', S', q'⟩
    cases m with
    | zero => exact q'.elim
    | succ m =>
      obtain ⟨P, g0, hc, R, ho⟩ := S'.ex
      refine ⟨B, P, δ', _, R, q', fun c P1 H1 q1 g1 => ?_⟩
      have S1 := StD.mono b0 g0 hc R ho g1
      cases c with
      | true => exact iteT ⟨fun σ'' H'' => ∃ δ'', StD X.K B P0 H0 Pc H'' σ'' δ'' ∧ whN ft g Kd m δ'', fun σ'' H'' w => ⟨m, Nat.lt_succ_self _, w⟩, B, P0, H0, Pc, δ', _, b0, S1, q1, ⟨fun δ'' σ'' H'' w S2 => ⟨δ'', S2, w⟩, fun δ'' σ'' H'' w S2 => k.nx δ'' σ'' H'' w S2, fun δ'' σ'' H'' w S2 => ⟨δ'', S2, w⟩, k.rt⟩⟩
      | false => exact iteF (k.nx δ' σ' H1 q1 S1)
def forL (t : Tg) (g : SV) (K : KD) : List D → DEnv → Prop
  | [], δ => K.nx δ
  | x :: r, δ => t.bind x δ fun δ' => g { K with nx := forL t g K r, ct := forL t g K r, bk := K.nx } δ'
def sFor (fi : IV) (t : Tg) (g : SV) : SV := fun K δ => fi δ fun xs => forL t g K xs δ
/-- the targets' slots are not the def's own lists -/
theorem setAll_own : ∀ {is : List Nat} {ds : List D} {δ δ' : DEnv}, setAll is ds δ = some δ' → ∀ (j : Nat) (es : List D), δ'[j]? = some (Sl.own es) → δ[j]? = some (Sl.own es) ∧ j ∉ is
  | [], [], δ, δ', h, j, es, q => by cases h; exact ⟨q, by simp⟩
  | i :: is, d :: ds, δ, δ', h, j, es, q => by
    obtain ⟨h1, h2⟩ := setAll_own (is := is) h j es q
    rcases set_back j _ h1 with ⟨_, e, _⟩ | ⟨ne, h1⟩
    · cases e
    · exact ⟨h1, fun z => by
        rcases List.mem_cons.mp z with z | z
        · exact ne z.symm
        · exact h2 z⟩
  | [], _ :: _, δ, δ', h, j, es, q => by simp [setAll] at h
  | _ :: _, [], δ, δ', h, j, es, q => by simp [setAll] at h
theorem gNames_at {is : List Nat} : ∀ {vs : List V} {σ : L2.St} {H : Hp} {Q Q' : L2.St → Hp → Prop}, gNames is vs σ H Q → (∀ σ' H', Q σ' H' → (∀ j, j ∉ is → σ'[j]? = σ[j]?) → Q' σ' H') → gNames is vs σ H Q' := by
  induction is with
  | nil => rintro vs σ H Q Q' ⟨h1, h2⟩ k; exact ⟨h1, k _ _ h2 fun _ _ => rfl⟩
  | cons i is ih =>
    rintro vs σ H Q Q' ⟨v, r, e, q⟩ k
    refine ⟨v, r, e, ih q fun σ' H' hq w => k σ' H' hq fun j hj => ?_⟩
    rw [w j fun z => hj (List.mem_cons_of_mem _ z), List.getElem?_set_ne fun z => hj (by rw [z]; exact List.mem_cons_self)]
/-- binding keeps what is said of own lists -/
theorem Tg.okS {K : PySem.W.Frag} {B : Bg} {P H H0 : Hp} {t : Tg} {v : V} {d : D} {σ : L2.St} {δ : DEnv} {Qd : DEnv → Prop} {Q : L2.St → Hp → Prop} (z : Dp K B P v d) (R : Rep K B P H σ δ) (ho : ∀ (i : Nat) (ds : List D) (l : Addr), δ[i]? = some (Sl.own ds) → σ[i]? = some (some (V.ref l)) → H0 l = none) (h : t.bind d δ Qd)
    (k : ∀ δ' σ', Qd δ' → Rep K B P H σ' δ' → (∀ (i : Nat) (ds : List D) (l : Addr), δ'[i]? = some (Sl.own ds) → σ'[i]? = some (some (V.ref l)) → H0 l = none) → Q σ' H) : t.g K v σ H Q := by
  cases t with
  | one i =>
    refine k _ _ h (R.set_val i z) fun j ds l h1 h2 => ?_
    rcases set_back j _ h1 with ⟨_, e, _⟩ | ⟨ne, h1⟩
    · cases e
    · rw [List.getElem?_set_ne ne] at h2
      exact ho j ds l h1 h2
  | tup is =>
    cases d with
    | tup ds =>
      obtain ⟨δ', h1, h2⟩ := h
      have q := Tg.ok (t := .tup is) (Qd := fun δ'' => δ'' = δ') (Q := fun σ' H' => H' = H ∧ Rep K B P H σ' δ') z R ⟨δ', h1, rfl⟩ fun δ'' σ' e R' _ => by subst e; exact ⟨rfl, R'⟩
      obtain ⟨a1, x1, rfl, p1, p2, p3⟩ := q
      refine ⟨a1, x1, rfl, p1, p2, gNames_at p3 fun σ' H' ⟨e, R'⟩ w => ?_⟩
      subst e
      refine k δ' σ' h2 R' fun j es l q1 q2 => ?_
      obtain ⟨q3, q4⟩ := setAll_own h1 j es q1
      rw [w j q4] at q2
      exact ho j es l q3 q2
    | _ => exact h.elim
theorem q_sfor (hi : QI X tg iter fi) (hg : QG X tg t) (hs : QSs X ss g) (hc : X.calm = true := by rfl) (hp : PassesOwn (model X.prog X.w) X.A X.env X.xe := by exact PassesOwn.never) (hf : ∀ x, foldedSetIterable iter X.env x = pure x := by intro _; rfl) : QS X (.For tg iter ss [] pos) (sFor fi t g) :=
  qs_of (ps_for hp hc hi.pi hg.pg hs.pss hf) fun B P0 H0 Pc H σ δ Kd D b0 S q k => by
    obtain ⟨P, g0, hc, R, ho⟩ := S.ex
    refine ⟨B, P, δ, _, R, q, fun xs J P1 H1 q1 g1 w1 => ?_⟩
    have S1 : StD X.K B P0 H0 P1 H1 σ δ := ⟨P1, g0.trans b0 g1, .refl _, R.mono g1, ho⟩
    have weak : ∀ {H' σ' δ'}, StD X.K B P0 H0 P1 H' σ' δ' → StD X.K B P0 H0 Pc H' σ' δ' := fun S' => by
      obtain ⟨P', a1, a2, a3, a4⟩ := S'.ex
      exact ⟨P', a1, (hc.trans g1.pp).trans a2, a3, a4⟩
    refine ⟨fun i m σ' H' => m = xs.length - i ∧ i ≤ xs.length ∧ ∃ δ', StD X.K B P0 H0 P1 H' σ' δ' ∧ forL t g Kd (xs.drop i) δ', ⟨xs.length, by simp, Nat.zero_le _, δ, S1, q1⟩, ?_⟩
    rintro i m σ' H' ⟨rfl, hi, δ', S', q'⟩
    obtain ⟨P', a1, a2, R', ho'⟩ := S'.ex
    by_cases hlt : i < xs.length
    · obtain ⟨go, yl⟩ := w1.go P' H' i a2 a1.ex a1.bag hlt
      refine .inr ⟨go, fun σ'' H'' => ∃ δ'', StD X.K B P0 H0 P1 H'' σ'' δ'' ∧ forL t g Kd (xs.drop (i + 1)) δ'', fun σ'' H'' w => ⟨xs.length - (i + 1), by omega, rfl, hlt, w⟩, fun v H'' hy => ?_⟩
      obtain ⟨P3, d, hd, g3, zx⟩ := yl v H'' hy
      have ed : xs.drop i = d :: xs.drop (i + 1) := by
        have hx : xs[i] = d := by
          rw [List.getElem?_eq_getElem hlt] at hd
          exact Option.some.inj hd
        rw [List.drop_eq_getElem_cons hlt, hx]
      rw [ed] at q'
      refine Tg.okS zx (R'.mono g3) ho' q' fun δ2 σ2 q2 R2 ho2 => ?_
      exact ⟨B, P0, H0, P1, δ2, _, b0, ⟨P3, a1.trans b0 g3, a2.trans g3.pp, R2, ho2⟩, q2, ⟨fun δ3 σ3 H3 w S3 => ⟨δ3, S3, w⟩, fun δ3 σ3 H3 w S3 => k.nx δ3 σ3 H3 w (weak S3), fun δ3 σ3 H3 w S3 => ⟨δ3, S3, w⟩, k.rt⟩⟩
    · have e : i = xs.length := by omega
      subst e
      rw [List.drop_length] at q'
      exact .inl ⟨w1.stop P' H' a2 a1.ex, k.nx δ' σ' H' q' (weak S')⟩
def sBrk : SV := fun K δ => K.bk δ
def sCnt : SV := fun K δ => K.ct δ
theorem q_brk : QS X (.Break pos) sBrk := qs_of ps_break fun B P0 H0 Pc H σ δ Kd D b0 S q k => k.bk δ σ H q S
theorem q_cnt : QS X (.Continue pos) sCnt := qs_of ps_continue fun B P0 H0 Pc H σ δ Kd D b0 S q k => k.ct δ σ H q S
theorem q_pass : QS X (.Pass pos) sSkip := qs_of ps_pass fun B P0 H0 Pc H σ δ Kd D b0 S q k => k.nx δ σ H q S
def sDrop (f : EV) : SV := fun K δ => f δ fun _ => K.nx δ
theorem q_drop (he : QE X e f) (hs : swapsWith e none pos.line X.env = pure false := by rfl) : QS X (.Expr e pos) (sDrop f) :=
  qs_of (ps_expr he.pe hs) fun B P0 H0 Pc H σ δ Kd D b0 S q k => by
    obtain ⟨P, g0, hc, R, ho⟩ := S.ex
    exact ⟨B, P, δ, _, R, q, fun r v P1 H1 q1 g1 z1 => k.nx δ σ H1 q1 (StD.mono b0 g0 hc R ho g1)⟩

/-! ### own lists -/
/-- the slot's own list changes -/
theorem StD.chg {K : PySem.W.Frag} {B : Bg} {P0 H0 Pc H P : Hp} {σ : L2.St} {δ : DEnv} {i : Nat} {ds ds' : List D} {l : Addr} {vs' : List V} (b0 : BagOk B P0 H0) (g0 : Gr B P0 H0 P H) (hc : Same Pc P) (R : Rep K B P H σ δ) (ho : ∀ (i : Nat) (ds : List D) (l : Addr), δ[i]? = some (Sl.own ds) → σ[i]? = some (some (V.ref l)) → H0 l = none)
    (e : δ[i]? = some (Sl.own ds)) (hl : σ[i]? = some (some (V.ref l))) (hP : P l = none) (hb : ∀ b c, B = some (b, c) → l ≠ b) (z : DpA K B P vs' ds') : StD K B P0 H0 Pc (upd H l (.lst vs')) σ (δ.set i (.own ds')) := by
  have hil : i < δ.length := (List.getElem?_eq_some_iff.mp e).1
  have hH0 := ho i ds l e hl
  refine ⟨P, g0.touch b0 hH0 hP, hc, ⟨fun a u h => ?_, fun b' c' e1 => ?_, fun j d' h => ?_, fun j ds2 h => ?_, fun j k ds1 ds2 l' q1 q2 q3 q4 => ?_, by rw [List.length_set]; exact R.len⟩, fun j ds2 l' h1 h2 => ?_⟩
  · rw [upd_ne (ne_of_none h hP)]; exact R.ex _ _ h
  · obtain ⟨q1, cells, t, r, m, n, q2, q3, q4⟩ := R.bag _ _ e1
    exact ⟨q1, cells, t, r, m, n, q2, by rw [upd_ne (hb _ _ e1).symm]; exact q3, q4⟩
  · rcases set_back j _ h with ⟨_, e2, _⟩ | ⟨ne, h⟩
    · cases e2
    · exact R.val j d' h
  · rcases set_back j _ h with ⟨rfl, e2, _⟩ | ⟨ne, h⟩
    · cases e2
      exact ⟨l, vs', hl, hP, hb, upd_same, z⟩
    · obtain ⟨l2, vs2, k1, k2, k3, k4, k5⟩ := R.own j ds2 h
      refine ⟨l2, vs2, k1, k2, k3, ?_, k5⟩
      rw [upd_ne fun z => ?_]
      · exact k4
      · subst z
        exact ne (R.sep i j ds ds2 _ e h hl k1)
  · rcases set_back j _ q1 with ⟨rfl, e2, _⟩ | ⟨n1, q1⟩
    · rcases set_back k _ q2 with ⟨rfl, e3, _⟩ | ⟨n2, q2⟩
      · rfl
      · exact R.sep i k ds ds2 l' e q2 q3 q4
    · rcases set_back k _ q2 with ⟨rfl, e3, _⟩ | ⟨n2, q2⟩
      · exact R.sep j i ds1 ds l' q1 e q3 q4
      · exact R.sep j k ds1 ds2 l' q1 q2 q3 q4
  · rcases set_back j _ h1 with ⟨rfl, e2, _⟩ | ⟨ne, h1⟩
    · exact ho i ds l' e h2
    · exact ho j ds2 l' h1 h2
/-- the slot's own list -/
def ownOf (δ : DEnv) (i : Nat) (Q : List D → Prop) : Prop := match δ[i]? with
  | some (.own ds) => Q ds
  | _ => False
theorem ownOf_at {δ : DEnv} {i : Nat} {Q : List D → Prop} (h : ownOf δ i Q) : ∃ ds, δ[i]? = some (Sl.own ds) ∧ Q ds := by
  unfold ownOf at h
  cases e : δ[i]? with
  | none => rw [e] at h; exact h.elim
  | some s =>
    rw [e] at h
    cases s with
    | own ds => exact ⟨ds, rfl, h⟩
    | no => exact h.elim
    | val d => exact h.elim
def sApp (i : Nat) (f : EV) : SV := fun K δ => ownOf δ i fun ds => f δ fun r => ds.length < sizeLine ∧ K.nx (δ.set i (.own (ds ++ [r.d])))
theorem q_app (i : Nat) {x : Str} {p1 apos cpos : Pos} (he : QE X e f) (hN : X.N[i]? = some x := by rfl) (hv : Vis X.env.scope x := by first | exact Or.inl rfl | exact Or.inr (Or.inl rfl) | exact Or.inr (Or.inr rfl)) (hd : (x == ("__debug__" : Str)) = false := by decide) (hcd : (x == ("__classdict__" : Str)) = false := by decide)
    (hs1 : starEach [e] X.env = [(false, eval e X.env)] := by rfl) (hline : (apos.endLine == cpos.line) = true := by rfl) (hbase : attributeBase (.Name x p1) "append" X.env (eval (.Name x p1) X.env) = eval (.Name x p1) X.env := by rfl)
    (hfew : ((backTo cpos (starEach [e] X.env)).all (fun x => !x.1) && (backToKw cpos (keywordEach [] X.env)).all (fun x => x.1.isSome) && decide ([e].length + ([] : List Keyword).length + (if ([] : List Keyword).isEmpty then 0 else 1) < 30)) = true := by rfl)
    (hs : swapsWith (.Call (.Attribute (.Name x p1) "append" apos) [e] [] cpos) none pos.line X.env = pure false := by rfl) :
    QS X (.Expr (.Call (.Attribute (.Name x p1) "append" apos) [e] [] cpos) pos) (sApp i f) :=
  qs_of (ps_expr (pe_bm PySem.F.plainAttrs_list PySem.F.slot_list_append PySem.F.type_list_append mt_append (pe_var hN hv hd hcd) (pa_cons he.pe pa_nil hs1) hbase hfew hline hs1) hs) fun B P0 H0 Pc H σ δ Kd D b0 S q k => by
    obtain ⟨P, g0, hc, R, ho⟩ := S.ex
    obtain ⟨ds, e, q⟩ := ownOf_at q
    obtain ⟨l, vs, h1, h2, h3, h4, h5⟩ := R.own i ds e
    refine ⟨.ref l, h1, .inl ⟨rfl, vs, .inl (.inl h4)⟩, ?_⟩
    refine lift_d R (fun d => ds.length < sizeLine ∧ Kd.nx (δ.set i (.own (ds ++ [d])))) q fun d v P1 H1 ⟨q1, q2⟩ g z => ?_
    have h6 := g.hh l _ h4 h3
    refine ⟨l, vs, v, rfl, rfl, h6, by rw [h5.length]; exact q1, k.nx _ _ _ q2 ?_⟩
    exact StD.chg b0 (g0.trans b0 g) (hc.trans g.pp) (R.mono g) ho e h1 (g.off l (by rw [h4]; exact Option.some_ne_none _) h2) h3 ((h5.mono g.pp).append (.one z))
/-- x.insert(k, e) -/
def sIns (i : Nat) (fa f : EV) : SV := fun K δ => ownOf δ i fun ds => fa δ fun r1 => f δ fun r => ∃ j : Int, r1.d = .int j ∧ 0 ≤ j ∧ j < 1000000000 ∧ ds.length < sizeLine ∧ K.nx (δ.set i (.own (ds.take j.toNat ++ [r.d] ++ ds.drop j.toNat)))
theorem q_ins (i : Nat) {x : Str} {p1 apos cpos : Pos} (ha : QE X a fa) (he : QE X e f) (hN : X.N[i]? = some x := by rfl) (hv : Vis X.env.scope x := by first | exact Or.inl rfl | exact Or.inr (Or.inl rfl) | exact Or.inr (Or.inr rfl)) (hd : (x == ("__debug__" : Str)) = false := by decide) (hcd : (x == ("__classdict__" : Str)) = false := by decide)
    (hs1 : starEach [e] X.env = [(false, eval e X.env)] := by rfl) (hs2 : starEach [a, e] X.env = (false, eval a X.env) :: starEach [e] X.env := by rfl) (hpl : (backTo cpos (starEach [e] X.env)).any (·.1) = false := by rfl) (hline : (apos.endLine == cpos.line) = true := by rfl) (hbase : attributeBase (.Name x p1) "insert" X.env (eval (.Name x p1) X.env) = eval (.Name x p1) X.env := by rfl)
    (hfew : ((backTo cpos (starEach [a, e] X.env)).all (fun x => !x.1) && (backToKw cpos (keywordEach [] X.env)).all (fun x => x.1.isSome) && decide ([a, e].length + ([] : List Keyword).length + (if ([] : List Keyword).isEmpty then 0 else 1) < 30)) = true := by rfl)
    (hs : swapsWith (.Call (.Attribute (.Name x p1) "insert" apos) [a, e] [] cpos) none pos.line X.env = pure false := by rfl) :
    QS X (.Expr (.Call (.Attribute (.Name x p1) "insert" apos) [a, e] [] cpos) pos) (sIns i fa f) :=
  qs_of (ps_expr (pe_bm PySem.F.plainAttrs_list PySem.F.slot_list_insert PySem.F.type_list_insert mt_insert (pe_var hN hv hd hcd) (pa_cons ha.pe (pa_cons he.pe pa_nil hs1) hs2) hbase hfew hline hs2 hpl) hs) fun B P0 H0 Pc H σ δ Kd D b0 S q k => by
    obtain ⟨P, g0, hc, R, ho⟩ := S.ex
    obtain ⟨ds, e, q⟩ := ownOf_at q
    obtain ⟨l, vs, h1, h2, h3, h4, h5⟩ := R.own i ds e
    refine ⟨.ref l, h1, .inl ⟨rfl, vs, .inl (.inl h4)⟩, ?_⟩
    refine lift_d R (fun d1 => f δ fun r => ∃ j : Int, d1 = .int j ∧ 0 ≤ j ∧ j < 1000000000 ∧ ds.length < sizeLine ∧ Kd.nx (δ.set i (.own (ds.take j.toNat ++ [r.d] ++ ds.drop j.toNat)))) q fun d1 v1 P1 H1 q1 g1 z1 => ?_
    refine lift_d (R.mono g1) (fun d => ∃ j : Int, d1 = .int j ∧ 0 ≤ j ∧ j < 1000000000 ∧ ds.length < sizeLine ∧ Kd.nx (δ.set i (.own (ds.take j.toNat ++ [d] ++ ds.drop j.toNat)))) q1 fun d v P2 H2 ⟨j, e1, j0, j1, hz, q2⟩ g2 z => ?_
    subst e1
    cases z1.int'
    have g := g1.trans R.bag g2
    have h6 := g.hh l _ h4 h3
    refine ⟨l, vs, j, v, rfl, rfl, h6, by rw [h5.length]; exact hz, j0, by omega, k.nx _ _ _ q2 ?_⟩
    have w := h5.mono g.pp
    exact StD.chg b0 (g0.trans b0 g) (hc.trans g.pp) (R.mono g) ho e h1 (g.off l (by rw [h4]; exact Option.some_ne_none _) h2) h3 (((w.take _).append (.one z)).append (w.drop _))
/-- x.clear() -/
def sClr (i : Nat) : SV := fun K δ => ownOf δ i fun _ => K.nx (δ.set i (.own []))
theorem q_clr (i : Nat) {x : Str} {p1 apos cpos : Pos} (hN : X.N[i]? = some x := by rfl) (hv : Vis X.env.scope x := by first | exact Or.inl rfl | exact Or.inr (Or.inl rfl) | exact Or.inr (Or.inr rfl)) (hd : (x == ("__debug__" : Str)) = false := by decide) (hcd : (x == ("__classdict__" : Str)) = false := by decide)
    (hline : (apos.endLine == cpos.line) = true := by rfl) (hbase : attributeBase (.Name x p1) "clear" X.env (eval (.Name x p1) X.env) = eval (.Name x p1) X.env := by rfl)
    (hs : swapsWith (.Call (.Attribute (.Name x p1) "clear" apos) [] [] cpos) none pos.line X.env = pure false := by rfl) :
    QS X (.Expr (.Call (.Attribute (.Name x p1) "clear" apos) [] [] cpos) pos) (sClr i) :=
  qs_of (ps_expr (pe_bm0 PySem.F.plainAttrs_list PySem.F.slot_list_clear PySem.F.type_list_clear mt_clear (pe_var hN hv hd hcd) hbase hline) hs) fun B P0 H0 Pc H σ δ Kd D b0 S q k => by
    obtain ⟨P, g0, hc, R, ho⟩ := S.ex
    obtain ⟨ds, e, q⟩ := ownOf_at q
    obtain ⟨l, vs, h1, h2, h3, h4, h5⟩ := R.own i ds e
    refine ⟨.ref l, h1, .inl ⟨rfl, vs, .inl (.inl h4)⟩, l, vs, rfl, rfl, h4, k.nx _ _ _ q ?_⟩
    exact StD.chg b0 g0 hc R ho e h1 h2 h3 .nil
/-- x[k] = e -/
def sSetI (i : Nat) (fk f : EV) : SV := fun K δ => f δ fun r => ownOf δ i fun ds => fk δ fun r1 => ∃ (j : Int) (n : Nat), r1.d = .int j ∧ ixN ds.length j = some n ∧ K.nx (δ.set i (.own (ds.set n r.d)))
theorem q_setI (i : Nat) {x : Str} {p1 ps : Pos} (he : QE X e f) (ha : QE X a fa) (hN : X.N[i]? = some x := by rfl) (hv : Vis X.env.scope x := by first | exact Or.inl rfl | exact Or.inr (Or.inl rfl) | exact Or.inr (Or.inr rfl)) (hd : (x == ("__debug__" : Str)) = false := by decide) (hcd : (x == ("__classdict__" : Str)) = false := by decide)
    (pg : PG X (.Subscript (.Name x p1) a ps) (gSub (tVar i) (lift X.K fa) rSetL)) (hs : swapsWithSole [.Subscript (.Name x p1) a ps] e pos.line X.env = pure false := by rfl) (hw : swappedStores [.Subscript (.Name x p1) a ps] e X.env = pure none := by rfl) (h1 : (assignEach [.Subscript (.Name x p1) a ps] X.env).map (·.2) = [assign (.Subscript (.Name x p1) a ps) X.env] := by rfl) :
    QS X (.Assign [.Subscript (.Name x p1) a ps] e pos) (sSetI i fa f) :=
  qs_of (ps_asg he.pe pg hs hw h1) fun B P0 H0 Pc H σ δ Kd D b0 S q k => by
    obtain ⟨P, g0, hc, R, ho⟩ := S.ex
    refine lift_d R (fun d => ownOf δ i fun ds => fa δ fun r1 => ∃ (j : Int) (n : Nat), r1.d = .int j ∧ ixN ds.length j = some n ∧ Kd.nx (δ.set i (.own (ds.set n d)))) q fun d v P1 H1 q1 g1 z1 => ?_
    obtain ⟨ds, e, q1⟩ := ownOf_at q1
    have R1 := R.mono g1
    obtain ⟨l, vs, h1, h2, h3, h4, h5⟩ := R1.own i ds e
    refine ⟨.ref l, h1, ?_⟩
    refine lift_d R1 (fun d1 => ∃ (j : Int) (n : Nat), d1 = .int j ∧ ixN ds.length j = some n ∧ Kd.nx (δ.set i (.own (ds.set n d)))) q1 fun d1 v1 P2 H2 ⟨j, n, e1, q2, q3⟩ g2 z2 => ?_
    subst e1
    cases z2.int'
    have g := g1.trans R.bag g2
    refine ⟨l, vs, j, n, rfl, rfl, g2.hh l _ h4 h3, by rw [h5.length]; exact q2, k.nx _ _ _ q3 ?_⟩
    exact StD.chg b0 (g0.trans b0 g) (hc.trans g.pp) (R.mono g) ho e h1 (g2.off l (by rw [h4]; exact Option.some_ne_none _) h2) h3 ((h5.mono g2.pp).set (z1.mono g2.pp) n)
/-- the own list of a slot is a value from here on -/
def sFrz (i : Nat) (g : SV) : SV := fun K δ => ownOf δ i fun ds => g K (δ.set i (.val (.lst ds)))
theorem q_frz (i : Nat) (hs : QSs X ss g) : QSs X ss (sFrz i g) :=
  ⟨pss_imp hs.pss fun D σ H ⟨B, P0, H0, Pc, δ, Kd, b0, S, q, k⟩ => by
    obtain ⟨P, g0, hc, R, ho⟩ := S.ex
    obtain ⟨ds, e, q⟩ := ownOf_at q
    obtain ⟨l, vs, h1, h2, h3, h4, h5⟩ := R.own i ds e
    have hH0 := ho i ds l e h1
    have s1 : Same P (upd P l (.lst vs)) := same_new h2
    have g1 : Gr B P0 H0 (upd P l (.lst vs)) H := by
      refine ⟨fun a u h => ?_, g0.pp.trans s1, g0.hh, fun a h z => ?_, fun b' c' e1 => ?_⟩
      · by_cases ha : a = l
        · subst ha; rw [upd_same] at h; rw [← h]; exact h4
        · rw [upd_ne ha] at h; exact g0.ex _ _ h
      · by_cases ha : a = l
        · subst ha; exact absurd hH0 h
        · rw [upd_ne ha]; exact g0.off a h z
      · obtain ⟨q1, cells, t, r, m, n, q2, q3, q4⟩ := g0.bag _ _ e1
        exact ⟨by rw [upd_ne (h3 _ _ e1).symm]; exact q1, cells, t, r, m, n, s1 _ _ q2, q3, q4⟩
    have hil : i < δ.length := (List.getElem?_eq_some_iff.mp e).1
    refine ⟨B, P0, H0, Pc, _, Kd, b0, ⟨upd P l (.lst vs), g1, hc.trans s1, ⟨g1.ex, g1.bag, fun j d h => ?_, fun j ds2 h => ?_, fun j m ds1 ds2 l' k1 k2 k3 k4 => ?_, by rw [List.length_set]; exact R.len⟩, fun j ds2 l' k1 k2 => ?_⟩, q, k⟩
    · rcases set_back j _ h with ⟨rfl, e2, _⟩ | ⟨ne, h⟩
      · cases e2
        exact ⟨.ref l, h1, .lst upd_same (h5.mono s1)⟩
      · obtain ⟨v, k1, k2⟩ := R.val j d h
        exact ⟨v, k1, k2.mono s1⟩
    · rcases set_back j _ h with ⟨_, e2, _⟩ | ⟨ne, h⟩
      · cases e2
      · obtain ⟨l2, vs2, k1, k2, k3, k4, k5⟩ := R.own j ds2 h
        refine ⟨l2, vs2, k1, ?_, k3, k4, k5.mono s1⟩
        rw [upd_ne fun z => ?_]
        · exact k2
        · subst z
          exact ne (R.sep i j ds ds2 _ e h h1 k1)
    · rcases set_back j _ k1 with ⟨_, e2, _⟩ | ⟨_, k1⟩
      · cases e2
      rcases set_back m _ k2 with ⟨_, e2, _⟩ | ⟨_, k2⟩
      · cases e2
      exact R.sep j m ds1 ds2 l' k1 k2 k3 k4
    · rcases set_back j _ k1 with ⟨_, e2, _⟩ | ⟨_, k1⟩
      · cases e2
      exact ho j ds2 l' k1 k2⟩
/-! ### a, b = e1, e2 -/
def sPar2 (i j : Nat) (fa fb : EV) : SV := fun K δ => fa δ fun x => fb δ fun y => K.nx ((δ.set i x.sl).set j y.sl)
def sPar3 (i j l : Nat) (fa fb f : EV) : SV := fun K δ => fa δ fun x => fb δ fun y => f δ fun z => K.nx (((δ.set i x.sl).set j y.sl).set l z.sl)
/-- a stored result, then a further step -/
theorem StD.ex2 {K : PySem.W.Frag} {B : Bg} {P0 H0 Pc H : Hp} {σ : L2.St} {δ : DEnv} (S : StD K B P0 H0 Pc H σ δ) : ∃ P, Gr B P0 H0 P H ∧ Same Pc P ∧ Rep K B P H σ δ ∧ ∀ (i : Nat) (ds : List D) (l : Addr), δ[i]? = some (Sl.own ds) → σ[i]? = some (some (V.ref l)) → H0 l = none := S.ex
end
end DI

namespace DI
open PySem PySem.Spec PyProof.Rows L2
abbrev OwnF (H0 : Hp) (σ : L2.St) (δ : DEnv) : Prop := ∀ (i : Nat) (ds : List D) (l : Addr), δ[i]? = some (Sl.own ds) → σ[i]? = some (some (V.ref l)) → H0 l = none
abbrev OwnK (H : Hp) (σ : L2.St) (δ : DEnv) : Prop := ∀ (i : Nat) (ds : List D) (l : Addr), δ[i]? = some (Sl.own ds) → σ[i]? = some (some (V.ref l)) → H l ≠ none
theorem Rep.ownK {K : PySem.W.Frag} {B : Bg} {P H : Hp} {σ : L2.St} {δ : DEnv} (R : Rep K B P H σ δ) : OwnK H σ δ := fun i ds l h1 h2 => by
  obtain ⟨l', vs, k1, _, _, k4, _⟩ := R.own i ds h1
  rw [h2] at k1
  cases k1
  rw [k4]
  exact Option.some_ne_none _
theorem RzOk.mono {K : PySem.W.Frag} {B : Bg} {P1 H1 H P2 H2 : Hp} {r : Rz} {v : V} (bH : BagOk B P1 H → True) (hb : ∀ b c, B = some (b, c) → H b ≠ none) (z : RzOk K B P1 H1 H r v) (g : Gr B P1 H1 P2 H2) : RzOk K B P2 H2 H r v := by
  cases r with
  | val d => exact Dp.mono g.pp z
  | new ds =>
    obtain ⟨l, vs, rfl, h1, h2, h3, h4⟩ := z
    exact ⟨l, vs, rfl, g.off l (by rw [h3]; exact Option.some_ne_none _) h1, h2, g.hh l _ h3 fun b c e1 e2 => hb b c e1 (by rw [← e2]; exact h2), h4.mono g.pp⟩
/-- a result is stored; Hb: the heap ahead of its evaluation -/
theorem put_at {K : PySem.W.Frag} {B : Bg} {P H Hb H0 : Hp} {σ : L2.St} {δ : DEnv} {r : Rz} {v : V} (i : Nat) (R : Rep K B P H σ δ) (ho : OwnF H0 σ δ) (hk : OwnK Hb σ δ) (hb : ∀ b c, B = some (b, c) → Hb b ≠ none) (h0 : ∀ l, Hb l = none → H0 l = none) (z : RzOk K B P H Hb r v) :
    Rep K B P H (σ.set i (some v)) (δ.set i r.sl) ∧ OwnF H0 (σ.set i (some v)) (δ.set i r.sl) := by
  cases r with
  | val d =>
    refine ⟨R.set_val i z, fun j ds l h1 h2 => ?_⟩
    rcases set_back j _ h1 with ⟨_, e, _⟩ | ⟨ne, h1⟩
    · cases e
    · rw [List.getElem?_set_ne ne] at h2
      exact ho j ds l h1 h2
  | new ds =>
    obtain ⟨l, vs, rfl, q1, q2, q3, q4⟩ := z
    refine ⟨R.set_own i q1 q3 (fun b c e1 e2 => hb b c e1 (by rw [← e2]; exact q2)) q4 fun j es h1 _ h2 => hk j es l h1 h2 q2, fun j ds' l' h1 h2 => ?_⟩
    rcases set_back j _ h1 with ⟨rfl, e, hj⟩ | ⟨ne, h1⟩
    · have hl := R.len
      rw [List.getElem?_set_self (by omega)] at h2
      cases h2
      exact h0 l q2
    · rw [List.getElem?_set_ne ne] at h2
      exact ho j ds' l' h1 h2
theorem bagNe {B : Bg} {P H : Hp} (h : BagOk B P H) : ∀ b c, B = some (b, c) → H b ≠ none := fun b c e => by
  obtain ⟨_, _, _, _, _, _, _, q, _⟩ := h b c e
  rw [q]
  exact Option.some_ne_none _
section
variable {X : Cx} {e a b c tg iter : Expr} {pos : Pos} {fi : IV} {t : Tg} {ft : TV} {f fa fb : EV} {x y z : Str} {ss us : List Stmt} {g h : SV}
/-- two values side by side, evaluated from the left -/
theorem par2_run {i j : Nat} {B : Bg} {P0 H0 Pc H : Hp} {σ : L2.St} {δ : DEnv} {Kd : KD} {Q : List V → Hp → Prop} (b0 : BagOk B P0 H0) (S : StD X.K B P0 H0 Pc H σ δ) (q : sPar2 i j fa fb Kd δ)
    (k : ∀ v w P2 H2, Gr B P0 H0 P2 H2 → Same Pc P2 → (∃ δ', Kd.nx δ' ∧ Rep X.K B P2 H2 ((σ.set i (some v)).set j (some w)) δ' ∧ OwnF H0 ((σ.set i (some v)).set j (some w)) δ') → Q [v, w] H2) :
    tCons (lift X.K fa) (tCons (lift X.K fb) tNil) σ H Q := by
  obtain ⟨P, g0, hc, R, ho⟩ := S.ex
  refine ⟨B, P, δ, _, R, q, fun r1 v1 P1 H1 q1 g1 z1 => ?_⟩
  have R1 := R.mono g1
  refine ⟨B, P1, δ, _, R1, q1, fun r2 v2 P2 H2 q2 g2 z2 => ?_⟩
  have R2 := R1.mono g2
  have z1' := z1.mono (fun _ => trivial) (bagNe R.bag) g2
  have g01 := g0.trans b0 g1
  obtain ⟨A1, A2⟩ := put_at i R2 ho R.ownK (bagNe R.bag) (fun l hl => g0.fresh b0 hl) z1'
  obtain ⟨C1, _⟩ := put_at i R1 ho R.ownK (bagNe R.bag) (fun l hl => g0.fresh b0 hl) z1
  obtain ⟨B1, B2⟩ := put_at j A1 A2 C1.ownK (bagNe g1.bag) (fun l hl => g01.fresh b0 hl) z2
  exact k v1 v2 P2 H2 (g01.trans b0 g2) ((hc.trans g1.pp).trans g2.pp) ⟨_, q2, B1, B2⟩
theorem q_par2 (i j : Nat) {px py pt : Pos} {kt k2 : Nat} {pt2 : Pos} (hN : X.N.Nodup) (ha : QE X a fa) (hb : QE X b fb) (hw : swappedStores [.Tuple [.Name x px, .Name y py] kt pt] (.Tuple [a, b] k2 pt2) X.env = pure (some [x, y])) (hi : X.N[i]? = some x := by rfl) (hj : X.N[j]? = some y := by rfl) (hij : i ≠ j := by decide)
    (hx : X.env.scope.names.lookup x = some .local := by rfl) (hy : X.env.scope.names.lookup y = some .local := by rfl) (hs1 : starEach [a, b] X.env = (false, eval a X.env) :: starEach [b] X.env := by rfl) (hs2 : starEach [b] X.env = [(false, eval b X.env)] := by rfl)
    (hs : swapsWithSole [.Tuple [.Name x px, .Name y py] kt pt] (.Tuple [a, b] k2 pt2) pos.line X.env = pure false := by rfl) (hc : X.calm = true := by rfl) :
    QS X (.Assign [.Tuple [.Name x px, .Name y py] kt pt] (.Tuple [a, b] k2 pt2) pos) (sPar2 i j fa fb) :=
  qs_of (ps_par hc hN hi hj hij hx hy (pa_cons ha.pe (pa_cons hb.pe pa_nil hs2) hs1) hw hs) fun B P0 H0 Pc H σ δ Kd D b0 S q k =>
    par2_run b0 S q fun v w P2 H2 g hc ⟨δ', q', R', o'⟩ => ⟨v, w, rfl, k.nx δ' _ _ q' ⟨P2, g, hc, R', o'⟩⟩
/-- the same where a tuple is made: a name is a cell -/
theorem q_par2T (i j : Nat) {px py pt : Pos} {kt k2 : Nat} {pt2 : Pos} (ha : QE X a fa) (hb : QE X b fb) (hg : QG X (.Tuple [.Name x px, .Name y py] kt pt) (.tup [i, j])) (hs1 : starEach [a, b] X.env = (false, eval a X.env) :: starEach [b] X.env := by rfl) (hs2 : starEach [b] X.env = [(false, eval b X.env)] := by rfl)
    (hs : swapsWithSole [.Tuple [.Name x px, .Name y py] kt pt] (.Tuple [a, b] k2 pt2) pos.line X.env = pure false := by rfl) (hw : swappedStores [.Tuple [.Name x px, .Name y py] kt pt] (.Tuple [a, b] k2 pt2) X.env = pure none := by rfl)
    (h1 : (assignEach [.Tuple [.Name x px, .Name y py] kt pt] X.env).map (·.2) = [assign (.Tuple [.Name x px, .Name y py] kt pt) X.env] := by rfl) :
    QS X (.Assign [.Tuple [.Name x px, .Name y py] kt pt] (.Tuple [a, b] k2 pt2) pos) (sPar2 i j fa fb) :=
  qs_of (ps_asg (pe_tup (pa_cons ha.pe (pa_cons hb.pe pa_nil hs2) hs1)) hg.pg hs hw h1) fun B P0 H0 Pc H σ δ Kd D b0 S q k =>
    by
      show tCons (lift X.K fa) (tCons (lift X.K fb) tNil) σ H fun xs H1 => xs.length ≤ sizeLine ∧ ∀ p, H1 p = none → Tg.g X.K (Tg.tup [i, j]) (.ref p) σ (upd H1 p (.tup xs)) D.nx
      refine par2_run b0 S q fun v w P2 H2 g hc ⟨δ', q', R', o'⟩ => ⟨by show 2 ≤ sizeLine; decide, fun p hp => ?_⟩
      have gl : Gr B P2 H2 P2 (upd H2 p (.tup [v, w])) := .loose g.ex g.bag hp
      exact ⟨p, [v, w], rfl, .inl (.inl upd_same), rfl, v, [w], rfl, w, [], rfl, rfl, k.nx δ' _ _ q' ⟨P2, g.trans b0 gl, hc, R'.mono gl, o'⟩⟩
theorem par3_run {i j l : Nat} {B : Bg} {P0 H0 Pc H : Hp} {σ : L2.St} {δ : DEnv} {Kd : KD} {Q : List V → Hp → Prop} (b0 : BagOk B P0 H0) (S : StD X.K B P0 H0 Pc H σ δ) (q : sPar3 i j l fa fb f Kd δ)
    (k : ∀ v w u P2 H2, Gr B P0 H0 P2 H2 → Same Pc P2 → (∃ δ', Kd.nx δ' ∧ Rep X.K B P2 H2 (((σ.set i (some v)).set j (some w)).set l (some u)) δ' ∧ OwnF H0 (((σ.set i (some v)).set j (some w)).set l (some u)) δ') → Q [v, w, u] H2) :
    tCons (lift X.K fa) (tCons (lift X.K fb) (tCons (lift X.K f) tNil)) σ H Q := by
  obtain ⟨P, g0, hc, R, ho⟩ := S.ex
  refine ⟨B, P, δ, _, R, q, fun r1 v1 P1 H1 q1 g1 z1 => ?_⟩
  have R1 := R.mono g1
  refine ⟨B, P1, δ, _, R1, q1, fun r2 v2 P2 H2 q2 g2 z2 => ?_⟩
  have R2 := R1.mono g2
  refine ⟨B, P2, δ, _, R2, q2, fun r3 v3 P3 H3 q3 g3 z3 => ?_⟩
  have R3 := R2.mono g3
  have g01 := g0.trans b0 g1
  have g02 := g01.trans b0 g2
  have z1' := z1.mono (fun _ => trivial) (bagNe R.bag) g2
  have z1'' := z1'.mono (fun _ => trivial) (bagNe R.bag) g3
  have z2' := z2.mono (fun _ => trivial) (bagNe R1.bag) g3
  have fr0 := fun l (hl : H l = none) => g0.fresh b0 hl
  have fr1 := fun l (hl : H1 l = none) => g01.fresh b0 hl
  have fr2 := fun l (hl : H2 l = none) => g02.fresh b0 hl
  obtain ⟨A1, A2⟩ := put_at i R3 ho R.ownK (bagNe R.bag) fr0 z1''
  obtain ⟨C1, C2⟩ := put_at i R1 ho R.ownK (bagNe R.bag) fr0 z1
  obtain ⟨E1, E2⟩ := put_at i R2 ho R.ownK (bagNe R.bag) fr0 z1'
  obtain ⟨B1, B2⟩ := put_at j A1 A2 C1.ownK (bagNe g1.bag) fr1 z2'
  obtain ⟨F1, F2⟩ := put_at j E1 E2 C1.ownK (bagNe g1.bag) fr1 z2
  obtain ⟨G1, G2⟩ := put_at l B1 B2 F1.ownK (bagNe g2.bag) fr2 z3
  exact k v1 v2 v3 P3 H3 (g02.trans b0 g3) (((hc.trans g1.pp).trans g2.pp).trans g3.pp) ⟨_, q3, G1, G2⟩
theorem q_par3 (i j l : Nat) {px py pz pt : Pos} {kt k2 : Nat} {pt2 : Pos} (hN : X.N.Nodup) (ha : QE X a fa) (hb : QE X b fb) (he : QE X c f) (hw : swappedStores [.Tuple [.Name x px, .Name y py, .Name z pz] kt pt] (.Tuple [a, b, c] k2 pt2) X.env = pure (some [x, y, z])) (hi : X.N[i]? = some x := by rfl) (hj : X.N[j]? = some y := by rfl) (hl : X.N[l]? = some z := by rfl) (hij : i ≠ j := by decide) (hil : i ≠ l := by decide) (hjl : j ≠ l := by decide)
    (hx : X.env.scope.names.lookup x = some .local := by rfl) (hy : X.env.scope.names.lookup y = some .local := by rfl) (hz : X.env.scope.names.lookup z = some .local := by rfl) (hs1 : starEach [a, b, c] X.env = (false, eval a X.env) :: starEach [b, c] X.env := by rfl) (hs2 : starEach [b, c] X.env = (false, eval b X.env) :: starEach [c] X.env := by rfl) (hs3 : starEach [c] X.env = [(false, eval c X.env)] := by rfl)
    (hs : swapsWithSole [.Tuple [.Name x px, .Name y py, .Name z pz] kt pt] (.Tuple [a, b, c] k2 pt2) pos.line X.env = pure false := by rfl) (hc : X.calm = true := by rfl) :
    QS X (.Assign [.Tuple [.Name x px, .Name y py, .Name z pz] kt pt] (.Tuple [a, b, c] k2 pt2) pos) (sPar3 i j l fa fb f) :=
  qs_of (ps_par3 hc hN hi hj hl hij hil hjl hx hy hz (pa_cons ha.pe (pa_cons hb.pe (pa_cons he.pe pa_nil hs3) hs2) hs1) hw hs) fun B P0 H0 Pc H σ δ Kd D b0 S q k =>
    par3_run b0 S q fun v w u P2 H2 g hc ⟨δ', q', R', o'⟩ => ⟨v, w, u, rfl, k.nx δ' _ _ q' ⟨P2, g, hc, R', o'⟩⟩
/-- a, b = e, e a tuple -/
def sAsgT (is : List Nat) (f : EV) : SV := fun K δ => f δ fun r => (Tg.tup is).bind r.d δ K.nx
theorem q_asgT {is : List Nat} (he : QE X e f) (hg : QG X tg (.tup is)) (hs : swapsWithSole [tg] e pos.line X.env = pure false := by rfl) (hw : swappedStores [tg] e X.env = pure none := by rfl)
    (h1 : (assignEach [tg] X.env).map (·.2) = [assign tg X.env] := by rfl) : QS X (.Assign [tg] e pos) (sAsgT is f) :=
  qs_of (ps_asg he.pe hg.pg hs hw h1) fun B P0 H0 Pc H σ δ Kd D b0 S q k => by
    obtain ⟨P, g0, hc, R, ho⟩ := S.ex
    refine lift_d R (fun d => (Tg.tup is).bind d δ Kd.nx) q fun d v P1 H1 q1 g1 z1 => ?_
    exact Tg.okS z1 (R.mono g1) ho q1 fun δ' σ' q2 R2 o2 => k.nx δ' σ' H1 q2 ⟨P1, g0.trans b0 g1, hc.trans g1.pp, R2, o2⟩
/-- x += e of ints and texts -/
def augD : D → D → (D → Prop) → Prop
  | .int i, .int j, Q => Q (.int (i + j))
  | .str s, .str u, Q => s.length + u.length ≤ sizeLine ∧ Q (.str (s ++ u))
  | _, _, _ => False
def sAug (i : Nat) (f : EV) : SV := fun K δ => match δ[i]? with
  | some (.val d) => f δ fun r => augD d r.d fun d' => K.nx (δ.set i (.val d'))
  | _ => False
theorem ip_add2 : PIp X .Add (fun x y H Q => (∃ i j, x = .int i ∧ y = .int j ∧ Q (.int (i + j)) H) ∨ ∃ i j, x = .str i ∧ y = .str j ∧ i.length + j.length ≤ sizeLine ∧ Q (.str (i ++ j)) H) := by
  intro pins s σ H x y v u Q I rx ry h
  rcases h with h | h
  · exact iop_add pins s σ H x y v u Q I rx ry h
  · exact iop_add_str pins s σ H x y v u Q I rx ry h
theorem q_aug (i : Nat) {pos' : Pos} (hN : X.N.Nodup) (he : QE X e f) (hi : X.N[i]? = some x := by rfl) (hx : Loc X.env.scope x := by first | exact Or.inl rfl | exact Or.inr rfl) (hf : X.fn x = true ∨ X.env.scope.names.lookup x = some .local := by first | exact .inl rfl | exact .inr rfl | assumption) :
    QS X (.AugAssign (.Name x pos') .Add e pos) (sAug i f) :=
  qs_of (ps_aug hN hi hx he.pe ip_add2 hf) fun B P0 H0 Pc H σ δ Kd D b0 S q k => by
    obtain ⟨P, g0, hc, R, ho⟩ := S.ex
    unfold sAug at q
    cases e : δ[i]? with
    | none => rw [e] at q; exact q.elim
    | some s =>
      rw [e] at q
      cases s with
      | no => exact q.elim
      | own ds => exact q.elim
      | val d =>
        obtain ⟨v, h1, h2⟩ := R.val i d e
        refine ⟨v, h1, lift_d R (fun d2 => augD d d2 fun d' => Kd.nx (δ.set i (.val d'))) q fun d2 v2 P1 H1 q1 g1 z1 => ?_⟩
        have R1 := R.mono g1
        have fin : ∀ (d' : DI.D) (v' : V), (∀ P, Dp X.K B P v' d') → Kd.nx (δ.set i (.val d')) → D.nx (σ.set i (some v')) H1 := fun d' v' zz qq => by
          obtain ⟨A1, A2⟩ := put_at (r := .val d') i R1 ho R1.ownK (bagNe R1.bag) (fun l hl => (g0.trans b0 g1).fresh b0 hl) (zz P1)
          exact k.nx _ _ _ qq ⟨P1, g0.trans b0 g1, hc.trans g1.pp, A1, A2⟩
        cases d with
        | int n =>
          cases d2 with
          | int m => cases h2.int'; cases z1.int'; exact .inl ⟨n, m, rfl, rfl, fin _ _ (fun _ => .int _) q1⟩
          | _ => exact q1.elim
        | str n =>
          cases d2 with
          | str m => cases h2.str'; cases z1.str'; exact .inr ⟨n, m, rfl, rfl, q1.1, fin _ _ (fun _ => .str _) q1.2⟩
          | _ => exact q1.elim
        | _ => cases d2 <;> exact q1.elim
end
/-! ### a def -/
/-- the slots at a def's start -/
def start' (n : Nat) (ds : List D) : DEnv := ds.map Sl.val ++ List.replicate (n - ds.length) .no
def bodyS (N ps : Nat) (f : SV) : Spec := fun ds Q => ds.length = ps ∧ f { nx := fun _ => Q (.val .non), rt := Q } (start' N ds)
theorem start_rep {K : PySem.W.Frag} {B : Bg} {P H : Hp} {N : List Str} {vs : List V} {ds : List D} (e : Same P H) (b : BagOk B P H) (z : DpA K B P vs ds) (h : vs.length ≤ N.length) : Rep K B P H (L2.start N vs) (start' N.length ds) := by
  have no : ∀ (i : Nat) (s : Sl), (start' N.length ds)[i]? = some s → (∃ d, s = .val d ∧ ds[i]? = some d) ∨ s = .no := fun i s hs => by
    unfold start' at hs
    rw [List.getElem?_append] at hs
    split at hs
    · rw [List.getElem?_map] at hs
      cases e : ds[i]? with
      | none => rw [e] at hs; cases hs
      | some d => rw [e] at hs; exact .inl ⟨d, (Option.some.inj hs).symm, rfl⟩
    · rw [List.getElem?_replicate] at hs
      split at hs
      · exact .inr (Option.some.inj hs).symm
      · cases hs
  refine ⟨e, b, fun i d h1 => ?_, fun i es h1 => ?_, fun i j es fs l h1 => ?_, ?_⟩
  · rcases no i _ h1 with ⟨d', e1, h2⟩ | e1
    · cases e1
      obtain ⟨v, k1, k2⟩ := z.get h2
      refine ⟨v, ?_, k2⟩
      unfold L2.start
      rw [List.getElem?_append, if_pos (by rw [List.length_map]; exact (List.getElem?_eq_some_iff.mp k1).1), List.getElem?_map, k1]
      rfl
    · cases e1
  · rcases no i _ h1 with ⟨d', e1, _⟩ | e1 <;> cases e1
  · rcases no i _ h1 with ⟨d', e1, _⟩ | e1 <;> cases e1
  · unfold L2.start start'
    rw [List.length_append, List.length_append, List.length_map, List.length_map, List.length_replicate, List.length_replicate, z.length]
/-- THE RULE for a def -/
theorem fn_data {P : Program} {w : World} {K : PySem.W.Frag} {mg : Str → Option Value} {base : Heap} {x qual : Str} {st : Stmt} {f : Addr} {fd : FuncData} {N ps : List Str} {k : Nat} {g : SV} (F : Fun K x qual st f fd) (S : FnScope N ps (defScope st)) (hlen : ps.length ≤ N.length)
    (hb : ∀ (cdv : Value) (A : Around) (outer : List Env) (s : Shared) (H : Hp) (E : XK), Room k (A.deeper (envOfC qual (defScope st) s.heap.objs.size f cdv)) → QSs (cxOf CX0 P w K mg base N qual (defScope st) f cdv A outer s H E).nox (defBody st) g) :
    FnOk P w K mg base CX0 (k + 1) f fd ps (SpD K ps.length (bodyS N.length ps.length g)) := by
  refine F.ok S (fun vs H Q E h => ?_) fun cdv A outer s H vs Q E hr h => ?_
  · obtain ⟨B, P0, ds, Qd, h1, h2, h3, h4, _⟩ := h
    rw [h3.length, h4]
  · obtain ⟨B, P0, ds, Qd, h1, h2, h3, h4, ⟨_, h5⟩, kk⟩ := h
    refine ⟨_, (hb cdv A outer s H E hr).pss, B, P0, H, P0, start' N.length ds, _, h2, ⟨P0, .refl h1 h2, .refl _, start_rep h1 h2 h3 (by rw [h3.length, h4]; exact hlen), fun i es l q1 q2 => ?_⟩, h5, ⟨fun δ σ H' q S' => ?_, fun δ σ H' q S' => q.elim, fun δ σ H' q S' => q.elim, kk⟩⟩
    · exfalso
      unfold start' at q1
      rw [List.getElem?_append] at q1
      split at q1
      · rw [List.getElem?_map] at q1
        cases e : ds[i]? with
        | none => rw [e] at q1; cases q1
        | some d => rw [e] at q1; cases q1
      · rw [List.getElem?_replicate] at q1
        split at q1 <;> cases q1
    · obtain ⟨P', a1, a2, a3, a4⟩ := S'.ex
      exact kk (.val .non) .non P' H' q a1 .non
end DI

namespace DI
open PySem PySem.Spec PyProof.Rows L2
/-! ### the laws' own draws -/
def drawS : Spec := fun ds Q => ∃ n : Int, ds = [.bag, .int n] ∧ 0 < n ∧ n < 1000000000 ∧ ∀ k : Int, 0 ≤ k → k < n → Q (.val (.int k))
abbrev ixc (K : PySem.W.Frag) (i : Int) : TE := tOp (rIxL K) (tVar 0) (tC (.int i))
abbrev rAddI : R2 := rI0 fun i j => .int (i + j)
abbrev rMulI : R2 := rI CMul fun i j => .int (i * j)
abbrev rModI : R2 := rI (fun _ j => 0 < j) fun i j => .int (i % j)
abbrev rDivI : R2 := rI CDivW fun i j => .int (i / j)
abbrev rPowI : R2 := rI CPow fun i j => .int (i ^ j.toNat)
abbrev rInt1 : List V → Hp → VK → Prop := fun xs H Q => (∃ i, xs = [.int i] ∧ Q (.int i) H) ∨ ∃ k, xs = [.bl k] ∧ Q (.int (if k then 1 else 0)) H
abbrev rLenQ (K : PySem.W.Frag) : List V → Hp → VK → Prop := fun xs H Q => ∃ p ys, xs = [.ref p] ∧ (SqL K H p ys ∨ SqT K H p ys) ∧ Q (.int ys.length) H
abbrev tInt (t : TE) : TE := tCB rInt1 (tCons t tNil)
abbrev setc (i : Int) (t : TE) : TS := tAsg t (gSub (tVar 0) (tC (.int i)) rSetL)
abbrev rLtI : R2 := rI0 fun i j => .bl (decide (i < j))
abbrev rGeI : R2 := rI0 fun i j => .bl (decide (j ≤ i))
abbrev rGtI : R2 := rI0 fun i j => .bl (decide (j < i))
/-- the reading of _law_draw's body: slots bag, many, cell, digit, seed -/
abbrev drawM (K : PySem.W.Frag) : TS := setc 3 (tOp rModI (tInt (tOp rAddI (tOp rAddI (tOp rMulI (ixc K 3) (tC (.int 40014))) (tOp rMulI (tOp rModI (tInt (tVar 2)) (tC (.int 2147483563))) (tC (.int 617)))) (tC (.int 31)))) (tC (.int 2147483629)))
abbrev drawR (K : PySem.W.Frag) : TS := tRet (tOp rModI (tInt (tOp rAddI (tOp rDivI (ixc K 3) (tC (.int 89))) (tOp rMulI (tOp rModI (tInt (ixc K 3)) (tC (.int 7907))) (tC (.int 61))))) (tVar 1))
abbrev drawE (K : PySem.W.Frag) : TS := tSeq (tIfS (tTest (tOp rGtI (ixc K 2) (tC (.int 0))))
    (tSeq (tAsg (tOp rModI (tInt (ixc K 2)) (tVar 1)) (gName 3))
    (tSeq (setc 2 (tOp rDivI (tInt (ixc K 2)) (tVar 1)))
      (tRet (tVar 3))))
    tNext)
  (tSeq (tAsg (ixc K 3) (gName 4))
  (tSeq (setc 3 (tOp rModI (tInt (tOp rAddI (tOp rAddI (tOp rAddI (tOp rPowI (tVar 4) (tC (.int 3))) (tOp rMulI (tVar 4) (tC (.int 36979)))) (tOp rMulI (ixc K 4) (tC (.int 1299721)))) (tC (.int 50033)))) (tC (.int 2147483629))))
    (drawR K)))
abbrev drawT (K : PySem.W.Frag) : TS :=
  tSeq (setc 4 (tOp rAddI (ixc K 4) (tC (.int 1))))
  (tSeq (tIfS (tAnd (tTest (tOp rEq (ixc K 2) (tC (.int 0)))) (tTest (tOp rLtI (ixc K 1) (tCB (rLenQ K) (tCons (ixc K 0) tNil)))))
    (tSeq (tAsg (tOp (rIxL K) (ixc K 0) (ixc K 1)) (gName 2))
    (tSeq (setc 1 (tOp rAddI (ixc K 1) (tC (.int 1))))
    (tSeq (tIfS (tTest (tOp rGeI (tVar 2) (tOp rPowI (tC (.int 10)) (tC (.int 18))))) (setc 2 (tVar 2)) tNext)
      (drawM K))))
    tNext)
  (drawE K))
def bagL (c : Addr) (t r m n : Int) : List V := [.ref c, .int t, .int r, .int m, .int n]
theorem bag_up {B : Bg} {P H : Hp} {b c : Addr} (e : Same P H) (b0 : BagOk B P H) (eB : B = some (b, c)) {H' : Hp} {t' r' m' n' : Int} (hH : H' = upd H b (.lst (bagL c t' r' m' n'))) (h : 0 ≤ t' ∧ 0 ≤ r' ∧ 0 ≤ m' ∧ m' < 2147483629) : Gr B P H P H' := by
  obtain ⟨hP, cells, _, _, _, _, hc, hb, _⟩ := b0 b c eB
  subst hH
  refine ⟨fun a u h => ?_, Same.refl _, fun a u h nb => ?_, fun a _ z => z, fun b' c' e1 => ?_⟩
  · rw [upd_ne (ne_of_none h hP)]; exact e _ _ h
  · rw [upd_ne (nb b c eB)]; exact h
  · rw [eB] at e1
    cases e1
    exact ⟨hP, cells, t', r', m', n', hc, upd_same, h⟩
theorem div_wide {n : Int} (h : 0 < n) (h2 : n < 1000000000) (i : Int) : CDivW i n := ⟨h, by
  have : n.natAbs < 2 ^ 30 := by omega
  exact Nat.lt_of_lt_of_le (PySem.Flt.log2_lt_of (by decide) this) (by decide)⟩
theorem mulR (i j : Int) (h : -(2 ^ 64) < j ∧ j < 2 ^ 64) : CMul i j := .inr h
/-- a cell of the bag read -/
theorem ixc_ok {K : PySem.W.Frag} {σ : L2.St} {H : Hp} {Q : VK} {b : Addr} {xs : List V} {v : V} (i : Nat) (hs : σ[0]? = some (some (.ref b))) (hb : H b = some (.lst xs)) (hv : xs[i]? = some v) (q : Q v H) : ixc K (i : Int) σ H Q :=
  ⟨.ref b, hs, b, xs, i, v, rfl, rfl, .inl (.inl hb), atI_nat hv, q⟩
theorem setc_ok {σ : L2.St} {H : Hp} {D : Ends} {b : Addr} {xs : List V} {v : V} {t : TE} (i : Nat) (hs : σ[0]? = some (some (.ref b))) (hi : i < xs.length) (ht : t σ H fun x H1 => x = v ∧ H1 = H) (hb : H b = some (.lst xs)) (hm : ∀ Q : VK, (∀ x H1, (x = v ∧ H1 = H) → Q x H1) → t σ H Q) (q : D.nx σ (upd H b (.lst (xs.set i v)))) : setc (i : Int) t D σ H := by
  refine hm _ fun x H1 ⟨e1, e2⟩ => ?_
  subst e1
  subst e2
  refine ⟨.ref b, hs, b, xs, i, i, rfl, rfl, hb, ?_, q⟩
  unfold ixN
  rw [if_pos (by omega), if_pos (by omega)]
  simp
theorem draw_read {K : PySem.W.Frag} {H : Hp} {vs : List V} {Q : VK} {E : XK} (h : SpD K 2 drawS vs H Q E) : drawT K { nx := fun _ H' => Q .non H', rt := Q } (L2.start ["", "", "", "", ""] vs) H := by
  obtain ⟨B, P, ds, Qd, e, b0, z, _, ⟨n, rfl, n0, n1, hq⟩, k⟩ := h
  cases z with
  | @cons v _ _ _ zb z =>
  cases z with
  | @cons w _ _ _ zn z =>
  cases z
  cases zn.int'
  cases zb with
  | @bag b c eB =>
  obtain ⟨hP, cells, t, r, m, d, hc, hb, t0, r0, m0, m1⟩ := b0 b c eB
  have ncb : c ≠ b := fun z => by rw [z, hP] at hc; cases hc
  have up : ∀ {H' : Hp} {t' r' m' d' : Int} (kk : Int), H' = upd H b (.lst (bagL c t' r' m' d')) → (0 ≤ t' ∧ 0 ≤ r' ∧ 0 ≤ m' ∧ m' < 2147483629) → 0 ≤ kk → kk < n → Q (.int kk) H' := fun kk hH hh k0 k1 =>
    k _ _ P _ (hq kk k0 k1) (bag_up e b0 eB hH hh) (.int kk)
  have hcH : ∀ xs : List V, (upd H b (.lst xs)) c = some (.lst (cells.map V.int)) := fun xs => by rw [upd_ne ncb]; exact e _ _ hc
  have md : ∀ x : Int, 0 ≤ x % 2147483629 ∧ x % 2147483629 < 2147483629 := fun x => ⟨Int.emod_nonneg _ (by decide), Int.emod_lt_of_pos _ (by decide)⟩
  -- the end of the body, from a state of the bag
  have last : ∀ (t r m d : Int) (y2 y3 : Option V), 0 ≤ t → 0 ≤ r → 0 ≤ m → m < 2147483629 →
      drawE K { nx := fun _ H' => Q .non H', rt := Q } [some (.ref b), some (.int n), y2, y3, none] (upd H b (.lst (bagL c t r m d))) := by
    intro t r m d y2 y3 t0 r0 m0 m1
    have rd : ∀ {t r m d : Int} (i : Nat) (v : V), (bagL c t r m d)[i]? = some v → atI (bagL c t r m d) (i : Int) = some v := fun i v h => atI_nat h
    refine ⟨_, rfl, b, bagL c t r m d, 2, .int r, rfl, rfl, .inl (.inl upd_same), rd 2 _ rfl, r, 0, rfl, rfl, _, rfl, ite2 (fun h1 => ?_) (fun h1 => ?_)⟩
    · -- a digit of a great cell
      refine ⟨_, rfl, b, bagL c t r m d, 2, .int r, rfl, rfl, .inl (.inl upd_same), rd 2 _ rfl, .inl ⟨r, rfl, _, rfl, r, n, rfl, rfl, n0, ?_⟩⟩
      refine ⟨_, rfl, b, bagL c t r m d, 2, .int r, rfl, rfl, .inl (.inl upd_same), rd 2 _ rfl, .inl ⟨r, rfl, _, rfl, r, n, rfl, rfl, div_wide n0 n1 r, ?_⟩⟩
      refine ⟨_, rfl, b, bagL c t r m d, 2, 2, rfl, rfl, upd_same, rfl, ?_⟩
      refine ⟨.int (r % n), rfl, ?_⟩
      rw [upd_upd]
      exact up (t' := t) (r' := r / n) (m' := m) (d' := d) _ rfl ⟨t0, Int.ediv_nonneg r0 (by omega), m0, m1⟩ (Int.emod_nonneg _ (by omega)) (Int.emod_lt_of_pos _ n0)
    · refine ⟨_, rfl, b, bagL c t r m d, 3, .int m, rfl, rfl, .inl (.inl upd_same), rd 3 _ rfl, ?_⟩
      refine ⟨.int m, rfl, m, 3, rfl, rfl, ⟨by decide, by decide, by omega⟩, .int m, rfl, m, 36979, rfl, rfl, mulR _ _ (by decide), _, _, rfl, rfl, ?_⟩
      refine ⟨_, rfl, b, bagL c t r m d, 4, .int d, rfl, rfl, .inl (.inl upd_same), rd 4 _ rfl, d, 1299721, rfl, rfl, mulR _ _ (by decide), _, _, rfl, rfl, _, _, rfl, rfl, .inl ⟨_, rfl, _, _, rfl, rfl, by show (0 : Int) < 2147483629; decide, ?_⟩⟩
      refine ⟨_, rfl, b, bagL c t r m d, 3, 3, rfl, rfl, upd_same, rfl, ?_⟩
      rw [upd_upd]
      obtain ⟨a1, a2⟩ := md (m ^ (3 : Int).toNat + m * 36979 + d * 1299721 + 50033)
      suffices h : ∀ m2 : Int, 0 ≤ m2 → m2 < 2147483629 → drawR K { nx := fun _ H' => Q .non H', rt := Q } [some (.ref b), some (.int n), y2, y3, some (.int m)] (upd H b (.lst (bagL c t r m2 d))) from h _ a1 a2
      clear a1 a2
      intro m2 a1 a2
      refine ⟨_, rfl, b, bagL c t r m2 d, 3, .int m2, rfl, rfl, .inl (.inl upd_same), rd 3 _ rfl, m2, 89, rfl, rfl, div_wide (by decide) (by decide) m2, ?_⟩
      refine ⟨_, rfl, b, bagL c t r m2 d, 3, .int m2, rfl, rfl, .inl (.inl upd_same), rd 3 _ rfl, .inl ⟨m2, rfl, m2, 7907, rfl, rfl, by show (0 : Int) < 7907; decide, _, 61, rfl, rfl, mulR _ _ (by decide), _, _, rfl, rfl, .inl ⟨_, rfl, .int n, rfl, _, n, rfl, rfl, n0, ?_⟩⟩⟩
      exact up (t' := t) (r' := r) (m' := m2) (d' := d) _ rfl ⟨t0, r0, a1, a2⟩ (Int.emod_nonneg _ (by omega)) (Int.emod_lt_of_pos _ n0)
  have rd : ∀ {t r m d : Int} (i : Nat) (v : V), (bagL c t r m d)[i]? = some v → atI (bagL c t r m d) (i : Int) = some v := fun i v h => atI_nat h
  have hb : H b = some (.lst (bagL c t r m d)) := hb
  refine ⟨_, rfl, b, bagL c t r m d, 4, .int d, rfl, rfl, .inl (.inl hb), rd 4 _ rfl, d, 1, rfl, rfl, ?_⟩
  refine ⟨_, rfl, b, bagL c t r m d, 4, 4, rfl, rfl, hb, rfl, ?_⟩
  show (tSeq _ _ : TS) _ [some (.ref b), some (.int n), none, none, none] (upd H b (.lst (bagL c t r m (d + 1))))
  generalize d + 1 = d
  refine ⟨_, rfl, b, bagL c t r m d, 2, .int r, rfl, rfl, .inl (.inl upd_same), rd 2 _ rfl, rfl, _, rfl, ite2 (fun h1 => ?_) (fun h1 => ?_)⟩
  · refine ⟨_, rfl, b, bagL c t r m d, 1, .int t, rfl, rfl, .inl (.inl upd_same), rd 1 _ rfl, ?_⟩
    refine ⟨_, rfl, b, bagL c t r m d, 0, .ref c, rfl, rfl, .inl (.inl upd_same), rd 0 _ rfl, c, cells.map V.int, rfl, .inl (.inl (.inl (hcH _))), t, _, rfl, rfl, _, rfl, ite2 (fun h2 => ?_) (fun h2 => last t r m d none none t0 r0 m0 m1)⟩
    have h2 : t < ((cells.map V.int).length : Int) := of_decide_eq_true h2
    rw [List.length_map] at h2
    obtain ⟨cell, hcell⟩ : ∃ x, cells[t.toNat]? = some x := ⟨_, List.getElem?_eq_getElem (by omega)⟩
    have hat : atI (cells.map V.int) t = some (.int cell) := by
      have e1 : t = ((t.toNat : Nat) : Int) := by omega
      rw [e1]
      exact atI_nat (by rw [List.getElem?_map, hcell]; rfl)
    refine ⟨_, rfl, b, bagL c t r m d, 0, .ref c, rfl, rfl, .inl (.inl upd_same), rd 0 _ rfl, ?_⟩
    refine ⟨_, rfl, b, bagL c t r m d, 1, .int t, rfl, rfl, .inl (.inl upd_same), rd 1 _ rfl, c, cells.map V.int, t, .int cell, rfl, rfl, .inl (.inl (hcH _)), hat, ?_⟩
    refine ⟨_, rfl, b, bagL c t r m d, 1, .int t, rfl, rfl, .inl (.inl upd_same), rd 1 _ rfl, t, 1, rfl, rfl, ?_⟩
    refine ⟨_, rfl, b, bagL c t r m d, 1, 1, rfl, rfl, upd_same, rfl, ?_⟩
    rw [upd_upd]
    show (tSeq _ _ : TS) _ [some (.ref b), some (.int n), some (.int cell), none, none] (upd H b (.lst (bagL c (t + 1) r m d)))
    have t1 : 0 ≤ t + 1 := by omega
    generalize t + 1 = t at t1
    have rest : ∀ r : Int, 0 ≤ r → drawM K { nx := drawE K { nx := fun _ H' => Q .non H', rt := Q }, rt := Q } [some (.ref b), some (.int n), some (.int cell), none, none] (upd H b (.lst (bagL c t r m d))) := by
      intro r r0
      refine ⟨_, rfl, b, bagL c t r m d, 3, .int m, rfl, rfl, .inl (.inl upd_same), rd 3 _ rfl, m, 40014, rfl, rfl, mulR _ _ (by decide), .int cell, rfl, .inl ⟨cell, rfl, cell, 2147483563, rfl, rfl, by show (0 : Int) < 2147483563; decide, _, 617, rfl, rfl, mulR _ _ (by decide), _, _, rfl, rfl, _, _, rfl, rfl, .inl ⟨_, rfl, _, _, rfl, rfl, by show (0 : Int) < 2147483629; decide, ?_⟩⟩⟩
      refine ⟨_, rfl, b, bagL c t r m d, 3, 3, rfl, rfl, upd_same, rfl, ?_⟩
      rw [upd_upd]
      obtain ⟨a1, a2⟩ := md (m * 40014 + cell % 2147483563 * 617 + 31)
      exact last t r ((m * 40014 + cell % 2147483563 * 617 + 31) % 2147483629) d (some (.int cell)) none t1 r0 a1 a2
    refine ⟨.int cell, rfl, 10, 18, rfl, rfl, ⟨by decide, by decide, by decide⟩, cell, _, rfl, rfl, _, rfl, ite2 (fun h3 => ?_) (fun h3 => ?_)⟩
    · have h3 : ((10 : Int) ^ (18 : Int).toNat) ≤ cell := of_decide_eq_true h3
      have h4 : (0 : Int) ≤ (10 : Int) ^ (18 : Int).toNat := by decide
      refine ⟨.int cell, rfl, .ref b, rfl, b, bagL c t r m d, 2, 2, rfl, rfl, upd_same, rfl, ?_⟩
      rw [upd_upd]
      exact rest cell (by omega)
    · exact rest r r0
  · exact last t r m d none none t0 r0 m0 m1

/-! ### the bag itself -/
def spBag (K : PySem.W.Frag) : Sp := fun vs H Q _ => ∃ (a : Addr) (ns : List Int), vs = [.ref a] ∧ SqL K H a (ns.map V.int) ∧ ns.length ≤ 63 ∧
  ∀ (b c : Addr) (H' : Hp) (cells : List Int) (m : Int), Same H H' → H' c = some (.lst (cells.map V.int)) → H' b = some (.lst (bagL c 0 0 m 0)) → 0 ≤ m → m < 2147483629 → Q (.ref b) H'
abbrev bagF (K : PySem.W.Frag) : TE := tSl (rSlL K) (tVar 0) tNoPart (tPart (tC (.int 63)))
abbrev rListQ (K : PySem.W.Frag) : List V → Hp → VK → Prop := fun xs H Q => ∃ p ys, xs = [.ref p] ∧ (SqL K H p ys ∨ SqT K H p ys) ∧ ∀ l, H l = none → Q (.ref l) (upd H l (.lst ys))
abbrev bagT (K : PySem.W.Frag) : TS :=
  tSeq (tAsg (tC (.int 12028)) (gName 1))
  (tSeq (tFor (iList K (bagF K)) (gName 2) (tAsg (tOp rModI (tInt (tOp rAddI (tOp rAddI (tOp rMulI (tVar 1) (tC (.int 39373))) (tOp rModI (tInt (tVar 2)) (tC (.int 2147483563)))) (tC (.int 23)))) (tC (.int 2147483629))) (gName 1)))
    (tRet (tLst (tCons (tCB (rListQ K) (tCons (bagF K) tNil)) (tCons (tC (.int 0)) (tCons (tC (.int 0)) (tCons (tVar 1) (tCons (tC (.int 0)) tNil))))))))
theorem cutV_int (ns : List Int) (lo hi : Option Int) : ∃ ms : List Int, cutV (ns.map V.int) lo hi = ms.map V.int := by
  unfold cutV
  exact ⟨(ns.drop (HT.sIx (ns.map V.int).length 0 lo)).take (HT.sIx (ns.map V.int).length (ns.map V.int).length hi - HT.sIx (ns.map V.int).length 0 lo), by rw [List.map_take, List.map_drop]⟩
theorem bag_read {K : PySem.W.Frag} {H : Hp} {vs : List V} {Q : VK} {E : XK} (h : spBag K vs H Q E) : bagT K { nx := fun _ H' => Q .non H', rt := Q } (L2.start ["", "", ""] vs) H := by
  obtain ⟨a, ns, rfl, hS, hl, q⟩ := h
  obtain ⟨ms, hms⟩ := cutV_int ns none (some 63)
  have md : ∀ x : Int, 0 ≤ x % 2147483629 ∧ x % 2147483629 < 2147483629 := fun x => ⟨Int.emod_nonneg _ (by decide), Int.emod_lt_of_pos _ (by decide)⟩
  refine ⟨.ref a, rfl, 63, rfl, a, ns.map V.int, rfl, hS, fun p hp => ?_⟩
  have s1 : Same H (upd H p (.lst (cutV (ns.map V.int) none (some 63)))) := same_new hp
  have hp1 : (upd H p (.lst (cutV (ns.map V.int) none (some 63)))) p = some (.lst (ms.map V.int)) := by rw [upd_same, hms]
  generalize upd H p (.lst (cutV (ns.map V.int) none (some 63))) = H1 at s1 hp1
  refine ⟨p, rfl, ⟨_, .inl (.inl hp1)⟩, for_list (K := K) (a := p) (xs := ms.map V.int) (fun i σ H' => ∃ (m : Int) (y : Option V), σ = [some (.ref a), some (.int m), y] ∧ H' = H1 ∧ 0 ≤ m ∧ m < 2147483629) ⟨12028, none, rfl, rfl, by decide, by decide⟩ (fun i σ H' _ ⟨_, _, _, e, _⟩ => by rw [e]; exact .inl (.inl hp1)) ?_ ?_⟩
  · rintro i x σ H' hx ⟨m, y, rfl, rfl, m0, m1⟩
    obtain ⟨u, rfl⟩ : ∃ u, x = V.int u := by
      rw [List.getElem?_map] at hx
      cases e : ms[i]? with
      | none => rw [e] at hx; cases hx
      | some u => rw [e] at hx; exact ⟨u, (Option.some.inj hx).symm⟩
    refine ⟨.int m, rfl, m, 39373, rfl, rfl, mulR _ _ (by decide), .int u, rfl, .inl ⟨u, rfl, u, 2147483563, rfl, rfl, by show (0 : Int) < 2147483563; decide, _, _, rfl, rfl, _, _, rfl, rfl, .inl ⟨_, rfl, _, _, rfl, rfl, by show (0 : Int) < 2147483629; decide, ?_⟩⟩⟩
    obtain ⟨a1, a2⟩ := md (m * 39373 + u % 2147483563 + 23)
    exact ⟨_, some (.int u), rfl, rfl, a1, a2⟩
  · rintro σ H' ⟨m, y, rfl, rfl, m0, m1⟩
    refine ⟨.ref a, rfl, 63, rfl, a, ns.map V.int, rfl, s1.seq hS, fun p2 hp2 => ?_⟩
    have s2 : Same H' (upd H' p2 (.lst (cutV (ns.map V.int) none (some 63)))) := same_new hp2
    have hp3 : (upd H' p2 (.lst (cutV (ns.map V.int) none (some 63)))) p2 = some (.lst (ms.map V.int)) := by rw [upd_same, hms]
    generalize upd H' p2 (.lst (cutV (ns.map V.int) none (some 63))) = H2 at s2 hp3
    refine ⟨p2, ms.map V.int, rfl, .inl (.inl (.inl hp3)), fun c hc => ?_⟩
    have s3 : Same H2 (upd H2 c (.lst (ms.map V.int))) := same_new hc
    refine ⟨.int m, rfl, by show 5 ≤ sizeLine; decide, fun b hb => ?_⟩
    have s4 : Same (upd H2 c (.lst (ms.map V.int))) (upd (upd H2 c (.lst (ms.map V.int))) b (.lst (bagL c 0 0 m 0))) := same_new hb
    exact q b c _ ms m (((s1.trans s2).trans s3).trans s4) (s4 _ _ upd_same) upd_same m0 m1
/-! ### the law's call -/
def spLaw (K : PySem.W.Frag) : Sp := fun vs H Q _ => ∃ (a : Addr) (ns : List Int), vs = [.ref a] ∧ SqL K H a (ns.map V.int) ∧ ns.length ≤ 63 ∧ ∀ H', Q (.bl true) H'
/-- what is asked of a law's body behind its bag: slots script, bag, .. -/
def lawS (N : Nat) (g : SV) : Prop := g { nx := fun _ => False, rt := fun r => r = .val (.bl true) } (.no :: .val .bag :: List.replicate (N - 2) .no)
theorem law_read {K : PySem.W.Frag} {H : Hp} {vs : List V} {Q : VK} {E : XK} {N : List Str} {g : SV} (hg : lawS N.length g) (hN : 2 ≤ N.length) (h : spLaw K vs H Q E) :
    tSeq (tAsg (tCall (spBag K) [] E0 (tCons (tVar 0) tNil)) (gName 1)) (liftS K g) { nx := fun _ H' => Q .non H', rt := Q } (L2.start N vs) H := by
  obtain ⟨a, ns, rfl, hS, hl, q⟩ := h
  refine ⟨.ref a, rfl, a, ns, rfl, hS, hl, fun b c H' cells m s1 hc hb m0 m1 => ?_⟩
  have ncb : c ≠ b := fun z => by
    rw [z, hb] at hc
    cases cells with
    | nil => cases hc
    | cons x r => cases hc
  let P0 : Hp := fun x => if x = c then some (.lst (cells.map V.int)) else none
  have pc : P0 c = some (.lst (cells.map V.int)) := if_pos rfl
  have pb : P0 b = none := if_neg ncb.symm
  have sP : Same P0 H' := fun x o hx => by
    by_cases e : x = c
    · subst e; rw [pc] at hx; rw [← hx]; exact hc
    · rw [show P0 x = none from if_neg e] at hx; cases hx
  have bo : BagOk (some (b, c)) P0 H' := fun b' c' e => by
    cases e
    exact ⟨pb, cells, 0, 0, m, 0, pc, hb, by decide, by decide, m0, m1⟩
  refine ⟨some (b, c), P0, H', P0, _, _, bo, ⟨P0, .refl sP bo, .refl _, ⟨sP, bo, fun i d h => ?_, fun i ds h => ?_, fun i j ds es l h => ?_, ?_⟩, fun i ds l h => ?_⟩, hg, ⟨fun δ σ H2 qq _ => qq.elim, fun δ σ H2 qq _ => qq.elim, fun δ σ H2 qq _ => qq.elim, fun r v P' H2 qq g2 z => ?_⟩⟩
  · have key : ∀ (i : Nat) (s : Sl), (Sl.no :: Sl.val .bag :: List.replicate (N.length - 2) Sl.no)[i]? = some s → s = .no ∨ (i = 1 ∧ s = .val .bag) := fun i s h => by
      match i, h with
      | 0, h => exact .inl (Option.some.inj h).symm
      | 1, h => exact .inr ⟨rfl, (Option.some.inj h).symm⟩
      | i + 2, h =>
        rw [List.getElem?_cons_succ, List.getElem?_cons_succ, List.getElem?_replicate] at h
        split at h
        · exact .inl (Option.some.inj h).symm
        · cases h
    rcases key i _ h with e | ⟨rfl, e⟩
    · cases e
    · cases e
      refine ⟨.ref b, ?_, .bag rfl⟩
      show (List.set (L2.start N [.ref a]) 1 (some (.ref b)))[1]? = _
      rw [List.getElem?_set_self]
      unfold L2.start
      rw [List.length_append, List.length_replicate]
      simp
      omega
  · match i, h with
    | 0, h => cases h
    | 1, h => cases h
    | i + 2, h =>
      rw [List.getElem?_cons_succ, List.getElem?_cons_succ, List.getElem?_replicate] at h
      split at h <;> cases h
  · match i, h with
    | 0, h => cases h
    | 1, h => cases h
    | i + 2, h =>
      rw [List.getElem?_cons_succ, List.getElem?_cons_succ, List.getElem?_replicate] at h
      split at h <;> cases h
  · show (List.set (L2.start N [.ref a]) 1 (some (.ref b))).length = _
    rw [List.length_set]
    unfold L2.start
    rw [List.length_append, List.length_replicate]
    simp
    omega
  · match i, h with
    | 0, h => cases h
    | 1, h => cases h
    | i + 2, h =>
      rw [List.getElem?_cons_succ, List.getElem?_cons_succ, List.getElem?_replicate] at h
      split at h <;> cases h
  · subst qq
    cases Dp.bl' z
    exact q H2
end DI

namespace DI
open PySem PySem.Spec PyProof.Rows L2
/-! ### short words for printed texts -/
theorem bt_len : bootBuiltins "len" = some (.builtin "len") := by decide +kernel
theorem bt_abs : bootBuiltins "abs" = some (.builtin "abs") := by decide +kernel
theorem bt_all : bootBuiltins "all" = some (.builtin "all") := by decide +kernel
theorem bt_any : bootBuiltins "any" = some (.builtin "any") := by decide +kernel
theorem bt_list : bootBuiltins "list" = some (.type "list") := by decide +kernel
theorem bt_tuple : bootBuiltins "tuple" = some (.type "tuple") := by decide +kernel
theorem bt_int : bootBuiltins "int" = some (.type "int") := by decide +kernel
theorem bt_str : bootBuiltins "str" = some (.type "str") := by decide +kernel
theorem bt_dict : bootBuiltins "dict" = some (.type "dict") := by decide +kernel
theorem bt_bool : bootBuiltins "bool" = some (.type "bool") := by decide +kernel
theorem ot_list : okTy "list" = true := by decide +kernel
theorem ot_tuple : okTy "tuple" = true := by decide +kernel
theorem ot_int : okTy "int" = true := by decide +kernel
theorem ot_str : okTy "str" = true := by decide +kernel
theorem ot_dict : okTy "dict" = true := by decide +kernel
theorem ot_bool : okTy "bool" = true := by decide +kernel
section
variable {X : Cx} {k : Nat}
theorem op_eqH (hr : Room k X.A) : OpL X (compareOp .Eq) eqB := op_eqL (by have := hr.un; omega)
theorem op_neH (hr : Room k X.A) : OpL X (compareOp .NotEq) neB := op_neL (by have := hr.un; omega)
theorem op_inH (hr : Room k X.A) : OpL X (compareOp .In) (inD false) := op_inL (by have := hr.un; omega)
theorem op_notInH (hr : Room k X.A) : OpL X (compareOp .NotIn) (inD true) := op_notInL (by have := hr.un; omega)
end
/-- a def of the program, as callers need it -/
structure Def (P : Program) (w : World) (K : PySem.W.Frag) (mg : Str → Option Value) (base : Heap) (g : Str) (ps : List Str) (j : Nat) (S : Spec) : Prop where
  len : ∀ ds Q, S ds Q → ds.length = ps.length
  ex : ∃ (f : Addr) (fd : FuncData), FnOk P w K mg base CX0 j f fd ps (SpD K ps.length S) ∧ mg g = some (.ref f) ∧ PySem.W.keepIn K (.ref f) = true ∧ Binds K fd ps []
theorem Def.cal {X : Cx} {g : Str} {ps : List Str} {j k : Nat} {S : Spec} (d : Def X.prog X.w X.K X.mg X.base g ps j S) (hr : Room k X.A) (h : j ≤ k := by omega) : Cal X g ps S := by
  obtain ⟨f, fd, F, h1, h2, h3⟩ := d.ex
  exact ⟨d.len, j, f, fd, F, hr.mono h, h1, h2, h3⟩
theorem bodyS_len {N ps : Nat} {g : SV} {ds : List D} {Q : Rz → Prop} (h : bodyS N ps g ds Q) : ds.length = ps := h.1
/-! ### calls by keywords -/
def perm {α : Type} (is : List Nat) (xs : List α) : List α := is.filterMap fun i => xs[i]?
theorem perm_vals {is : List Nat} {xs : List V} {us : List Value} (h : Vals xs us) : Vals (perm is xs) (perm is us) := by
  unfold perm
  induction is with
  | nil => exact .nil
  | cons i r ih =>
    rw [List.filterMap_cons, List.filterMap_cons]
    cases e : xs[i]? with
    | none => rw [h.none_of e]; exact ih
    | some x =>
      obtain ⟨u, h1, h2⟩ := h.get e
      rw [h1]
      exact .cons h2 ih
theorem perm_dp {K : PySem.W.Frag} {B : Bg} {P : Hp} {is : List Nat} {xs : List V} {ds : List D} (h : DpA K B P xs ds) : DpA K B P (perm is xs) (perm is ds) := by
  unfold perm
  induction is with
  | nil => exact .nil
  | cons i r ih =>
    rw [List.filterMap_cons, List.filterMap_cons]
    cases e : xs[i]? with
    | none =>
      have : ds[i]? = none := List.getElem?_eq_none (by rw [← h.length]; exact List.getElem?_eq_none_iff.mp e)
      rw [this]
      exact ih
    | some x =>
      obtain ⟨u, h1, h2⟩ := h.get' e
      rw [h1]
      exact .cons h2 ih
/-- n values by place, those named ks by name; is: which one is which -/
structure DefK (P : Program) (w : World) (K : PySem.W.Frag) (mg : Str → Option Value) (base : Heap) (g : Str) (ps : List Str) (j : Nat) (S : Spec) (n : Nat) (ks : List Str) (is : List Nat) : Prop where
  len : ∀ ds Q, S ds Q → ds.length = ps.length
  ex : ∃ (f : Addr) (fd : FuncData), FnOk P w K mg base CX0 j f fd ps (SpD K ps.length S) ∧ mg g = some (.ref f) ∧ PySem.W.keepIn K (.ref f) = true ∧ KBn K fd ps n ks (fun us ws => perm is (us ++ ws)) (fun vs zs => perm is (vs ++ zs))
section
variable {X : Cx} {e : Expr} {es : List Expr} {kws : List Keyword} {fr fk : AV} {f : EV} {pos p kpos : Pos} {nm : Option Str}
structure QK (X : Cx) (kws : List Keyword) (f : AV) : Prop where
  pk : PK X kws (liftA X.K f)
theorem pk_imp {t t' : TA} (h : PK X kws t) (i : ∀ σ H Q, t' σ H Q → t σ H Q) : PK X kws t' := ⟨fun pos pins s σ H Q I q => h.run pos pins s σ H Q I (i σ H Q q)⟩
theorem q_knil : QK X [] aNil := ⟨pk_imp pk_nil fun σ H Q ⟨B, P, δ, Qd, R, hf, k⟩ => k [] [] P H hf (.refl R.ex R.bag) .nil⟩
theorem q_kcons (ha : QE X e f) (hr : QK X kws fk) : QK X (⟨nm, e, kpos⟩ :: kws) (aCons f fk) :=
  ⟨pk_imp (pk_cons ha.pe hr.pk) fun σ H Q ⟨B, P, δ, Qd, R, hf, k⟩ => by
    refine lift_d R (fun x => fk δ fun ds => Qd (x :: ds)) hf fun dx x P1 H1 q1 g1 z1 => ?_
    exact ⟨B, P1, δ, _, R.mono g1, q1, fun ds vs P2 H2 q2 g2 z2 => k _ _ P2 H2 q2 (g1.trans R.bag g2) (.cons (z1.mono g2.pp) z2)⟩⟩
/-- f(k = v, ..): no value by place -/
theorem pe_callN0 {CX : CXT} {k : Nat} {fa : Addr} {fd : FuncData} {ps ks : List Str} {sp : Sp} {E : XK} {x : Str} {tk : TA} {g : List Value → List Value → List Value} {gV : List V → List V → List V}
    (F : FnOk X.prog X.w X.K X.mg X.base CX k fa fd ps sp) (hr : Room k X.A) (hg : Gl X x) (hm : X.mg x = some (.ref fa)) (hk : PySem.W.keepIn X.K (.ref fa) = true) (hb : KBn X.K fd ps 0 ks g gV) (hx : Passes CX X E) (hkw : PK X kws tk)
    (hall : (backToKw pos (keywordEach kws X.env)).all (·.1.isSome) = true := by rfl) (hks : (backToKw pos (keywordEach kws X.env)).filterMap (·.1) = ks := by rfl) (hdb : (x == ("__debug__" : Str)) = false := by decide)
    (hpl : ((backTo pos (starEach [] X.env)).any (·.1) || (backToKw pos (keywordEach kws X.env)).any (·.1.isNone)) = false := by rfl) :
    PE X (.Call (.Name x p) [] kws pos) (fun σ H Q => tk σ H fun zs H2 => zs.length = ks.length ∧ sp (gV [] zs) H2 Q E) := by
  refine ⟨fun pins s σ H Q I h => ?_⟩
  refine wpAny_Call_Name_kw (ld_glob I hg hm ?_ hdb)
  refine PySem.W.callWith_KW0 (h₀ := X.base) I.ok.mod.kin hk hall ?_ hpl
  refine thn (hkw.run pos pins s σ H _ I h) fun ws s2 ⟨zs, H2, I2, rz, l2, q2⟩ => ⟨I2.kIn, ?_⟩
  rw [hks]
  exact run_fnN (us := []) (vs := []) F hr hb hx I2 .nil rz rfl l2 q2
def eCallK (n m : Nat) (is : List Nat) (S : Spec) (fr fk : AV) : EV := fun δ Q => fr δ fun us => fk δ fun ws => us.length = n ∧ ws.length = m ∧ S (perm is (us ++ ws)) Q
theorem q_callK0 {x : Str} {ps ks : List Str} {j k m : Nat} {S : Spec} {is : List Nat} (d : DefK X.prog X.w X.K X.mg X.base x ps j S 0 ks is) (hr : Room k X.A) (hkw : QK X kws fk) (hl : ks.length = m := by rfl) (hj : j ≤ k := by omega) (hg : Gl X x := by rfl)
    (hall : (backToKw pos (keywordEach kws X.env)).all (·.1.isSome) = true := by rfl) (hks : (backToKw pos (keywordEach kws X.env)).filterMap (·.1) = ks := by rfl) (hdb : (x == ("__debug__" : Str)) = false := by decide)
    (hpl : ((backTo pos (starEach [] X.env)).any (·.1) || (backToKw pos (keywordEach kws X.env)).any (·.1.isNone)) = false := by rfl) : QE X (.Call (.Name x p) [] kws pos) (eCallK 0 m is S aNil fk) := by
  subst hl
  obtain ⟨fa, fd, F, h1, h2, h3⟩ := d.ex
  refine qe_of (pe_callN0 F (hr.mono hj) hg h1 h2 h3 pass0 hkw.pk hall hks hdb hpl) fun B P H σ δ Qd Q R h kk => ?_
  refine ⟨B, P, δ, _, R, h, fun ds vs P1 H1 ⟨_, q2, q3⟩ g1 z1 => ⟨by rw [z1.length]; exact q2, ?_⟩⟩
  exact ⟨B, P1, perm is ([] ++ ds), Qd, g1.ex, g1.bag, perm_dp (by simpa using z1), d.len _ _ q3, q3, fun rz v P2 H2 q4 g2 z2 => kk rz v P2 H2 q4 (g1.trans R.bag g2) (z2.back R.bag g1)⟩
theorem q_callK {x : Str} {ps ks : List Str} {j k n m : Nat} {S : Spec} {is : List Nat} (d : DefK X.prog X.w X.K X.mg X.base x ps j S n ks is) (hr : Room k X.A) (ha : QA X (e :: es) fr) (hkw : QK X kws fk) (hl : ks.length = m := by rfl) (hj : j ≤ k := by omega) (hg : Gl X x := by rfl)
    (hall : (backToKw pos (keywordEach kws X.env)).all (·.1.isSome) = true := by rfl) (hks : (backToKw pos (keywordEach kws X.env)).filterMap (·.1) = ks := by rfl) (hdb : (x == ("__debug__" : Str)) = false := by decide) (he : starEach (e :: es) X.env = (false, eval e X.env) :: starEach es X.env := by rfl)
    (hpl : ((backTo pos (starEach (e :: es) X.env)).any (·.1) || (backToKw pos (keywordEach kws X.env)).any (·.1.isNone)) = false := by rfl) : QE X (.Call (.Name x p) (e :: es) kws pos) (eCallK n m is S fr fk) := by
  subst hl
  obtain ⟨fa, fd, F, h1, h2, h3⟩ := d.ex
  refine qe_of (pe_callN F (hr.mono hj) hg h1 h2 h3 pass0 ha.pa hkw.pk hall hks hdb he hpl) fun B P H σ δ Qd Q R h kk => ?_
  refine ⟨B, P, δ, _, R, h, fun us vs P1 H1 q1 g1 z1 => ⟨B, P1, δ, _, R.mono g1, q1, fun ws zs P2 H2 ⟨q2, q3, q4⟩ g2 z2 => ⟨by rw [z1.length]; exact q2, by rw [z2.length]; exact q3, ?_⟩⟩⟩
  have g := g1.trans R.bag g2
  exact ⟨B, P2, perm is (us ++ ws), Qd, g.ex, g.bag, perm_dp ((z1.mono g2.pp).append z2), d.len _ _ q4, q4, fun rz v P3 H3 q5 g3 z3 => kk rz v P3 H3 q5 (g.trans R.bag g3) (z3.back R.bag g)⟩
end
/-! ### statements that are never reached; a store that freezes; joins -/
section
variable {X : Cx} {e a b : Expr} {pos : Pos} {f fa fb : EV} {x y : Str} {ss : List Stmt} {g : SV} {ft : TV}
def sNever : SV := fun _ _ => False
theorem q_snever {s : Stmt} : QS X s sNever := ⟨⟨fun _ _ _ _ _ _ ⟨_, _, _, _, _, _, _, _, hf, _⟩ => hf.elim⟩⟩
theorem q_ssnever : QSs X ss sNever := ⟨⟨fun _ _ _ _ _ _ ⟨_, _, _, _, _, _, _, _, hf, _⟩ => hf.elim⟩⟩
def eNever : EV := fun _ _ => False
theorem q_enever : QE X e eNever := ⟨⟨fun _ _ _ _ _ _ ⟨_, _, _, _, _, hf, _⟩ => hf.elim⟩⟩
/-- the value alone -/
def eFz (f : EV) : EV := fun δ Q => f δ fun r => Q (.val r.d)
theorem q_fz (h : QE X e f) : QE X e (eFz f) := qe_of h.pe fun B P H σ δ Qd Q R hf k => lift_d R (fun d => Qd (.val d)) hf fun d v P' H' q g z => k _ v P' H' q g z
theorem lift_fz {K : PySem.W.Frag} {σ : L2.St} {H : Hp} {Q : VK} (h : lift K (eFz f) σ H Q) : lift K f σ H Q := by
  obtain ⟨B, P, δ, Qd, R, hf, k⟩ := h
  exact lift_d R (fun d => Qd (.val d)) hf fun d v P' H' q g z => k _ v P' H' q g z
theorem StD.frzAt {K : PySem.W.Frag} {B : Bg} {P0 H0 Pc H : Hp} {σ : L2.St} {δ : DEnv} {i : Nat} {ds : List D} (b0 : BagOk B P0 H0) (S : StD K B P0 H0 Pc H σ δ) (e : δ[i]? = some (Sl.own ds)) : StD K B P0 H0 Pc H σ (δ.set i (.val (.lst ds))) := by
    obtain ⟨P, g0, hc, R, ho⟩ := S.ex
    obtain ⟨l, vs, h1, h2, h3, h4, h5⟩ := R.own i ds e
    have hH0 := ho i ds l e h1
    have s1 : Same P (upd P l (.lst vs)) := same_new h2
    have g1 : Gr B P0 H0 (upd P l (.lst vs)) H := by
      refine ⟨fun a u h => ?_, g0.pp.trans s1, g0.hh, fun a h z => ?_, fun b' c' e1 => ?_⟩
      · by_cases ha : a = l
        · subst ha; rw [upd_same] at h; rw [← h]; exact h4
        · rw [upd_ne ha] at h; exact g0.ex _ _ h
      · by_cases ha : a = l
        · subst ha; exact absurd hH0 h
        · rw [upd_ne ha]; exact g0.off a h z
      · obtain ⟨q1, cells, t, r, m, n, q2, q3, q4⟩ := g0.bag _ _ e1
        exact ⟨by rw [upd_ne (h3 _ _ e1).symm]; exact q1, cells, t, r, m, n, s1 _ _ q2, q3, q4⟩
    have hil : i < δ.length := (List.getElem?_eq_some_iff.mp e).1
    refine ⟨upd P l (.lst vs), g1, hc.trans s1, ⟨g1.ex, g1.bag, fun j d h => ?_, fun j ds2 h => ?_, fun j m ds1 ds2 l' k1 k2 k3 k4 => ?_, by rw [List.length_set]; exact R.len⟩, fun j ds2 l' k1 k2 => ?_⟩
    · rcases set_back j _ h with ⟨rfl, e2, _⟩ | ⟨ne, h⟩
      · cases e2
        exact ⟨.ref l, h1, .lst upd_same (h5.mono s1)⟩
      · obtain ⟨v, k1, k2⟩ := R.val j d h
        exact ⟨v, k1, k2.mono s1⟩
    · rcases set_back j _ h with ⟨_, e2, _⟩ | ⟨ne, h⟩
      · cases e2
      · obtain ⟨l2, vs2, k1, k2, k3, k4, k5⟩ := R.own j ds2 h
        refine ⟨l2, vs2, k1, ?_, k3, k4, k5.mono s1⟩
        rw [upd_ne fun z => ?_]
        · exact k2
        · subst z
          exact ne (R.sep i j ds ds2 _ e h h1 k1)
    · rcases set_back j _ k1 with ⟨_, e2, _⟩ | ⟨_, k1⟩
      · cases e2
      rcases set_back m _ k2 with ⟨_, e2, _⟩ | ⟨_, k2⟩
      · cases e2
      exact R.sep j m ds1 ds2 l' k1 k2 k3 k4
    · rcases set_back j _ k1 with ⟨_, e2, _⟩ | ⟨_, k1⟩
      · cases e2
      exact ho j ds2 l' k1 k2
end
section
variable {X : Cx} {e a b c elt tg iter : Expr} {ifs : List Expr} {scope : Scope} {own : List (Str × Nat)} {pos spos py : Pos} {fi : IV} {t : Tg} {ft : TV} {fe f fa fb : EV} {y : Str}
/-- y = [..] -/
theorem q_asgLcF {i : Nat} (hN : X.N.Nodup) (hi : QI X tg iter fi) (ok : BlkOk X.N X.env.scope scope own) (hg : ∀ (s : Shared) (H : Hp) (C : Addr) (cl : List (Str × Addr)) (fp : List Addr), QG (X.blk s H scope (compEnvC scope cl C X.env) fp) tg t)
    (he : ∀ (s : Shared) (H : Hp) (C : Addr) (cl : List (Str × Addr)) (fp : List Addr), QE (X.blk s H scope (compEnvC scope cl C X.env) fp) elt fe) (hsw : swapsWith (.ListComp elt [⟨tg, iter, [], 0⟩] scope pos) (some (.Name y py)) spos.line X.env = pure true) (hix : ∀ i ∈ t.ix, i ∈ own.map (·.2) := by decide) (hc : X.calm = true := by rfl)
    (hy : X.N[i]? = some y := by rfl) (hyl : X.env.scope.names.lookup y = some .local := by rfl) (hs : ∀ x, foldedSetIterable iter X.env x = pure x := by intro _; rfl) :
    QS X (.Assign [.Name y py] (.ListComp elt [⟨tg, iter, [], 0⟩] scope pos) spos) (sAsg i (eFz (eLc fi t tTrue fe (own.map (·.2))))) :=
  qs_of (ps_setLc hc hN hy hyl hsw hi.pi ok (fun s H C cl fp => (hg s H C cl fp).pg) (fun s H C cl fp => pts_nil) (fun s H C cl fp => (he s H C cl fp).pe) hs) fun B P0 H0 Pc H σ δ Kd D b0 S h k =>
    asg_run (fun σ H Q q => by
      obtain ⟨B, P, δ, Qd, R, h, k⟩ := lift_fz q
      exact lc_run hix (fun _ _ _ q => lcY q) R h k) b0 S h k
theorem q_asgLcIfF {i : Nat} (hN : X.N.Nodup) (hi : QI X tg iter fi) (ok : BlkOk X.N X.env.scope scope own) (hg : ∀ (s : Shared) (H : Hp) (C : Addr) (cl : List (Str × Addr)) (fp : List Addr), QG (X.blk s H scope (compEnvC scope cl C X.env) fp) tg t)
    (ht : ∀ (s : Shared) (H : Hp) (C : Addr) (cl : List (Str × Addr)) (fp : List Addr), QT (X.blk s H scope (compEnvC scope cl C X.env) fp) c ft)
    (he : ∀ (s : Shared) (H : Hp) (C : Addr) (cl : List (Str × Addr)) (fp : List Addr), QE (X.blk s H scope (compEnvC scope cl C X.env) fp) elt fe) (hsw : swapsWith (.ListComp elt [⟨tg, iter, [c], 0⟩] scope pos) (some (.Name y py)) spos.line X.env = pure true) (hix : ∀ i ∈ t.ix, i ∈ own.map (·.2) := by decide) (hc : X.calm = true := by rfl)
    (hy : X.N[i]? = some y := by rfl) (hyl : X.env.scope.names.lookup y = some .local := by rfl) (hs : ∀ x, foldedSetIterable iter X.env x = pure x := by intro _; rfl) :
    QS X (.Assign [.Name y py] (.ListComp elt [⟨tg, iter, [c], 0⟩] scope pos) spos) (sAsg i (eFz (eLc fi t ft fe (own.map (·.2))))) :=
  qs_of (ps_setLc hc hN hy hyl hsw hi.pi ok (fun s H C cl fp => (hg s H C cl fp).pg) (fun s H C cl fp => pts_one (ht s H C cl fp).pt) (fun s H C cl fp => (he s H C cl fp).pe) hs) fun B P0 H0 Pc H σ δ Kd D b0 S h k =>
    asg_run (fun σ H Q q => by
      obtain ⟨B, P, δ, Qd, R, h, k⟩ := lift_fz q
      exact lc_run hix (fun _ _ _ q => q) R h k) b0 S h k
end
end DI

namespace DI
open PySem PySem.Spec PyProof.Rows L2
/-! ### dict comprehensions (keys: ints and texts) -/
def putD {κ : Type} [DecidableEq κ] (kvs : List (κ × D)) (k : κ) (d : D) : List (κ × D) :=
  if (kvs.any fun kv => decide (kv.1 = k)) = true then kvs.map (fun kv => if kv.1 = k then (kv.1, d) else kv) else kvs ++ [(k, d)]
def KVD {κ : Type} (K : PySem.W.Frag) (B : Bg) (P : Hp) (kvs : List (κ × V)) (kds : List (κ × D)) : Prop := kvs.map (·.1) = kds.map (·.1) ∧ DpA K B P (kvs.map (·.2)) (kds.map (·.2))
theorem KVD.mono {κ : Type} {K : PySem.W.Frag} {B : Bg} {P P' : Hp} {kvs : List (κ × V)} {kds : List (κ × D)} (h : KVD K B P kvs kds) (e : Same P P') : KVD K B P' kvs kds := ⟨h.1, h.2.mono e⟩
theorem KVD.put {κ : Type} [DecidableEq κ] {K : PySem.W.Frag} {B : Bg} {P : Hp} {v : V} {d : D} (k : κ) (z : Dp K B P v d) : ∀ {kvs : List (κ × V)} {kds : List (κ × D)}, KVD K B P kvs kds → KVD K B P (putK kvs k v) (putD kds k d) := by
  intro kvs kds h
  have hany : (kvs.any fun kv => decide (kv.1 = k)) = kds.any fun kv => decide (kv.1 = k) := by
    have e1 : (kvs.any fun kv => decide (kv.1 = k)) = (kvs.map (·.1)).any fun y => decide (y = k) := by rw [List.any_map]; rfl
    have e2 : (kds.any fun kv => decide (kv.1 = k)) = (kds.map (·.1)).any fun y => decide (y = k) := by rw [List.any_map]; rfl
    rw [e1, e2, h.1]
  unfold putK putD
  rw [hany]
  split
  · rename_i hx
    clear hany hx
    obtain ⟨h1, h2⟩ := h
    induction kvs generalizing kds with
    | nil =>
      cases kds with
      | nil => exact ⟨rfl, .nil⟩
      | cons _ _ => simp at h1
    | cons p r ih =>
      cases kds with
      | nil => simp at h1
      | cons q s =>
        rw [List.map_cons, List.map_cons, List.cons.injEq] at h1
        cases h2 with
        | cons z1 z2 =>
          obtain ⟨i1, i2⟩ := ih h1.2 z2
          rw [List.map_cons, List.map_cons]
          constructor
          · rw [List.map_cons, List.map_cons, i1]
            congr 1
            by_cases e : p.1 = k
            · rw [if_pos e, if_pos (by rw [← h1.1]; exact e)]; exact h1.1
            · rw [if_neg e, if_neg (by rw [← h1.1]; exact e)]; exact h1.1
          · rw [List.map_cons, List.map_cons]
            refine .cons ?_ i2
            by_cases e : p.1 = k
            · rw [if_pos e, if_pos (by rw [← h1.1]; exact e)]; exact z
            · rw [if_neg e, if_neg (by rw [← h1.1]; exact e)]; exact z1
  · constructor
    · rw [List.map_append, List.map_append, h.1]; rfl
    · rw [List.map_append, List.map_append]
      exact h.2.append (.one z)
theorem putD_len {κ : Type} [DecidableEq κ] (kvs : List (κ × D)) (k : κ) (d : D) : (putD kvs k d).length ≤ kvs.length + 1 := by
  unfold putD
  split
  · rw [List.length_map]; omega
  · rw [List.length_append]; simp
def dcL (δ : DEnv) (t : Tg) (ft : TV) (fk fv : EV) : List D → List (Key × D) → (List (Key × D) → Prop) → Prop
  | [], acc, Q => Q acc
  | x :: r, acc, Q => t.bind x δ fun δ' => ft δ' fun b => if b = true then fk δ' fun y => fv δ' fun z => ∃ k, keyD y.d = some k ∧ dcL δ t ft fk fv r (putD acc k z.d) Q else dcL δ t ft fk fv r acc Q
def eDc (fi : IV) (t : Tg) (ft : TV) (fk fv : EV) (vs : List Nat) : EV := fun δ Q => fi δ fun xs => xs.length ≤ sizeLine ∧ dcL (wipeD δ vs) t ft fk fv xs [] fun kds => Q (.val (.dK kds))
theorem dc_run {X : Cx} {fi : IV} {t : Tg} {ft : TV} {fk fv : EV} {vs : List Nat} {tt : TT} (hix : ∀ i ∈ t.ix, i ∈ vs) (htt : ∀ σ H Q, liftT X.K ft σ H Q → tt σ H Q)
    {B : Bg} {P H : Hp} {σ : L2.St} {δ : DEnv} {Qd : Rz → Prop} {Q : VK} (R : Rep X.K B P H σ δ) (h : eDc fi t ft fk fv vs δ Qd) (k : ∀ rz v P' H', Qd rz → Gr B P H P' H' → RzOk X.K B P' H' H rz v → Q v H') :
    tDc (liftI X.K fi) (t.g X.K) tt (lift X.K fk) (lift X.K fv) vs σ H Q := by
  refine ⟨B, P, δ, _, R, h, fun xs J P1 H1 ⟨hsz, q1⟩ g1 w1 => fun A hA => ?_⟩
  have hAH : H A = none := g1.fresh R.bag hA
  have R1 := (R.mono g1).wipe vs
  have nbA : ∀ b c, B = some (b, c) → A ≠ b := fun b c e1 e2 => by
    subst e2
    obtain ⟨_, _, _, _, _, _, _, q8, _⟩ := g1.bag _ _ e1
    rw [hA] at q8
    cases q8
  refine ⟨fun i m H' => m = xs.length - i ∧ i ≤ xs.length ∧ ∃ P' us ds, Gr B P1 H1 P' H' ∧ P' A = none ∧ H' A = some (.dK us) ∧ KVD X.K B P' us ds ∧ ds.length ≤ i ∧ dcL (wipeD δ vs) t ft fk fv (xs.drop i) ds fun kds => Qd (.val (.dK kds)), ⟨xs.length, by simp, Nat.zero_le _, P1, [], [], ?_, g1.ex.free hA, upd_same, ⟨rfl, .nil⟩, Nat.le_refl _, ?_⟩, ?_⟩
  · exact .loose g1.ex g1.bag hA
  · exact q1
  · rintro i m H' ⟨rfl, hi, P', us, ds, g2, hPA, hHA, z, hlen, q⟩
    by_cases hlt : i < xs.length
    · obtain ⟨go, yl⟩ := w1.go P' H' i g2.pp g2.ex g2.bag hlt
      refine .inr ⟨go, fun H'' => ∃ P'' us' ds', Gr B P1 H1 P'' H'' ∧ P'' A = none ∧ H'' A = some (.dK us') ∧ KVD X.K B P'' us' ds' ∧ ds'.length ≤ i + 1 ∧ dcL (wipeD δ vs) t ft fk fv (xs.drop (i + 1)) ds' fun kds => Qd (.val (.dK kds)), fun H'' hN => ⟨xs.length - (i + 1), by omega, rfl, hlt, hN⟩, fun x H'' hy => ?_⟩
      obtain ⟨P3, d, hd, g3, zx⟩ := yl x H'' hy
      have g13 := g2.trans g1.bag g3
      have hA3 : P3 A = none := g3.off A (by rw [hHA]; exact Option.some_ne_none _) hPA
      have hH3 : H'' A = some (.dK us) := g3.hh A _ hHA nbA
      have ed : xs.drop i = d :: xs.drop (i + 1) := by
        have hx : xs[i] = d := by
          rw [List.getElem?_eq_getElem hlt] at hd
          exact Option.some.inj hd
        rw [List.drop_eq_getElem_cons hlt, hx]
      rw [ed] at q
      refine Tg.ok zx (R1.mono g13) q fun δ' σ' qb Rb w => ⟨?_, htt _ _ _ ?_⟩
      · rw [w vs hix, wipe_wipe]
      · refine ⟨B, P3, δ', _, Rb, qb, fun b P4 H4 q4 g4 => ?_⟩
        have hA4 : P4 A = none := g4.off A (by rw [hH3]; exact Option.some_ne_none _) hA3
        have hH4 : H4 A = some (.dK us) := g4.hh A _ hH3 nbA
        have g14 := g13.trans g1.bag g4
        cases b with
        | false => exact iteF ⟨P4, us, ds, g14, hA4, hH4, z.mono (g3.pp.trans g4.pp), by omega, q4⟩
        | true =>
          refine iteT ?_
          refine lift_d (Rb.mono g4) (fun y => fv δ' fun z => ∃ k, keyD y = some k ∧ dcL (wipeD δ vs) t ft fk fv (xs.drop (i + 1)) (putD ds k z.d) fun kds => Qd (.val (.dK kds))) q4 fun y vy P5 H5 q5 g5 z5 => ?_
          have hA5 : P5 A = none := g5.off A (by rw [hH4]; exact Option.some_ne_none _) hA4
          have hH5 : H5 A = some (.dK us) := g5.hh A _ hH4 nbA
          have g15 := g14.trans g1.bag g5
          refine lift_d ((Rb.mono g4).mono g5) (fun z => ∃ k, keyD y = some k ∧ dcL (wipeD δ vs) t ft fk fv (xs.drop (i + 1)) (putD ds k z) fun kds => Qd (.val (.dK kds))) q5 fun zz vz P6 H6 ⟨kk, q6, q7⟩ g6 z6 => ?_
          have hA6 : P6 A = none := g6.off A (by rw [hH5]; exact Option.some_ne_none _) hA5
          have hH6 : H6 A = some (.dK us) := g6.hh A _ hH5 nbA
          have g16 := g15.trans g1.bag g6
          have lu : us.length = ds.length := by
            have := congrArg List.length z.1
            rwa [List.length_map, List.length_map] at this
          refine ⟨us, kk, keyD_V z5 q6, hH6, by omega, P6, putK us kk vz, putD ds kk zz, g16.touch g1.bag hA hA6, hA6, upd_same, (z.mono (((g3.pp.trans g4.pp).trans g5.pp).trans g6.pp)).put kk z6, by have := putD_len ds kk zz; omega, q7⟩
    · have e : i = xs.length := by omega
      subst e
      rw [List.drop_length] at q
      refine .inl ⟨w1.stop P' H' g2.pp g2.ex, ?_⟩
      have s1 : Same P' (upd P' A (.dK us)) := same_new hPA
      have gg := g1.trans R.bag g2
      refine k _ (.ref A) (upd P' A (.dK us)) H' q ⟨fun a u h => ?_, gg.pp.trans s1, gg.hh, fun a h z => ?_, fun b' c' e1 => ?_⟩ (.dK upd_same z.1 (z.2.mono s1))
      · by_cases ha : a = A
        · subst ha; rw [upd_same] at h; rw [← h]; exact hHA
        · rw [upd_ne ha] at h; exact gg.ex _ _ h
      · by_cases ha : a = A
        · subst ha; exact absurd hAH h
        · rw [upd_ne ha]; exact gg.off a h z
      · obtain ⟨q1, cells, t, r, m, n, q2, q3, q4⟩ := gg.bag _ _ e1
        exact ⟨by rw [upd_ne (nbA _ _ e1).symm]; exact q1, cells, t, r, m, n, s1 _ _ q2, q3, q4⟩
section
variable {X : Cx} {e a b c kx vx tg iter : Expr} {scope : Scope} {own : List (Str × Nat)} {pos spos py : Pos} {fi : IV} {t : Tg} {ft : TV} {fk fv : EV} {y : Str}
theorem ps_setDc {i : Nat} {ifs : List Expr} {wi : TI} {g : TG} {tt : TT} {tk tv : TE} (hc : X.calm = true) (hN : X.N.Nodup) (hy : X.N[i]? = some y) (hyl : X.env.scope.names.lookup y = some .local)
    (hsw : swapsWith (.DictComp kx vx [⟨tg, iter, ifs, 0⟩] scope pos) (some (.Name y py)) spos.line X.env = pure true) (hi : PI X tg iter wi) (ok : BlkOk X.N X.env.scope scope own)
    (hg : ∀ (s : Shared) (H : Hp) (C : Addr) (cl : List (Str × Addr)) (fp : List Addr), PG (X.blk s H scope (compEnvC scope cl C X.env) fp) tg g) (ht : ∀ (s : Shared) (H : Hp) (C : Addr) (cl : List (Str × Addr)) (fp : List Addr), PTs (X.blk s H scope (compEnvC scope cl C X.env) fp) ifs tt)
    (hk : ∀ (s : Shared) (H : Hp) (C : Addr) (cl : List (Str × Addr)) (fp : List Addr), PE (X.blk s H scope (compEnvC scope cl C X.env) fp) kx tk) (he : ∀ (s : Shared) (H : Hp) (C : Addr) (cl : List (Str × Addr)) (fp : List Addr), PE (X.blk s H scope (compEnvC scope cl C X.env) fp) vx tv) (hs : ∀ x, foldedSetIterable iter X.env x = pure x) :
    PS X (.Assign [.Name y py] (.DictComp kx vx [⟨tg, iter, ifs, 0⟩] scope pos) spos) (tAsg (tDc wi g tt tk tv (own.map (·.2))) (gName i)) := by
  refine ⟨fun pins s σ H D I h => ?_⟩
  rw [exec_Assign_Name_used _ _ _ _ hsw]
  refine wpAny_bind (wpAny_standAt (wpAny_bind ?_))
  show wpAny _ X.A (do let _ ← comprehension (.DictComp kx vx [⟨tg, iter, ifs, 0⟩] scope pos) scope X.env (firstIterPos [⟨tg, iter, ifs, 0⟩] pos) newDict false (eval iter X.env) (some (assign (.Name y py) X.env))) _ _ s
  have h : tDc wi g tt tk tv (own.map (·.2)) σ H (fun x H1 => gName i x σ H1 D.nx) := h
  refine wpAny_bind (thn (dc_core (Qf := fun _ s' => SP X pins D .next s') hc hN I hi ok hg ht hk he hs h fun L C s' m H' I' q hn f => ?_) fun _ s' hq => wpAny_pure (wpAny_pure hq))
  show wpAny _ _ (assign (.Name y py) X.env (.ref L)) _ _ _
  refine wpAny_assign_Name (store_ok2 (v := V.ref L) I' hN hy (.inl hyl) rfl (fun s2 I2 ⟨a, sb, ha⟩ => ?_) (.inr hyl))
  obtain ⟨f0, f1, f2, f3, f4, f5⟩ := f
  have haC : C ≠ a := by
    rcases ha with z | z
    · rw [z]; exact f1
    · exact fun e => f4 y a z e.symm
  refine ⟨m, hn.sameBut sb haC, fun h3 sb3 => ?_⟩
  exact ⟨_, H', I2.turned (t' := s2.toks) (fun b o hb e => (sb3.2 b hb).trans e) f0 f1 f3 f4 f5, q⟩
theorem q_asgDc {i : Nat} (hN : X.N.Nodup) (hi : QI X tg iter fi) (ok : BlkOk X.N X.env.scope scope own) (hg : ∀ (s : Shared) (H : Hp) (C : Addr) (cl : List (Str × Addr)) (fp : List Addr), QG (X.blk s H scope (compEnvC scope cl C X.env) fp) tg t)
    (hk : ∀ (s : Shared) (H : Hp) (C : Addr) (cl : List (Str × Addr)) (fp : List Addr), QE (X.blk s H scope (compEnvC scope cl C X.env) fp) kx fk) (he : ∀ (s : Shared) (H : Hp) (C : Addr) (cl : List (Str × Addr)) (fp : List Addr), QE (X.blk s H scope (compEnvC scope cl C X.env) fp) vx fv)
    (hsw : swapsWith (.DictComp kx vx [⟨tg, iter, [], 0⟩] scope pos) (some (.Name y py)) spos.line X.env = pure true) (hix : ∀ i ∈ t.ix, i ∈ own.map (·.2) := by decide) (hc : X.calm = true := by rfl)
    (hy : X.N[i]? = some y := by rfl) (hyl : X.env.scope.names.lookup y = some .local := by rfl) (hs : ∀ x, foldedSetIterable iter X.env x = pure x := by intro _; rfl) :
    QS X (.Assign [.Name y py] (.DictComp kx vx [⟨tg, iter, [], 0⟩] scope pos) spos) (sAsg i (eDc fi t tTrue fk fv (own.map (·.2)))) :=
  qs_of (ps_setDc hc hN hy hyl hsw hi.pi ok (fun s H C cl fp => (hg s H C cl fp).pg) (fun s H C cl fp => pts_nil) (fun s H C cl fp => (hk s H C cl fp).pe) (fun s H C cl fp => (he s H C cl fp).pe) hs) fun B P0 H0 Pc H σ δ Kd D b0 S h k =>
    asg_run (fun σ H Q ⟨B, P, δ, Qd, R, h, k⟩ => dc_run hix (fun _ _ _ q => lcY q) R h k) b0 S h k
theorem sw_trueD {gs : List Comprehension} {l : Nat} {env : Env} (hk : env.scope.kind = .function) (hy : env.scope.names.lookup y = some .local) (hl : (py.line == pos.line) = true)
    (ha : (scope.names.any fun (n, k) => n == y && (k == .local || k == .cell)) = false) : swapsWith (.DictComp kx vx gs scope pos) (some (.Name y py)) l env = pure true := by
  have ky : env.kindOf y = some .local := hy
  have hb : env.blockKind = .function := by unfold Env.blockKind; rw [hk]; rfl
  unfold swapsWith
  simp only [hb, ky, ha, Expr.pos, hl]
  rfl
end
end DI
namespace DI
open PySem PySem.Spec PyProof.Rows L2
section
variable {X : Cx} {e a b c : Expr} {es : List Expr} {kws : List Keyword} {fr fk : AV} {f fa fb fc : EV} {pos p kpos : Pos}
theorem q_callD {x : Str} {ps : List Str} {j k : Nat} {S : Spec} (d : Def X.prog X.w X.K X.mg X.base x ps j S) (hr : Room k X.A) (ha : QA X (e :: es) fr) (hj : j ≤ k := by omega) (hg : Gl X x := by rfl) (hdb : (x == ("__debug__" : Str)) = false := by decide)
    (he : starEach (e :: es) X.env = (false, eval e X.env) :: starEach es X.env := by rfl) (hpl : (backTo pos (starEach es X.env)).any (·.1) = false := by rfl) : QE X (.Call (.Name x p) (e :: es) [] pos) (eCall S fr) :=
  q_call (d.cal hr hj) ha hg hdb he hpl
theorem q_callD0 {x : Str} {j k : Nat} {S : Spec} (d : Def X.prog X.w X.K X.mg X.base x [] j S) (hr : Room k X.A) (hj : j ≤ k := by omega) (hg : Gl X x := by rfl) (hdb : (x == ("__debug__" : Str)) = false := by decide) : QE X (.Call (.Name x p) [] [] pos) (eCall S aNil) :=
  q_call0 (d.cal hr hj) hg hdb
/-- a < b < c -/
def eCh (g g' : D → D → (Rz → Prop) → Prop) (fa fb fc : EV) : EV := fun δ Q => fa δ fun x => fb δ fun y => g x.d y.d fun r => ∃ k, r = .val (.bl k) ∧ if k = true then fc δ fun z => g' y.d z.d Q else Q (.val (.bl false))
theorem q_chain {op op' : CmpOp} {g g' : D → D → (Rz → Prop) → Prop} (ho : OpL X (compareOp op) g) (ho' : OpL X (compareOp op') g') (ha : QE X a fa) (hb : QE X b fb) (hc : QE X c fc) (hm : lastMarks [op, op'] [b, c] = false := by with_unfolding_all rfl) : QE X (.Compare a [op, op'] [b, c] pos) (eCh g g' fa fb fc) := by
  obtain ⟨r, h1, h2⟩ := ho
  obtain ⟨r', h3, h4⟩ := ho'
  refine qe_of (pe_chain h1 h3 ha.pe hb.pe hc.pe hm) fun B P H σ δ Qd Q R h k => ?_
  refine lift_d R (fun x => fb δ fun y => g x y.d fun r => ∃ k, r = .val (.bl k) ∧ if k = true then fc δ fun z => g' y.d z.d Qd else Qd (.val (.bl false))) h fun dx x P1 H1 q1 g1 z1 => ?_
  refine lift_d (R.mono g1) (fun y => g dx y fun r => ∃ k, r = .val (.bl k) ∧ if k = true then fc δ fun z => g' y z.d Qd else Qd (.val (.bl false))) q1 fun dy y P2 H2 q2 g2 z2 => ?_
  have g12 := g1.trans R.bag g2
  refine h2 B P2 H2 x y dx dy _ _ g2.ex g2.bag (z1.mono g2.pp) z2 q2 fun rz v P3 H3 ⟨c, e3, q3⟩ g3 z3 => ?_
  subst e3
  have g13 := g12.trans R.bag g3
  refine ⟨c, Dp.bl' z3, ?_⟩
  cases c with
  | true =>
    refine iteT ?_
    refine lift_d (R.mono g13) (fun z => g' dy z Qd) q3 fun dz z P4 H4 q4 g4 z4 => ?_
    have g14 := g13.trans R.bag g4
    exact h4 B P4 H4 y z dy dz _ _ g4.ex g4.bag ((z2.mono g3.pp).mono g4.pp) z4 q4 fun rz v P5 H5 q5 g5 z5 => k rz v P5 H5 q5 (g14.trans R.bag g5) (z5.back R.bag g14)
  | false => exact iteF (k _ _ P3 H3 q3 g13 (.bl _))
end
end DI

namespace DI
open PySem PySem.Spec PyProof.Rows L2
section
variable {X : Cx} {e a b c o : Expr} {es : List Expr} {fr fk : AV} {f fa fb fc : EV} {pos p kpos : Pos} {x y z : Str}
/-! ### methods of texts with one argument -/
def eMs (m : D → D → (Rz → Prop) → Prop) (fa fb : EV) : EV := fun δ Q => fa δ fun x => (∃ s, x.d = .str s) ∧ fb δ fun y => m x.d y.d Q
theorem m1_run {r : V → List V → Hp → VK → Prop} {go : D → D → (Rz → Prop) → Prop}
    (hr : ∀ B P H x y dx dy (Qd : Rz → Prop) (Q : VK), Same P H → BagOk B P H → Dp X.K B P x dx → Dp X.K B P y dy → go dx dy Qd → (∀ rz v P' H', Qd rz → Gr B P H P' H' → RzOk X.K B P' H' H rz v → Q v H') → r x [y] H Q)
    {B : Bg} {P H : Hp} {σ : L2.St} {δ : DEnv} {Qd : Rz → Prop} {Q : VK} (R : Rep X.K B P H σ δ) (h : eMs go fa fb δ Qd) (k : ∀ rz v P' H', Qd rz → Gr B P H P' H' → RzOk X.K B P' H' H rz v → Q v H') :
    tM1 r (lift X.K fa) (lift X.K fb) σ H Q := by
  refine lift_d R (fun x => (∃ s, x = .str s) ∧ fb δ fun y => go x y.d Qd) h fun dx x P1 H1 q1 g1 z1 => ?_
  obtain ⟨⟨s, rfl⟩, q1⟩ := q1
  have e1 := z1.str'
  subst e1
  refine ⟨⟨s, rfl⟩, ?_⟩
  refine lift_d (R.mono g1) (fun y => go (.str s) y Qd) q1 fun dy y P2 H2 q2 g2 z2 => ?_
  have g12 := g1.trans R.bag g2
  refine hr B P2 H2 _ y (.str s) dy Qd Q g2.ex g2.bag (.str s) z2 q2 fun rz v P3 H3 q3 g3 z3 => ?_
  exact k rz v P3 H3 q3 (g12.trans R.bag g3) (z3.back R.bag g12)
theorem DpA.strs {K : PySem.W.Frag} {B : Bg} {P : Hp} : ∀ {vs : List V} {ys : List Str}, DpA K B P vs (ys.map D.str) → vs = ys.map V.str
  | _, [], h => by cases h; rfl
  | _, y :: r, h => by
    cases h with
    | cons h t => rw [h.str', DpA.strs t]; rfl
def joinD : D → D → (Rz → Prop) → Prop
  | .str a, .lst xs, Q => ∃ ys : List Str, xs = ys.map D.str ∧ (ys.map (·.length)).sum + ys.length * a.length ≤ 16777216 ∧ Q (.val (.str (Txt.join a ys)))
  | _, _, _ => False
theorem q_join {apos : Pos} (ho : QE X o fa) (he : QE X e fb) (hs : starEach [e] X.env = [(false, eval e X.env)] := by rfl) (hbase : attributeBase o "join" X.env (eval o X.env) = eval o X.env := by rfl) (hline : (apos.endLine == pos.line) = true := by rfl) :
    QE X (.Call (.Attribute o "join" apos) [e] [] pos) (eMs joinD fa fb) :=
  qe_of (pe_join ho.pe he.pe hs hbase hline) fun B P H σ δ Qd Q R h k => by
    refine m1_run (go := joinD) (fun B P H x y dx dy Qd Q e b zx zy h k => ?_) R h k
    match dx, dy, h with
    | .str s, .lst xs, ⟨ys, e1, hl, q⟩ =>
      subst e1
      have e2 := zx.str'
      subst e2
      obtain ⟨p, vs, rfl, hp, hv⟩ := zy.lst'
      have e3 := hv.strs
      subst e3
      exact ⟨s, p, ys, rfl, rfl, .inl (.inl (.inl (e _ _ hp))), hl, k _ _ P H q (.refl e b) (.str _)⟩
def partD : D → D → (Rz → Prop) → Prop
  | .str s, .str t, Q => (t.length == 0) = false ∧ s.length ≤ sizeLine ∧ Q (.val (.tup [.str (Txt.partition s t).1, .str (Txt.partition s t).2.1, .str (Txt.partition s t).2.2]))
  | _, _, _ => False
theorem q_partition {apos : Pos} (ho : QE X o fa) (he : QE X e fb) (hs : starEach [e] X.env = [(false, eval e X.env)] := by rfl) (hbase : attributeBase o "partition" X.env (eval o X.env) = eval o X.env := by rfl) (hline : (apos.endLine == pos.line) = true := by rfl) :
    QE X (.Call (.Attribute o "partition" apos) [e] [] pos) (eMs partD fa fb) :=
  qe_of (pe_partition ho.pe he.pe hs hbase hline) fun B P H σ δ Qd Q R h k => by
    refine m1_run (go := partD) (fun B P H x y dx dy Qd Q e b zx zy h k => ?_) R h k
    match dx, dy, h with
    | .str s, .str t, ⟨h1, h2, q⟩ =>
      have e2 := zx.str'
      subst e2
      have e3 := zy.str'
      subst e3
      refine ⟨s, t, rfl, rfl, h1, h2, fun p hp => ?_⟩
      obtain ⟨g4, w4⟩ := tup_ok b (.refl e b) hp (.cons (.str (Txt.partition s t).1) (.cons (.str (Txt.partition s t).2.1) (.cons (.str (Txt.partition s t).2.2) .nil)))
      exact k _ _ _ _ q g4 w4
def sindexD : D → D → (Rz → Prop) → Prop
  | .str s, .str t, Q => ∃ i rest, Builtin.Str.occurrences s t 0 s.length 1 = i :: rest ∧ Q (.val (.int (i : Nat)))
  | _, _, _ => False
theorem q_sindex {apos : Pos} (ho : QE X o fa) (he : QE X e fb) (hs : starEach [e] X.env = [(false, eval e X.env)] := by rfl) (hbase : attributeBase o "index" X.env (eval o X.env) = eval o X.env := by rfl) (hline : (apos.endLine == pos.line) = true := by rfl) :
    QE X (.Call (.Attribute o "index" apos) [e] [] pos) (eMs sindexD fa fb) :=
  qe_of (pe_m1 F.slot_str_index F.type_str_index mt_sindex ho.pe he.pe hs hbase hline) fun B P H σ δ Qd Q R h k => by
    refine m1_run (go := sindexD) (fun B P H x y dx dy Qd Q e b zx zy h k => ?_) R h k
    match dx, dy, h with
    | .str s, .str t, ⟨i, rest, h1, q⟩ =>
      have e2 := zx.str'
      subst e2
      have e3 := zy.str'
      subst e3
      exact ⟨s, t, i, rest, rfl, rfl, h1, k _ _ P H q (.refl e b) (.int _)⟩
/-! ### a < b < c as a test -/
def tCh (g g' : D → D → (Rz → Prop) → Prop) (fa fb fc : EV) : TV := fun δ Q => eCh g g' fa fb fc (DEnv.frz δ) fun r => ∃ k, r = .val (.bl k) ∧ Q k
theorem chain_run {r r' : R2} {g g' : D → D → (Rz → Prop) → Prop}
    (h2 : ∀ B P H x y dx dy (Qd : Rz → Prop) (Q : VK), Same P H → BagOk B P H → Dp X.K B P x dx → Dp X.K B P y dy → g dx dy Qd → (∀ rz v P' H', Qd rz → Gr B P H P' H' → RzOk X.K B P' H' H rz v → Q v H') → r x y H Q)
    (h4 : ∀ B P H x y dx dy (Qd : Rz → Prop) (Q : VK), Same P H → BagOk B P H → Dp X.K B P x dx → Dp X.K B P y dy → g' dx dy Qd → (∀ rz v P' H', Qd rz → Gr B P H P' H' → RzOk X.K B P' H' H rz v → Q v H') → r' x y H Q)
    {B : Bg} {P H : Hp} {σ : L2.St} {δ : DEnv} {Qd : Rz → Prop} {Q : VK} (R : Rep X.K B P H σ δ) (h : eCh g g' fa fb fc δ Qd) (k : ∀ rz v P' H', Qd rz → Gr B P H P' H' → RzOk X.K B P' H' H rz v → Q v H') :
    tChain r r' (lift X.K fa) (lift X.K fb) (lift X.K fc) σ H Q := by
  refine lift_d R (fun x => fb δ fun y => g x y.d fun r => ∃ k, r = .val (.bl k) ∧ if k = true then fc δ fun z => g' y.d z.d Qd else Qd (.val (.bl false))) h fun dx x P1 H1 q1 g1 z1 => ?_
  refine lift_d (R.mono g1) (fun y => g dx y fun r => ∃ k, r = .val (.bl k) ∧ if k = true then fc δ fun z => g' y z.d Qd else Qd (.val (.bl false))) q1 fun dy y P2 H2 q2 g2 z2 => ?_
  have g12 := g1.trans R.bag g2
  refine h2 B P2 H2 x y dx dy _ _ g2.ex g2.bag (z1.mono g2.pp) z2 q2 fun rz v P3 H3 ⟨c, e3, q3⟩ g3 z3 => ?_
  subst e3
  have g13 := g12.trans R.bag g3
  refine ⟨c, Dp.bl' z3, ?_⟩
  cases c with
  | true =>
    refine iteT ?_
    refine lift_d (R.mono g13) (fun z => g' dy z Qd) q3 fun dz z P4 H4 q4 g4 z4 => ?_
    have g14 := g13.trans R.bag g4
    exact h4 B P4 H4 y z dy dz _ _ g4.ex g4.bag ((z2.mono g3.pp).mono g4.pp) z4 q4 fun rz v P5 H5 q5 g5 z5 => k rz v P5 H5 q5 (g14.trans R.bag g5) (z5.back R.bag g14)
  | false => exact iteF (k _ _ P3 H3 q3 g13 (.bl _))
theorem q_tchain {op op' : CmpOp} {g g' : D → D → (Rz → Prop) → Prop} (ho : OpL X (compareOp op) g) (ho' : OpL X (compareOp op') g') (ha : QE X a fa) (hb : QE X b fb) (hc : QE X c fc) (hm : lastMarks [op, op'] [b, c] = false := by with_unfolding_all rfl) : QT X (.Compare a [op, op'] [b, c] pos) (tCh g g' fa fb fc) := by
  obtain ⟨r, h1, h2⟩ := ho
  obtain ⟨r', h3, h4⟩ := ho'
  refine qt_of (pt_chain h1 h3 ha.pe hb.pe hc.pe hm) fun B P H σ δ Qd Q R h k => ?_
  refine chain_run h2 h4 R.tot h fun rz v P' H' ⟨c, q1, q2⟩ g z => ?_
  subst q1
  exact ⟨c, Dp.bl' z, k c P H' q2 (Gr.drop R g)⟩
/-! ### f-strings -/
abbrev JV := DEnv → Str → (Str → Prop) → Prop
def fmtD : D → (Str → Prop) → Prop
  | .str y, Q => y.length ≤ sizeLine ∧ Q y
  | .int i, Q => i.natAbs.log2 < 1920 ∧ Q (toString i)
  | _, _ => False
def eFm (f : EV) : EV := fun δ Q => f δ fun r => fmtD r.d fun y => Q (.val (.str y))
theorem q_fmt (he : QE X e f) : QE X (.FormattedValue e (-1) none pos) (eFm f) :=
  qe_of (pe_fmt he.pe) fun B P H σ δ Qd Q R h k => by
    refine lift_d R (fun d => fmtD d fun y => Qd (.val (.str y))) h fun d v P1 H1 q1 g1 z1 => ?_
    match d, q1 with
    | .str y, ⟨h1, q⟩ =>
      have e2 := z1.str'
      subst e2
      exact .inl ⟨y, rfl, h1, k _ _ P1 H1 q g1 (.str _)⟩
    | .int i, ⟨h1, q⟩ =>
      have e2 := z1.int'
      subst e2
      exact .inr ⟨i, rfl, h1, k _ _ P1 H1 q g1 (.str _)⟩
def jNil : JV := fun _ acc Q => Q acc
def jCons (f : EV) (r : JV) : JV := fun δ acc Q => f δ fun x => ∃ y, x.d = .str y ∧ (acc ++ y).length ≤ sizeLine ∧ r δ (acc ++ y) Q
def eJs (j : JV) : EV := fun δ Q => j δ Str.empty fun out => Q (.val (.str out))
structure QJ (X : Cx) (es : List Expr) (j : JV) : Prop where
  ex : ∃ ts, PJ X es ts ∧ ∀ B P H σ δ acc (Qd : Str → Prop) (Q : Str → Hp → Prop), Rep X.K B P H σ δ → j δ acc Qd → (∀ out P' H', Qd out → Gr B P H P' H' → Q out H') → tJs ts acc σ H Q
theorem q_jnil : QJ X [] jNil := ⟨[], .nil, fun B P H σ δ acc Qd Q R h k => k acc P H h (.refl R.ex R.bag)⟩
theorem q_jcons {j : JV} (he : QE X e f) (hj : QJ X es j) : QJ X (e :: es) (jCons f j) := by
  obtain ⟨ts, h1, h2⟩ := hj.ex
  refine ⟨_, .cons he.pe h1, fun B P H σ δ acc Qd Q R h k => ?_⟩
  refine lift_d R (fun d => ∃ y, d = .str y ∧ (acc ++ y).length ≤ sizeLine ∧ j δ (acc ++ y) Qd) h fun d v P1 H1 q1 g1 z1 => ?_
  obtain ⟨y, rfl, hl, q⟩ := q1
  have e2 := z1.str'
  subst e2
  exact ⟨y, rfl, hl, h2 B P1 H1 σ δ _ Qd Q (R.mono g1) q fun out P' H' q' g' => k out P' H' q' (g1.trans R.bag g')⟩
theorem q_js {v1 v2 : Expr} {rest : List Expr} {j : JV} (h : QJ X (v1 :: v2 :: rest) j) : QE X (.JoinedStr (v1 :: v2 :: rest) pos) (eJs j) := by
  obtain ⟨ts, h1, h2⟩ := h.ex
  refine qe_of (pe_joined h1) fun B P H σ δ Qd Q R h k => ?_
  exact h2 B P H σ δ _ _ _ R h fun out P' H' q g => k _ _ P' H' q g (.str _)
end
end DI

/-! DL: plain laws over data -/
namespace DI
open PySem L2

/-- a for over data, by the turn: J i at the start of turn i -/
theorem forL_turns {t : Tg} {g : SV} {K : KD} (xs : List D) (J : Nat → DEnv → Prop)
    (hs : ∀ (i : Nat) (x : D) (δ : DEnv) (N : DEnv → Prop), xs[i]? = some x → J i δ → (∀ δ', J (i + 1) δ' → N δ') → t.bind x δ fun δ' => g { K with nx := N, ct := N, bk := K.nx } δ') (hd : ∀ δ, J xs.length δ → K.nx δ) {δ : DEnv} (h0 : J 0 δ) : forL t g K xs δ := by
  have key : ∀ (ys : List D) (i : Nat), xs.drop i = ys → i ≤ xs.length → ∀ δ, J i δ → forL t g K ys δ := by
    intro ys
    induction ys with
    | nil =>
      intro i e hi δ h
      have hl : xs.length ≤ i := by
        have := congrArg List.length e
        rw [List.length_drop] at this
        simp at this
        omega
      have e2 : i = xs.length := by omega
      subst e2
      exact hd δ h
    | cons y r ih =>
      intro i e hi δ h
      have hy : xs[i]? = some y := by
        have : (xs.drop i)[0]? = some y := by rw [e]; rfl
        rw [List.getElem?_drop] at this
        simpa using this
      have e2 : xs.drop (i + 1) = r := by
        have := congrArg List.tail e
        rw [List.tail_drop] at this
        simpa using this
      have hlt : i < xs.length := (List.getElem?_eq_some_iff.mp hy).1
      exact hs i y δ _ hy h fun δ' h' => ih (i + 1) e2 hlt δ' h'
  exact key xs 0 rfl (Nat.zero_le _) δ h0
/-- by the items: J over the items done and those to come -/
theorem forL_all {t : Tg} {g : SV} {K : KD} (J : DEnv → Prop) (xs : List D)
    (hs : ∀ (x : D) (δ : DEnv) (N : DEnv → Prop), x ∈ xs → J δ → (∀ δ', J δ' → N δ') → t.bind x δ fun δ' => g { K with nx := N, ct := N, bk := K.nx } δ') (hd : ∀ δ, J δ → K.nx δ) {δ : DEnv} (h0 : J δ) : forL t g K xs δ :=
  forL_turns xs (fun _ => J) (fun i x δ N hx h k => hs x δ N (List.mem_of_getElem? hx) h k) hd h0
/-- a while by a measure -/
theorem wh_by {ft : TV} {g : SV} {K : KD} (J : Nat → DEnv → Prop)
    (hs : ∀ (n : Nat) (δ : DEnv) (N : DEnv → Prop), J n δ → (∀ m δ', m < n → J m δ' → N δ') → ft δ fun c => if c = true then g { K with nx := N, ct := N, bk := K.nx } δ else K.nx δ) {n : Nat} {δ : DEnv} (h0 : J n δ) : sWh ft g K δ := by
  have key : ∀ (n m : Nat), n ≤ m → ∀ δ, J n δ → whN ft g K (m + 1) δ := by
    intro n
    induction n using Nat.strongRecOn with
    | ind n ih =>
      intro m hm δ h
      refine hs n δ _ h fun k δ' hk hJ => ?_
      cases m with
      | zero => omega
      | succ m => exact ih k hk m (by omega) δ' hJ
  exact ⟨n + 1, key n n (Nat.le_refl _) δ h0⟩
/-! ### comprehensions -/
theorem lc_map {δ : DEnv} {i : Nat} {fe : EV} (F : D → D) : ∀ (xs : List D) {Q : List D → Prop}, (∀ x ∈ xs, ∀ Q : Rz → Prop, Q (.val (F x)) → fe (δ.set i (.val x)) Q) → Q (xs.map F) → lcL δ (.one i) tTrue fe xs Q
  | [], Q, _, q => q
  | x :: r, Q, h, q => by
    refine h x List.mem_cons_self _ ?_
    exact lc_map F r (fun y hy => h y (List.mem_cons_of_mem _ hy)) q
theorem lc_filter {δ : DEnv} {i : Nat} {ft : TV} {fe : EV} (p : D → Bool) (F : D → D) : ∀ (xs : List D) {Q : List D → Prop}, (∀ x ∈ xs, ∀ Q : Bool → Prop, Q (p x) → ft (δ.set i (.val x)) Q) → (∀ x ∈ xs, ∀ Q : Rz → Prop, Q (.val (F x)) → fe (δ.set i (.val x)) Q) → Q ((xs.filter p).map F) → lcL δ (.one i) ft fe xs Q
  | [], Q, _, _, q => q
  | x :: r, Q, h, g, q => by
    refine h x List.mem_cons_self _ ?_
    cases e : p x with
    | true =>
      refine (if_pos rfl).mpr (g x List.mem_cons_self _ ?_)
      rw [List.filter_cons_of_pos e] at q
      exact lc_filter p F r (fun y hy => h y (List.mem_cons_of_mem _ hy)) (fun y hy => g y (List.mem_cons_of_mem _ hy)) q
    | false =>
      refine (if_neg (by simp)).mpr ?_
      rw [List.filter_cons_of_neg (by rw [e]; simp)] at q
      exact lc_filter p F r (fun y hy => h y (List.mem_cons_of_mem _ hy)) (fun y hy => g y (List.mem_cons_of_mem _ hy)) q
/-- the items are only known by R -/
theorem lc_any {δ : DEnv} {i : Nat} {fe : EV} (R : D → D → Prop) : ∀ (xs : List D) {Q : List D → Prop}, (∀ x ∈ xs, ∀ Q : Rz → Prop, (∀ r : Rz, R x r.d → Q r) → fe (δ.set i (.val x)) Q) → (∀ ds : List D, ds.length = xs.length → (∀ (j : Nat) (x d : D), xs[j]? = some x → ds[j]? = some d → R x d) → Q ds) → lcL δ (.one i) tTrue fe xs Q
  | [], Q, _, q => q [] rfl fun j x d h => by simp at h
  | x :: r, Q, h, q => by
    refine h x List.mem_cons_self _ fun y hy => ?_
    refine lc_any R r (fun y hy => h y (List.mem_cons_of_mem _ hy)) fun ds hl hd => q (y.d :: ds) (by simp [hl]) fun j x' d' h1 h2 => ?_
    cases j with
    | zero =>
      simp at h1 h2
      subst h1
      subst h2
      exact hy
    | succ j => exact hd j x' d' (by simpa using h1) (by simpa using h2)
/-! ### the laws' own comparison -/
def plainN : Nat → D → Prop
  | 0, _ => False
  | n + 1, d => match d with
    | .non | .bl _ | .int _ | .str _ => True
    | .lst xs | .tup xs => xs.length ≤ sizeLine ∧ ∀ x ∈ xs, plainN n x
    | _ => False
def sameB (S : Spec) : SV := sSeq (sIf (tE (eIsi "dict" (eV 1))) (sNever) (sSkip))
  (sSeq (sIf (tE (eIsi2 "list" "tuple" (eV 1))) (sSeq (sIf (tO (tCmp neB (eIsi "list" (eV 0)) (eIsi "list" (eV 1))) (tCmp neB (eIsi "tuple" (eV 0)) (eIsi "tuple" (eV 1)))) (sRet (eC (.bl false))) (sSkip))
  (sRet (eAnd (eTr (eOp eqB (eTr (eCall lenD (aCons (eV 0) (aNil)))) (eTr (eCall lenD (aCons (eV 1) (aNil)))))) (eTr (eCall allD (aCons (eLc (iZp (eV 0) (eV 1)) (.tup [3, 4]) tTrue (eTr (eCall S (aCons (eV 3) (aCons (eV 4) (aNil))))) [3, 4]) (aNil))))))) (sSkip))
  (sSeq (sIf (tO (tCmp isB (eV 1) (eC .non)) (tCmp isB (eV 0) (eC .non))) (sRet (eAnd (eTr (eOp isB (eV 1) (eC .non))) (eTr (eOp isB (eV 0) (eC .non))))) (sSkip))
  (sSeq (sIf (tO (tCmp neB (eIsi "bool" (eV 0)) (eIsi "bool" (eV 1))) (tCmp neB (eIsi "int" (eV 0)) (eIsi "int" (eV 1)))) (sRet (eC (.bl false))) (sSkip))
  (sRet (eAnd (eTr (eOp eqB (eIsi "str" (eV 0)) (eIsi "str" (eV 1)))) (eTr (eOp eqB (eV 0) (eV 1))))))))
theorem isi_tab : (isiB "NoneType" "dict" = false ∧ isiB "bool" "dict" = false ∧ isiB "int" "dict" = false ∧ isiB "str" "dict" = false ∧ isiB "list" "dict" = false ∧ isiB "tuple" "dict" = false) ∧
  (isiB "NoneType" "list" = false ∧ isiB "bool" "list" = false ∧ isiB "int" "list" = false ∧ isiB "str" "list" = false ∧ isiB "list" "list" = true ∧ isiB "tuple" "list" = false) ∧
  (isiB "NoneType" "tuple" = false ∧ isiB "bool" "tuple" = false ∧ isiB "int" "tuple" = false ∧ isiB "str" "tuple" = false ∧ isiB "list" "tuple" = false ∧ isiB "tuple" "tuple" = true) ∧
  (isiB "NoneType" "bool" = false ∧ isiB "bool" "bool" = true ∧ isiB "int" "bool" = false ∧ isiB "str" "bool" = false ∧ isiB "list" "bool" = false ∧ isiB "tuple" "bool" = false) ∧
  (isiB "NoneType" "int" = false ∧ isiB "bool" "int" = true ∧ isiB "int" "int" = true ∧ isiB "str" "int" = false ∧ isiB "list" "int" = false ∧ isiB "tuple" "int" = false) ∧
  (isiB "NoneType" "str" = false ∧ isiB "bool" "str" = false ∧ isiB "int" "str" = false ∧ isiB "str" "str" = true ∧ isiB "list" "str" = false ∧ isiB "tuple" "str" = false) := by decide +kernel

theorem blsD_true : ∀ n : Nat, blsD (List.replicate n (.bl true)) = some (List.replicate n true)
  | 0 => rfl
  | n + 1 => by rw [List.replicate_succ, blsD, blsD_true n]; rfl
/-- the pairs of a list with itself, walked -/
theorem lc_pairs {δ : DEnv} {fe : EV} : ∀ (xs : List D) {Q : List D → Prop}, (∀ x ∈ xs, ∀ Q : Rz → Prop, Q (.val (.bl true)) → fe ((δ.set 3 (.val x)).set 4 (.val x)) Q) → Q (List.replicate xs.length (.bl true)) → lcL δ (.tup [3, 4]) tTrue fe (zipD xs xs) Q
  | [], Q, _, q => q
  | x :: r, Q, h, q => by
    show lcL δ (.tup [3, 4]) tTrue fe (D.tup [x, x] :: zipD r r) Q
    refine ⟨_, rfl, ?_⟩
    refine h x List.mem_cons_self _ ?_
    exact lc_pairs r (fun y hy => h y (List.mem_cons_of_mem _ hy)) q
theorem all_rep (n : Nat) : (List.replicate n true).all id = true := by
  induction n with
  | zero => rfl
  | succ n ih => rw [List.replicate_succ, List.all_cons, ih]; rfl
theorem same_step {S : Spec} {d : D} {Q : Rz → Prop} (h : match d with | .non | .bl _ | .int _ | .str _ => True | .lst xs | .tup xs => xs.length ≤ sizeLine ∧ ∀ x ∈ xs, ∀ Q : Rz → Prop, Q (.val (.bl true)) → S [x, x] Q | _ => False) (q : Q (.val (.bl true))) : bodyS 5 2 (sameB S) [d, d] Q := by
  refine ⟨rfl, ?_⟩
  obtain ⟨⟨d1, d2, d3, d4, d5, d6⟩, ⟨l1, l2, l3, l4, l5, l6⟩, ⟨t1, t2, t3, t4, t5, t6⟩, ⟨b1, b2, b3, b4, b5, b6⟩, ⟨i1, i2, i3, i4, i5, i6⟩, ⟨s1, s2, s3, s4, s5, s6⟩⟩ := isi_tab
  have seq : ∀ (xs : List D), xs.length ≤ sizeLine → (∀ x ∈ xs, ∀ Q : Rz → Prop, Q (.val (.bl true)) → S [x, x] Q) → ∀ (δ : DEnv) (w : D), δ = [Sl.val w, .val w, .no, .no, .no] → zpD w w = some (zipD xs xs) →
      eTr (eCall allD (aCons (eLc (iZp (eV 0) (eV 1)) (.tup [3, 4]) tTrue (eTr (eCall S (aCons (eV 3) (aCons (eV 4) (aNil))))) [3, 4]) (aNil))) δ Q := by
    intro xs hl hx δ w e hz
    subst e
    refine ⟨_, hz, ?_, ?_⟩
    · unfold zipD
      rw [List.length_map, List.length_zip, Nat.min_self]
      exact hl
    · refine lc_pairs xs (fun x hxm Q q => ?_) ?_
      · exact hx x hxm _ ⟨rfl, q⟩
      · exact ⟨_, blsD_true _, rfl, by rw [all_rep]; exact q⟩
  cases d with
  | non => simp [bodyS, start', sSeq, sIf, sRet, sRetO, sSkip, sAsg, sApp, sAug, sPar2, sPar3, sDrop, sFor, sNever, tE, tCmp, tNt, tAn, tO, tTrue, eC, eV, eTr, eFz, eOp, eCall, eCallK, eLst, eTup, eSl, eIf, eAnd, eOr, eNot, eNeg, eIsi, eIsi2, eLc, eDc, aNil, aCons, oNo, oSome, iSeq, iRg1, iRg2, iZp, Rz.d, Rz.sl, Sl.frz, DEnv.frz, ownOf, sameB, tyD, isB, isNon, tru, eqB, eqD, neB, eqS, D.scal, *]
  | bl b => simp [bodyS, start', sSeq, sIf, sRet, sRetO, sSkip, sAsg, sApp, sAug, sPar2, sPar3, sDrop, sFor, sNever, tE, tCmp, tNt, tAn, tO, tTrue, eC, eV, eTr, eFz, eOp, eCall, eCallK, eLst, eTup, eSl, eIf, eAnd, eOr, eNot, eNeg, eIsi, eIsi2, eLc, eDc, aNil, aCons, oNo, oSome, iSeq, iRg1, iRg2, iZp, Rz.d, Rz.sl, Sl.frz, DEnv.frz, ownOf, sameB, tyD, isB, isNon, tru, eqB, eqD, neB, eqS, D.scal, *]
  | int i => simp [bodyS, start', sSeq, sIf, sRet, sRetO, sSkip, sAsg, sApp, sAug, sPar2, sPar3, sDrop, sFor, sNever, tE, tCmp, tNt, tAn, tO, tTrue, eC, eV, eTr, eFz, eOp, eCall, eCallK, eLst, eTup, eSl, eIf, eAnd, eOr, eNot, eNeg, eIsi, eIsi2, eLc, eDc, aNil, aCons, oNo, oSome, iSeq, iRg1, iRg2, iZp, Rz.d, Rz.sl, Sl.frz, DEnv.frz, ownOf, sameB, tyD, isB, isNon, tru, eqB, eqD, neB, eqS, D.scal, *]
  | str x => simp [bodyS, start', sSeq, sIf, sRet, sRetO, sSkip, sAsg, sApp, sAug, sPar2, sPar3, sDrop, sFor, sNever, tE, tCmp, tNt, tAn, tO, tTrue, eC, eV, eTr, eFz, eOp, eCall, eCallK, eLst, eTup, eSl, eIf, eAnd, eOr, eNot, eNeg, eIsi, eIsi2, eLc, eDc, aNil, aCons, oNo, oSome, iSeq, iRg1, iRg2, iZp, Rz.d, Rz.sl, Sl.frz, DEnv.frz, ownOf, sameB, tyD, isB, isNon, tru, eqB, eqD, neB, eqS, D.scal, *]
  | lst xs =>
    have sq := seq xs h.1 h.2 _ (.lst xs) rfl rfl
    refine ⟨_, rfl, _, rfl, ?_⟩
    rw [d5]
    refine iteF ⟨_, rfl, _, rfl, ?_⟩
    rw [l5, t5]
    refine iteT ⟨_, rfl, _, rfl, .inl ⟨rfl, _, rfl, ?_⟩⟩
    rw [l5]
    refine iteF ⟨_, rfl, _, rfl, .inl ⟨rfl, _, rfl, ?_⟩⟩
    rw [t5]
    refine iteF ?_
    refine ⟨rfl, rfl, .inl ⟨rfl, rfl, _, rfl, ?_⟩⟩
    have e1 : eqS (.int (xs.length : Int)) (.int (xs.length : Int)) = true := by simp [eqS]
    rw [show eqS (Rz.d (.val (Rz.d (.val (.int (xs.length : Int)))))) (Rz.d (.val (Rz.d (.val (.int (xs.length : Int)))))) = true from e1]
    exact iteT sq
  | tup xs =>
    have sq := seq xs h.1 h.2 _ (.tup xs) rfl rfl
    refine ⟨_, rfl, _, rfl, ?_⟩
    rw [d6]
    refine iteF ⟨_, rfl, _, rfl, ?_⟩
    rw [l6, t6]
    refine iteT ⟨_, rfl, _, rfl, .inl ⟨rfl, _, rfl, ?_⟩⟩
    rw [l6]
    refine iteF ⟨_, rfl, _, rfl, .inl ⟨rfl, _, rfl, ?_⟩⟩
    rw [t6]
    refine iteF ?_
    refine ⟨rfl, rfl, .inl ⟨rfl, rfl, _, rfl, ?_⟩⟩
    have e1 : eqS (.int (xs.length : Int)) (.int (xs.length : Int)) = true := by simp [eqS]
    rw [show eqS (Rz.d (.val (Rz.d (.val (.int (xs.length : Int)))))) (Rz.d (.val (Rz.d (.val (.int (xs.length : Int)))))) = true from e1]
    exact iteT sq
  | _ => exact h.elim
theorem same_ok {Sr : Nat → Spec} (h0 : Sr 0 = fun _ _ => False) (h1 : ∀ n, Sr (n + 1) = bodyS 5 2 (sameB (Sr n))) : ∀ (n : Nat) (d : D), plainN n d → ∀ Q : Rz → Prop, Q (.val (.bl true)) → Sr n [d, d] Q
  | 0, _, h, _, _ => h.elim
  | n + 1, d, h, Q, q => by
    rw [h1]
    refine same_step ?_ q
    cases d with
    | lst xs => exact ⟨h.1, fun x hx Q q => same_ok h0 h1 n x (h.2 x hx) Q q⟩
    | tup xs => exact ⟨h.1, fun x hx Q q => same_ok h0 h1 n x (h.2 x hx) Q q⟩
    | non => trivial
    | bl _ => trivial
    | int _ => trivial
    | str _ => trivial
    | _ => exact h
theorem ap_sSeq {f g : SV} {K : KD} {δ : DEnv} : sSeq f g K δ = f { K with nx := g K } δ := rfl
theorem ap_sSkip {K : KD} {δ : DEnv} : sSkip K δ = K.nx δ := rfl
theorem ap_sAsg {i : Nat} {f : EV} {K : KD} {δ : DEnv} : sAsg i f K δ = f δ fun r => K.nx (δ.set i r.sl) := rfl
theorem ap_sRet {f : EV} {K : KD} {δ : DEnv} : sRet f K δ = f δ K.rt := rfl
theorem ap_sIf {ft : TV} {g h : SV} {K : KD} {δ : DEnv} : sIf ft g h K δ = ft δ fun c => if c = true then g K δ else h K δ := rfl
theorem ap_sFor {fi : IV} {t : Tg} {g : SV} {K : KD} {δ : DEnv} : sFor fi t g K δ = fi δ fun xs => forL t g K xs δ := rfl
theorem ap_sPar2 {i j : Nat} {fa fb : EV} {K : KD} {δ : DEnv} : sPar2 i j fa fb K δ = fa δ fun x => fb δ fun y => K.nx ((δ.set i x.sl).set j y.sl) := rfl
theorem ap_sPar3 {i j l : Nat} {fa fb f : EV} {K : KD} {δ : DEnv} : sPar3 i j l fa fb f K δ = fa δ fun x => fb δ fun y => f δ fun z => K.nx (((δ.set i x.sl).set j y.sl).set l z.sl) := rfl
theorem ap_sAsgT {is : List Nat} {f : EV} {K : KD} {δ : DEnv} : sAsgT is f K δ = f δ fun r => (Tg.tup is).bind r.d δ K.nx := rfl
theorem ap_sDrop {f : EV} {K : KD} {δ : DEnv} : sDrop f K δ = f δ fun _ => K.nx δ := rfl
theorem ap_sApp {i : Nat} {f : EV} {K : KD} {δ : DEnv} : sApp i f K δ = ownOf δ i fun ds => f δ fun r => ds.length < sizeLine ∧ K.nx (δ.set i (.own (ds ++ [r.d]))) := rfl
theorem ap_sClr {i : Nat} {K : KD} {δ : DEnv} : sClr i K δ = ownOf δ i fun _ => K.nx (δ.set i (.own [])) := rfl
theorem ap_sBrk {K : KD} {δ : DEnv} : sBrk K δ = K.bk δ := rfl
theorem ap_sCnt {K : KD} {δ : DEnv} : sCnt K δ = K.ct δ := rfl
theorem ap_tE {f : EV} {δ : DEnv} {Q : Bool → Prop} : tE f δ Q = f (DEnv.frz δ) fun r => ∃ k, tru r.d = some k ∧ Q k := rfl
theorem ap_tCmp {go : D → D → (Rz → Prop) → Prop} {fa fb : EV} {δ : DEnv} {Q : Bool → Prop} : tCmp go fa fb δ Q = fa (DEnv.frz δ) fun x => fb (DEnv.frz δ) fun y => go x.d y.d fun r => ∃ k, r = .val (.bl k) ∧ Q k := rfl
theorem ap_tNt {ft : TV} {δ : DEnv} {Q : Bool → Prop} : tNt ft δ Q = ft δ fun c => Q (!c) := rfl
theorem ap_tAn {ft fu : TV} {δ : DEnv} {Q : Bool → Prop} : tAn ft fu δ Q = ft δ fun c => if c = true then fu δ Q else Q false := rfl
theorem ap_tO {ft fu : TV} {δ : DEnv} {Q : Bool → Prop} : tO ft fu δ Q = ft δ fun c => if c = true then Q true else fu δ Q := rfl
theorem ap_tTrue {δ : DEnv} {Q : Bool → Prop} : tTrue δ Q = Q true := rfl
theorem ap_eC {d : D} {δ : DEnv} {Q : Rz → Prop} : eC d δ Q = Q (.val d) := rfl
theorem ap_eV {i : Nat} {δ : DEnv} {Q : Rz → Prop} : eV i δ Q = match δ[i]? with | some (.val d) => Q (.val d) | _ => False := rfl
theorem ap_eTr {f : EV} {δ : DEnv} {Q : Rz → Prop} : eTr f δ Q = f (DEnv.frz δ) fun r => r.d.scal = true ∧ Q (.val r.d) := rfl
theorem ap_eFz {f : EV} {δ : DEnv} {Q : Rz → Prop} : eFz f δ Q = f δ fun r => Q (.val r.d) := rfl
theorem ap_eOp {go : D → D → (Rz → Prop) → Prop} {fa fb : EV} {δ : DEnv} {Q : Rz → Prop} : eOp go fa fb δ Q = fa δ fun x => fb δ fun y => go x.d y.d Q := rfl
theorem ap_eCall {S : Spec} {fr : AV} {δ : DEnv} {Q : Rz → Prop} : eCall S fr δ Q = fr δ fun ds => S ds Q := rfl
theorem ap_eCallK {n m : Nat} {is : List Nat} {S : Spec} {fr fk : AV} {δ : DEnv} {Q : Rz → Prop} : eCallK n m is S fr fk δ Q = fr δ fun us => fk δ fun ws => us.length = n ∧ ws.length = m ∧ S (perm is (us ++ ws)) Q := rfl
theorem ap_eLst {fr : AV} {δ : DEnv} {Q : Rz → Prop} : eLst fr δ Q = fr δ fun ds => ds.length ≤ sizeLine ∧ Q (.new ds) := rfl
theorem ap_eTup {fr : AV} {δ : DEnv} {Q : Rz → Prop} : eTup fr δ Q = fr δ fun ds => ds.length ≤ sizeLine ∧ Q (.val (.tup ds)) := rfl
theorem ap_eSl {fa : EV} {fl fh : OV} {δ : DEnv} {Q : Rz → Prop} : eSl fa fl fh δ Q = fa δ fun x => fl δ fun lo => fh δ fun hi => slD x.d lo hi Q := rfl
theorem ap_eIf {ft : TV} {fa fb : EV} {δ : DEnv} {Q : Rz → Prop} : eIf ft fa fb δ Q = ft δ fun c => if c = true then fa δ Q else fb δ Q := rfl
theorem ap_eAnd {fa fb : EV} {δ : DEnv} {Q : Rz → Prop} : eAnd fa fb δ Q = fa δ fun x => ∃ k, tru x.d = some k ∧ if k = true then fb δ Q else Q (.val x.d) := rfl
theorem ap_eOr {fa fb : EV} {δ : DEnv} {Q : Rz → Prop} : eOr fa fb δ Q = fa δ fun x => ∃ k, tru x.d = some k ∧ if k = true then Q (.val x.d) else fb δ Q := rfl
theorem ap_eNot {fa : EV} {δ : DEnv} {Q : Rz → Prop} : eNot fa δ Q = fa (DEnv.frz δ) fun x => ∃ k, tru x.d = some k ∧ Q (.val (.bl (!k))) := rfl
theorem ap_eNeg {fa : EV} {δ : DEnv} {Q : Rz → Prop} : eNeg fa δ Q = fa δ fun x => negD x.d Q := rfl
theorem ap_eIsi {T : String} {f : EV} {δ : DEnv} {Q : Rz → Prop} : eIsi T f δ Q = f (DEnv.frz δ) fun r => ∃ t, tyD r.d = some t ∧ Q (.val (.bl (isiB t T))) := rfl
theorem ap_eLc {fi : IV} {t : Tg} {ft : TV} {fe : EV} {vs : List Nat} {δ : DEnv} {Q : Rz → Prop} : eLc fi t ft fe vs δ Q = fi δ fun xs => xs.length ≤ sizeLine ∧ lcL (wipeD δ vs) t ft fe xs fun ds => Q (.new ds) := rfl
theorem ap_eDc {fi : IV} {t : Tg} {ft : TV} {fk fv : EV} {vs : List Nat} {δ : DEnv} {Q : Rz → Prop} : eDc fi t ft fk fv vs δ Q = fi δ fun xs => xs.length ≤ sizeLine ∧ dcL (wipeD δ vs) t ft fk fv xs [] fun kds => Q (.val (.dK kds)) := rfl
theorem ap_aNil {δ : DEnv} {Q : List D → Prop} : aNil δ Q = Q [] := rfl
theorem ap_aCons {f : EV} {fr : AV} {δ : DEnv} {Q : List D → Prop} : aCons f fr δ Q = f δ fun r => fr δ fun ds => Q (r.d :: ds) := rfl
theorem ap_oNo {δ : DEnv} {Q : Option Int → Prop} : oNo δ Q = Q none := rfl
theorem ap_oSome {f : EV} {δ : DEnv} {Q : Option Int → Prop} : oSome f δ Q = f δ fun r => ∃ i, r.d = .int i ∧ Q (some i) := rfl
theorem ap_iSeq {f : EV} {δ : DEnv} {Q : List D → Prop} : iSeq f δ Q = f δ fun r => ∃ xs, seqD r.d = some xs ∧ Q xs := rfl
theorem ap_iRg1 {f : EV} {δ : DEnv} {Q : List D → Prop} : iRg1 f δ Q = f δ fun r => ∃ j : Int, r.d = .int j ∧ -1000000000 ≤ j ∧ j ≤ 1000000000 ∧ Q (rngD 0 j.toNat) := rfl
theorem ap_iZp {fa fb : EV} {δ : DEnv} {Q : List D → Prop} : iZp fa fb δ Q = fa δ fun x => fb δ fun y => ∃ zs, zpD x.d y.d = some zs ∧ Q zs := rfl
theorem ap_bodyS {N p : Nat} {f : SV} {ds : List D} {Q : Rz → Prop} : bodyS N p f ds Q = (ds.length = p ∧ f { nx := fun _ => Q (.val .non), rt := Q } (start' N ds)) := rfl
theorem ap_own {δ : DEnv} {i : Nat} {Q : List D → Prop} : ownOf δ i Q = match δ[i]? with | some (.own ds) => Q ds | _ => False := rfl
theorem frz_nil : DEnv.frz [] = [] := rfl
theorem frz_cons {s : Sl} {δ : DEnv} : DEnv.frz (s :: δ) = s.frz :: DEnv.frz δ := rfl
theorem frz_val {d : D} : Sl.frz (.val d) = .val d := rfl
theorem frz_no : Sl.frz .no = .no := rfl
theorem frz_own {ds : List D} : Sl.frz (.own ds) = .val (.lst ds) := rfl
theorem rd_val {d : D} : (Rz.val d).d = d := rfl
theorem rd_new {ds : List D} : (Rz.new ds).d = .lst ds := rfl
theorem sl_val {d : D} : (Rz.val d).sl = .val d := rfl
theorem sl_new {ds : List D} : (Rz.new ds).sl = .own ds := rfl
/-! ### slices by natural bounds; one of a list -/
theorem cutD_to (xs : List D) (k : Nat) : cutD xs none (some (k : Int)) = xs.take k := by
  unfold cutD
  rw [HT.sIx_none, HT.sIx_nat, List.drop_zero, Nat.sub_zero]
  by_cases h : k ≤ xs.length
  · rw [Nat.min_eq_left h]
  · rw [Nat.min_eq_right (by omega), List.take_of_length_le (by omega), List.take_of_length_le (by omega)]
theorem cutD_from (xs : List D) (k : Nat) : cutD xs (some (k : Int)) none = xs.drop k := by
  unfold cutD
  rw [HT.sIx_none, HT.sIx_nat]
  by_cases h : k ≤ xs.length
  · rw [Nat.min_eq_left h, List.take_of_length_le (by rw [List.length_drop]; omega)]
  · rw [Nat.min_eq_right (by omega), List.drop_eq_nil_of_le (Nat.le_refl _), List.drop_eq_nil_of_le (by omega)]
    simp
theorem cutD_mid (xs : List D) (a b : Nat) : cutD xs (some (a : Int)) (some (b : Int)) = (xs.drop a).take (b - a) := by
  unfold cutD
  rw [HT.sIx_nat, HT.sIx_nat]
  by_cases h : a ≤ xs.length
  · rw [Nat.min_eq_left h]
    by_cases hb : b ≤ xs.length
    · rw [Nat.min_eq_left hb]
    · rw [Nat.min_eq_right (by omega), List.take_of_length_le (by rw [List.length_drop]; omega), List.take_of_length_le (by rw [List.length_drop]; omega)]
  · rw [Nat.min_eq_right (a := a) (by omega), List.drop_eq_nil_of_le (Nat.le_refl _), List.drop_eq_nil_of_le (by omega)]
    simp
theorem at_of {xs : List D} {z : Int} {j : Nat} {v : D} (e : z = (j : Int)) (h : xs[j]? = some v) : atI xs z = some v := by
  rw [e]
  exact atI_nat h
theorem atC_of {xs : List Nat} {z : Int} {j : Nat} {v : Nat} (e : z = (j : Int)) (h : xs[j]? = some v) : atI xs z = some v := by
  rw [e]
  exact atI_nat h
def ofB : SV := sRet (eOp ixD (eV 1) (eCall drawS (aCons (eV 0) (aCons (eTr (eCall lenD (aCons (eV 1) (aNil)))) (aNil)))))
theorem of_lst {ds : List D} {Q : Rz → Prop} (hl : ds.length ≤ 1000000) (h0 : ds ≠ []) (q : ∀ d ∈ ds, Q (.val d)) : bodyS 2 2 ofB [.bag, .lst ds] Q := by
  have hp : 0 < ds.length := List.length_pos_iff.mpr h0
  refine ⟨rfl, rfl, _, rfl, ?_, ?_, fun k h1 h2 => ?_⟩
  · show (0 : Int) < (ds.length : Int)
    omega
  · show (ds.length : Int) < 1000000000
    omega
  · have h2 : k < (ds.length : Int) := h2
    have hk : k.toNat < ds.length := by omega
    refine ⟨ds[k.toNat], ?_, q _ (List.getElem_mem hk)⟩
    exact DI.at_of (j := k.toNat) (by omega) (List.getElem?_eq_getElem hk)
theorem of_str {z : Str} {Q : Rz → Prop} (hl : z.length ≤ 1000000) (h0 : 0 < z.length) (q : ∀ c ∈ z.cps.toList, Q (.val (.str ⟨#[c]⟩))) : bodyS 2 2 ofB [.bag, .str z] Q := by
  have hz : z.length ≤ sizeLine := Nat.le_trans hl (by decide)
  have el : z.cps.toList.length = z.length := by simp [Str.length]
  refine ⟨rfl, hz, rfl, _, rfl, ?_, ?_, fun k h1 h2 => ?_⟩
  · show (0 : Int) < (z.length : Int)
    omega
  · show (z.length : Int) < 1000000000
    omega
  · have h2 : k < (z.length : Int) := h2
    have hk : k.toNat < z.cps.toList.length := by omega
    refine ⟨hz, z.cps.toList[k.toNat], ?_, q _ (List.getElem_mem hk)⟩
    exact atC_of (j := k.toNat) (by omega) (List.getElem?_eq_getElem hk)
/-! ### data that may be compared -/
def goodN : Nat → D → Prop
  | 0, _ => False
  | n + 1, d => match d with
    | .non | .bl _ | .int _ => True
    | .str x => x.cps.all (· < 0x110000) = true
    | .lst xs | .tup xs => ∀ x ∈ xs, goodN n x
    | _ => False
theorem goodA {n : Nat} (ih : ∀ d, goodN n d → d.isPy = true ∧ d.py.canLay0 = true ∧ d.py.depth ≤ n) : ∀ xs : List D, (∀ x ∈ xs, goodN n x) → isPyA xs = true ∧ PyData.canLayAll0 (pyA xs) = true ∧ PyData.depthAll (pyA xs) ≤ n
  | [], _ => ⟨by rw [isPyA], by rw [pyA, PyData.canLayAll0], by rw [pyA, PyData.depthAll]; exact Nat.zero_le _⟩
  | x :: r, h => by
    obtain ⟨h1, h2, h3⟩ := ih x (h x List.mem_cons_self)
    obtain ⟨k1, k2, k4⟩ := goodA ih r fun y hy => h y (List.mem_cons_of_mem _ hy)
    refine ⟨by rw [isPyA, h1, k1]; rfl, by rw [pyA, PyData.canLayAll0, h2, k2]; rfl, ?_⟩
    rw [pyA, PyData.depthAll]; omega
theorem good_py : ∀ (n : Nat) (d : D), goodN n d → d.isPy = true ∧ d.py.canLay0 = true ∧ d.py.depth ≤ n
  | 0, _, h => h.elim
  | n + 1, d, h => by
    cases d with
    | non => exact ⟨by rw [D.isPy], by rw [D.py, PyData.canLay0], by rw [D.py, PyData.depth]; omega⟩
    | bl b => exact ⟨by rw [D.isPy], by rw [D.py, PyData.canLay0], by rw [D.py, PyData.depth]; omega⟩
    | int i => exact ⟨by rw [D.isPy], by rw [D.py, PyData.canLay0], by rw [D.py, PyData.depth]; omega⟩
    | str x => exact ⟨by rw [D.isPy], by rw [D.py, PyData.canLay0]; exact h, by rw [D.py, PyData.depth]; omega⟩
    | lst xs =>
      obtain ⟨k1, k2, k4⟩ := goodA (good_py n) xs h
      exact ⟨by rw [D.isPy]; exact k1, by rw [D.py, PyData.canLay0]; exact k2, by rw [D.py, PyData.depth]; omega⟩
    | tup xs =>
      obtain ⟨k1, k2, k4⟩ := goodA (good_py n) xs h
      exact ⟨by rw [D.isPy]; exact k1, by rw [D.py, PyData.canLay0]; exact k2, by rw [D.py, PyData.depth]; omega⟩
    | _ => exact h.elim
theorem good_ok {n : Nat} {d : D} (h : goodN n d) (hn : n ≤ 64) : d.ok = true := by
  obtain ⟨h1, h2, h3⟩ := good_py n d h
  unfold D.ok SeqAt.shaped
  rw [h1, h2, decide_eq_true (show d.py.depth ≤ 64 by omega)]
  rfl
theorem eqD_self {n : Nat} {d : D} {Q : Bool → Prop} (h : goodN n d) (hn : n ≤ 64) (q : Q true) : eqD d d Q := by
  refine .inr ⟨by rw [good_ok h hn]; rfl, ?_⟩
  rw [PySem.SeqAt.eqv_refl _ (good_py n d h).2.1]
  exact q
/-! ### steps at the head: each an implication by computation -/
section
variable {f g h : SV} {K : KD} {δ : DEnv} {fa fb fc fe ff : EV} {ft fu : TV} {fi : IV} {fr fk : AV} {fl fh : OV} {Q : Rz → Prop} {QB : Bool → Prop} {QA : List D → Prop} {QO : Option Int → Prop} {t : Tg} {i j l : Nat} {S : Spec} {d e : D} {ds es : List D}
theorem st_seq (q : f { K with nx := g K } δ) : sSeq f g K δ := q
theorem st_skip (q : K.nx δ) : sSkip K δ := q
theorem st_asg (q : ff δ fun r => K.nx (δ.set i r.sl)) : sAsg i ff K δ := q
theorem st_ret (q : ff δ K.rt) : sRet ff K δ := q
theorem st_if (q : ft δ fun c => if c = true then g K δ else h K δ) : sIf ft g h K δ := q
theorem st_for (q : fi δ fun xs => forL t g K xs δ) : sFor fi t g K δ := q
theorem st_par2 (q : fa δ fun x => fb δ fun y => K.nx ((δ.set i x.sl).set j y.sl)) : sPar2 i j fa fb K δ := q
theorem st_par3 (q : fa δ fun x => fb δ fun y => ff δ fun z => K.nx (((δ.set i x.sl).set j y.sl).set l z.sl)) : sPar3 i j l fa fb ff K δ := q
theorem st_asgT {is : List Nat} (q : ff δ fun r => (Tg.tup is).bind r.d δ K.nx) : sAsgT is ff K δ := q
theorem st_drop (q : ff δ fun _ => K.nx δ) : sDrop ff K δ := q
theorem st_app (e : δ[i]? = some (Sl.own ds)) (q : ff δ fun r => ds.length < sizeLine ∧ K.nx (δ.set i (.own (ds ++ [r.d])))) : sApp i ff K δ := by
  unfold sApp ownOf
  rw [e]
  exact q
theorem st_ins (e : δ[i]? = some (Sl.own ds)) (q : fa δ fun r1 => ff δ fun r => ∃ j : Int, r1.d = .int j ∧ 0 ≤ j ∧ j < 1000000000 ∧ ds.length < sizeLine ∧ K.nx (δ.set i (.own (ds.take j.toNat ++ [r.d] ++ ds.drop j.toNat)))) : sIns i fa ff K δ := by
  unfold sIns ownOf
  rw [e]
  exact q
theorem st_clr (e : δ[i]? = some (Sl.own ds)) (q : K.nx (δ.set i (.own []))) : sClr i K δ := by
  unfold sClr ownOf
  rw [e]
  exact q
theorem st_frz (e : δ[i]? = some (Sl.own ds)) (q : g K (δ.set i (.val (.lst ds)))) : sFrz i g K δ := by
  unfold sFrz ownOf
  rw [e]
  exact q
theorem st_retO (e : δ[i]? = some (Sl.own ds)) (q : K.rt (.new ds)) : sRetO i K δ := by
  unfold sRetO
  rw [e]
  exact q
theorem st_retV (e : δ[i]? = some (Sl.val d)) (q : K.rt (.val d)) : sRetO i K δ := by
  unfold sRetO
  rw [e]
  exact q
theorem st_bind1 {x : D} {k : DEnv → Prop} (q : k (δ.set i (.val x))) : (Tg.one i).bind x δ k := q
theorem st_nx {A C E : DEnv → Prop} {B : Rz → Prop} (q : A δ) : KD.nx ⟨A, B, C, E⟩ δ := q
theorem st_rt {A C E : DEnv → Prop} {B : Rz → Prop} {r : Rz} (q : B r) : KD.rt ⟨A, B, C, E⟩ r := q
theorem st_bk {A C E : DEnv → Prop} {B : Rz → Prop} (q : C δ) : KD.bk ⟨A, B, C, E⟩ δ := q
theorem st_ct {A C E : DEnv → Prop} {B : Rz → Prop} (q : E δ) : KD.ct ⟨A, B, C, E⟩ δ := q
theorem le_size {α : Type} {l : List α} (h : Nat.ble l.length 1000 = true) : l.length ≤ sizeLine := Nat.le_trans (Nat.le_of_ble_eq_true h) (by decide)
theorem st_brk (q : K.bk δ) : sBrk K δ := q
theorem st_cnt (q : K.ct δ) : sCnt K δ := q
theorem st_aug (e : δ[i]? = some (Sl.val d)) (q : ff δ fun r => augD d r.d fun d' => K.nx (δ.set i (.val d'))) : sAug i ff K δ := by
  unfold sAug
  rw [e]
  exact q
theorem st_tE (q : ff (DEnv.frz δ) fun r => ∃ k, tru r.d = some k ∧ QB k) : tE ff δ QB := q
theorem st_tCmp {go : D → D → (Rz → Prop) → Prop} (q : fa (DEnv.frz δ) fun x => fb (DEnv.frz δ) fun y => go x.d y.d fun r => ∃ k, r = .val (.bl k) ∧ QB k) : DI.tCmp go fa fb δ QB := q
theorem st_tNt (q : ft δ fun c => QB (!c)) : tNt ft δ QB := q
theorem st_tAn (q : ft δ fun c => if c = true then fu δ QB else QB false) : tAn ft fu δ QB := q
theorem st_tO (q : ft δ fun c => if c = true then QB true else fu δ QB) : tO ft fu δ QB := q
theorem st_tT (q : QB true) : tTrue δ QB := q
theorem st_c (q : Q (.val d)) : eC d δ Q := q
theorem st_v (e : δ[i]? = some (Sl.val d)) (q : Q (.val d)) : eV i δ Q := by
  unfold eV
  rw [e]
  exact q
theorem st_tr (q : ff (DEnv.frz δ) fun r => r.d.scal = true ∧ Q (.val r.d)) : eTr ff δ Q := q
theorem st_fz (q : ff δ fun r => Q (.val r.d)) : eFz ff δ Q := q
theorem st_op {go : D → D → (Rz → Prop) → Prop} (q : fa δ fun x => fb δ fun y => go x.d y.d Q) : eOp go fa fb δ Q := q
theorem st_call (q : fr δ fun ds => S ds Q) : eCall S fr δ Q := q
theorem st_callK {n m : Nat} {is : List Nat} (q : fr δ fun us => fk δ fun ws => us.length = n ∧ ws.length = m ∧ S (perm is (us ++ ws)) Q) : eCallK n m is S fr fk δ Q := q
theorem st_lst (q : fr δ fun ds => ds.length ≤ sizeLine ∧ Q (.new ds)) : eLst fr δ Q := q
theorem st_tup (q : fr δ fun ds => ds.length ≤ sizeLine ∧ Q (.val (.tup ds))) : eTup fr δ Q := q
theorem st_sl (q : fa δ fun x => fl δ fun lo => fh δ fun hi => slD x.d lo hi Q) : eSl fa fl fh δ Q := q
theorem st_eif (q : ft δ fun c => if c = true then fa δ Q else fb δ Q) : eIf ft fa fb δ Q := q
theorem st_and (q : fa δ fun x => ∃ k, tru x.d = some k ∧ if k = true then fb δ Q else Q (.val x.d)) : eAnd fa fb δ Q := q
theorem st_or (q : fa δ fun x => ∃ k, tru x.d = some k ∧ if k = true then Q (.val x.d) else fb δ Q) : eOr fa fb δ Q := q
theorem st_not (q : fa (DEnv.frz δ) fun x => ∃ k, tru x.d = some k ∧ Q (.val (.bl (!k)))) : eNot fa δ Q := q
theorem st_neg (q : fa δ fun x => negD x.d Q) : eNeg fa δ Q := q
theorem st_isi {T : String} (q : ff (DEnv.frz δ) fun r => ∃ t, tyD r.d = some t ∧ Q (.val (.bl (isiB t T)))) : eIsi T ff δ Q := q
theorem st_lc {vs : List Nat} (q : fi δ fun xs => xs.length ≤ sizeLine ∧ lcL (wipeD δ vs) t ft fe xs fun ds => Q (.new ds)) : eLc fi t ft fe vs δ Q := q
theorem st_dc {vs : List Nat} (q : fi δ fun xs => xs.length ≤ sizeLine ∧ dcL (wipeD δ vs) t ft fa fb xs [] fun kds => Q (.val (.dK kds))) : eDc fi t ft fa fb vs δ Q := q
theorem st_anil (q : QA []) : aNil δ QA := q
theorem st_acons (q : ff δ fun r => fr δ fun ds => QA (r.d :: ds)) : aCons ff fr δ QA := q
theorem st_ono (q : QO none) : oNo δ QO := q
theorem st_osome (q : ff δ fun r => ∃ i, r.d = .int i ∧ QO (some i)) : oSome ff δ QO := q
theorem st_iseq (q : ff δ fun r => ∃ xs, seqD r.d = some xs ∧ QA xs) : iSeq ff δ QA := q
theorem st_irg1 (q : ff δ fun r => ∃ j : Int, r.d = .int j ∧ -1000000000 ≤ j ∧ j ≤ 1000000000 ∧ QA (rngD 0 j.toNat)) : iRg1 ff δ QA := q
theorem st_izp (q : fa δ fun x => fb δ fun y => ∃ zs, zpD x.d y.d = some zs ∧ QA zs) : iZp fa fb δ QA := q
theorem st_body {N p : Nat} (e : ds.length = p) (q : f { nx := fun _ => Q (.val .non), rt := Q } (start' N ds)) : bodyS N p f ds Q := ⟨e, q⟩
-- data
variable {a b : Int} {x y : Str}
theorem sd_addI (q : Q (.val (.int (a + b)))) : addD (.int a) (.int b) Q := q
theorem sd_subI (q : Q (.val (.int (a - b)))) : subD (.int a) (.int b) Q := q
theorem sd_lenL (q : Q (.val (.int ds.length))) : lenD [.lst ds] Q := q
theorem sd_lenT (q : Q (.val (.int ds.length))) : lenD [.tup ds] Q := q
theorem sd_list (q : Q (.new ds)) : listD [.lst ds] Q := q
theorem sd_tuple (q : Q (.val (.tup ds))) : tupleD [.lst ds] Q := q
theorem sd_lt (q : Q (.val (.bl (decide (a < b))))) : ltB (.int a) (.int b) Q := q
theorem sd_le (q : Q (.val (.bl (decide (a ≤ b))))) : leB (.int a) (.int b) Q := q
theorem sd_gt (q : Q (.val (.bl (decide (b < a))))) : gtB (.int a) (.int b) Q := q
theorem sd_ge (q : Q (.val (.bl (decide (b ≤ a))))) : geB (.int a) (.int b) Q := q
theorem sd_eqI (q : Q (.val (.bl (a == b)))) : eqB (.int a) (.int b) Q := .inl ⟨rfl, q⟩
theorem sd_neI (q : Q (.val (.bl (!(a == b))))) : neB (.int a) (.int b) Q := .inl ⟨rfl, q⟩
theorem sd_eqS (q : Q (.val (.bl (x == y)))) : eqB (.str x) (.str y) Q := .inl ⟨rfl, q⟩
theorem sd_neS (q : Q (.val (.bl (!(x == y))))) : neB (.str x) (.str y) Q := .inl ⟨rfl, q⟩
theorem sd_slL {lo hi : Option Int} (q : Q (.new (cutD ds lo hi))) : slD (.lst ds) lo hi Q := q
theorem sd_slT {lo hi : Option Int} (q : Q (.val (.tup (cutD ds lo hi)))) : slD (.tup ds) lo hi Q := q
theorem sd_int (q : Q (.val (.int a))) : intD [.int a] Q := q
end
end DI

namespace DI
open PySem L2
/-! texts as lists of signs -/
def tx (l : List Nat) : Str := ⟨l.toArray⟩
theorem tx_app (a b : List Nat) : tx a ++ tx b = tx (a ++ b) := by
  show (⟨(a.toArray ++ b.toArray)⟩ : Str) = ⟨(a ++ b).toArray⟩
  rw [List.append_toArray]
theorem tx_len (a : List Nat) : (tx a).length = a.length := by
  show a.toArray.size = a.length
  simp
theorem tx_of (z : Str) : z = tx z.cps.toList := by
  cases z with
  | mk c => show (⟨c⟩ : Str) = ⟨c.toList.toArray⟩; simp
theorem tx_inj {a b : List Nat} (h : tx a = tx b) : a = b := by
  unfold tx at h
  injection h with h
  exact List.toArray_inj h
theorem tx_beq (a b : List Nat) : (tx a == tx b) = decide (a = b) := by
  rw [Bool.eq_iff_iff, beq_iff_eq, decide_eq_true_eq]
  exact ⟨tx_inj, fun h => by rw [h]⟩
theorem tx_cps (a : List Nat) : (tx a).cps.toList = a := by simp [tx]
theorem size5 {n : Nat} (h : n ≤ 100000) : n ≤ sizeLine := Nat.le_trans h (by decide)
theorem cutS_mid (cs : List Nat) (a b : Nat) : cutS (tx cs) (some (a : Int)) (some (b : Int)) = tx ((cs.drop a).take (b - a)) := by
  unfold cutS
  rw [HT.sIx_nat, HT.sIx_nat, tx_len, tx_cps]
  show tx _ = tx _
  congr 1
  by_cases h : a ≤ cs.length
  · rw [Nat.min_eq_left h]
    by_cases hb : b ≤ cs.length
    · rw [Nat.min_eq_left hb]
    · rw [Nat.min_eq_right (by omega), List.take_of_length_le (by rw [List.length_drop]; omega), List.take_of_length_le (by rw [List.length_drop]; omega)]
  · rw [Nat.min_eq_right (a := a) (by omega), List.drop_eq_nil_of_le (Nat.le_refl _), List.drop_eq_nil_of_le (by omega)]
    simp
theorem cutS_to (cs : List Nat) (k : Nat) : cutS (tx cs) none (some (k : Int)) = tx (cs.take k) := by
  unfold cutS
  rw [HT.sIx_none, HT.sIx_nat, List.drop_zero, Nat.sub_zero, tx_len, tx_cps]
  show tx _ = tx _
  congr 1
  by_cases h : k ≤ cs.length
  · rw [Nat.min_eq_left h]
  · rw [Nat.min_eq_right (by omega), List.take_of_length_le (by omega), List.take_of_length_le (by omega)]
theorem cutS_from (cs : List Nat) (k : Nat) : cutS (tx cs) (some (k : Int)) none = tx (cs.drop k) := by
  unfold cutS
  rw [HT.sIx_none, HT.sIx_nat, tx_len, tx_cps]
  show tx _ = tx _
  congr 1
  by_cases h : k ≤ cs.length
  · rw [Nat.min_eq_left h, List.take_of_length_le (by rw [List.length_drop]; omega)]
  · rw [Nat.min_eq_right (by omega), List.drop_eq_nil_of_le (Nat.le_refl _), List.drop_eq_nil_of_le (by omega)]
    simp
section
variable {Q : Rz → Prop} {cs ds : List Nat} {c : Nat}
theorem ss_ix {n : Nat} (hl : cs.length ≤ 100000) (h : cs[n]? = some c) (q : Q (.val (.str (tx [c])))) : ixD (.str (tx cs)) (.int (n : Int)) Q :=
  ⟨by rw [tx_len]; exact size5 hl, c, by rw [tx_cps]; exact atI_nat h, q⟩
theorem ss_len (hl : cs.length ≤ 100000) (q : Q (.val (.int (cs.length : Int)))) : lenD [.str (tx cs)] Q :=
  ⟨by rw [tx_len]; exact size5 hl, by rw [tx_len]; exact q⟩
theorem ss_in (q : Q (.val (.bl (decide (c ∈ ds))))) : inD false (.str (tx [c])) (.str (tx ds)) Q := by
  show Q (.val (.bl (false != inTxt (tx [c]) (tx ds))))
  rw [Bool.false_bne]
  show Q (.val (.bl (decide (c ∈ (tx ds).cps.toList))))
  rw [tx_cps]
  exact q
theorem ss_nin (q : Q (.val (.bl (!decide (c ∈ ds))))) : inD true (.str (tx [c])) (.str (tx ds)) Q := by
  show Q (.val (.bl (true != inTxt (tx [c]) (tx ds))))
  rw [Bool.true_bne]
  show Q (.val (.bl (!decide (c ∈ (tx ds).cps.toList))))
  rw [tx_cps]
  exact q
theorem ss_inS {x z : Str} (q : Q (.val (.bl (inTxt x z)))) : inD false (.str x) (.str z) Q := by
  show Q (.val (.bl (false != inTxt x z)))
  rw [Bool.false_bne]
  exact q
theorem ss_addS {s : Str} (hl : cs.length + s.length ≤ 100000) (q : Q (.val (.str (tx (cs ++ s.cps.toList))))) : addD (.str (tx cs)) (.str s) Q :=
  ⟨by rw [tx_len]; exact size5 hl, by rw [show tx cs ++ s = tx (cs ++ s.cps.toList) by rw [← tx_app, ← tx_of]]; exact q⟩
theorem ss_addL {s : Str} (hl : s.length + cs.length ≤ 100000) (q : Q (.val (.str (tx (s.cps.toList ++ cs))))) : addD (.str s) (.str (tx cs)) Q :=
  ⟨by rw [tx_len]; exact size5 hl, by rw [show s ++ tx cs = tx (s.cps.toList ++ cs) by rw [← tx_app, ← tx_of]]; exact q⟩
theorem ss_eq (q : Q (.val (.bl (decide (cs = ds))))) : eqB (.str (tx cs)) (.str (tx ds)) Q :=
  .inl ⟨rfl, by show Q (.val (.bl (tx cs == tx ds))); rw [tx_beq]; exact q⟩
theorem ss_ne (q : Q (.val (.bl (!decide (cs = ds))))) : neB (.str (tx cs)) (.str (tx ds)) Q :=
  .inl ⟨rfl, by show Q (.val (.bl (!(tx cs == tx ds)))); rw [tx_beq]; exact q⟩
theorem ss_add (hl : cs.length + ds.length ≤ 100000) (q : Q (.val (.str (tx (cs ++ ds))))) : addD (.str (tx cs)) (.str (tx ds)) Q :=
  ⟨by rw [tx_len, tx_len]; exact size5 hl, by rw [tx_app]; exact q⟩
theorem ss_mid {a b : Nat} (hl : cs.length ≤ 100000) (q : Q (.val (.str (tx ((cs.drop a).take (b - a)))))) : slD (.str (tx cs)) (some (a : Int)) (some (b : Int)) Q :=
  ⟨by rw [tx_len]; exact size5 hl, by rw [cutS_mid]; exact q⟩
theorem ss_to {b : Nat} (hl : cs.length ≤ 100000) (q : Q (.val (.str (tx (cs.take b))))) : slD (.str (tx cs)) none (some (b : Int)) Q :=
  ⟨by rw [tx_len]; exact size5 hl, by rw [cutS_to]; exact q⟩
theorem ss_from {a : Nat} (hl : cs.length ≤ 100000) (q : Q (.val (.str (tx (cs.drop a))))) : slD (.str (tx cs)) (some (a : Int)) none Q :=
  ⟨by rw [tx_len]; exact size5 hl, by rw [cutS_from]; exact q⟩
end
theorem ss_is {d : D} {Q : Rz → Prop} (q : Q (.val (.bl (isNon d)))) : isB d .non Q := by cases d <;> exact q
theorem ss_isnt {d : D} {Q : Rz → Prop} (q : Q (.val (.bl (!isNon d)))) : isntB d .non Q := by cases d <;> exact q
theorem ss_aug {i j : Int} {Q : D → Prop} (q : Q (.int (i + j))) : augD (.int i) (.int j) Q := q
theorem st_len0 {α : Type} {l : List α} {n : Nat} (h : l.length ≤ n) (hn : n ≤ 100000) : l.length < sizeLine := Nat.lt_of_le_of_lt (Nat.le_trans h hn) (by decide)
theorem seq_tx (cs : List Nat) : seqD (.str (tx cs)) = some (cs.map fun c => .str (tx [c])) := by
  show some ((tx cs).cps.toList.map _) = _
  rw [tx_cps]
  rfl
theorem chs_tx (cs : List Nat) : chs (tx cs) = cs.map fun c => .str (tx [c]) := by
  have := seq_tx cs
  injection this
theorem draw_ok {n : Int} {Q : Rz → Prop} (h0 : 0 < n) (h1 : n < 1000000000) (q : ∀ k : Nat, (k : Int) < n → Q (.val (.int (k : Int)))) : drawS [.bag, .int n] Q :=
  ⟨n, rfl, h0, h1, fun k k0 k1 => by
    have e : k = ((k.toNat : Nat) : Int) := by omega
    rw [e]
    exact q k.toNat (by omega)⟩
theorem seq_cut {f g : SV} {K : KD} {δ : DEnv} (J : DEnv → Prop) (hg : ∀ δ', J δ' → g K δ') (hf : ∀ N : DEnv → Prop, (∀ δ', J δ' → N δ') → f { K with nx := N } δ) : sSeq f g K δ := hf (g K) hg
theorem st_ms {m : D → D → (Rz → Prop) → Prop} {fa fb : EV} {δ : DEnv} {Q : Rz → Prop} (q : fa δ fun x => (∃ s, x.d = .str s) ∧ fb δ fun y => m x.d y.d Q) : eMs m fa fb δ Q := q
theorem joinL_one : ∀ cs : List Nat, TL.joinL [] (cs.map fun c => [c]) = cs
  | [] => rfl
  | [_] => rfl
  | c :: d :: r => by
    show [c] ++ ([] ++ TL.joinL [] ((d :: r).map fun c => [c])) = c :: d :: r
    rw [joinL_one (d :: r)]
    rfl
theorem join_one (cs : List Nat) : Txt.join (tx []) (cs.map fun c => tx [c]) = tx cs := by
  refine TL.ext_tl ?_
  rw [TL.join_eq, TL.tl_join, List.map_map]
  show TL.joinL [] (cs.map fun c => [c]) = cs
  exact joinL_one cs
theorem str_num (n : Nat) : Str.ofString (toString ((n : Nat) : Int)) = tx (TL.numL n) := TL.ext_tl (by rw [TL.tl_num]; simp [TL.tl, tx])
theorem log_num {n : Nat} (h : n < 10 ^ 100) : ((n : Nat) : Int).natAbs.log2 < 1920 := by
  rw [Int.natAbs_natCast]
  by_cases h0 : n = 0
  · subst h0; decide
  · rw [Nat.log2_lt h0]
    exact Nat.lt_of_lt_of_le h (by decide)
theorem ss_str {n : Nat} {Q : Rz → Prop} (h : n < 10 ^ 100) (q : Q (.val (.str (tx (TL.numL n))))) : strD [.int (n : Int)] Q := ⟨log_num h, by rw [str_num]; exact q⟩
theorem ss_join {ds : List D} {Q : Rz → Prop} (hl : ds.length ≤ 1000000) (h : ∀ d ∈ ds, ∃ c, d = .str (tx [c])) (q : ∀ cs : List Nat, cs.length = ds.length → Q (.val (.str (tx cs)))) : joinD (.str (tx [])) (.lst ds) Q := by
  have key : ∀ ds : List D, (∀ d ∈ ds, ∃ c, d = .str (tx [c])) → ∃ cs : List Nat, ds = cs.map fun c => .str (tx [c]) := by
    intro ds
    induction ds with
    | nil => exact fun _ => ⟨[], rfl⟩
    | cons d r ih =>
      intro h
      obtain ⟨c, e⟩ := h d List.mem_cons_self
      obtain ⟨cs, e2⟩ := ih fun x hx => h x (List.mem_cons_of_mem _ hx)
      exact ⟨c :: cs, by rw [e, e2]; rfl⟩
  obtain ⟨cs, rfl⟩ := key ds h
  refine ⟨cs.map fun c => tx [c], by rw [List.map_map]; rfl, ?_, ?_⟩
  · rw [List.length_map] at hl
    have e : ∀ cs : List Nat, ((cs.map fun c => tx [c]).map (·.length)).sum = cs.length := by
      intro cs
      induction cs with
      | nil => rfl
      | cons c r ih => rw [List.map_cons, List.map_cons, List.sum_cons, ih, tx_len]; simp; omega
    rw [e, tx_len]
    simp
    omega
  · rw [join_one]
    exact q cs (by rw [List.length_map])
theorem lc_each {δ : DEnv} {i : Nat} {fe : EV} (R : D → Prop) (xs : List D) {Q : List D → Prop} (h : ∀ x ∈ xs, ∀ Q : Rz → Prop, (∀ r : Rz, R r.d → Q r) → fe (δ.set i (.val x)) Q) (q : ∀ ds : List D, ds.length = xs.length → (∀ d ∈ ds, R d) → Q ds) : lcL δ (.one i) tTrue fe xs Q :=
  lc_any (fun _ d => R d) xs h fun ds hl hd => q ds hl fun d hm => by
    obtain ⟨j, hj⟩ := List.mem_iff_getElem?.mp hm
    have hlt : j < xs.length := by rw [← hl]; exact (List.getElem?_eq_some_iff.mp hj).1
    exact hd j _ d (List.getElem?_eq_getElem hlt) hj
theorem rng_len (a : Int) (n : Nat) : (rngD a n).length = n := by unfold rngD; rw [List.length_map, List.length_range]
/-- all([p(x) for x in xs]) -/
theorem lc_all {δ : DEnv} {i : Nat} {fe : EV} (p : D → Bool) (xs : List D) {Q : List D → Prop} (h : ∀ x ∈ xs, ∀ Q : Rz → Prop, Q (.val (.bl (p x))) → fe (δ.set i (.val x)) Q) (q : Q (xs.map fun x => .bl (p x))) : lcL δ (.one i) tTrue fe xs Q :=
  lc_map (fun x => .bl (p x)) xs h q
end DI

namespace Law
open PySem L2 DI
abbrev S__law_draw : DI.Spec := drawS
def c_LETTERS : D := .str "abcdefghijklmnopqrstuvwxyz"
def c_DIGITS : D := .str "0123456789"
def c_MOST_LETTERS : D := .int 6
def c_MOST_DIGITS : D := .int 6
def c_SIGNS : D := .str "=+-*<(),{}"
def b_is_plain  : SV := sSeq (sIf (tO (tCmp eqB (eV 0) (eC (.str ""))) (tNt (tE (eTr (eCall allD (aCons (eLc (iSeq (eV 0)) (.one 1) tTrue (eTr (eOp (inD false) (eV 1) (eC c_DIGITS))) [1]) (aNil))))))) (sRet (eC (.bl false))) (sSkip))
  (sRet (eOr (eTr (eOp eqB (eV 0) (eC (.str "0")))) (eTr (eOp neB (eOp ixD (eV 0) (eC (.int 0))) (eC (.str "0"))))))
def S_is_plain : DI.Spec := bodyS 2 1 (b_is_plain )
def b_read_numeral (S_is_plain : DI.Spec) : SV := sSeq (sIf (tO (tNt (tE (eIsi "str" (eV 0)))) (tO (tCmp gtB (eTr (eCall lenD (aCons (eV 0) (aNil)))) (eC c_MOST_DIGITS)) (tNt (tE (eCall S_is_plain (aCons (eV 0) (aNil))))))) (sRet (eC .non)) (sSkip))
  (sRet (eTr (eCall intD (aCons (eV 0) (aNil)))))
def S_read_numeral : DI.Spec := bodyS 1 1 (b_read_numeral S_is_plain)
def b_run_end  : SV := sSeq (sWh (tAn (tCmp ltB (eV 1) (eTr (eCall lenD (aCons (eV 0) (aNil))))) (tCmp (inD false) (eOp ixD (eV 0) (eV 1)) (eV 2))) (sAug 1 (eC (.int 1))))
  (sRet (eV 1))
def S_run_end : DI.Spec := bodyS 3 3 (b_run_end )
def b_tokens_of (S_run_end : DI.Spec) (S_read_numeral : DI.Spec) : SV := sSeq (sPar2 1 2 (eLst (aNil)) (eC (.int 0)))
  (sSeq (sWh (tCmp ltB (eV 2) (eTr (eCall lenD (aCons (eV 0) (aNil))))) (sSeq (sPar2 3 4 (eV 2) (eFz (eOp ixD (eV 0) (eV 2))))
  (sIf (tCmp eqB (eV 4) (eC (.str " "))) (sAug 2 (eC (.int 1))) (sIf (tCmp (inD false) (eV 4) (eC c_LETTERS)) (sSeq (sAsg 2 (eFz (eCall S_run_end (aCons (eV 0) (aCons (eV 2) (aCons (eC c_LETTERS) (aNil)))))))
  (sSeq (sIf (tCmp gtB (eOp subD (eV 2) (eV 3)) (eC c_MOST_LETTERS)) (sFrz 1 (sRet (eOp addD (eV 1) (eLst (aCons (eTup (aCons (eV 3) (aCons (eC (.str "bad word")) (aCons (eC (.str "")) (aNil))))) (aNil)))))) (sSkip))
  (sApp 1 (eTup (aCons (eV 3) (aCons (eC (.str "word")) (aCons (eSl (eV 0) (oSome (eV 3)) (oSome (eV 2))) (aNil)))))))) (sIf (tCmp (inD false) (eV 4) (eC c_DIGITS)) (sSeq (sAsg 2 (eFz (eCall S_run_end (aCons (eV 0) (aCons (eV 2) (aCons (eC c_DIGITS) (aNil)))))))
  (sSeq (sIf (tCmp isB (eCall S_read_numeral (aCons (eSl (eV 0) (oSome (eV 3)) (oSome (eV 2))) (aNil))) (eC .non)) (sFrz 1 (sRet (eOp addD (eV 1) (eLst (aCons (eTup (aCons (eV 3) (aCons (eC (.str "bad number")) (aCons (eC (.str "")) (aNil))))) (aNil)))))) (sSkip))
  (sApp 1 (eTup (aCons (eV 3) (aCons (eC (.str "number")) (aCons (eSl (eV 0) (oSome (eV 3)) (oSome (eV 2))) (aNil)))))))) (sIf (tCmp (inD false) (eV 4) (eC c_SIGNS)) (sSeq (sAug 2 (eC (.int 1)))
  (sApp 1 (eTup (aCons (eV 3) (aCons (eC (.str "sign")) (aCons (eV 4) (aNil))))))) (sFrz 1 (sRet (eOp addD (eV 1) (eLst (aCons (eTup (aCons (eV 3) (aCons (eC (.str "bad sign")) (aCons (eC (.str "")) (aNil))))) (aNil))))))))))))
  (sFrz 1 (sRet (eOp addD (eV 1) (eLst (aCons (eTup (aCons (eTr (eCall lenD (aCons (eV 0) (aNil)))) (aCons (eC (.str "end")) (aCons (eC (.str "")) (aNil))))) (aNil)))))))
def S_tokens_of : DI.Spec := bodyS 5 1 (b_tokens_of S_run_end S_read_numeral)
def b__law_of (S__law_draw : DI.Spec) : SV := sRet (eOp ixD (eV 1) (eCall S__law_draw (aCons (eV 0) (aCons (eTr (eCall lenD (aCons (eV 1) (aNil)))) (aNil)))))
def S__law_of : DI.Spec := bodyS 2 2 (b__law_of S__law_draw)
def b__law_same (S__law_same : DI.Spec) : SV := sSeq (sIf (tE (eIsi "dict" (eV 1))) (sNever) (sSkip))
  (sSeq (sIf (tE (eIsi2 "list" "tuple" (eV 1))) (sSeq (sIf (tO (tCmp neB (eIsi "list" (eV 0)) (eIsi "list" (eV 1))) (tCmp neB (eIsi "tuple" (eV 0)) (eIsi "tuple" (eV 1)))) (sRet (eC (.bl false))) (sSkip))
  (sRet (eAnd (eTr (eOp eqB (eTr (eCall lenD (aCons (eV 0) (aNil)))) (eTr (eCall lenD (aCons (eV 1) (aNil)))))) (eTr (eCall allD (aCons (eLc (iZp (eV 0) (eV 1)) (.tup [3, 4]) tTrue (eTr (eCall S__law_same (aCons (eV 3) (aCons (eV 4) (aNil))))) [3, 4]) (aNil))))))) (sSkip))
  (sSeq (sIf (tO (tCmp isB (eV 1) (eC .non)) (tCmp isB (eV 0) (eC .non))) (sRet (eAnd (eTr (eOp isB (eV 1) (eC .non))) (eTr (eOp isB (eV 0) (eC .non))))) (sSkip))
  (sSeq (sIf (tO (tCmp neB (eIsi "bool" (eV 0)) (eIsi "bool" (eV 1))) (tCmp neB (eIsi "int" (eV 0)) (eIsi "int" (eV 1)))) (sRet (eC (.bl false))) (sSkip))
  (sRet (eAnd (eTr (eOp eqB (eIsi "str" (eV 0)) (eIsi "str" (eV 1)))) (eTr (eOp eqB (eV 0) (eV 1))))))))
def Sr__law_same : Nat → DI.Spec
  | 0 => fun _ _ => False
  | n + 1 => bodyS 5 2 (b__law_same (Sr__law_same n))
abbrev S__law_same : DI.Spec := Sr__law_same 8
def b__law_keywords  : SV := sRet (eLst (aCons (eC (.str "let")) (aCons (eC (.str "set")) (aCons (eC (.str "out")) (aCons (eC (.str "read")) (aCons (eC (.str "do")) (aCons (eC (.str "def")) (aCons (eC (.str "if")) (aCons (eC (.str "else")) (aCons (eC (.str "repeat")) (aCons (eC (.str "block")) (aNil))))))))))))
def S__law_keywords : DI.Spec := bodyS 0 0 (b__law_keywords )
def b__law_letters  : SV := sRet (eC (.str "abcdefghijklmnopqrstuvwxyz"))
def S__law_letters : DI.Spec := bodyS 0 0 (b__law_letters )
def b__law_is_digit  : SV := sRet (eTr (eOp (inD false) (eV 0) (eC (.str "0123456789"))))
def S__law_is_digit : DI.Spec := bodyS 1 1 (b__law_is_digit )
def b__law_tokens (S__law_letters : DI.Spec) (S__law_is_digit : DI.Spec) : SV := sSeq (sPar2 1 2 (eLst (aNil)) (eC (.int 0)))
  (sSeq (sWh (tCmp ltB (eV 2) (eTr (eCall lenD (aCons (eV 0) (aNil))))) (sSeq (sPar2 3 4 (eFz (eOp ixD (eV 0) (eV 2))) (eFz (eOp addD (eV 2) (eC (.int 1)))))
  (sSeq (sIf (tCmp eqB (eV 3) (eC (.str " "))) (sSeq (sAsg 2 (eFz (eOp addD (eV 2) (eC (.int 1)))))
  (sCnt)) (sSkip))
  (sSeq (sAsg 5 (eFz (eIf (tCmp (inD false) (eV 3) (eCall S__law_letters aNil)) (eCall S__law_letters aNil) (eIf (tE (eCall S__law_is_digit (aCons (eV 3) (aNil)))) (eC (.str "0123456789")) (eC (.str ""))))))
  (sSeq (sIf (tAn (tCmp eqB (eV 5) (eC (.str ""))) (tCmp (inD true) (eV 3) (eC (.str "=+-*<(),{}")))) (sFrz 1 (sRet (eOp addD (eV 1) (eLst (aCons (eTup (aCons (eV 2) (aCons (eC (.str "bad sign")) (aCons (eC (.str "")) (aNil))))) (aNil)))))) (sSkip))
  (sSeq (sWh (tAn (tCmp neB (eV 5) (eC (.str ""))) (tAn (tCmp ltB (eV 4) (eTr (eCall lenD (aCons (eV 0) (aNil))))) (tCmp (inD false) (eOp ixD (eV 0) (eV 4)) (eV 5)))) (sAsg 4 (eFz (eOp addD (eV 4) (eC (.int 1))))))
  (sSeq (sAsg 6 (eFz (eSl (eV 0) (oSome (eV 2)) (oSome (eV 4)))))
  (sSeq (sIf (tAn (tCmp eqB (eV 5) (eC (.str "0123456789"))) (tO (tCmp gtB (eTr (eCall lenD (aCons (eV 6) (aNil)))) (eC (.int 6))) (tAn (tCmp gtB (eTr (eCall lenD (aCons (eV 6) (aNil)))) (eC (.int 1))) (tCmp eqB (eOp ixD (eV 6) (eC (.int 0))) (eC (.str "0")))))) (sFrz 1 (sRet (eOp addD (eV 1) (eLst (aCons (eTup (aCons (eV 2) (aCons (eC (.str "bad number")) (aCons (eC (.str "")) (aNil))))) (aNil)))))) (sSkip))
  (sSeq (sIf (tAn (tCmp eqB (eV 5) (eCall S__law_letters aNil)) (tCmp gtB (eTr (eCall lenD (aCons (eV 6) (aNil)))) (eC (.int 6)))) (sFrz 1 (sRet (eOp addD (eV 1) (eLst (aCons (eTup (aCons (eV 2) (aCons (eC (.str "bad word")) (aCons (eC (.str "")) (aNil))))) (aNil)))))) (sSkip))
  (sSeq (sApp 1 (eTup (aCons (eV 2) (aCons (eIf (tCmp eqB (eV 5) (eC (.str ""))) (eC (.str "sign")) (eIf (tCmp eqB (eV 5) (eC (.str "0123456789"))) (eC (.str "number")) (eC (.str "word")))) (aCons (eV 6) (aNil))))))
  (sAsg 2 (eV 4))))))))))))
  (sFrz 1 (sRet (eOp addD (eV 1) (eLst (aCons (eTup (aCons (eTr (eCall lenD (aCons (eV 0) (aNil)))) (aCons (eC (.str "end")) (aCons (eC (.str "")) (aNil))))) (aNil)))))))
def S__law_tokens : DI.Spec := bodyS 7 1 (b__law_tokens S__law_letters S__law_is_digit)
def b_law (S__law_same : DI.Spec) (S__law_tokens : DI.Spec) (S__law_draw : DI.Spec) (S_tokens_of : DI.Spec) (S__law_of : DI.Spec) (S__law_letters : DI.Spec) (S__law_keywords : DI.Spec) : SV := sSeq (sFor (iRg1 (eC (.int 10))) (.one 2) (sSeq (sAsg 3 (eC (.str "")))
  (sSeq (sFor (iRg1 (eCall S__law_draw (aCons (eV 1) (aCons (eC (.int 12)) (aNil))))) (.one 4) (sSeq (sAsg 5 (eTr (eMs joinD (eC (.str "")) (eLc (iRg1 (eOp addD (eC (.int 1)) (eCall S__law_draw (aCons (eV 1) (aCons (eC (.int 6)) (aNil)))))) (.one 14) tTrue (eCall S__law_of (aCons (eV 1) (aCons (eCall S__law_letters aNil) (aNil)))) [14]))))
  (sSeq (sAsg 6 (eTr (eCall strD (aCons (eCall S__law_draw (aCons (eV 1) (aCons (eCall S__law_of (aCons (eV 1) (aCons (eLst (aCons (eC (.int 10)) (aCons (eC (.int 1000)) (aCons (eC (.int 1000000)) (aNil))))) (aNil)))) (aNil)))) (aNil)))))
  (sSeq (sAsg 7 (eFz (eCall S__law_of (aCons (eV 1) (aCons (eLst (aCons (eV 5) (aCons (eV 6) (aCons (eV 5) (aCons (eV 6) (aCons (eCall S__law_of (aCons (eV 1) (aCons (eC (.str "=+-*<(),{}")) (aNil)))) (aCons (eCall S__law_of (aCons (eV 1) (aCons (eC (.str "=+-*<(),{}")) (aNil)))) (aCons (eC (.str " ")) (aCons (eC (.str "   ")) (aCons (eCall S__law_of (aCons (eV 1) (aCons (eCall S__law_keywords aNil) (aNil)))) (aNil))))))))))) (aNil))))))
  (sSeq (sIf (tCmp eqB (eCall S__law_draw (aCons (eV 1) (aCons (eC (.int 25)) (aNil)))) (eC (.int 0))) (sAsg 7 (eFz (eCall S__law_of (aCons (eV 1) (aCons (eLst (aCons (eOp addD (eV 5) (eC (.str "abcdefg"))) (aCons (eOp addD (eC (.str "0")) (eV 6)) (aCons (eC (.str "1234567")) (aCons (eC (.str "A")) (aCons (eC (.str ".")) (aCons (eC (.str "_")) (aCons (eC (.str "!")) (aCons (eC (.str "~")) (aCons (eC (.str ">")) (aCons (eC (.str "[")) (aCons (eC (.str "00")) (aCons (eC (.str "/")) (aNil)))))))))))))) (aNil)))))) (sSkip))
  (sSeq (sAsg 8 (eAnd (eTr (eOp neB (eV 3) (eC (.str "")))) (eAnd (eTr (eOp (inD false) (eSl (eV 3) (oSome (eOp subD (eTr (eCall lenD (aCons (eV 3) (aNil)))) (eC (.int 1)))) (oNo)) (eC (.str "0123456789")))) (eTr (eOp (inD false) (eSl (eV 7) (oNo) (oSome (eC (.int 1)))) (eC (.str "0123456789")))))))
  (sAsg 3 (eFz (eOp addD (eOp addD (eOp addD (eV 3) (eIf (tE (eV 8)) (eC (.str " ")) (eC (.str "")))) (eV 7)) (eCall S__law_of (aCons (eV 1) (aCons (eLst (aCons (eC (.str "")) (aCons (eC (.str " ")) (aCons (eC (.str " ")) (aNil))))) (aNil)))))))))))))
  (sSeq (sAsg 9 (eFz (eCall S__law_tokens (aCons (eV 3) (aNil)))))
  (sSeq (sFor (iRg1 (eC (.int 2))) (.one 10) (sSeq (sAsg 11 (eCall S_tokens_of (aCons (eV 3) (aNil))))
  (sSeq (sIf (tNt (tE (eTr (eCall S__law_same (aCons (eLst (aCons (eV 11) (aCons (eCallK 0 1 [0] S_tokens_of aNil (aCons (eV 3) (aNil))) (aNil)))) (aCons (eLst (aCons (eV 9) (aCons (eV 9) (aNil)))) (aNil))))))) (sRet (eC (.bl false))) (sSkip))
  (sClr 11))))
  (sSeq (sAsg 12 (eFz (eCall S__law_draw (aCons (eV 1) (aCons (eOp addD (eTr (eCall lenD (aCons (eV 3) (aNil)))) (eC (.int 1))) (aNil))))))
  (sFor (iSeq (eLst (aCons (eSl (eV 3) (oNo) (oSome (eV 12))) (aCons (eSl (eV 3) (oSome (eV 12)) (oNo)) (aCons (eOp addD (eC (.str " ")) (eV 3)) (aCons (eOp addD (eV 3) (eC (.str "  "))) (aNil))))))) (.one 13) (sIf (tNt (tE (eTr (eCall S__law_same (aCons (eCall S_tokens_of (aCons (eV 13) (aNil))) (aCons (eCall S__law_tokens (aCons (eV 13) (aNil))) (aNil))))))) (sRet (eC (.bl false))) (sSkip)))))))))
  (sSeq (sAsg 11 (eLst (aCons (eCall S_tokens_of (aCons (eC (.str "")) (aNil))) (aCons (eCall S_tokens_of (aCons (eC (.str "  ")) (aNil))) (aCons (eCall S_tokens_of (aCons (eC (.str "ab1")) (aNil))) (aCons (eCall S_tokens_of (aCons (eC (.str "1ab")) (aNil))) (aCons (eCall S_tokens_of (aCons (eC (.str "a  <{")) (aNil))) (aCons (eCall S_tokens_of (aCons (eC (.str "abcdefg 01")) (aNil))) (aCons (eCall S_tokens_of (aCons (eC (.str "01 ?")) (aNil))) (aNil))))))))))
  (sSeq (sAsg 9 (eFz (eLst (aCons (eLst (aCons (eTup (aCons (eC (.int 0)) (aCons (eC (.str "end")) (aCons (eC (.str "")) (aNil))))) (aNil))) (aCons (eLst (aCons (eTup (aCons (eC (.int 2)) (aCons (eC (.str "end")) (aCons (eC (.str "")) (aNil))))) (aNil))) (aCons (eLst (aCons (eTup (aCons (eC (.int 0)) (aCons (eC (.str "word")) (aCons (eC (.str "ab")) (aNil))))) (aCons (eTup (aCons (eC (.int 2)) (aCons (eC (.str "number")) (aCons (eC (.str "1")) (aNil))))) (aCons (eTup (aCons (eC (.int 3)) (aCons (eC (.str "end")) (aCons (eC (.str "")) (aNil))))) (aNil))))) (aCons (eLst (aCons (eTup (aCons (eC (.int 0)) (aCons (eC (.str "number")) (aCons (eC (.str "1")) (aNil))))) (aCons (eTup (aCons (eC (.int 1)) (aCons (eC (.str "word")) (aCons (eC (.str "ab")) (aNil))))) (aCons (eTup (aCons (eC (.int 3)) (aCons (eC (.str "end")) (aCons (eC (.str "")) (aNil))))) (aNil))))) (aCons (eLst (aCons (eTup (aCons (eC (.int 0)) (aCons (eC (.str "word")) (aCons (eC (.str "a")) (aNil))))) (aCons (eTup (aCons (eC (.int 3)) (aCons (eC (.str "sign")) (aCons (eC (.str "<")) (aNil))))) (aCons (eTup (aCons (eC (.int 4)) (aCons (eC (.str "sign")) (aCons (eC (.str "{")) (aNil))))) (aCons (eTup (aCons (eC (.int 5)) (aCons (eC (.str "end")) (aCons (eC (.str "")) (aNil))))) (aNil)))))) (aCons (eLst (aCons (eTup (aCons (eC (.int 0)) (aCons (eC (.str "bad word")) (aCons (eC (.str "")) (aNil))))) (aNil))) (aCons (eLst (aCons (eTup (aCons (eC (.int 0)) (aCons (eC (.str "bad number")) (aCons (eC (.str "")) (aNil))))) (aNil))) (aNil)))))))))))
  (sRet (eTr (eCall S__law_same (aCons (eV 11) (aCons (eV 9) (aNil))))))))
end Law

namespace Law
open PySem L2 DI
def aL : List Nat := List.range' 97 26
def dL : List Nat := List.range' 48 10
def sL : List Nat := [61, 43, 45, 42, 60, 40, 41, 44, 123, 125]
theorem let_eq : c_LETTERS = .str (tx aL) := by unfold c_LETTERS; rw [show (Str.ofString "abcdefghijklmnopqrstuvwxyz") = tx aL by decide +kernel]
theorem dig_eq : c_DIGITS = .str (tx dL) := by unfold c_DIGITS; rw [show (Str.ofString "0123456789") = tx dL by decide +kernel]
theorem sgn_eq : c_SIGNS = .str (tx sL) := by unfold c_SIGNS; rw [show (Str.ofString "=+-*<(),{}") = tx sL by decide +kernel]
def runE (S cs : List Nat) (a : Nat) : Nat := a + ((cs.drop a).takeWhile fun c => decide (c ∈ S)).length
theorem runE_in {S cs : List Nat} {a c : Nat} (h : cs[a]? = some c) (hc : c ∈ S) : runE S cs a = runE S cs (a + 1) := by
  unfold runE
  obtain ⟨h1, h2⟩ := List.getElem?_eq_some_iff.mp h
  rw [List.drop_eq_getElem_cons h1, h2, List.takeWhile_cons, if_pos (decide_eq_true hc), List.length_cons]
  omega
theorem runE_out {S cs : List Nat} {a c : Nat} (h : cs[a]? = some c) (hc : c ∉ S) : runE S cs a = a := by
  unfold runE
  obtain ⟨h1, h2⟩ := List.getElem?_eq_some_iff.mp h
  rw [List.drop_eq_getElem_cons h1, h2, List.takeWhile_cons, if_neg (by simpa using hc)]
  rfl
theorem runE_end {S cs : List Nat} {a : Nat} (h : cs.length ≤ a) : runE S cs a = a := by
  unfold runE
  rw [List.drop_eq_nil_of_le h]
  rfl
theorem runE_ge (S cs : List Nat) (a : Nat) : a ≤ runE S cs a := Nat.le_add_right _ _
theorem runE_le (S : List Nat) {cs : List Nat} {a : Nat} (h : a ≤ cs.length) : runE S cs a ≤ cs.length := by
  unfold runE
  have := (List.takeWhile_sublist (fun c => decide (c ∈ S)) (l := cs.drop a)).length_le
  rw [List.length_drop] at this
  omega
theorem run_end_ok {cs S : List Nat} {a : Nat} (hl : cs.length ≤ 100000) (ha : a ≤ cs.length) {Q : Rz → Prop} (q : Q (.val (.int (runE S cs a : Nat)))) : S_run_end [.str (tx cs), .int (a : Int), .str (tx S)] Q := by
  refine st_body rfl ?_
  unfold b_run_end
  refine st_seq ?_
  refine wh_by (J := fun m δ => ∃ k : Nat, m = cs.length - k ∧ k ≤ cs.length ∧ runE S cs k = runE S cs a ∧ δ = [.val (.str (tx cs)), .val (.int (k : Int)), .val (.str (tx S))]) ?_ (n := cs.length - a) ⟨a, rfl, ha, rfl, rfl⟩
  rintro m δ N ⟨k, rfl, hk, he, rfl⟩ hN
  (repeat (first | with_reducible refine ss_ix (by assumption) (by assumption) ?_ | with_reducible refine ss_len (by assumption) ?_ | with_reducible refine ss_in ?_ | with_reducible refine ss_nin ?_ | with_reducible refine ss_eq ?_ | with_reducible refine ss_ne ?_ | with_reducible refine ss_mid (by assumption) ?_ | with_reducible refine ss_to (by assumption) ?_ | with_reducible refine ss_from (by assumption) ?_ | with_reducible refine ss_is ?_ | with_reducible refine ss_isnt ?_ | with_reducible refine ss_aug ?_ | with_reducible refine st_nx ?_ | with_reducible refine st_rt ?_ | with_reducible refine st_bk ?_ | with_reducible refine st_ct ?_ | with_reducible refine st_bind1 ?_ | with_reducible refine st_v (by with_unfolding_all rfl) ?_ | with_reducible refine st_seq ?_ | with_reducible refine st_skip ?_ | with_reducible refine st_asg ?_ | with_reducible refine st_ret ?_ | with_reducible refine st_if ?_ | with_reducible refine st_for ?_ | with_reducible refine st_par2 ?_ | with_reducible refine st_par3 ?_ | with_reducible refine st_asgT ?_ | with_reducible refine st_drop ?_ | with_reducible refine st_brk ?_ | with_reducible refine st_cnt ?_ | with_reducible refine st_tE ?_ | with_reducible refine st_tCmp ?_ | with_reducible refine st_tNt ?_ | with_reducible refine st_tAn ?_ | with_reducible refine st_tO ?_ | with_reducible refine st_tT ?_ | with_reducible refine st_c ?_ | with_reducible refine st_tr ?_ | with_reducible refine st_fz ?_ | with_reducible refine st_op ?_ | with_reducible refine st_call ?_ | with_reducible refine st_callK ?_ | with_reducible refine st_lst ?_ | with_reducible refine st_tup ?_ | with_reducible refine st_sl ?_ | with_reducible refine st_eif ?_ | with_reducible refine st_and ?_ | with_reducible refine st_or ?_ | with_reducible refine st_not ?_ | with_reducible refine st_neg ?_ | with_reducible refine st_isi ?_ | with_reducible refine st_lc ?_ | with_reducible refine st_dc ?_ | with_reducible refine st_anil ?_ | with_reducible refine st_acons ?_ | with_reducible refine st_ono ?_ | with_reducible refine st_osome ?_ | with_reducible refine st_iseq ?_ | with_reducible refine st_irg1 ?_ | with_reducible refine st_izp ?_ | with_reducible refine sd_addI ?_ | with_reducible refine sd_subI ?_ | with_reducible refine sd_lenL ?_ | with_reducible refine sd_lenT ?_ | with_reducible refine sd_list ?_ | with_reducible refine sd_tuple ?_ | with_reducible refine sd_lt ?_ | with_reducible refine sd_le ?_ | with_reducible refine sd_gt ?_ | with_reducible refine sd_ge ?_ | with_reducible refine sd_eqI ?_ | with_reducible refine sd_neI ?_ | with_reducible refine sd_eqS ?_ | with_reducible refine sd_neS ?_ | with_reducible refine sd_slL ?_ | with_reducible refine sd_slT ?_ | with_reducible refine sd_int ?_ | with_reducible refine st_app (by with_unfolding_all rfl) ?_ | with_reducible refine st_clr (by with_unfolding_all rfl) ?_ | with_reducible refine st_retO (by with_unfolding_all rfl) ?_ | with_reducible refine st_retV (by with_unfolding_all rfl) ?_ | with_reducible refine st_aug (by with_unfolding_all rfl) ?_ | with_reducible refine And.intro (by with_unfolding_all rfl) ?_ | with_reducible refine Exists.intro _ (And.intro (by with_unfolding_all rfl) ?_) | with_reducible refine And.intro (le_size (by with_unfolding_all rfl)) ?_ | with_reducible refine st_frz (by with_unfolding_all rfl) ?_))
  by_cases h : k < cs.length
  · rw [decide_eq_true (p := (k : Int) < (cs.length : Int)) (by omega)]
    refine iteT ?_
    have hc : cs[k]? = some cs[k] := List.getElem?_eq_getElem h
    (repeat (first | with_reducible refine ss_ix (by assumption) (by assumption) ?_ | with_reducible refine ss_len (by assumption) ?_ | with_reducible refine ss_in ?_ | with_reducible refine ss_nin ?_ | with_reducible refine ss_eq ?_ | with_reducible refine ss_ne ?_ | with_reducible refine ss_mid (by assumption) ?_ | with_reducible refine ss_to (by assumption) ?_ | with_reducible refine ss_from (by assumption) ?_ | with_reducible refine ss_is ?_ | with_reducible refine ss_isnt ?_ | with_reducible refine ss_aug ?_ | with_reducible refine st_nx ?_ | with_reducible refine st_rt ?_ | with_reducible refine st_bk ?_ | with_reducible refine st_ct ?_ | with_reducible refine st_bind1 ?_ | with_reducible refine st_v (by with_unfolding_all rfl) ?_ | with_reducible refine st_seq ?_ | with_reducible refine st_skip ?_ | with_reducible refine st_asg ?_ | with_reducible refine st_ret ?_ | with_reducible refine st_if ?_ | with_reducible refine st_for ?_ | with_reducible refine st_par2 ?_ | with_reducible refine st_par3 ?_ | with_reducible refine st_asgT ?_ | with_reducible refine st_drop ?_ | with_reducible refine st_brk ?_ | with_reducible refine st_cnt ?_ | with_reducible refine st_tE ?_ | with_reducible refine st_tCmp ?_ | with_reducible refine st_tNt ?_ | with_reducible refine st_tAn ?_ | with_reducible refine st_tO ?_ | with_reducible refine st_tT ?_ | with_reducible refine st_c ?_ | with_reducible refine st_tr ?_ | with_reducible refine st_fz ?_ | with_reducible refine st_op ?_ | with_reducible refine st_call ?_ | with_reducible refine st_callK ?_ | with_reducible refine st_lst ?_ | with_reducible refine st_tup ?_ | with_reducible refine st_sl ?_ | with_reducible refine st_eif ?_ | with_reducible refine st_and ?_ | with_reducible refine st_or ?_ | with_reducible refine st_not ?_ | with_reducible refine st_neg ?_ | with_reducible refine st_isi ?_ | with_reducible refine st_lc ?_ | with_reducible refine st_dc ?_ | with_reducible refine st_anil ?_ | with_reducible refine st_acons ?_ | with_reducible refine st_ono ?_ | with_reducible refine st_osome ?_ | with_reducible refine st_iseq ?_ | with_reducible refine st_irg1 ?_ | with_reducible refine st_izp ?_ | with_reducible refine sd_addI ?_ | with_reducible refine sd_subI ?_ | with_reducible refine sd_lenL ?_ | with_reducible refine sd_lenT ?_ | with_reducible refine sd_list ?_ | with_reducible refine sd_tuple ?_ | with_reducible refine sd_lt ?_ | with_reducible refine sd_le ?_ | with_reducible refine sd_gt ?_ | with_reducible refine sd_ge ?_ | with_reducible refine sd_eqI ?_ | with_reducible refine sd_neI ?_ | with_reducible refine sd_eqS ?_ | with_reducible refine sd_neS ?_ | with_reducible refine sd_slL ?_ | with_reducible refine sd_slT ?_ | with_reducible refine sd_int ?_ | with_reducible refine st_app (by with_unfolding_all rfl) ?_ | with_reducible refine st_clr (by with_unfolding_all rfl) ?_ | with_reducible refine st_retO (by with_unfolding_all rfl) ?_ | with_reducible refine st_retV (by with_unfolding_all rfl) ?_ | with_reducible refine st_aug (by with_unfolding_all rfl) ?_ | with_reducible refine And.intro (by with_unfolding_all rfl) ?_ | with_reducible refine Exists.intro _ (And.intro (by with_unfolding_all rfl) ?_) | with_reducible refine And.intro (le_size (by with_unfolding_all rfl)) ?_ | with_reducible refine st_frz (by with_unfolding_all rfl) ?_))
    by_cases hi : cs[k] ∈ S
    · rw [decide_eq_true hi]
      refine iteT ?_
      (repeat (first | with_reducible refine ss_ix (by assumption) (by assumption) ?_ | with_reducible refine ss_len (by assumption) ?_ | with_reducible refine ss_in ?_ | with_reducible refine ss_nin ?_ | with_reducible refine ss_eq ?_ | with_reducible refine ss_ne ?_ | with_reducible refine ss_mid (by assumption) ?_ | with_reducible refine ss_to (by assumption) ?_ | with_reducible refine ss_from (by assumption) ?_ | with_reducible refine ss_is ?_ | with_reducible refine ss_isnt ?_ | with_reducible refine ss_aug ?_ | with_reducible refine st_nx ?_ | with_reducible refine st_rt ?_ | with_reducible refine st_bk ?_ | with_reducible refine st_ct ?_ | with_reducible refine st_bind1 ?_ | with_reducible refine st_v (by with_unfolding_all rfl) ?_ | with_reducible refine st_seq ?_ | with_reducible refine st_skip ?_ | with_reducible refine st_asg ?_ | with_reducible refine st_ret ?_ | with_reducible refine st_if ?_ | with_reducible refine st_for ?_ | with_reducible refine st_par2 ?_ | with_reducible refine st_par3 ?_ | with_reducible refine st_asgT ?_ | with_reducible refine st_drop ?_ | with_reducible refine st_brk ?_ | with_reducible refine st_cnt ?_ | with_reducible refine st_tE ?_ | with_reducible refine st_tCmp ?_ | with_reducible refine st_tNt ?_ | with_reducible refine st_tAn ?_ | with_reducible refine st_tO ?_ | with_reducible refine st_tT ?_ | with_reducible refine st_c ?_ | with_reducible refine st_tr ?_ | with_reducible refine st_fz ?_ | with_reducible refine st_op ?_ | with_reducible refine st_call ?_ | with_reducible refine st_callK ?_ | with_reducible refine st_lst ?_ | with_reducible refine st_tup ?_ | with_reducible refine st_sl ?_ | with_reducible refine st_eif ?_ | with_reducible refine st_and ?_ | with_reducible refine st_or ?_ | with_reducible refine st_not ?_ | with_reducible refine st_neg ?_ | with_reducible refine st_isi ?_ | with_reducible refine st_lc ?_ | with_reducible refine st_dc ?_ | with_reducible refine st_anil ?_ | with_reducible refine st_acons ?_ | with_reducible refine st_ono ?_ | with_reducible refine st_osome ?_ | with_reducible refine st_iseq ?_ | with_reducible refine st_irg1 ?_ | with_reducible refine st_izp ?_ | with_reducible refine sd_addI ?_ | with_reducible refine sd_subI ?_ | with_reducible refine sd_lenL ?_ | with_reducible refine sd_lenT ?_ | with_reducible refine sd_list ?_ | with_reducible refine sd_tuple ?_ | with_reducible refine sd_lt ?_ | with_reducible refine sd_le ?_ | with_reducible refine sd_gt ?_ | with_reducible refine sd_ge ?_ | with_reducible refine sd_eqI ?_ | with_reducible refine sd_neI ?_ | with_reducible refine sd_eqS ?_ | with_reducible refine sd_neS ?_ | with_reducible refine sd_slL ?_ | with_reducible refine sd_slT ?_ | with_reducible refine sd_int ?_ | with_reducible refine st_app (by with_unfolding_all rfl) ?_ | with_reducible refine st_clr (by with_unfolding_all rfl) ?_ | with_reducible refine st_retO (by with_unfolding_all rfl) ?_ | with_reducible refine st_retV (by with_unfolding_all rfl) ?_ | with_reducible refine st_aug (by with_unfolding_all rfl) ?_ | with_reducible refine And.intro (by with_unfolding_all rfl) ?_ | with_reducible refine Exists.intro _ (And.intro (by with_unfolding_all rfl) ?_) | with_reducible refine And.intro (le_size (by with_unfolding_all rfl)) ?_ | with_reducible refine st_frz (by with_unfolding_all rfl) ?_))
      exact hN (cs.length - (k + 1)) _ (by omega) ⟨k + 1, rfl, h, by rw [← he, runE_in hc hi], rfl⟩
    · rw [decide_eq_false hi]
      refine iteF ?_
      (repeat (first | with_reducible refine ss_ix (by assumption) (by assumption) ?_ | with_reducible refine ss_len (by assumption) ?_ | with_reducible refine ss_in ?_ | with_reducible refine ss_nin ?_ | with_reducible refine ss_eq ?_ | with_reducible refine ss_ne ?_ | with_reducible refine ss_mid (by assumption) ?_ | with_reducible refine ss_to (by assumption) ?_ | with_reducible refine ss_from (by assumption) ?_ | with_reducible refine ss_is ?_ | with_reducible refine ss_isnt ?_ | with_reducible refine ss_aug ?_ | with_reducible refine st_nx ?_ | with_reducible refine st_rt ?_ | with_reducible refine st_bk ?_ | with_reducible refine st_ct ?_ | with_reducible refine st_bind1 ?_ | with_reducible refine st_v (by with_unfolding_all rfl) ?_ | with_reducible refine st_seq ?_ | with_reducible refine st_skip ?_ | with_reducible refine st_asg ?_ | with_reducible refine st_ret ?_ | with_reducible refine st_if ?_ | with_reducible refine st_for ?_ | with_reducible refine st_par2 ?_ | with_reducible refine st_par3 ?_ | with_reducible refine st_asgT ?_ | with_reducible refine st_drop ?_ | with_reducible refine st_brk ?_ | with_reducible refine st_cnt ?_ | with_reducible refine st_tE ?_ | with_reducible refine st_tCmp ?_ | with_reducible refine st_tNt ?_ | with_reducible refine st_tAn ?_ | with_reducible refine st_tO ?_ | with_reducible refine st_tT ?_ | with_reducible refine st_c ?_ | with_reducible refine st_tr ?_ | with_reducible refine st_fz ?_ | with_reducible refine st_op ?_ | with_reducible refine st_call ?_ | with_reducible refine st_callK ?_ | with_reducible refine st_lst ?_ | with_reducible refine st_tup ?_ | with_reducible refine st_sl ?_ | with_reducible refine st_eif ?_ | with_reducible refine st_and ?_ | with_reducible refine st_or ?_ | with_reducible refine st_not ?_ | with_reducible refine st_neg ?_ | with_reducible refine st_isi ?_ | with_reducible refine st_lc ?_ | with_reducible refine st_dc ?_ | with_reducible refine st_anil ?_ | with_reducible refine st_acons ?_ | with_reducible refine st_ono ?_ | with_reducible refine st_osome ?_ | with_reducible refine st_iseq ?_ | with_reducible refine st_irg1 ?_ | with_reducible refine st_izp ?_ | with_reducible refine sd_addI ?_ | with_reducible refine sd_subI ?_ | with_reducible refine sd_lenL ?_ | with_reducible refine sd_lenT ?_ | with_reducible refine sd_list ?_ | with_reducible refine sd_tuple ?_ | with_reducible refine sd_lt ?_ | with_reducible refine sd_le ?_ | with_reducible refine sd_gt ?_ | with_reducible refine sd_ge ?_ | with_reducible refine sd_eqI ?_ | with_reducible refine sd_neI ?_ | with_reducible refine sd_eqS ?_ | with_reducible refine sd_neS ?_ | with_reducible refine sd_slL ?_ | with_reducible refine sd_slT ?_ | with_reducible refine sd_int ?_ | with_reducible refine st_app (by with_unfolding_all rfl) ?_ | with_reducible refine st_clr (by with_unfolding_all rfl) ?_ | with_reducible refine st_retO (by with_unfolding_all rfl) ?_ | with_reducible refine st_retV (by with_unfolding_all rfl) ?_ | with_reducible refine st_aug (by with_unfolding_all rfl) ?_ | with_reducible refine And.intro (by with_unfolding_all rfl) ?_ | with_reducible refine Exists.intro _ (And.intro (by with_unfolding_all rfl) ?_) | with_reducible refine And.intro (le_size (by with_unfolding_all rfl)) ?_ | with_reducible refine st_frz (by with_unfolding_all rfl) ?_))
      rw [show (k : Int) = ((runE S cs a : Nat) : Int) by rw [← he, runE_out hc hi]]
      exact q
  · rw [decide_eq_false (p := (k : Int) < (cs.length : Int)) (by omega)]
    refine iteF (iteF ?_)
    (repeat (first | with_reducible refine ss_ix (by assumption) (by assumption) ?_ | with_reducible refine ss_len (by assumption) ?_ | with_reducible refine ss_in ?_ | with_reducible refine ss_nin ?_ | with_reducible refine ss_eq ?_ | with_reducible refine ss_ne ?_ | with_reducible refine ss_mid (by assumption) ?_ | with_reducible refine ss_to (by assumption) ?_ | with_reducible refine ss_from (by assumption) ?_ | with_reducible refine ss_is ?_ | with_reducible refine ss_isnt ?_ | with_reducible refine ss_aug ?_ | with_reducible refine st_nx ?_ | with_reducible refine st_rt ?_ | with_reducible refine st_bk ?_ | with_reducible refine st_ct ?_ | with_reducible refine st_bind1 ?_ | with_reducible refine st_v (by with_unfolding_all rfl) ?_ | with_reducible refine st_seq ?_ | with_reducible refine st_skip ?_ | with_reducible refine st_asg ?_ | with_reducible refine st_ret ?_ | with_reducible refine st_if ?_ | with_reducible refine st_for ?_ | with_reducible refine st_par2 ?_ | with_reducible refine st_par3 ?_ | with_reducible refine st_asgT ?_ | with_reducible refine st_drop ?_ | with_reducible refine st_brk ?_ | with_reducible refine st_cnt ?_ | with_reducible refine st_tE ?_ | with_reducible refine st_tCmp ?_ | with_reducible refine st_tNt ?_ | with_reducible refine st_tAn ?_ | with_reducible refine st_tO ?_ | with_reducible refine st_tT ?_ | with_reducible refine st_c ?_ | with_reducible refine st_tr ?_ | with_reducible refine st_fz ?_ | with_reducible refine st_op ?_ | with_reducible refine st_call ?_ | with_reducible refine st_callK ?_ | with_reducible refine st_lst ?_ | with_reducible refine st_tup ?_ | with_reducible refine st_sl ?_ | with_reducible refine st_eif ?_ | with_reducible refine st_and ?_ | with_reducible refine st_or ?_ | with_reducible refine st_not ?_ | with_reducible refine st_neg ?_ | with_reducible refine st_isi ?_ | with_reducible refine st_lc ?_ | with_reducible refine st_dc ?_ | with_reducible refine st_anil ?_ | with_reducible refine st_acons ?_ | with_reducible refine st_ono ?_ | with_reducible refine st_osome ?_ | with_reducible refine st_iseq ?_ | with_reducible refine st_irg1 ?_ | with_reducible refine st_izp ?_ | with_reducible refine sd_addI ?_ | with_reducible refine sd_subI ?_ | with_reducible refine sd_lenL ?_ | with_reducible refine sd_lenT ?_ | with_reducible refine sd_list ?_ | with_reducible refine sd_tuple ?_ | with_reducible refine sd_lt ?_ | with_reducible refine sd_le ?_ | with_reducible refine sd_gt ?_ | with_reducible refine sd_ge ?_ | with_reducible refine sd_eqI ?_ | with_reducible refine sd_neI ?_ | with_reducible refine sd_eqS ?_ | with_reducible refine sd_neS ?_ | with_reducible refine sd_slL ?_ | with_reducible refine sd_slT ?_ | with_reducible refine sd_int ?_ | with_reducible refine st_app (by with_unfolding_all rfl) ?_ | with_reducible refine st_clr (by with_unfolding_all rfl) ?_ | with_reducible refine st_retO (by with_unfolding_all rfl) ?_ | with_reducible refine st_retV (by with_unfolding_all rfl) ?_ | with_reducible refine st_aug (by with_unfolding_all rfl) ?_ | with_reducible refine And.intro (by with_unfolding_all rfl) ?_ | with_reducible refine Exists.intro _ (And.intro (by with_unfolding_all rfl) ?_) | with_reducible refine And.intro (le_size (by with_unfolding_all rfl)) ?_ | with_reducible refine st_frz (by with_unfolding_all rfl) ?_))
    rw [show (k : Int) = ((runE S cs a : Nat) : Int) by rw [← he, runE_end (by omega)]]
    exact q
end Law

namespace Law
open PySem L2 DI
def allG (cs : List Nat) : Bool := cs.all fun c => decide (c ∈ dL)
def plainB (cs : List Nat) : Bool := !decide (cs = []) && allG cs && (decide (cs = [48]) || !decide (cs.head? = some 48))
theorem bls_map (cs : List Nat) (p : Nat → Bool) : blsD (cs.map fun c => D.bl (p c)) = some (cs.map p) := by
  induction cs with
  | nil => rfl
  | cons c r ih => rw [List.map_cons, blsD, ih]; rfl
theorem st_lcs {δ : DEnv} {i : Nat} {fe : EV} {p : Nat → Bool} {cs : List Nat} {Q : List D → Prop} (h : ∀ c ∈ cs, ∀ Q : Rz → Prop, Q (.val (.bl (p c))) → fe (δ.set i (.val (.str (tx [c])))) Q) (q : Q (cs.map fun c => .bl (p c))) : lcL δ (.one i) tTrue fe (cs.map fun c => .str (tx [c])) Q := by
  refine lc_map (fun d => .bl (match d with | .str z => p (z.cps.toList.headD 0) | _ => false)) _ (fun x hx Q q => ?_) ?_
  · rw [List.mem_map] at hx
    obtain ⟨c, hc, rfl⟩ := hx
    exact h c hc Q q
  · rw [List.map_map]
    exact q
theorem emp_eq : (Str.ofString "") = tx [] := by decide +kernel
theorem zero_eq : (Str.ofString "0") = tx [48] := by decide +kernel
theorem is_plain_ok {cs : List Nat} (hl : cs.length ≤ 100000) {Q : Rz → Prop} (q : Q (.val (.bl (plainB cs)))) : S_is_plain [.str (tx cs)] Q := by
  refine st_body rfl ?_
  unfold b_is_plain
  rw [dig_eq, emp_eq, zero_eq]
  (repeat (first | with_reducible refine ss_ix (by assumption) (by assumption) ?_ | with_reducible refine ss_len (by assumption) ?_ | with_reducible refine ss_in ?_ | with_reducible refine ss_nin ?_ | with_reducible refine ss_eq ?_ | with_reducible refine ss_ne ?_ | with_reducible refine ss_mid (by assumption) ?_ | with_reducible refine ss_to (by assumption) ?_ | with_reducible refine ss_from (by assumption) ?_ | with_reducible refine ss_is ?_ | with_reducible refine ss_isnt ?_ | with_reducible refine ss_aug ?_ | with_reducible refine st_nx ?_ | with_reducible refine st_rt ?_ | with_reducible refine st_bk ?_ | with_reducible refine st_ct ?_ | with_reducible refine st_bind1 ?_ | with_reducible refine st_v (by with_unfolding_all rfl) ?_ | with_reducible refine st_seq ?_ | with_reducible refine st_skip ?_ | with_reducible refine st_asg ?_ | with_reducible refine st_ret ?_ | with_reducible refine st_if ?_ | with_reducible refine st_for ?_ | with_reducible refine st_par2 ?_ | with_reducible refine st_par3 ?_ | with_reducible refine st_asgT ?_ | with_reducible refine st_drop ?_ | with_reducible refine st_brk ?_ | with_reducible refine st_cnt ?_ | with_reducible refine st_tE ?_ | with_reducible refine st_tCmp ?_ | with_reducible refine st_tNt ?_ | with_reducible refine st_tAn ?_ | with_reducible refine st_tO ?_ | with_reducible refine st_tT ?_ | with_reducible refine st_c ?_ | with_reducible refine st_tr ?_ | with_reducible refine st_fz ?_ | with_reducible refine st_op ?_ | with_reducible refine st_call ?_ | with_reducible refine st_callK ?_ | with_reducible refine st_lst ?_ | with_reducible refine st_tup ?_ | with_reducible refine st_sl ?_ | with_reducible refine st_eif ?_ | with_reducible refine st_and ?_ | with_reducible refine st_or ?_ | with_reducible refine st_not ?_ | with_reducible refine st_neg ?_ | with_reducible refine st_isi ?_ | with_reducible refine st_lc ?_ | with_reducible refine st_dc ?_ | with_reducible refine st_anil ?_ | with_reducible refine st_acons ?_ | with_reducible refine st_ono ?_ | with_reducible refine st_osome ?_ | with_reducible refine st_iseq ?_ | with_reducible refine st_irg1 ?_ | with_reducible refine st_izp ?_ | with_reducible refine sd_addI ?_ | with_reducible refine sd_subI ?_ | with_reducible refine sd_lenL ?_ | with_reducible refine sd_lenT ?_ | with_reducible refine sd_list ?_ | with_reducible refine sd_tuple ?_ | with_reducible refine sd_lt ?_ | with_reducible refine sd_le ?_ | with_reducible refine sd_gt ?_ | with_reducible refine sd_ge ?_ | with_reducible refine sd_eqI ?_ | with_reducible refine sd_neI ?_ | with_reducible refine sd_eqS ?_ | with_reducible refine sd_neS ?_ | with_reducible refine sd_slL ?_ | with_reducible refine sd_slT ?_ | with_reducible refine sd_int ?_ | with_reducible refine st_app (by with_unfolding_all rfl) ?_ | with_reducible refine st_clr (by with_unfolding_all rfl) ?_ | with_reducible refine st_retO (by with_unfolding_all rfl) ?_ | with_reducible refine st_retV (by with_unfolding_all rfl) ?_ | with_reducible refine st_aug (by with_unfolding_all rfl) ?_ | with_reducible refine And.intro (by with_unfolding_all rfl) ?_ | with_reducible refine Exists.intro _ (And.intro (by with_unfolding_all rfl) ?_) | with_reducible refine And.intro (le_size (by with_unfolding_all rfl)) ?_ | with_reducible refine st_frz (by with_unfolding_all rfl) ?_))
  by_cases h0 : cs = []
  · subst h0
    refine iteT (iteT ?_)
    (repeat (first | with_reducible refine ss_ix (by assumption) (by assumption) ?_ | with_reducible refine ss_len (by assumption) ?_ | with_reducible refine ss_in ?_ | with_reducible refine ss_nin ?_ | with_reducible refine ss_eq ?_ | with_reducible refine ss_ne ?_ | with_reducible refine ss_mid (by assumption) ?_ | with_reducible refine ss_to (by assumption) ?_ | with_reducible refine ss_from (by assumption) ?_ | with_reducible refine ss_is ?_ | with_reducible refine ss_isnt ?_ | with_reducible refine ss_aug ?_ | with_reducible refine st_nx ?_ | with_reducible refine st_rt ?_ | with_reducible refine st_bk ?_ | with_reducible refine st_ct ?_ | with_reducible refine st_bind1 ?_ | with_reducible refine st_v (by with_unfolding_all rfl) ?_ | with_reducible refine st_seq ?_ | with_reducible refine st_skip ?_ | with_reducible refine st_asg ?_ | with_reducible refine st_ret ?_ | with_reducible refine st_if ?_ | with_reducible refine st_for ?_ | with_reducible refine st_par2 ?_ | with_reducible refine st_par3 ?_ | with_reducible refine st_asgT ?_ | with_reducible refine st_drop ?_ | with_reducible refine st_brk ?_ | with_reducible refine st_cnt ?_ | with_reducible refine st_tE ?_ | with_reducible refine st_tCmp ?_ | with_reducible refine st_tNt ?_ | with_reducible refine st_tAn ?_ | with_reducible refine st_tO ?_ | with_reducible refine st_tT ?_ | with_reducible refine st_c ?_ | with_reducible refine st_tr ?_ | with_reducible refine st_fz ?_ | with_reducible refine st_op ?_ | with_reducible refine st_call ?_ | with_reducible refine st_callK ?_ | with_reducible refine st_lst ?_ | with_reducible refine st_tup ?_ | with_reducible refine st_sl ?_ | with_reducible refine st_eif ?_ | with_reducible refine st_and ?_ | with_reducible refine st_or ?_ | with_reducible refine st_not ?_ | with_reducible refine st_neg ?_ | with_reducible refine st_isi ?_ | with_reducible refine st_lc ?_ | with_reducible refine st_dc ?_ | with_reducible refine st_anil ?_ | with_reducible refine st_acons ?_ | with_reducible refine st_ono ?_ | with_reducible refine st_osome ?_ | with_reducible refine st_iseq ?_ | with_reducible refine st_irg1 ?_ | with_reducible refine st_izp ?_ | with_reducible refine sd_addI ?_ | with_reducible refine sd_subI ?_ | with_reducible refine sd_lenL ?_ | with_reducible refine sd_lenT ?_ | with_reducible refine sd_list ?_ | with_reducible refine sd_tuple ?_ | with_reducible refine sd_lt ?_ | with_reducible refine sd_le ?_ | with_reducible refine sd_gt ?_ | with_reducible refine sd_ge ?_ | with_reducible refine sd_eqI ?_ | with_reducible refine sd_neI ?_ | with_reducible refine sd_eqS ?_ | with_reducible refine sd_neS ?_ | with_reducible refine sd_slL ?_ | with_reducible refine sd_slT ?_ | with_reducible refine sd_int ?_ | with_reducible refine st_app (by with_unfolding_all rfl) ?_ | with_reducible refine st_clr (by with_unfolding_all rfl) ?_ | with_reducible refine st_retO (by with_unfolding_all rfl) ?_ | with_reducible refine st_retV (by with_unfolding_all rfl) ?_ | with_reducible refine st_aug (by with_unfolding_all rfl) ?_ | with_reducible refine And.intro (by with_unfolding_all rfl) ?_ | with_reducible refine Exists.intro _ (And.intro (by with_unfolding_all rfl) ?_) | with_reducible refine And.intro (le_size (by with_unfolding_all rfl)) ?_ | with_reducible refine st_frz (by with_unfolding_all rfl) ?_))
    exact q
  rw [decide_eq_false h0]
  refine iteF ?_
  (repeat (first | with_reducible refine ss_ix (by assumption) (by assumption) ?_ | with_reducible refine ss_len (by assumption) ?_ | with_reducible refine ss_in ?_ | with_reducible refine ss_nin ?_ | with_reducible refine ss_eq ?_ | with_reducible refine ss_ne ?_ | with_reducible refine ss_mid (by assumption) ?_ | with_reducible refine ss_to (by assumption) ?_ | with_reducible refine ss_from (by assumption) ?_ | with_reducible refine ss_is ?_ | with_reducible refine ss_isnt ?_ | with_reducible refine ss_aug ?_ | with_reducible refine st_nx ?_ | with_reducible refine st_rt ?_ | with_reducible refine st_bk ?_ | with_reducible refine st_ct ?_ | with_reducible refine st_bind1 ?_ | with_reducible refine st_v (by with_unfolding_all rfl) ?_ | with_reducible refine st_seq ?_ | with_reducible refine st_skip ?_ | with_reducible refine st_asg ?_ | with_reducible refine st_ret ?_ | with_reducible refine st_if ?_ | with_reducible refine st_for ?_ | with_reducible refine st_par2 ?_ | with_reducible refine st_par3 ?_ | with_reducible refine st_asgT ?_ | with_reducible refine st_drop ?_ | with_reducible refine st_brk ?_ | with_reducible refine st_cnt ?_ | with_reducible refine st_tE ?_ | with_reducible refine st_tCmp ?_ | with_reducible refine st_tNt ?_ | with_reducible refine st_tAn ?_ | with_reducible refine st_tO ?_ | with_reducible refine st_tT ?_ | with_reducible refine st_c ?_ | with_reducible refine st_tr ?_ | with_reducible refine st_fz ?_ | with_reducible refine st_op ?_ | with_reducible refine st_call ?_ | with_reducible refine st_callK ?_ | with_reducible refine st_lst ?_ | with_reducible refine st_tup ?_ | with_reducible refine st_sl ?_ | with_reducible refine st_eif ?_ | with_reducible refine st_and ?_ | with_reducible refine st_or ?_ | with_reducible refine st_not ?_ | with_reducible refine st_neg ?_ | with_reducible refine st_isi ?_ | with_reducible refine st_lc ?_ | with_reducible refine st_dc ?_ | with_reducible refine st_anil ?_ | with_reducible refine st_acons ?_ | with_reducible refine st_ono ?_ | with_reducible refine st_osome ?_ | with_reducible refine st_iseq ?_ | with_reducible refine st_irg1 ?_ | with_reducible refine st_izp ?_ | with_reducible refine sd_addI ?_ | with_reducible refine sd_subI ?_ | with_reducible refine sd_lenL ?_ | with_reducible refine sd_lenT ?_ | with_reducible refine sd_list ?_ | with_reducible refine sd_tuple ?_ | with_reducible refine sd_lt ?_ | with_reducible refine sd_le ?_ | with_reducible refine sd_gt ?_ | with_reducible refine sd_ge ?_ | with_reducible refine sd_eqI ?_ | with_reducible refine sd_neI ?_ | with_reducible refine sd_eqS ?_ | with_reducible refine sd_neS ?_ | with_reducible refine sd_slL ?_ | with_reducible refine sd_slT ?_ | with_reducible refine sd_int ?_ | with_reducible refine st_app (by with_unfolding_all rfl) ?_ | with_reducible refine st_clr (by with_unfolding_all rfl) ?_ | with_reducible refine st_retO (by with_unfolding_all rfl) ?_ | with_reducible refine st_retV (by with_unfolding_all rfl) ?_ | with_reducible refine st_aug (by with_unfolding_all rfl) ?_ | with_reducible refine And.intro (by with_unfolding_all rfl) ?_ | with_reducible refine Exists.intro _ (And.intro (by with_unfolding_all rfl) ?_) | with_reducible refine And.intro (le_size (by with_unfolding_all rfl)) ?_ | with_reducible refine st_frz (by with_unfolding_all rfl) ?_))
  rw [chs_tx]
  refine ⟨by rw [List.length_map]; exact size5 hl, ?_⟩
  refine st_lcs (p := fun c => decide (c ∈ dL)) (fun c _ Q q => ?_) ?_
  · (repeat (first | with_reducible refine ss_ix (by assumption) (by assumption) ?_ | with_reducible refine ss_len (by assumption) ?_ | with_reducible refine ss_in ?_ | with_reducible refine ss_nin ?_ | with_reducible refine ss_eq ?_ | with_reducible refine ss_ne ?_ | with_reducible refine ss_mid (by assumption) ?_ | with_reducible refine ss_to (by assumption) ?_ | with_reducible refine ss_from (by assumption) ?_ | with_reducible refine ss_is ?_ | with_reducible refine ss_isnt ?_ | with_reducible refine ss_aug ?_ | with_reducible refine st_nx ?_ | with_reducible refine st_rt ?_ | with_reducible refine st_bk ?_ | with_reducible refine st_ct ?_ | with_reducible refine st_bind1 ?_ | with_reducible refine st_v (by with_unfolding_all rfl) ?_ | with_reducible refine st_seq ?_ | with_reducible refine st_skip ?_ | with_reducible refine st_asg ?_ | with_reducible refine st_ret ?_ | with_reducible refine st_if ?_ | with_reducible refine st_for ?_ | with_reducible refine st_par2 ?_ | with_reducible refine st_par3 ?_ | with_reducible refine st_asgT ?_ | with_reducible refine st_drop ?_ | with_reducible refine st_brk ?_ | with_reducible refine st_cnt ?_ | with_reducible refine st_tE ?_ | with_reducible refine st_tCmp ?_ | with_reducible refine st_tNt ?_ | with_reducible refine st_tAn ?_ | with_reducible refine st_tO ?_ | with_reducible refine st_tT ?_ | with_reducible refine st_c ?_ | with_reducible refine st_tr ?_ | with_reducible refine st_fz ?_ | with_reducible refine st_op ?_ | with_reducible refine st_call ?_ | with_reducible refine st_callK ?_ | with_reducible refine st_lst ?_ | with_reducible refine st_tup ?_ | with_reducible refine st_sl ?_ | with_reducible refine st_eif ?_ | with_reducible refine st_and ?_ | with_reducible refine st_or ?_ | with_reducible refine st_not ?_ | with_reducible refine st_neg ?_ | with_reducible refine st_isi ?_ | with_reducible refine st_lc ?_ | with_reducible refine st_dc ?_ | with_reducible refine st_anil ?_ | with_reducible refine st_acons ?_ | with_reducible refine st_ono ?_ | with_reducible refine st_osome ?_ | with_reducible refine st_iseq ?_ | with_reducible refine st_irg1 ?_ | with_reducible refine st_izp ?_ | with_reducible refine sd_addI ?_ | with_reducible refine sd_subI ?_ | with_reducible refine sd_lenL ?_ | with_reducible refine sd_lenT ?_ | with_reducible refine sd_list ?_ | with_reducible refine sd_tuple ?_ | with_reducible refine sd_lt ?_ | with_reducible refine sd_le ?_ | with_reducible refine sd_gt ?_ | with_reducible refine sd_ge ?_ | with_reducible refine sd_eqI ?_ | with_reducible refine sd_neI ?_ | with_reducible refine sd_eqS ?_ | with_reducible refine sd_neS ?_ | with_reducible refine sd_slL ?_ | with_reducible refine sd_slT ?_ | with_reducible refine sd_int ?_ | with_reducible refine st_app (by with_unfolding_all rfl) ?_ | with_reducible refine st_clr (by with_unfolding_all rfl) ?_ | with_reducible refine st_retO (by with_unfolding_all rfl) ?_ | with_reducible refine st_retV (by with_unfolding_all rfl) ?_ | with_reducible refine st_aug (by with_unfolding_all rfl) ?_ | with_reducible refine And.intro (by with_unfolding_all rfl) ?_ | with_reducible refine Exists.intro _ (And.intro (by with_unfolding_all rfl) ?_) | with_reducible refine And.intro (le_size (by with_unfolding_all rfl)) ?_ | with_reducible refine st_frz (by with_unfolding_all rfl) ?_))
    exact q
  (repeat (first | with_reducible refine ss_ix (by assumption) (by assumption) ?_ | with_reducible refine ss_len (by assumption) ?_ | with_reducible refine ss_in ?_ | with_reducible refine ss_nin ?_ | with_reducible refine ss_eq ?_ | with_reducible refine ss_ne ?_ | with_reducible refine ss_mid (by assumption) ?_ | with_reducible refine ss_to (by assumption) ?_ | with_reducible refine ss_from (by assumption) ?_ | with_reducible refine ss_is ?_ | with_reducible refine ss_isnt ?_ | with_reducible refine ss_aug ?_ | with_reducible refine st_nx ?_ | with_reducible refine st_rt ?_ | with_reducible refine st_bk ?_ | with_reducible refine st_ct ?_ | with_reducible refine st_bind1 ?_ | with_reducible refine st_v (by with_unfolding_all rfl) ?_ | with_reducible refine st_seq ?_ | with_reducible refine st_skip ?_ | with_reducible refine st_asg ?_ | with_reducible refine st_ret ?_ | with_reducible refine st_if ?_ | with_reducible refine st_for ?_ | with_reducible refine st_par2 ?_ | with_reducible refine st_par3 ?_ | with_reducible refine st_asgT ?_ | with_reducible refine st_drop ?_ | with_reducible refine st_brk ?_ | with_reducible refine st_cnt ?_ | with_reducible refine st_tE ?_ | with_reducible refine st_tCmp ?_ | with_reducible refine st_tNt ?_ | with_reducible refine st_tAn ?_ | with_reducible refine st_tO ?_ | with_reducible refine st_tT ?_ | with_reducible refine st_c ?_ | with_reducible refine st_tr ?_ | with_reducible refine st_fz ?_ | with_reducible refine st_op ?_ | with_reducible refine st_call ?_ | with_reducible refine st_callK ?_ | with_reducible refine st_lst ?_ | with_reducible refine st_tup ?_ | with_reducible refine st_sl ?_ | with_reducible refine st_eif ?_ | with_reducible refine st_and ?_ | with_reducible refine st_or ?_ | with_reducible refine st_not ?_ | with_reducible refine st_neg ?_ | with_reducible refine st_isi ?_ | with_reducible refine st_lc ?_ | with_reducible refine st_dc ?_ | with_reducible refine st_anil ?_ | with_reducible refine st_acons ?_ | with_reducible refine st_ono ?_ | with_reducible refine st_osome ?_ | with_reducible refine st_iseq ?_ | with_reducible refine st_irg1 ?_ | with_reducible refine st_izp ?_ | with_reducible refine sd_addI ?_ | with_reducible refine sd_subI ?_ | with_reducible refine sd_lenL ?_ | with_reducible refine sd_lenT ?_ | with_reducible refine sd_list ?_ | with_reducible refine sd_tuple ?_ | with_reducible refine sd_lt ?_ | with_reducible refine sd_le ?_ | with_reducible refine sd_gt ?_ | with_reducible refine sd_ge ?_ | with_reducible refine sd_eqI ?_ | with_reducible refine sd_neI ?_ | with_reducible refine sd_eqS ?_ | with_reducible refine sd_neS ?_ | with_reducible refine sd_slL ?_ | with_reducible refine sd_slT ?_ | with_reducible refine sd_int ?_ | with_reducible refine st_app (by with_unfolding_all rfl) ?_ | with_reducible refine st_clr (by with_unfolding_all rfl) ?_ | with_reducible refine st_retO (by with_unfolding_all rfl) ?_ | with_reducible refine st_retV (by with_unfolding_all rfl) ?_ | with_reducible refine st_aug (by with_unfolding_all rfl) ?_ | with_reducible refine And.intro (by with_unfolding_all rfl) ?_ | with_reducible refine Exists.intro _ (And.intro (by with_unfolding_all rfl) ?_) | with_reducible refine And.intro (le_size (by with_unfolding_all rfl)) ?_ | with_reducible refine st_frz (by with_unfolding_all rfl) ?_))
  refine ⟨_, bls_map cs _, ?_⟩
  rw [List.all_map]
  (repeat (first | with_reducible refine ss_ix (by assumption) (by assumption) ?_ | with_reducible refine ss_len (by assumption) ?_ | with_reducible refine ss_in ?_ | with_reducible refine ss_nin ?_ | with_reducible refine ss_eq ?_ | with_reducible refine ss_ne ?_ | with_reducible refine ss_mid (by assumption) ?_ | with_reducible refine ss_to (by assumption) ?_ | with_reducible refine ss_from (by assumption) ?_ | with_reducible refine ss_is ?_ | with_reducible refine ss_isnt ?_ | with_reducible refine ss_aug ?_ | with_reducible refine st_nx ?_ | with_reducible refine st_rt ?_ | with_reducible refine st_bk ?_ | with_reducible refine st_ct ?_ | with_reducible refine st_bind1 ?_ | with_reducible refine st_v (by with_unfolding_all rfl) ?_ | with_reducible refine st_seq ?_ | with_reducible refine st_skip ?_ | with_reducible refine st_asg ?_ | with_reducible refine st_ret ?_ | with_reducible refine st_if ?_ | with_reducible refine st_for ?_ | with_reducible refine st_par2 ?_ | with_reducible refine st_par3 ?_ | with_reducible refine st_asgT ?_ | with_reducible refine st_drop ?_ | with_reducible refine st_brk ?_ | with_reducible refine st_cnt ?_ | with_reducible refine st_tE ?_ | with_reducible refine st_tCmp ?_ | with_reducible refine st_tNt ?_ | with_reducible refine st_tAn ?_ | with_reducible refine st_tO ?_ | with_reducible refine st_tT ?_ | with_reducible refine st_c ?_ | with_reducible refine st_tr ?_ | with_reducible refine st_fz ?_ | with_reducible refine st_op ?_ | with_reducible refine st_call ?_ | with_reducible refine st_callK ?_ | with_reducible refine st_lst ?_ | with_reducible refine st_tup ?_ | with_reducible refine st_sl ?_ | with_reducible refine st_eif ?_ | with_reducible refine st_and ?_ | with_reducible refine st_or ?_ | with_reducible refine st_not ?_ | with_reducible refine st_neg ?_ | with_reducible refine st_isi ?_ | with_reducible refine st_lc ?_ | with_reducible refine st_dc ?_ | with_reducible refine st_anil ?_ | with_reducible refine st_acons ?_ | with_reducible refine st_ono ?_ | with_reducible refine st_osome ?_ | with_reducible refine st_iseq ?_ | with_reducible refine st_irg1 ?_ | with_reducible refine st_izp ?_ | with_reducible refine sd_addI ?_ | with_reducible refine sd_subI ?_ | with_reducible refine sd_lenL ?_ | with_reducible refine sd_lenT ?_ | with_reducible refine sd_list ?_ | with_reducible refine sd_tuple ?_ | with_reducible refine sd_lt ?_ | with_reducible refine sd_le ?_ | with_reducible refine sd_gt ?_ | with_reducible refine sd_ge ?_ | with_reducible refine sd_eqI ?_ | with_reducible refine sd_neI ?_ | with_reducible refine sd_eqS ?_ | with_reducible refine sd_neS ?_ | with_reducible refine sd_slL ?_ | with_reducible refine sd_slT ?_ | with_reducible refine sd_int ?_ | with_reducible refine st_app (by with_unfolding_all rfl) ?_ | with_reducible refine st_clr (by with_unfolding_all rfl) ?_ | with_reducible refine st_retO (by with_unfolding_all rfl) ?_ | with_reducible refine st_retV (by with_unfolding_all rfl) ?_ | with_reducible refine st_aug (by with_unfolding_all rfl) ?_ | with_reducible refine And.intro (by with_unfolding_all rfl) ?_ | with_reducible refine Exists.intro _ (And.intro (by with_unfolding_all rfl) ?_) | with_reducible refine And.intro (le_size (by with_unfolding_all rfl)) ?_ | with_reducible refine st_frz (by with_unfolding_all rfl) ?_))
  show (if (!allG cs) = true then _ else _)
  cases ha : allG cs with
  | false =>
    refine iteT ?_
    (repeat (first | with_reducible refine ss_ix (by assumption) (by assumption) ?_ | with_reducible refine ss_len (by assumption) ?_ | with_reducible refine ss_in ?_ | with_reducible refine ss_nin ?_ | with_reducible refine ss_eq ?_ | with_reducible refine ss_ne ?_ | with_reducible refine ss_mid (by assumption) ?_ | with_reducible refine ss_to (by assumption) ?_ | with_reducible refine ss_from (by assumption) ?_ | with_reducible refine ss_is ?_ | with_reducible refine ss_isnt ?_ | with_reducible refine ss_aug ?_ | with_reducible refine st_nx ?_ | with_reducible refine st_rt ?_ | with_reducible refine st_bk ?_ | with_reducible refine st_ct ?_ | with_reducible refine st_bind1 ?_ | with_reducible refine st_v (by with_unfolding_all rfl) ?_ | with_reducible refine st_seq ?_ | with_reducible refine st_skip ?_ | with_reducible refine st_asg ?_ | with_reducible refine st_ret ?_ | with_reducible refine st_if ?_ | with_reducible refine st_for ?_ | with_reducible refine st_par2 ?_ | with_reducible refine st_par3 ?_ | with_reducible refine st_asgT ?_ | with_reducible refine st_drop ?_ | with_reducible refine st_brk ?_ | with_reducible refine st_cnt ?_ | with_reducible refine st_tE ?_ | with_reducible refine st_tCmp ?_ | with_reducible refine st_tNt ?_ | with_reducible refine st_tAn ?_ | with_reducible refine st_tO ?_ | with_reducible refine st_tT ?_ | with_reducible refine st_c ?_ | with_reducible refine st_tr ?_ | with_reducible refine st_fz ?_ | with_reducible refine st_op ?_ | with_reducible refine st_call ?_ | with_reducible refine st_callK ?_ | with_reducible refine st_lst ?_ | with_reducible refine st_tup ?_ | with_reducible refine st_sl ?_ | with_reducible refine st_eif ?_ | with_reducible refine st_and ?_ | with_reducible refine st_or ?_ | with_reducible refine st_not ?_ | with_reducible refine st_neg ?_ | with_reducible refine st_isi ?_ | with_reducible refine st_lc ?_ | with_reducible refine st_dc ?_ | with_reducible refine st_anil ?_ | with_reducible refine st_acons ?_ | with_reducible refine st_ono ?_ | with_reducible refine st_osome ?_ | with_reducible refine st_iseq ?_ | with_reducible refine st_irg1 ?_ | with_reducible refine st_izp ?_ | with_reducible refine sd_addI ?_ | with_reducible refine sd_subI ?_ | with_reducible refine sd_lenL ?_ | with_reducible refine sd_lenT ?_ | with_reducible refine sd_list ?_ | with_reducible refine sd_tuple ?_ | with_reducible refine sd_lt ?_ | with_reducible refine sd_le ?_ | with_reducible refine sd_gt ?_ | with_reducible refine sd_ge ?_ | with_reducible refine sd_eqI ?_ | with_reducible refine sd_neI ?_ | with_reducible refine sd_eqS ?_ | with_reducible refine sd_neS ?_ | with_reducible refine sd_slL ?_ | with_reducible refine sd_slT ?_ | with_reducible refine sd_int ?_ | with_reducible refine st_app (by with_unfolding_all rfl) ?_ | with_reducible refine st_clr (by with_unfolding_all rfl) ?_ | with_reducible refine st_retO (by with_unfolding_all rfl) ?_ | with_reducible refine st_retV (by with_unfolding_all rfl) ?_ | with_reducible refine st_aug (by with_unfolding_all rfl) ?_ | with_reducible refine And.intro (by with_unfolding_all rfl) ?_ | with_reducible refine Exists.intro _ (And.intro (by with_unfolding_all rfl) ?_) | with_reducible refine And.intro (le_size (by with_unfolding_all rfl)) ?_ | with_reducible refine st_frz (by with_unfolding_all rfl) ?_))
    have : plainB cs = false := by unfold plainB; rw [ha]; simp
    rw [← this]
    exact q
  | true =>
    refine iteF ?_
    (repeat (first | with_reducible refine ss_ix (by assumption) (by assumption) ?_ | with_reducible refine ss_len (by assumption) ?_ | with_reducible refine ss_in ?_ | with_reducible refine ss_nin ?_ | with_reducible refine ss_eq ?_ | with_reducible refine ss_ne ?_ | with_reducible refine ss_mid (by assumption) ?_ | with_reducible refine ss_to (by assumption) ?_ | with_reducible refine ss_from (by assumption) ?_ | with_reducible refine ss_is ?_ | with_reducible refine ss_isnt ?_ | with_reducible refine ss_aug ?_ | with_reducible refine st_nx ?_ | with_reducible refine st_rt ?_ | with_reducible refine st_bk ?_ | with_reducible refine st_ct ?_ | with_reducible refine st_bind1 ?_ | with_reducible refine st_v (by with_unfolding_all rfl) ?_ | with_reducible refine st_seq ?_ | with_reducible refine st_skip ?_ | with_reducible refine st_asg ?_ | with_reducible refine st_ret ?_ | with_reducible refine st_if ?_ | with_reducible refine st_for ?_ | with_reducible refine st_par2 ?_ | with_reducible refine st_par3 ?_ | with_reducible refine st_asgT ?_ | with_reducible refine st_drop ?_ | with_reducible refine st_brk ?_ | with_reducible refine st_cnt ?_ | with_reducible refine st_tE ?_ | with_reducible refine st_tCmp ?_ | with_reducible refine st_tNt ?_ | with_reducible refine st_tAn ?_ | with_reducible refine st_tO ?_ | with_reducible refine st_tT ?_ | with_reducible refine st_c ?_ | with_reducible refine st_tr ?_ | with_reducible refine st_fz ?_ | with_reducible refine st_op ?_ | with_reducible refine st_call ?_ | with_reducible refine st_callK ?_ | with_reducible refine st_lst ?_ | with_reducible refine st_tup ?_ | with_reducible refine st_sl ?_ | with_reducible refine st_eif ?_ | with_reducible refine st_and ?_ | with_reducible refine st_or ?_ | with_reducible refine st_not ?_ | with_reducible refine st_neg ?_ | with_reducible refine st_isi ?_ | with_reducible refine st_lc ?_ | with_reducible refine st_dc ?_ | with_reducible refine st_anil ?_ | with_reducible refine st_acons ?_ | with_reducible refine st_ono ?_ | with_reducible refine st_osome ?_ | with_reducible refine st_iseq ?_ | with_reducible refine st_irg1 ?_ | with_reducible refine st_izp ?_ | with_reducible refine sd_addI ?_ | with_reducible refine sd_subI ?_ | with_reducible refine sd_lenL ?_ | with_reducible refine sd_lenT ?_ | with_reducible refine sd_list ?_ | with_reducible refine sd_tuple ?_ | with_reducible refine sd_lt ?_ | with_reducible refine sd_le ?_ | with_reducible refine sd_gt ?_ | with_reducible refine sd_ge ?_ | with_reducible refine sd_eqI ?_ | with_reducible refine sd_neI ?_ | with_reducible refine sd_eqS ?_ | with_reducible refine sd_neS ?_ | with_reducible refine sd_slL ?_ | with_reducible refine sd_slT ?_ | with_reducible refine sd_int ?_ | with_reducible refine st_app (by with_unfolding_all rfl) ?_ | with_reducible refine st_clr (by with_unfolding_all rfl) ?_ | with_reducible refine st_retO (by with_unfolding_all rfl) ?_ | with_reducible refine st_retV (by with_unfolding_all rfl) ?_ | with_reducible refine st_aug (by with_unfolding_all rfl) ?_ | with_reducible refine And.intro (by with_unfolding_all rfl) ?_ | with_reducible refine Exists.intro _ (And.intro (by with_unfolding_all rfl) ?_) | with_reducible refine And.intro (le_size (by with_unfolding_all rfl)) ?_ | with_reducible refine st_frz (by with_unfolding_all rfl) ?_))
    by_cases h1 : cs = [48]
    · rw [decide_eq_true h1]
      refine iteT ?_
      have : plainB cs = true := by subst h1; rfl
      rw [this] at q
      exact q
    · rw [decide_eq_false h1]
      refine iteF ?_
      obtain ⟨c, r, rfl⟩ := List.exists_cons_of_ne_nil h0
      have hc : (c :: r)[0]? = some c := rfl
      refine st_tr ?_
      (repeat (first | with_reducible refine ss_ix (by assumption) (by assumption) ?_ | with_reducible refine ss_len (by assumption) ?_ | with_reducible refine ss_in ?_ | with_reducible refine ss_nin ?_ | with_reducible refine ss_eq ?_ | with_reducible refine ss_ne ?_ | with_reducible refine ss_mid (by assumption) ?_ | with_reducible refine ss_to (by assumption) ?_ | with_reducible refine ss_from (by assumption) ?_ | with_reducible refine ss_is ?_ | with_reducible refine ss_isnt ?_ | with_reducible refine ss_aug ?_ | with_reducible refine st_nx ?_ | with_reducible refine st_rt ?_ | with_reducible refine st_bk ?_ | with_reducible refine st_ct ?_ | with_reducible refine st_bind1 ?_ | with_reducible refine st_v (by with_unfolding_all rfl) ?_ | with_reducible refine st_seq ?_ | with_reducible refine st_skip ?_ | with_reducible refine st_asg ?_ | with_reducible refine st_ret ?_ | with_reducible refine st_if ?_ | with_reducible refine st_for ?_ | with_reducible refine st_par2 ?_ | with_reducible refine st_par3 ?_ | with_reducible refine st_asgT ?_ | with_reducible refine st_drop ?_ | with_reducible refine st_brk ?_ | with_reducible refine st_cnt ?_ | with_reducible refine st_tE ?_ | with_reducible refine st_tCmp ?_ | with_reducible refine st_tNt ?_ | with_reducible refine st_tAn ?_ | with_reducible refine st_tO ?_ | with_reducible refine st_tT ?_ | with_reducible refine st_c ?_ | with_reducible refine st_tr ?_ | with_reducible refine st_fz ?_ | with_reducible refine st_op ?_ | with_reducible refine st_call ?_ | with_reducible refine st_callK ?_ | with_reducible refine st_lst ?_ | with_reducible refine st_tup ?_ | with_reducible refine st_sl ?_ | with_reducible refine st_eif ?_ | with_reducible refine st_and ?_ | with_reducible refine st_or ?_ | with_reducible refine st_not ?_ | with_reducible refine st_neg ?_ | with_reducible refine st_isi ?_ | with_reducible refine st_lc ?_ | with_reducible refine st_dc ?_ | with_reducible refine st_anil ?_ | with_reducible refine st_acons ?_ | with_reducible refine st_ono ?_ | with_reducible refine st_osome ?_ | with_reducible refine st_iseq ?_ | with_reducible refine st_irg1 ?_ | with_reducible refine st_izp ?_ | with_reducible refine sd_addI ?_ | with_reducible refine sd_subI ?_ | with_reducible refine sd_lenL ?_ | with_reducible refine sd_lenT ?_ | with_reducible refine sd_list ?_ | with_reducible refine sd_tuple ?_ | with_reducible refine sd_lt ?_ | with_reducible refine sd_le ?_ | with_reducible refine sd_gt ?_ | with_reducible refine sd_ge ?_ | with_reducible refine sd_eqI ?_ | with_reducible refine sd_neI ?_ | with_reducible refine sd_eqS ?_ | with_reducible refine sd_neS ?_ | with_reducible refine sd_slL ?_ | with_reducible refine sd_slT ?_ | with_reducible refine sd_int ?_ | with_reducible refine st_app (by with_unfolding_all rfl) ?_ | with_reducible refine st_clr (by with_unfolding_all rfl) ?_ | with_reducible refine st_retO (by with_unfolding_all rfl) ?_ | with_reducible refine st_retV (by with_unfolding_all rfl) ?_ | with_reducible refine st_aug (by with_unfolding_all rfl) ?_ | with_reducible refine And.intro (by with_unfolding_all rfl) ?_ | with_reducible refine Exists.intro _ (And.intro (by with_unfolding_all rfl) ?_) | with_reducible refine And.intro (le_size (by with_unfolding_all rfl)) ?_ | with_reducible refine st_frz (by with_unfolding_all rfl) ?_))
      refine ss_ix (n := 0) hl hc ?_
      (repeat (first | with_reducible refine ss_ix (by assumption) (by assumption) ?_ | with_reducible refine ss_len (by assumption) ?_ | with_reducible refine ss_in ?_ | with_reducible refine ss_nin ?_ | with_reducible refine ss_eq ?_ | with_reducible refine ss_ne ?_ | with_reducible refine ss_mid (by assumption) ?_ | with_reducible refine ss_to (by assumption) ?_ | with_reducible refine ss_from (by assumption) ?_ | with_reducible refine ss_is ?_ | with_reducible refine ss_isnt ?_ | with_reducible refine ss_aug ?_ | with_reducible refine st_nx ?_ | with_reducible refine st_rt ?_ | with_reducible refine st_bk ?_ | with_reducible refine st_ct ?_ | with_reducible refine st_bind1 ?_ | with_reducible refine st_v (by with_unfolding_all rfl) ?_ | with_reducible refine st_seq ?_ | with_reducible refine st_skip ?_ | with_reducible refine st_asg ?_ | with_reducible refine st_ret ?_ | with_reducible refine st_if ?_ | with_reducible refine st_for ?_ | with_reducible refine st_par2 ?_ | with_reducible refine st_par3 ?_ | with_reducible refine st_asgT ?_ | with_reducible refine st_drop ?_ | with_reducible refine st_brk ?_ | with_reducible refine st_cnt ?_ | with_reducible refine st_tE ?_ | with_reducible refine st_tCmp ?_ | with_reducible refine st_tNt ?_ | with_reducible refine st_tAn ?_ | with_reducible refine st_tO ?_ | with_reducible refine st_tT ?_ | with_reducible refine st_c ?_ | with_reducible refine st_tr ?_ | with_reducible refine st_fz ?_ | with_reducible refine st_op ?_ | with_reducible refine st_call ?_ | with_reducible refine st_callK ?_ | with_reducible refine st_lst ?_ | with_reducible refine st_tup ?_ | with_reducible refine st_sl ?_ | with_reducible refine st_eif ?_ | with_reducible refine st_and ?_ | with_reducible refine st_or ?_ | with_reducible refine st_not ?_ | with_reducible refine st_neg ?_ | with_reducible refine st_isi ?_ | with_reducible refine st_lc ?_ | with_reducible refine st_dc ?_ | with_reducible refine st_anil ?_ | with_reducible refine st_acons ?_ | with_reducible refine st_ono ?_ | with_reducible refine st_osome ?_ | with_reducible refine st_iseq ?_ | with_reducible refine st_irg1 ?_ | with_reducible refine st_izp ?_ | with_reducible refine sd_addI ?_ | with_reducible refine sd_subI ?_ | with_reducible refine sd_lenL ?_ | with_reducible refine sd_lenT ?_ | with_reducible refine sd_list ?_ | with_reducible refine sd_tuple ?_ | with_reducible refine sd_lt ?_ | with_reducible refine sd_le ?_ | with_reducible refine sd_gt ?_ | with_reducible refine sd_ge ?_ | with_reducible refine sd_eqI ?_ | with_reducible refine sd_neI ?_ | with_reducible refine sd_eqS ?_ | with_reducible refine sd_neS ?_ | with_reducible refine sd_slL ?_ | with_reducible refine sd_slT ?_ | with_reducible refine sd_int ?_ | with_reducible refine st_app (by with_unfolding_all rfl) ?_ | with_reducible refine st_clr (by with_unfolding_all rfl) ?_ | with_reducible refine st_retO (by with_unfolding_all rfl) ?_ | with_reducible refine st_retV (by with_unfolding_all rfl) ?_ | with_reducible refine st_aug (by with_unfolding_all rfl) ?_ | with_reducible refine And.intro (by with_unfolding_all rfl) ?_ | with_reducible refine Exists.intro _ (And.intro (by with_unfolding_all rfl) ?_) | with_reducible refine And.intro (le_size (by with_unfolding_all rfl)) ?_ | with_reducible refine st_frz (by with_unfolding_all rfl) ?_))
      have : plainB (c :: r) = !decide ([c] = [48]) := by
        unfold plainB
        rw [ha, decide_eq_false h1, decide_eq_false h0]
        simp
      rw [← this]
      exact q
def numD (cs : List Nat) : D := if 6 < cs.length then .non else if plainB cs = true then .int ((NumText.digitsVal cs : Nat) : Int) else .non
theorem dig_iff (c : Nat) : c ∈ dL ↔ 48 ≤ c ∧ c ≤ 57 := by
  unfold dL
  rw [List.mem_range'_1]
  omega
theorem read_numeral_ok {cs : List Nat} (hl : cs.length ≤ 100000) {Q : Rz → Prop} (q : Q (.val (numD cs))) : S_read_numeral [.str (tx cs)] Q := by
  refine st_body rfl ?_
  unfold b_read_numeral
  rw [show c_MOST_DIGITS = .int 6 from rfl]
  (repeat (first | with_reducible refine ss_ix (by assumption) (by assumption) ?_ | with_reducible refine ss_len (by assumption) ?_ | with_reducible refine ss_in ?_ | with_reducible refine ss_nin ?_ | with_reducible refine ss_eq ?_ | with_reducible refine ss_ne ?_ | with_reducible refine ss_mid (by assumption) ?_ | with_reducible refine ss_to (by assumption) ?_ | with_reducible refine ss_from (by assumption) ?_ | with_reducible refine ss_is ?_ | with_reducible refine ss_isnt ?_ | with_reducible refine ss_aug ?_ | with_reducible refine st_nx ?_ | with_reducible refine st_rt ?_ | with_reducible refine st_bk ?_ | with_reducible refine st_ct ?_ | with_reducible refine st_bind1 ?_ | with_reducible refine st_v (by with_unfolding_all rfl) ?_ | with_reducible refine st_seq ?_ | with_reducible refine st_skip ?_ | with_reducible refine st_asg ?_ | with_reducible refine st_ret ?_ | with_reducible refine st_if ?_ | with_reducible refine st_for ?_ | with_reducible refine st_par2 ?_ | with_reducible refine st_par3 ?_ | with_reducible refine st_asgT ?_ | with_reducible refine st_drop ?_ | with_reducible refine st_brk ?_ | with_reducible refine st_cnt ?_ | with_reducible refine st_tE ?_ | with_reducible refine st_tCmp ?_ | with_reducible refine st_tNt ?_ | with_reducible refine st_tAn ?_ | with_reducible refine st_tO ?_ | with_reducible refine st_tT ?_ | with_reducible refine st_c ?_ | with_reducible refine st_tr ?_ | with_reducible refine st_fz ?_ | with_reducible refine st_op ?_ | with_reducible refine st_call ?_ | with_reducible refine st_callK ?_ | with_reducible refine st_lst ?_ | with_reducible refine st_tup ?_ | with_reducible refine st_sl ?_ | with_reducible refine st_eif ?_ | with_reducible refine st_and ?_ | with_reducible refine st_or ?_ | with_reducible refine st_not ?_ | with_reducible refine st_neg ?_ | with_reducible refine st_isi ?_ | with_reducible refine st_lc ?_ | with_reducible refine st_dc ?_ | with_reducible refine st_anil ?_ | with_reducible refine st_acons ?_ | with_reducible refine st_ono ?_ | with_reducible refine st_osome ?_ | with_reducible refine st_iseq ?_ | with_reducible refine st_irg1 ?_ | with_reducible refine st_izp ?_ | with_reducible refine sd_addI ?_ | with_reducible refine sd_subI ?_ | with_reducible refine sd_lenL ?_ | with_reducible refine sd_lenT ?_ | with_reducible refine sd_list ?_ | with_reducible refine sd_tuple ?_ | with_reducible refine sd_lt ?_ | with_reducible refine sd_le ?_ | with_reducible refine sd_gt ?_ | with_reducible refine sd_ge ?_ | with_reducible refine sd_eqI ?_ | with_reducible refine sd_neI ?_ | with_reducible refine sd_eqS ?_ | with_reducible refine sd_neS ?_ | with_reducible refine sd_slL ?_ | with_reducible refine sd_slT ?_ | with_reducible refine sd_int ?_ | with_reducible refine st_app (by with_unfolding_all rfl) ?_ | with_reducible refine st_clr (by with_unfolding_all rfl) ?_ | with_reducible refine st_retO (by with_unfolding_all rfl) ?_ | with_reducible refine st_retV (by with_unfolding_all rfl) ?_ | with_reducible refine st_aug (by with_unfolding_all rfl) ?_ | with_reducible refine And.intro (by with_unfolding_all rfl) ?_ | with_reducible refine Exists.intro _ (And.intro (by with_unfolding_all rfl) ?_) | with_reducible refine And.intro (le_size (by with_unfolding_all rfl)) ?_ | with_reducible refine st_frz (by with_unfolding_all rfl) ?_))
  refine iteF ?_
  (repeat (first | with_reducible refine ss_ix (by assumption) (by assumption) ?_ | with_reducible refine ss_len (by assumption) ?_ | with_reducible refine ss_in ?_ | with_reducible refine ss_nin ?_ | with_reducible refine ss_eq ?_ | with_reducible refine ss_ne ?_ | with_reducible refine ss_mid (by assumption) ?_ | with_reducible refine ss_to (by assumption) ?_ | with_reducible refine ss_from (by assumption) ?_ | with_reducible refine ss_is ?_ | with_reducible refine ss_isnt ?_ | with_reducible refine ss_aug ?_ | with_reducible refine st_nx ?_ | with_reducible refine st_rt ?_ | with_reducible refine st_bk ?_ | with_reducible refine st_ct ?_ | with_reducible refine st_bind1 ?_ | with_reducible refine st_v (by with_unfolding_all rfl) ?_ | with_reducible refine st_seq ?_ | with_reducible refine st_skip ?_ | with_reducible refine st_asg ?_ | with_reducible refine st_ret ?_ | with_reducible refine st_if ?_ | with_reducible refine st_for ?_ | with_reducible refine st_par2 ?_ | with_reducible refine st_par3 ?_ | with_reducible refine st_asgT ?_ | with_reducible refine st_drop ?_ | with_reducible refine st_brk ?_ | with_reducible refine st_cnt ?_ | with_reducible refine st_tE ?_ | with_reducible refine st_tCmp ?_ | with_reducible refine st_tNt ?_ | with_reducible refine st_tAn ?_ | with_reducible refine st_tO ?_ | with_reducible refine st_tT ?_ | with_reducible refine st_c ?_ | with_reducible refine st_tr ?_ | with_reducible refine st_fz ?_ | with_reducible refine st_op ?_ | with_reducible refine st_call ?_ | with_reducible refine st_callK ?_ | with_reducible refine st_lst ?_ | with_reducible refine st_tup ?_ | with_reducible refine st_sl ?_ | with_reducible refine st_eif ?_ | with_reducible refine st_and ?_ | with_reducible refine st_or ?_ | with_reducible refine st_not ?_ | with_reducible refine st_neg ?_ | with_reducible refine st_isi ?_ | with_reducible refine st_lc ?_ | with_reducible refine st_dc ?_ | with_reducible refine st_anil ?_ | with_reducible refine st_acons ?_ | with_reducible refine st_ono ?_ | with_reducible refine st_osome ?_ | with_reducible refine st_iseq ?_ | with_reducible refine st_irg1 ?_ | with_reducible refine st_izp ?_ | with_reducible refine sd_addI ?_ | with_reducible refine sd_subI ?_ | with_reducible refine sd_lenL ?_ | with_reducible refine sd_lenT ?_ | with_reducible refine sd_list ?_ | with_reducible refine sd_tuple ?_ | with_reducible refine sd_lt ?_ | with_reducible refine sd_le ?_ | with_reducible refine sd_gt ?_ | with_reducible refine sd_ge ?_ | with_reducible refine sd_eqI ?_ | with_reducible refine sd_neI ?_ | with_reducible refine sd_eqS ?_ | with_reducible refine sd_neS ?_ | with_reducible refine sd_slL ?_ | with_reducible refine sd_slT ?_ | with_reducible refine sd_int ?_ | with_reducible refine st_app (by with_unfolding_all rfl) ?_ | with_reducible refine st_clr (by with_unfolding_all rfl) ?_ | with_reducible refine st_retO (by with_unfolding_all rfl) ?_ | with_reducible refine st_retV (by with_unfolding_all rfl) ?_ | with_reducible refine st_aug (by with_unfolding_all rfl) ?_ | with_reducible refine And.intro (by with_unfolding_all rfl) ?_ | with_reducible refine Exists.intro _ (And.intro (by with_unfolding_all rfl) ?_) | with_reducible refine And.intro (le_size (by with_unfolding_all rfl)) ?_ | with_reducible refine st_frz (by with_unfolding_all rfl) ?_))
  by_cases h6 : 6 < cs.length
  · rw [decide_eq_true (p := (6 : Int) < (cs.length : Int)) (by omega)]
    refine iteT (iteT ?_)
    (repeat (first | with_reducible refine ss_ix (by assumption) (by assumption) ?_ | with_reducible refine ss_len (by assumption) ?_ | with_reducible refine ss_in ?_ | with_reducible refine ss_nin ?_ | with_reducible refine ss_eq ?_ | with_reducible refine ss_ne ?_ | with_reducible refine ss_mid (by assumption) ?_ | with_reducible refine ss_to (by assumption) ?_ | with_reducible refine ss_from (by assumption) ?_ | with_reducible refine ss_is ?_ | with_reducible refine ss_isnt ?_ | with_reducible refine ss_aug ?_ | with_reducible refine st_nx ?_ | with_reducible refine st_rt ?_ | with_reducible refine st_bk ?_ | with_reducible refine st_ct ?_ | with_reducible refine st_bind1 ?_ | with_reducible refine st_v (by with_unfolding_all rfl) ?_ | with_reducible refine st_seq ?_ | with_reducible refine st_skip ?_ | with_reducible refine st_asg ?_ | with_reducible refine st_ret ?_ | with_reducible refine st_if ?_ | with_reducible refine st_for ?_ | with_reducible refine st_par2 ?_ | with_reducible refine st_par3 ?_ | with_reducible refine st_asgT ?_ | with_reducible refine st_drop ?_ | with_reducible refine st_brk ?_ | with_reducible refine st_cnt ?_ | with_reducible refine st_tE ?_ | with_reducible refine st_tCmp ?_ | with_reducible refine st_tNt ?_ | with_reducible refine st_tAn ?_ | with_reducible refine st_tO ?_ | with_reducible refine st_tT ?_ | with_reducible refine st_c ?_ | with_reducible refine st_tr ?_ | with_reducible refine st_fz ?_ | with_reducible refine st_op ?_ | with_reducible refine st_call ?_ | with_reducible refine st_callK ?_ | with_reducible refine st_lst ?_ | with_reducible refine st_tup ?_ | with_reducible refine st_sl ?_ | with_reducible refine st_eif ?_ | with_reducible refine st_and ?_ | with_reducible refine st_or ?_ | with_reducible refine st_not ?_ | with_reducible refine st_neg ?_ | with_reducible refine st_isi ?_ | with_reducible refine st_lc ?_ | with_reducible refine st_dc ?_ | with_reducible refine st_anil ?_ | with_reducible refine st_acons ?_ | with_reducible refine st_ono ?_ | with_reducible refine st_osome ?_ | with_reducible refine st_iseq ?_ | with_reducible refine st_irg1 ?_ | with_reducible refine st_izp ?_ | with_reducible refine sd_addI ?_ | with_reducible refine sd_subI ?_ | with_reducible refine sd_lenL ?_ | with_reducible refine sd_lenT ?_ | with_reducible refine sd_list ?_ | with_reducible refine sd_tuple ?_ | with_reducible refine sd_lt ?_ | with_reducible refine sd_le ?_ | with_reducible refine sd_gt ?_ | with_reducible refine sd_ge ?_ | with_reducible refine sd_eqI ?_ | with_reducible refine sd_neI ?_ | with_reducible refine sd_eqS ?_ | with_reducible refine sd_neS ?_ | with_reducible refine sd_slL ?_ | with_reducible refine sd_slT ?_ | with_reducible refine sd_int ?_ | with_reducible refine st_app (by with_unfolding_all rfl) ?_ | with_reducible refine st_clr (by with_unfolding_all rfl) ?_ | with_reducible refine st_retO (by with_unfolding_all rfl) ?_ | with_reducible refine st_retV (by with_unfolding_all rfl) ?_ | with_reducible refine st_aug (by with_unfolding_all rfl) ?_ | with_reducible refine And.intro (by with_unfolding_all rfl) ?_ | with_reducible refine Exists.intro _ (And.intro (by with_unfolding_all rfl) ?_) | with_reducible refine And.intro (le_size (by with_unfolding_all rfl)) ?_ | with_reducible refine st_frz (by with_unfolding_all rfl) ?_))
    unfold numD at q
    rw [if_pos h6] at q
    exact q
  · rw [decide_eq_false (p := (6 : Int) < (cs.length : Int)) (by omega)]
    refine iteF ?_
    (repeat (first | with_reducible refine ss_ix (by assumption) (by assumption) ?_ | with_reducible refine ss_len (by assumption) ?_ | with_reducible refine ss_in ?_ | with_reducible refine ss_nin ?_ | with_reducible refine ss_eq ?_ | with_reducible refine ss_ne ?_ | with_reducible refine ss_mid (by assumption) ?_ | with_reducible refine ss_to (by assumption) ?_ | with_reducible refine ss_from (by assumption) ?_ | with_reducible refine ss_is ?_ | with_reducible refine ss_isnt ?_ | with_reducible refine ss_aug ?_ | with_reducible refine st_nx ?_ | with_reducible refine st_rt ?_ | with_reducible refine st_bk ?_ | with_reducible refine st_ct ?_ | with_reducible refine st_bind1 ?_ | with_reducible refine st_v (by with_unfolding_all rfl) ?_ | with_reducible refine st_seq ?_ | with_reducible refine st_skip ?_ | with_reducible refine st_asg ?_ | with_reducible refine st_ret ?_ | with_reducible refine st_if ?_ | with_reducible refine st_for ?_ | with_reducible refine st_par2 ?_ | with_reducible refine st_par3 ?_ | with_reducible refine st_asgT ?_ | with_reducible refine st_drop ?_ | with_reducible refine st_brk ?_ | with_reducible refine st_cnt ?_ | with_reducible refine st_tE ?_ | with_reducible refine st_tCmp ?_ | with_reducible refine st_tNt ?_ | with_reducible refine st_tAn ?_ | with_reducible refine st_tO ?_ | with_reducible refine st_tT ?_ | with_reducible refine st_c ?_ | with_reducible refine st_tr ?_ | with_reducible refine st_fz ?_ | with_reducible refine st_op ?_ | with_reducible refine st_call ?_ | with_reducible refine st_callK ?_ | with_reducible refine st_lst ?_ | with_reducible refine st_tup ?_ | with_reducible refine st_sl ?_ | with_reducible refine st_eif ?_ | with_reducible refine st_and ?_ | with_reducible refine st_or ?_ | with_reducible refine st_not ?_ | with_reducible refine st_neg ?_ | with_reducible refine st_isi ?_ | with_reducible refine st_lc ?_ | with_reducible refine st_dc ?_ | with_reducible refine st_anil ?_ | with_reducible refine st_acons ?_ | with_reducible refine st_ono ?_ | with_reducible refine st_osome ?_ | with_reducible refine st_iseq ?_ | with_reducible refine st_irg1 ?_ | with_reducible refine st_izp ?_ | with_reducible refine sd_addI ?_ | with_reducible refine sd_subI ?_ | with_reducible refine sd_lenL ?_ | with_reducible refine sd_lenT ?_ | with_reducible refine sd_list ?_ | with_reducible refine sd_tuple ?_ | with_reducible refine sd_lt ?_ | with_reducible refine sd_le ?_ | with_reducible refine sd_gt ?_ | with_reducible refine sd_ge ?_ | with_reducible refine sd_eqI ?_ | with_reducible refine sd_neI ?_ | with_reducible refine sd_eqS ?_ | with_reducible refine sd_neS ?_ | with_reducible refine sd_slL ?_ | with_reducible refine sd_slT ?_ | with_reducible refine sd_int ?_ | with_reducible refine st_app (by with_unfolding_all rfl) ?_ | with_reducible refine st_clr (by with_unfolding_all rfl) ?_ | with_reducible refine st_retO (by with_unfolding_all rfl) ?_ | with_reducible refine st_retV (by with_unfolding_all rfl) ?_ | with_reducible refine st_aug (by with_unfolding_all rfl) ?_ | with_reducible refine And.intro (by with_unfolding_all rfl) ?_ | with_reducible refine Exists.intro _ (And.intro (by with_unfolding_all rfl) ?_) | with_reducible refine And.intro (le_size (by with_unfolding_all rfl)) ?_ | with_reducible refine st_frz (by with_unfolding_all rfl) ?_))
    refine is_plain_ok hl ?_
    (repeat (first | with_reducible refine ss_ix (by assumption) (by assumption) ?_ | with_reducible refine ss_len (by assumption) ?_ | with_reducible refine ss_in ?_ | with_reducible refine ss_nin ?_ | with_reducible refine ss_eq ?_ | with_reducible refine ss_ne ?_ | with_reducible refine ss_mid (by assumption) ?_ | with_reducible refine ss_to (by assumption) ?_ | with_reducible refine ss_from (by assumption) ?_ | with_reducible refine ss_is ?_ | with_reducible refine ss_isnt ?_ | with_reducible refine ss_aug ?_ | with_reducible refine st_nx ?_ | with_reducible refine st_rt ?_ | with_reducible refine st_bk ?_ | with_reducible refine st_ct ?_ | with_reducible refine st_bind1 ?_ | with_reducible refine st_v (by with_unfolding_all rfl) ?_ | with_reducible refine st_seq ?_ | with_reducible refine st_skip ?_ | with_reducible refine st_asg ?_ | with_reducible refine st_ret ?_ | with_reducible refine st_if ?_ | with_reducible refine st_for ?_ | with_reducible refine st_par2 ?_ | with_reducible refine st_par3 ?_ | with_reducible refine st_asgT ?_ | with_reducible refine st_drop ?_ | with_reducible refine st_brk ?_ | with_reducible refine st_cnt ?_ | with_reducible refine st_tE ?_ | with_reducible refine st_tCmp ?_ | with_reducible refine st_tNt ?_ | with_reducible refine st_tAn ?_ | with_reducible refine st_tO ?_ | with_reducible refine st_tT ?_ | with_reducible refine st_c ?_ | with_reducible refine st_tr ?_ | with_reducible refine st_fz ?_ | with_reducible refine st_op ?_ | with_reducible refine st_call ?_ | with_reducible refine st_callK ?_ | with_reducible refine st_lst ?_ | with_reducible refine st_tup ?_ | with_reducible refine st_sl ?_ | with_reducible refine st_eif ?_ | with_reducible refine st_and ?_ | with_reducible refine st_or ?_ | with_reducible refine st_not ?_ | with_reducible refine st_neg ?_ | with_reducible refine st_isi ?_ | with_reducible refine st_lc ?_ | with_reducible refine st_dc ?_ | with_reducible refine st_anil ?_ | with_reducible refine st_acons ?_ | with_reducible refine st_ono ?_ | with_reducible refine st_osome ?_ | with_reducible refine st_iseq ?_ | with_reducible refine st_irg1 ?_ | with_reducible refine st_izp ?_ | with_reducible refine sd_addI ?_ | with_reducible refine sd_subI ?_ | with_reducible refine sd_lenL ?_ | with_reducible refine sd_lenT ?_ | with_reducible refine sd_list ?_ | with_reducible refine sd_tuple ?_ | with_reducible refine sd_lt ?_ | with_reducible refine sd_le ?_ | with_reducible refine sd_gt ?_ | with_reducible refine sd_ge ?_ | with_reducible refine sd_eqI ?_ | with_reducible refine sd_neI ?_ | with_reducible refine sd_eqS ?_ | with_reducible refine sd_neS ?_ | with_reducible refine sd_slL ?_ | with_reducible refine sd_slT ?_ | with_reducible refine sd_int ?_ | with_reducible refine st_app (by with_unfolding_all rfl) ?_ | with_reducible refine st_clr (by with_unfolding_all rfl) ?_ | with_reducible refine st_retO (by with_unfolding_all rfl) ?_ | with_reducible refine st_retV (by with_unfolding_all rfl) ?_ | with_reducible refine st_aug (by with_unfolding_all rfl) ?_ | with_reducible refine And.intro (by with_unfolding_all rfl) ?_ | with_reducible refine Exists.intro _ (And.intro (by with_unfolding_all rfl) ?_) | with_reducible refine And.intro (le_size (by with_unfolding_all rfl)) ?_ | with_reducible refine st_frz (by with_unfolding_all rfl) ?_))
    unfold numD at q
    rw [if_neg h6] at q
    cases hp : plainB cs with
    | false =>
      refine iteT ?_
      (repeat (first | with_reducible refine ss_ix (by assumption) (by assumption) ?_ | with_reducible refine ss_len (by assumption) ?_ | with_reducible refine ss_in ?_ | with_reducible refine ss_nin ?_ | with_reducible refine ss_eq ?_ | with_reducible refine ss_ne ?_ | with_reducible refine ss_mid (by assumption) ?_ | with_reducible refine ss_to (by assumption) ?_ | with_reducible refine ss_from (by assumption) ?_ | with_reducible refine ss_is ?_ | with_reducible refine ss_isnt ?_ | with_reducible refine ss_aug ?_ | with_reducible refine st_nx ?_ | with_reducible refine st_rt ?_ | with_reducible refine st_bk ?_ | with_reducible refine st_ct ?_ | with_reducible refine st_bind1 ?_ | with_reducible refine st_v (by with_unfolding_all rfl) ?_ | with_reducible refine st_seq ?_ | with_reducible refine st_skip ?_ | with_reducible refine st_asg ?_ | with_reducible refine st_ret ?_ | with_reducible refine st_if ?_ | with_reducible refine st_for ?_ | with_reducible refine st_par2 ?_ | with_reducible refine st_par3 ?_ | with_reducible refine st_asgT ?_ | with_reducible refine st_drop ?_ | with_reducible refine st_brk ?_ | with_reducible refine st_cnt ?_ | with_reducible refine st_tE ?_ | with_reducible refine st_tCmp ?_ | with_reducible refine st_tNt ?_ | with_reducible refine st_tAn ?_ | with_reducible refine st_tO ?_ | with_reducible refine st_tT ?_ | with_reducible refine st_c ?_ | with_reducible refine st_tr ?_ | with_reducible refine st_fz ?_ | with_reducible refine st_op ?_ | with_reducible refine st_call ?_ | with_reducible refine st_callK ?_ | with_reducible refine st_lst ?_ | with_reducible refine st_tup ?_ | with_reducible refine st_sl ?_ | with_reducible refine st_eif ?_ | with_reducible refine st_and ?_ | with_reducible refine st_or ?_ | with_reducible refine st_not ?_ | with_reducible refine st_neg ?_ | with_reducible refine st_isi ?_ | with_reducible refine st_lc ?_ | with_reducible refine st_dc ?_ | with_reducible refine st_anil ?_ | with_reducible refine st_acons ?_ | with_reducible refine st_ono ?_ | with_reducible refine st_osome ?_ | with_reducible refine st_iseq ?_ | with_reducible refine st_irg1 ?_ | with_reducible refine st_izp ?_ | with_reducible refine sd_addI ?_ | with_reducible refine sd_subI ?_ | with_reducible refine sd_lenL ?_ | with_reducible refine sd_lenT ?_ | with_reducible refine sd_list ?_ | with_reducible refine sd_tuple ?_ | with_reducible refine sd_lt ?_ | with_reducible refine sd_le ?_ | with_reducible refine sd_gt ?_ | with_reducible refine sd_ge ?_ | with_reducible refine sd_eqI ?_ | with_reducible refine sd_neI ?_ | with_reducible refine sd_eqS ?_ | with_reducible refine sd_neS ?_ | with_reducible refine sd_slL ?_ | with_reducible refine sd_slT ?_ | with_reducible refine sd_int ?_ | with_reducible refine st_app (by with_unfolding_all rfl) ?_ | with_reducible refine st_clr (by with_unfolding_all rfl) ?_ | with_reducible refine st_retO (by with_unfolding_all rfl) ?_ | with_reducible refine st_retV (by with_unfolding_all rfl) ?_ | with_reducible refine st_aug (by with_unfolding_all rfl) ?_ | with_reducible refine And.intro (by with_unfolding_all rfl) ?_ | with_reducible refine Exists.intro _ (And.intro (by with_unfolding_all rfl) ?_) | with_reducible refine And.intro (le_size (by with_unfolding_all rfl)) ?_ | with_reducible refine st_frz (by with_unfolding_all rfl) ?_))
      rw [hp, if_neg (by decide)] at q
      exact q
    | true =>
      refine iteF ?_
      (repeat (first | with_reducible refine ss_ix (by assumption) (by assumption) ?_ | with_reducible refine ss_len (by assumption) ?_ | with_reducible refine ss_in ?_ | with_reducible refine ss_nin ?_ | with_reducible refine ss_eq ?_ | with_reducible refine ss_ne ?_ | with_reducible refine ss_mid (by assumption) ?_ | with_reducible refine ss_to (by assumption) ?_ | with_reducible refine ss_from (by assumption) ?_ | with_reducible refine ss_is ?_ | with_reducible refine ss_isnt ?_ | with_reducible refine ss_aug ?_ | with_reducible refine st_nx ?_ | with_reducible refine st_rt ?_ | with_reducible refine st_bk ?_ | with_reducible refine st_ct ?_ | with_reducible refine st_bind1 ?_ | with_reducible refine st_v (by with_unfolding_all rfl) ?_ | with_reducible refine st_seq ?_ | with_reducible refine st_skip ?_ | with_reducible refine st_asg ?_ | with_reducible refine st_ret ?_ | with_reducible refine st_if ?_ | with_reducible refine st_for ?_ | with_reducible refine st_par2 ?_ | with_reducible refine st_par3 ?_ | with_reducible refine st_asgT ?_ | with_reducible refine st_drop ?_ | with_reducible refine st_brk ?_ | with_reducible refine st_cnt ?_ | with_reducible refine st_tE ?_ | with_reducible refine st_tCmp ?_ | with_reducible refine st_tNt ?_ | with_reducible refine st_tAn ?_ | with_reducible refine st_tO ?_ | with_reducible refine st_tT ?_ | with_reducible refine st_c ?_ | with_reducible refine st_tr ?_ | with_reducible refine st_fz ?_ | with_reducible refine st_op ?_ | with_reducible refine st_call ?_ | with_reducible refine st_callK ?_ | with_reducible refine st_lst ?_ | with_reducible refine st_tup ?_ | with_reducible refine st_sl ?_ | with_reducible refine st_eif ?_ | with_reducible refine st_and ?_ | with_reducible refine st_or ?_ | with_reducible refine st_not ?_ | with_reducible refine st_neg ?_ | with_reducible refine st_isi ?_ | with_reducible refine st_lc ?_ | with_reducible refine st_dc ?_ | with_reducible refine st_anil ?_ | with_reducible refine st_acons ?_ | with_reducible refine st_ono ?_ | with_reducible refine st_osome ?_ | with_reducible refine st_iseq ?_ | with_reducible refine st_irg1 ?_ | with_reducible refine st_izp ?_ | with_reducible refine sd_addI ?_ | with_reducible refine sd_subI ?_ | with_reducible refine sd_lenL ?_ | with_reducible refine sd_lenT ?_ | with_reducible refine sd_list ?_ | with_reducible refine sd_tuple ?_ | with_reducible refine sd_lt ?_ | with_reducible refine sd_le ?_ | with_reducible refine sd_gt ?_ | with_reducible refine sd_ge ?_ | with_reducible refine sd_eqI ?_ | with_reducible refine sd_neI ?_ | with_reducible refine sd_eqS ?_ | with_reducible refine sd_neS ?_ | with_reducible refine sd_slL ?_ | with_reducible refine sd_slT ?_ | with_reducible refine sd_int ?_ | with_reducible refine st_app (by with_unfolding_all rfl) ?_ | with_reducible refine st_clr (by with_unfolding_all rfl) ?_ | with_reducible refine st_retO (by with_unfolding_all rfl) ?_ | with_reducible refine st_retV (by with_unfolding_all rfl) ?_ | with_reducible refine st_aug (by with_unfolding_all rfl) ?_ | with_reducible refine And.intro (by with_unfolding_all rfl) ?_ | with_reducible refine Exists.intro _ (And.intro (by with_unfolding_all rfl) ?_) | with_reducible refine And.intro (le_size (by with_unfolding_all rfl)) ?_ | with_reducible refine st_frz (by with_unfolding_all rfl) ?_))
      rw [hp, if_pos rfl] at q
      have hp2 := hp
      unfold plainB at hp2
      rw [Bool.and_eq_true, Bool.and_eq_true] at hp2
      have hd : cs.all (fun c => decide (48 ≤ c) && decide (c ≤ 57)) = true := by
        rw [List.all_eq_true]
        intro c hc
        have := List.all_eq_true.mp hp2.1.2 c hc
        have := (dig_iff c).mp (of_decide_eq_true this)
        simp [this]
      have hne : cs ≠ [] := by simpa using hp2.1.1
      refine ⟨((NumText.digitsVal cs : Nat) : Int), SX.int_S hd hne (by omega), by rw [tx_len]; omega, ?_⟩
      (repeat (first | with_reducible refine ss_ix (by assumption) (by assumption) ?_ | with_reducible refine ss_len (by assumption) ?_ | with_reducible refine ss_in ?_ | with_reducible refine ss_nin ?_ | with_reducible refine ss_eq ?_ | with_reducible refine ss_ne ?_ | with_reducible refine ss_mid (by assumption) ?_ | with_reducible refine ss_to (by assumption) ?_ | with_reducible refine ss_from (by assumption) ?_ | with_reducible refine ss_is ?_ | with_reducible refine ss_isnt ?_ | with_reducible refine ss_aug ?_ | with_reducible refine st_nx ?_ | with_reducible refine st_rt ?_ | with_reducible refine st_bk ?_ | with_reducible refine st_ct ?_ | with_reducible refine st_bind1 ?_ | with_reducible refine st_v (by with_unfolding_all rfl) ?_ | with_reducible refine st_seq ?_ | with_reducible refine st_skip ?_ | with_reducible refine st_asg ?_ | with_reducible refine st_ret ?_ | with_reducible refine st_if ?_ | with_reducible refine st_for ?_ | with_reducible refine st_par2 ?_ | with_reducible refine st_par3 ?_ | with_reducible refine st_asgT ?_ | with_reducible refine st_drop ?_ | with_reducible refine st_brk ?_ | with_reducible refine st_cnt ?_ | with_reducible refine st_tE ?_ | with_reducible refine st_tCmp ?_ | with_reducible refine st_tNt ?_ | with_reducible refine st_tAn ?_ | with_reducible refine st_tO ?_ | with_reducible refine st_tT ?_ | with_reducible refine st_c ?_ | with_reducible refine st_tr ?_ | with_reducible refine st_fz ?_ | with_reducible refine st_op ?_ | with_reducible refine st_call ?_ | with_reducible refine st_callK ?_ | with_reducible refine st_lst ?_ | with_reducible refine st_tup ?_ | with_reducible refine st_sl ?_ | with_reducible refine st_eif ?_ | with_reducible refine st_and ?_ | with_reducible refine st_or ?_ | with_reducible refine st_not ?_ | with_reducible refine st_neg ?_ | with_reducible refine st_isi ?_ | with_reducible refine st_lc ?_ | with_reducible refine st_dc ?_ | with_reducible refine st_anil ?_ | with_reducible refine st_acons ?_ | with_reducible refine st_ono ?_ | with_reducible refine st_osome ?_ | with_reducible refine st_iseq ?_ | with_reducible refine st_irg1 ?_ | with_reducible refine st_izp ?_ | with_reducible refine sd_addI ?_ | with_reducible refine sd_subI ?_ | with_reducible refine sd_lenL ?_ | with_reducible refine sd_lenT ?_ | with_reducible refine sd_list ?_ | with_reducible refine sd_tuple ?_ | with_reducible refine sd_lt ?_ | with_reducible refine sd_le ?_ | with_reducible refine sd_gt ?_ | with_reducible refine sd_ge ?_ | with_reducible refine sd_eqI ?_ | with_reducible refine sd_neI ?_ | with_reducible refine sd_eqS ?_ | with_reducible refine sd_neS ?_ | with_reducible refine sd_slL ?_ | with_reducible refine sd_slT ?_ | with_reducible refine sd_int ?_ | with_reducible refine st_app (by with_unfolding_all rfl) ?_ | with_reducible refine st_clr (by with_unfolding_all rfl) ?_ | with_reducible refine st_retO (by with_unfolding_all rfl) ?_ | with_reducible refine st_retV (by with_unfolding_all rfl) ?_ | with_reducible refine st_aug (by with_unfolding_all rfl) ?_ | with_reducible refine And.intro (by with_unfolding_all rfl) ?_ | with_reducible refine Exists.intro _ (And.intro (by with_unfolding_all rfl) ?_) | with_reducible refine And.intro (le_size (by with_unfolding_all rfl)) ?_ | with_reducible refine st_frz (by with_unfolding_all rfl) ?_))
      exact q
end Law

namespace Law
open PySem L2 DI
def tok (a : Nat) (kind : Str) (w : Str) : D := .tup [.int (a : Int), .str kind, .str w]
def mid (cs : List Nat) (a b : Nat) : List Nat := (cs.drop a).take (b - a)
def badN (w : List Nat) : Bool := decide (6 < w.length) || !plainB w
def tkC (cs : List Nat) (f : Nat → List D) (a c : Nat) : List D :=
  if c = 32 then f (a + 1)
  else if c ∈ aL then (if 6 < runE aL cs a - a then [tok a "bad word" ""] else tok a "word" (tx (mid cs a (runE aL cs a))) :: f (runE aL cs a))
  else if c ∈ dL then (if badN (mid cs a (runE dL cs a)) = true then [tok a "bad number" ""] else tok a "number" (tx (mid cs a (runE dL cs a))) :: f (runE dL cs a))
  else if c ∈ sL then tok a "sign" (tx [c]) :: f (a + 1)
  else [tok a "bad sign" ""]
def tk (cs : List Nat) : Nat → Nat → List D
  | 0, _ => []
  | n + 1, a => match cs[a]? with
    | none => [tok a "end" ""]
    | some c => tkC cs (tk cs n) a c
theorem tk_some {cs : List Nat} {n a c : Nat} (h : cs[a]? = some c) : tk cs (n + 1) a = tkC cs (tk cs n) a c := by
  show (match cs[a]? with | none => [tok a "end" ""] | some c => tkC cs (tk cs n) a c) = _
  rw [h]
theorem tk_none {cs : List Nat} {n a : Nat} (h : cs[a]? = none) : tk cs (n + 1) a = [tok a "end" ""] := by
  show (match cs[a]? with | none => [tok a "end" ""] | some c => tkC cs (tk cs n) a c) = _
  rw [h]
def toks (cs : List Nat) : List D := tk cs (cs.length + 1) 0
theorem runE_gt {S cs : List Nat} {a c : Nat} (h : cs[a]? = some c) (hc : c ∈ S) : a < runE S cs a := by
  rw [runE_in h hc]
  exact runE_ge S cs (a + 1)
theorem mid_len (cs : List Nat) (a b : Nat) : (mid cs a b).length ≤ cs.length := by
  unfold mid
  rw [List.length_take, List.length_drop]
  omega
theorem numD_bad {w : List Nat} (h : badN w = true) : numD w = .non := by
  unfold badN at h
  unfold numD
  split
  · rfl
  · rename_i h6
    rw [decide_eq_false h6, Bool.false_or] at h
    rw [if_neg (by rw [Bool.not_eq_true']at h; rw [h]; decide)]
theorem numD_good {w : List Nat} (h : badN w = false) : ∃ i, numD w = .int i := by
  unfold badN at h
  rw [Bool.or_eq_false_iff] at h
  unfold numD
  rw [if_neg (of_decide_eq_false h.1), if_pos (by have := h.2; rw [Bool.not_eq_false'] at this; exact this)]
  exact ⟨_, rfl⟩
theorem tokens_of_ok {cs : List Nat} (hl : cs.length ≤ 100000) {Q : Rz → Prop} (q : Q (.new (toks cs))) : S_tokens_of [.str (tx cs)] Q := by
  refine st_body rfl ?_
  unfold b_tokens_of
  rw [let_eq, dig_eq, sgn_eq, show (Str.ofString " ") = tx [32] by decide +kernel, show c_MOST_LETTERS = .int 6 from rfl]
  (repeat (first | with_reducible refine ss_ix (by assumption) (by assumption) ?_ | with_reducible refine ss_len (by assumption) ?_ | with_reducible refine ss_in ?_ | with_reducible refine ss_nin ?_ | with_reducible refine ss_eq ?_ | with_reducible refine ss_ne ?_ | with_reducible refine ss_mid (by assumption) ?_ | with_reducible refine ss_to (by assumption) ?_ | with_reducible refine ss_from (by assumption) ?_ | with_reducible refine ss_is ?_ | with_reducible refine ss_isnt ?_ | with_reducible refine ss_aug ?_ | with_reducible refine st_nx ?_ | with_reducible refine st_rt ?_ | with_reducible refine st_bk ?_ | with_reducible refine st_ct ?_ | with_reducible refine st_bind1 ?_ | with_reducible refine st_v (by with_unfolding_all rfl) ?_ | with_reducible refine st_seq ?_ | with_reducible refine st_skip ?_ | with_reducible refine st_asg ?_ | with_reducible refine st_ret ?_ | with_reducible refine st_if ?_ | with_reducible refine st_for ?_ | with_reducible refine st_par2 ?_ | with_reducible refine st_par3 ?_ | with_reducible refine st_asgT ?_ | with_reducible refine st_drop ?_ | with_reducible refine st_brk ?_ | with_reducible refine st_cnt ?_ | with_reducible refine st_tE ?_ | with_reducible refine st_tCmp ?_ | with_reducible refine st_tNt ?_ | with_reducible refine st_tAn ?_ | with_reducible refine st_tO ?_ | with_reducible refine st_tT ?_ | with_reducible refine st_c ?_ | with_reducible refine st_tr ?_ | with_reducible refine st_fz ?_ | with_reducible refine st_op ?_ | with_reducible refine st_call ?_ | with_reducible refine st_callK ?_ | with_reducible refine st_lst ?_ | with_reducible refine st_tup ?_ | with_reducible refine st_sl ?_ | with_reducible refine st_eif ?_ | with_reducible refine st_and ?_ | with_reducible refine st_or ?_ | with_reducible refine st_not ?_ | with_reducible refine st_neg ?_ | with_reducible refine st_isi ?_ | with_reducible refine st_lc ?_ | with_reducible refine st_dc ?_ | with_reducible refine st_anil ?_ | with_reducible refine st_acons ?_ | with_reducible refine st_ono ?_ | with_reducible refine st_osome ?_ | with_reducible refine st_iseq ?_ | with_reducible refine st_irg1 ?_ | with_reducible refine st_izp ?_ | with_reducible refine sd_addI ?_ | with_reducible refine sd_subI ?_ | with_reducible refine sd_lenL ?_ | with_reducible refine sd_lenT ?_ | with_reducible refine sd_list ?_ | with_reducible refine sd_tuple ?_ | with_reducible refine sd_lt ?_ | with_reducible refine sd_le ?_ | with_reducible refine sd_gt ?_ | with_reducible refine sd_ge ?_ | with_reducible refine sd_eqI ?_ | with_reducible refine sd_neI ?_ | with_reducible refine sd_eqS ?_ | with_reducible refine sd_neS ?_ | with_reducible refine sd_slL ?_ | with_reducible refine sd_slT ?_ | with_reducible refine sd_int ?_ | with_reducible refine st_app (by with_unfolding_all rfl) ?_ | with_reducible refine st_clr (by with_unfolding_all rfl) ?_ | with_reducible refine st_retO (by with_unfolding_all rfl) ?_ | with_reducible refine st_retV (by with_unfolding_all rfl) ?_ | with_reducible refine st_aug (by with_unfolding_all rfl) ?_ | with_reducible refine And.intro (by with_unfolding_all rfl) ?_ | with_reducible refine Exists.intro _ (And.intro (by with_unfolding_all rfl) ?_) | with_reducible refine And.intro (le_size (by with_unfolding_all rfl)) ?_ | with_reducible refine st_frz (by with_unfolding_all rfl) ?_))
  refine wh_by (J := fun m δ => ∃ (k : Nat) (acc : List D) (n : Nat) (s3 s4 : Sl), m = cs.length - k ∧ k ≤ cs.length ∧ acc.length ≤ k ∧ cs.length - k < n ∧ acc ++ tk cs n k = toks cs ∧ δ = [.val (.str (tx cs)), .own acc, .val (.int (k : Int)), s3, s4]) ?_ (n := cs.length) ⟨0, [], cs.length + 1, _, _, rfl, Nat.zero_le _, Nat.zero_le _, by omega, rfl, rfl⟩
  rintro m δ N ⟨k, acc, n, s3, s4, rfl, hk, ha, hn, hR, rfl⟩ hN
  (repeat (first | with_reducible refine ss_ix (by assumption) (by assumption) ?_ | with_reducible refine ss_len (by assumption) ?_ | with_reducible refine ss_in ?_ | with_reducible refine ss_nin ?_ | with_reducible refine ss_eq ?_ | with_reducible refine ss_ne ?_ | with_reducible refine ss_mid (by assumption) ?_ | with_reducible refine ss_to (by assumption) ?_ | with_reducible refine ss_from (by assumption) ?_ | with_reducible refine ss_is ?_ | with_reducible refine ss_isnt ?_ | with_reducible refine ss_aug ?_ | with_reducible refine st_nx ?_ | with_reducible refine st_rt ?_ | with_reducible refine st_bk ?_ | with_reducible refine st_ct ?_ | with_reducible refine st_bind1 ?_ | with_reducible refine st_v (by with_unfolding_all rfl) ?_ | with_reducible refine st_seq ?_ | with_reducible refine st_skip ?_ | with_reducible refine st_asg ?_ | with_reducible refine st_ret ?_ | with_reducible refine st_if ?_ | with_reducible refine st_for ?_ | with_reducible refine st_par2 ?_ | with_reducible refine st_par3 ?_ | with_reducible refine st_asgT ?_ | with_reducible refine st_drop ?_ | with_reducible refine st_brk ?_ | with_reducible refine st_cnt ?_ | with_reducible refine st_tE ?_ | with_reducible refine st_tCmp ?_ | with_reducible refine st_tNt ?_ | with_reducible refine st_tAn ?_ | with_reducible refine st_tO ?_ | with_reducible refine st_tT ?_ | with_reducible refine st_c ?_ | with_reducible refine st_tr ?_ | with_reducible refine st_fz ?_ | with_reducible refine st_op ?_ | with_reducible refine st_call ?_ | with_reducible refine st_callK ?_ | with_reducible refine st_lst ?_ | with_reducible refine st_tup ?_ | with_reducible refine st_sl ?_ | with_reducible refine st_eif ?_ | with_reducible refine st_and ?_ | with_reducible refine st_or ?_ | with_reducible refine st_not ?_ | with_reducible refine st_neg ?_ | with_reducible refine st_isi ?_ | with_reducible refine st_lc ?_ | with_reducible refine st_dc ?_ | with_reducible refine st_anil ?_ | with_reducible refine st_acons ?_ | with_reducible refine st_ono ?_ | with_reducible refine st_osome ?_ | with_reducible refine st_iseq ?_ | with_reducible refine st_irg1 ?_ | with_reducible refine st_izp ?_ | with_reducible refine sd_addI ?_ | with_reducible refine sd_subI ?_ | with_reducible refine sd_lenL ?_ | with_reducible refine sd_lenT ?_ | with_reducible refine sd_list ?_ | with_reducible refine sd_tuple ?_ | with_reducible refine sd_lt ?_ | with_reducible refine sd_le ?_ | with_reducible refine sd_gt ?_ | with_reducible refine sd_ge ?_ | with_reducible refine sd_eqI ?_ | with_reducible refine sd_neI ?_ | with_reducible refine sd_eqS ?_ | with_reducible refine sd_neS ?_ | with_reducible refine sd_slL ?_ | with_reducible refine sd_slT ?_ | with_reducible refine sd_int ?_ | with_reducible refine st_app (by with_unfolding_all rfl) ?_ | with_reducible refine st_clr (by with_unfolding_all rfl) ?_ | with_reducible refine st_retO (by with_unfolding_all rfl) ?_ | with_reducible refine st_retV (by with_unfolding_all rfl) ?_ | with_reducible refine st_aug (by with_unfolding_all rfl) ?_ | with_reducible refine And.intro (by with_unfolding_all rfl) ?_ | with_reducible refine Exists.intro _ (And.intro (by with_unfolding_all rfl) ?_) | with_reducible refine And.intro (le_size (by with_unfolding_all rfl)) ?_ | with_reducible refine st_frz (by with_unfolding_all rfl) ?_))
  obtain ⟨n, rfl⟩ : ∃ j, n = j + 1 := ⟨n - 1, by omega⟩
  have fin : ∀ (d : D), acc ++ [d] = toks cs → addD (.lst acc) (.lst [d]) Q := fun d e => ⟨by show acc.length + 1 ≤ sizeLine; exact Nat.le_trans (show acc.length + 1 ≤ 100001 by omega) (by decide), by rw [e]; exact q⟩
  by_cases h : k < cs.length
  · rw [decide_eq_true (p := (k : Int) < (cs.length : Int)) (by omega)]
    refine iteT ?_
    have hc : cs[k]? = some cs[k] := List.getElem?_eq_getElem h
    generalize cs[k] = c at hc
    rw [tk_some hc] at hR
    unfold tkC at hR
    (repeat (first | with_reducible refine ss_ix (by assumption) (by assumption) ?_ | with_reducible refine ss_len (by assumption) ?_ | with_reducible refine ss_in ?_ | with_reducible refine ss_nin ?_ | with_reducible refine ss_eq ?_ | with_reducible refine ss_ne ?_ | with_reducible refine ss_mid (by assumption) ?_ | with_reducible refine ss_to (by assumption) ?_ | with_reducible refine ss_from (by assumption) ?_ | with_reducible refine ss_is ?_ | with_reducible refine ss_isnt ?_ | with_reducible refine ss_aug ?_ | with_reducible refine st_nx ?_ | with_reducible refine st_rt ?_ | with_reducible refine st_bk ?_ | with_reducible refine st_ct ?_ | with_reducible refine st_bind1 ?_ | with_reducible refine st_v (by with_unfolding_all rfl) ?_ | with_reducible refine st_seq ?_ | with_reducible refine st_skip ?_ | with_reducible refine st_asg ?_ | with_reducible refine st_ret ?_ | with_reducible refine st_if ?_ | with_reducible refine st_for ?_ | with_reducible refine st_par2 ?_ | with_reducible refine st_par3 ?_ | with_reducible refine st_asgT ?_ | with_reducible refine st_drop ?_ | with_reducible refine st_brk ?_ | with_reducible refine st_cnt ?_ | with_reducible refine st_tE ?_ | with_reducible refine st_tCmp ?_ | with_reducible refine st_tNt ?_ | with_reducible refine st_tAn ?_ | with_reducible refine st_tO ?_ | with_reducible refine st_tT ?_ | with_reducible refine st_c ?_ | with_reducible refine st_tr ?_ | with_reducible refine st_fz ?_ | with_reducible refine st_op ?_ | with_reducible refine st_call ?_ | with_reducible refine st_callK ?_ | with_reducible refine st_lst ?_ | with_reducible refine st_tup ?_ | with_reducible refine st_sl ?_ | with_reducible refine st_eif ?_ | with_reducible refine st_and ?_ | with_reducible refine st_or ?_ | with_reducible refine st_not ?_ | with_reducible refine st_neg ?_ | with_reducible refine st_isi ?_ | with_reducible refine st_lc ?_ | with_reducible refine st_dc ?_ | with_reducible refine st_anil ?_ | with_reducible refine st_acons ?_ | with_reducible refine st_ono ?_ | with_reducible refine st_osome ?_ | with_reducible refine st_iseq ?_ | with_reducible refine st_irg1 ?_ | with_reducible refine st_izp ?_ | with_reducible refine sd_addI ?_ | with_reducible refine sd_subI ?_ | with_reducible refine sd_lenL ?_ | with_reducible refine sd_lenT ?_ | with_reducible refine sd_list ?_ | with_reducible refine sd_tuple ?_ | with_reducible refine sd_lt ?_ | with_reducible refine sd_le ?_ | with_reducible refine sd_gt ?_ | with_reducible refine sd_ge ?_ | with_reducible refine sd_eqI ?_ | with_reducible refine sd_neI ?_ | with_reducible refine sd_eqS ?_ | with_reducible refine sd_neS ?_ | with_reducible refine sd_slL ?_ | with_reducible refine sd_slT ?_ | with_reducible refine sd_int ?_ | with_reducible refine st_app (by with_unfolding_all rfl) ?_ | with_reducible refine st_clr (by with_unfolding_all rfl) ?_ | with_reducible refine st_retO (by with_unfolding_all rfl) ?_ | with_reducible refine st_retV (by with_unfolding_all rfl) ?_ | with_reducible refine st_aug (by with_unfolding_all rfl) ?_ | with_reducible refine And.intro (by with_unfolding_all rfl) ?_ | with_reducible refine Exists.intro _ (And.intro (by with_unfolding_all rfl) ?_) | with_reducible refine And.intro (le_size (by with_unfolding_all rfl)) ?_ | with_reducible refine st_frz (by with_unfolding_all rfl) ?_))
    by_cases h1 : c = 32
    · rw [decide_eq_true (p := [c] = [32]) (by rw [h1])]
      refine iteT ?_
      (repeat (first | with_reducible refine ss_ix (by assumption) (by assumption) ?_ | with_reducible refine ss_len (by assumption) ?_ | with_reducible refine ss_in ?_ | with_reducible refine ss_nin ?_ | with_reducible refine ss_eq ?_ | with_reducible refine ss_ne ?_ | with_reducible refine ss_mid (by assumption) ?_ | with_reducible refine ss_to (by assumption) ?_ | with_reducible refine ss_from (by assumption) ?_ | with_reducible refine ss_is ?_ | with_reducible refine ss_isnt ?_ | with_reducible refine ss_aug ?_ | with_reducible refine st_nx ?_ | with_reducible refine st_rt ?_ | with_reducible refine st_bk ?_ | with_reducible refine st_ct ?_ | with_reducible refine st_bind1 ?_ | with_reducible refine st_v (by with_unfolding_all rfl) ?_ | with_reducible refine st_seq ?_ | with_reducible refine st_skip ?_ | with_reducible refine st_asg ?_ | with_reducible refine st_ret ?_ | with_reducible refine st_if ?_ | with_reducible refine st_for ?_ | with_reducible refine st_par2 ?_ | with_reducible refine st_par3 ?_ | with_reducible refine st_asgT ?_ | with_reducible refine st_drop ?_ | with_reducible refine st_brk ?_ | with_reducible refine st_cnt ?_ | with_reducible refine st_tE ?_ | with_reducible refine st_tCmp ?_ | with_reducible refine st_tNt ?_ | with_reducible refine st_tAn ?_ | with_reducible refine st_tO ?_ | with_reducible refine st_tT ?_ | with_reducible refine st_c ?_ | with_reducible refine st_tr ?_ | with_reducible refine st_fz ?_ | with_reducible refine st_op ?_ | with_reducible refine st_call ?_ | with_reducible refine st_callK ?_ | with_reducible refine st_lst ?_ | with_reducible refine st_tup ?_ | with_reducible refine st_sl ?_ | with_reducible refine st_eif ?_ | with_reducible refine st_and ?_ | with_reducible refine st_or ?_ | with_reducible refine st_not ?_ | with_reducible refine st_neg ?_ | with_reducible refine st_isi ?_ | with_reducible refine st_lc ?_ | with_reducible refine st_dc ?_ | with_reducible refine st_anil ?_ | with_reducible refine st_acons ?_ | with_reducible refine st_ono ?_ | with_reducible refine st_osome ?_ | with_reducible refine st_iseq ?_ | with_reducible refine st_irg1 ?_ | with_reducible refine st_izp ?_ | with_reducible refine sd_addI ?_ | with_reducible refine sd_subI ?_ | with_reducible refine sd_lenL ?_ | with_reducible refine sd_lenT ?_ | with_reducible refine sd_list ?_ | with_reducible refine sd_tuple ?_ | with_reducible refine sd_lt ?_ | with_reducible refine sd_le ?_ | with_reducible refine sd_gt ?_ | with_reducible refine sd_ge ?_ | with_reducible refine sd_eqI ?_ | with_reducible refine sd_neI ?_ | with_reducible refine sd_eqS ?_ | with_reducible refine sd_neS ?_ | with_reducible refine sd_slL ?_ | with_reducible refine sd_slT ?_ | with_reducible refine sd_int ?_ | with_reducible refine st_app (by with_unfolding_all rfl) ?_ | with_reducible refine st_clr (by with_unfolding_all rfl) ?_ | with_reducible refine st_retO (by with_unfolding_all rfl) ?_ | with_reducible refine st_retV (by with_unfolding_all rfl) ?_ | with_reducible refine st_aug (by with_unfolding_all rfl) ?_ | with_reducible refine And.intro (by with_unfolding_all rfl) ?_ | with_reducible refine Exists.intro _ (And.intro (by with_unfolding_all rfl) ?_) | with_reducible refine And.intro (le_size (by with_unfolding_all rfl)) ?_ | with_reducible refine st_frz (by with_unfolding_all rfl) ?_))
      rw [if_pos h1] at hR
      exact hN (cs.length - (k + 1)) _ (by omega) ⟨k + 1, acc, n, _, _, rfl, h, by omega, by omega, hR, rfl⟩
    · rw [decide_eq_false (p := [c] = [32]) (by simpa using h1)]
      refine iteF ?_
      (repeat (first | with_reducible refine ss_ix (by assumption) (by assumption) ?_ | with_reducible refine ss_len (by assumption) ?_ | with_reducible refine ss_in ?_ | with_reducible refine ss_nin ?_ | with_reducible refine ss_eq ?_ | with_reducible refine ss_ne ?_ | with_reducible refine ss_mid (by assumption) ?_ | with_reducible refine ss_to (by assumption) ?_ | with_reducible refine ss_from (by assumption) ?_ | with_reducible refine ss_is ?_ | with_reducible refine ss_isnt ?_ | with_reducible refine ss_aug ?_ | with_reducible refine st_nx ?_ | with_reducible refine st_rt ?_ | with_reducible refine st_bk ?_ | with_reducible refine st_ct ?_ | with_reducible refine st_bind1 ?_ | with_reducible refine st_v (by with_unfolding_all rfl) ?_ | with_reducible refine st_seq ?_ | with_reducible refine st_skip ?_ | with_reducible refine st_asg ?_ | with_reducible refine st_ret ?_ | with_reducible refine st_if ?_ | with_reducible refine st_for ?_ | with_reducible refine st_par2 ?_ | with_reducible refine st_par3 ?_ | with_reducible refine st_asgT ?_ | with_reducible refine st_drop ?_ | with_reducible refine st_brk ?_ | with_reducible refine st_cnt ?_ | with_reducible refine st_tE ?_ | with_reducible refine st_tCmp ?_ | with_reducible refine st_tNt ?_ | with_reducible refine st_tAn ?_ | with_reducible refine st_tO ?_ | with_reducible refine st_tT ?_ | with_reducible refine st_c ?_ | with_reducible refine st_tr ?_ | with_reducible refine st_fz ?_ | with_reducible refine st_op ?_ | with_reducible refine st_call ?_ | with_reducible refine st_callK ?_ | with_reducible refine st_lst ?_ | with_reducible refine st_tup ?_ | with_reducible refine st_sl ?_ | with_reducible refine st_eif ?_ | with_reducible refine st_and ?_ | with_reducible refine st_or ?_ | with_reducible refine st_not ?_ | with_reducible refine st_neg ?_ | with_reducible refine st_isi ?_ | with_reducible refine st_lc ?_ | with_reducible refine st_dc ?_ | with_reducible refine st_anil ?_ | with_reducible refine st_acons ?_ | with_reducible refine st_ono ?_ | with_reducible refine st_osome ?_ | with_reducible refine st_iseq ?_ | with_reducible refine st_irg1 ?_ | with_reducible refine st_izp ?_ | with_reducible refine sd_addI ?_ | with_reducible refine sd_subI ?_ | with_reducible refine sd_lenL ?_ | with_reducible refine sd_lenT ?_ | with_reducible refine sd_list ?_ | with_reducible refine sd_tuple ?_ | with_reducible refine sd_lt ?_ | with_reducible refine sd_le ?_ | with_reducible refine sd_gt ?_ | with_reducible refine sd_ge ?_ | with_reducible refine sd_eqI ?_ | with_reducible refine sd_neI ?_ | with_reducible refine sd_eqS ?_ | with_reducible refine sd_neS ?_ | with_reducible refine sd_slL ?_ | with_reducible refine sd_slT ?_ | with_reducible refine sd_int ?_ | with_reducible refine st_app (by with_unfolding_all rfl) ?_ | with_reducible refine st_clr (by with_unfolding_all rfl) ?_ | with_reducible refine st_retO (by with_unfolding_all rfl) ?_ | with_reducible refine st_retV (by with_unfolding_all rfl) ?_ | with_reducible refine st_aug (by with_unfolding_all rfl) ?_ | with_reducible refine And.intro (by with_unfolding_all rfl) ?_ | with_reducible refine Exists.intro _ (And.intro (by with_unfolding_all rfl) ?_) | with_reducible refine And.intro (le_size (by with_unfolding_all rfl)) ?_ | with_reducible refine st_frz (by with_unfolding_all rfl) ?_))
      rw [if_neg h1] at hR
      by_cases h2 : c ∈ aL
      · rw [decide_eq_true h2]
        refine iteT ?_
        rw [if_pos h2] at hR
        (repeat (first | with_reducible refine ss_ix (by assumption) (by assumption) ?_ | with_reducible refine ss_len (by assumption) ?_ | with_reducible refine ss_in ?_ | with_reducible refine ss_nin ?_ | with_reducible refine ss_eq ?_ | with_reducible refine ss_ne ?_ | with_reducible refine ss_mid (by assumption) ?_ | with_reducible refine ss_to (by assumption) ?_ | with_reducible refine ss_from (by assumption) ?_ | with_reducible refine ss_is ?_ | with_reducible refine ss_isnt ?_ | with_reducible refine ss_aug ?_ | with_reducible refine st_nx ?_ | with_reducible refine st_rt ?_ | with_reducible refine st_bk ?_ | with_reducible refine st_ct ?_ | with_reducible refine st_bind1 ?_ | with_reducible refine st_v (by with_unfolding_all rfl) ?_ | with_reducible refine st_seq ?_ | with_reducible refine st_skip ?_ | with_reducible refine st_asg ?_ | with_reducible refine st_ret ?_ | with_reducible refine st_if ?_ | with_reducible refine st_for ?_ | with_reducible refine st_par2 ?_ | with_reducible refine st_par3 ?_ | with_reducible refine st_asgT ?_ | with_reducible refine st_drop ?_ | with_reducible refine st_brk ?_ | with_reducible refine st_cnt ?_ | with_reducible refine st_tE ?_ | with_reducible refine st_tCmp ?_ | with_reducible refine st_tNt ?_ | with_reducible refine st_tAn ?_ | with_reducible refine st_tO ?_ | with_reducible refine st_tT ?_ | with_reducible refine st_c ?_ | with_reducible refine st_tr ?_ | with_reducible refine st_fz ?_ | with_reducible refine st_op ?_ | with_reducible refine st_call ?_ | with_reducible refine st_callK ?_ | with_reducible refine st_lst ?_ | with_reducible refine st_tup ?_ | with_reducible refine st_sl ?_ | with_reducible refine st_eif ?_ | with_reducible refine st_and ?_ | with_reducible refine st_or ?_ | with_reducible refine st_not ?_ | with_reducible refine st_neg ?_ | with_reducible refine st_isi ?_ | with_reducible refine st_lc ?_ | with_reducible refine st_dc ?_ | with_reducible refine st_anil ?_ | with_reducible refine st_acons ?_ | with_reducible refine st_ono ?_ | with_reducible refine st_osome ?_ | with_reducible refine st_iseq ?_ | with_reducible refine st_irg1 ?_ | with_reducible refine st_izp ?_ | with_reducible refine sd_addI ?_ | with_reducible refine sd_subI ?_ | with_reducible refine sd_lenL ?_ | with_reducible refine sd_lenT ?_ | with_reducible refine sd_list ?_ | with_reducible refine sd_tuple ?_ | with_reducible refine sd_lt ?_ | with_reducible refine sd_le ?_ | with_reducible refine sd_gt ?_ | with_reducible refine sd_ge ?_ | with_reducible refine sd_eqI ?_ | with_reducible refine sd_neI ?_ | with_reducible refine sd_eqS ?_ | with_reducible refine sd_neS ?_ | with_reducible refine sd_slL ?_ | with_reducible refine sd_slT ?_ | with_reducible refine sd_int ?_ | with_reducible refine st_app (by with_unfolding_all rfl) ?_ | with_reducible refine st_clr (by with_unfolding_all rfl) ?_ | with_reducible refine st_retO (by with_unfolding_all rfl) ?_ | with_reducible refine st_retV (by with_unfolding_all rfl) ?_ | with_reducible refine st_aug (by with_unfolding_all rfl) ?_ | with_reducible refine And.intro (by with_unfolding_all rfl) ?_ | with_reducible refine Exists.intro _ (And.intro (by with_unfolding_all rfl) ?_) | with_reducible refine And.intro (le_size (by with_unfolding_all rfl)) ?_ | with_reducible refine st_frz (by with_unfolding_all rfl) ?_))
        refine run_end_ok hl hk ?_
        (repeat (first | with_reducible refine ss_ix (by assumption) (by assumption) ?_ | with_reducible refine ss_len (by assumption) ?_ | with_reducible refine ss_in ?_ | with_reducible refine ss_nin ?_ | with_reducible refine ss_eq ?_ | with_reducible refine ss_ne ?_ | with_reducible refine ss_mid (by assumption) ?_ | with_reducible refine ss_to (by assumption) ?_ | with_reducible refine ss_from (by assumption) ?_ | with_reducible refine ss_is ?_ | with_reducible refine ss_isnt ?_ | with_reducible refine ss_aug ?_ | with_reducible refine st_nx ?_ | with_reducible refine st_rt ?_ | with_reducible refine st_bk ?_ | with_reducible refine st_ct ?_ | with_reducible refine st_bind1 ?_ | with_reducible refine st_v (by with_unfolding_all rfl) ?_ | with_reducible refine st_seq ?_ | with_reducible refine st_skip ?_ | with_reducible refine st_asg ?_ | with_reducible refine st_ret ?_ | with_reducible refine st_if ?_ | with_reducible refine st_for ?_ | with_reducible refine st_par2 ?_ | with_reducible refine st_par3 ?_ | with_reducible refine st_asgT ?_ | with_reducible refine st_drop ?_ | with_reducible refine st_brk ?_ | with_reducible refine st_cnt ?_ | with_reducible refine st_tE ?_ | with_reducible refine st_tCmp ?_ | with_reducible refine st_tNt ?_ | with_reducible refine st_tAn ?_ | with_reducible refine st_tO ?_ | with_reducible refine st_tT ?_ | with_reducible refine st_c ?_ | with_reducible refine st_tr ?_ | with_reducible refine st_fz ?_ | with_reducible refine st_op ?_ | with_reducible refine st_call ?_ | with_reducible refine st_callK ?_ | with_reducible refine st_lst ?_ | with_reducible refine st_tup ?_ | with_reducible refine st_sl ?_ | with_reducible refine st_eif ?_ | with_reducible refine st_and ?_ | with_reducible refine st_or ?_ | with_reducible refine st_not ?_ | with_reducible refine st_neg ?_ | with_reducible refine st_isi ?_ | with_reducible refine st_lc ?_ | with_reducible refine st_dc ?_ | with_reducible refine st_anil ?_ | with_reducible refine st_acons ?_ | with_reducible refine st_ono ?_ | with_reducible refine st_osome ?_ | with_reducible refine st_iseq ?_ | with_reducible refine st_irg1 ?_ | with_reducible refine st_izp ?_ | with_reducible refine sd_addI ?_ | with_reducible refine sd_subI ?_ | with_reducible refine sd_lenL ?_ | with_reducible refine sd_lenT ?_ | with_reducible refine sd_list ?_ | with_reducible refine sd_tuple ?_ | with_reducible refine sd_lt ?_ | with_reducible refine sd_le ?_ | with_reducible refine sd_gt ?_ | with_reducible refine sd_ge ?_ | with_reducible refine sd_eqI ?_ | with_reducible refine sd_neI ?_ | with_reducible refine sd_eqS ?_ | with_reducible refine sd_neS ?_ | with_reducible refine sd_slL ?_ | with_reducible refine sd_slT ?_ | with_reducible refine sd_int ?_ | with_reducible refine st_app (by with_unfolding_all rfl) ?_ | with_reducible refine st_clr (by with_unfolding_all rfl) ?_ | with_reducible refine st_retO (by with_unfolding_all rfl) ?_ | with_reducible refine st_retV (by with_unfolding_all rfl) ?_ | with_reducible refine st_aug (by with_unfolding_all rfl) ?_ | with_reducible refine And.intro (by with_unfolding_all rfl) ?_ | with_reducible refine Exists.intro _ (And.intro (by with_unfolding_all rfl) ?_) | with_reducible refine And.intro (le_size (by with_unfolding_all rfl)) ?_ | with_reducible refine st_frz (by with_unfolding_all rfl) ?_))
        have hg := runE_gt hc h2
        have hle := runE_le aL hk
        by_cases h6 : 6 < runE aL cs k - k
        · rw [decide_eq_true (p := (6 : Int) < ((runE aL cs k : Nat) : Int) - (k : Int)) (by omega)]
          refine iteT ?_
          (repeat (first | with_reducible refine ss_ix (by assumption) (by assumption) ?_ | with_reducible refine ss_len (by assumption) ?_ | with_reducible refine ss_in ?_ | with_reducible refine ss_nin ?_ | with_reducible refine ss_eq ?_ | with_reducible refine ss_ne ?_ | with_reducible refine ss_mid (by assumption) ?_ | with_reducible refine ss_to (by assumption) ?_ | with_reducible refine ss_from (by assumption) ?_ | with_reducible refine ss_is ?_ | with_reducible refine ss_isnt ?_ | with_reducible refine ss_aug ?_ | with_reducible refine st_nx ?_ | with_reducible refine st_rt ?_ | with_reducible refine st_bk ?_ | with_reducible refine st_ct ?_ | with_reducible refine st_bind1 ?_ | with_reducible refine st_v (by with_unfolding_all rfl) ?_ | with_reducible refine st_seq ?_ | with_reducible refine st_skip ?_ | with_reducible refine st_asg ?_ | with_reducible refine st_ret ?_ | with_reducible refine st_if ?_ | with_reducible refine st_for ?_ | with_reducible refine st_par2 ?_ | with_reducible refine st_par3 ?_ | with_reducible refine st_asgT ?_ | with_reducible refine st_drop ?_ | with_reducible refine st_brk ?_ | with_reducible refine st_cnt ?_ | with_reducible refine st_tE ?_ | with_reducible refine st_tCmp ?_ | with_reducible refine st_tNt ?_ | with_reducible refine st_tAn ?_ | with_reducible refine st_tO ?_ | with_reducible refine st_tT ?_ | with_reducible refine st_c ?_ | with_reducible refine st_tr ?_ | with_reducible refine st_fz ?_ | with_reducible refine st_op ?_ | with_reducible refine st_call ?_ | with_reducible refine st_callK ?_ | with_reducible refine st_lst ?_ | with_reducible refine st_tup ?_ | with_reducible refine st_sl ?_ | with_reducible refine st_eif ?_ | with_reducible refine st_and ?_ | with_reducible refine st_or ?_ | with_reducible refine st_not ?_ | with_reducible refine st_neg ?_ | with_reducible refine st_isi ?_ | with_reducible refine st_lc ?_ | with_reducible refine st_dc ?_ | with_reducible refine st_anil ?_ | with_reducible refine st_acons ?_ | with_reducible refine st_ono ?_ | with_reducible refine st_osome ?_ | with_reducible refine st_iseq ?_ | with_reducible refine st_irg1 ?_ | with_reducible refine st_izp ?_ | with_reducible refine sd_addI ?_ | with_reducible refine sd_subI ?_ | with_reducible refine sd_lenL ?_ | with_reducible refine sd_lenT ?_ | with_reducible refine sd_list ?_ | with_reducible refine sd_tuple ?_ | with_reducible refine sd_lt ?_ | with_reducible refine sd_le ?_ | with_reducible refine sd_gt ?_ | with_reducible refine sd_ge ?_ | with_reducible refine sd_eqI ?_ | with_reducible refine sd_neI ?_ | with_reducible refine sd_eqS ?_ | with_reducible refine sd_neS ?_ | with_reducible refine sd_slL ?_ | with_reducible refine sd_slT ?_ | with_reducible refine sd_int ?_ | with_reducible refine st_app (by with_unfolding_all rfl) ?_ | with_reducible refine st_clr (by with_unfolding_all rfl) ?_ | with_reducible refine st_retO (by with_unfolding_all rfl) ?_ | with_reducible refine st_retV (by with_unfolding_all rfl) ?_ | with_reducible refine st_aug (by with_unfolding_all rfl) ?_ | with_reducible refine And.intro (by with_unfolding_all rfl) ?_ | with_reducible refine Exists.intro _ (And.intro (by with_unfolding_all rfl) ?_) | with_reducible refine And.intro (le_size (by with_unfolding_all rfl)) ?_ | with_reducible refine st_frz (by with_unfolding_all rfl) ?_))
          rw [if_pos h6] at hR
          exact fin _ hR
        · rw [decide_eq_false (p := (6 : Int) < ((runE aL cs k : Nat) : Int) - (k : Int)) (by omega)]
          refine iteF ?_
          rw [if_neg h6] at hR
          (repeat (first | with_reducible refine ss_ix (by assumption) (by assumption) ?_ | with_reducible refine ss_len (by assumption) ?_ | with_reducible refine ss_in ?_ | with_reducible refine ss_nin ?_ | with_reducible refine ss_eq ?_ | with_reducible refine ss_ne ?_ | with_reducible refine ss_mid (by assumption) ?_ | with_reducible refine ss_to (by assumption) ?_ | with_reducible refine ss_from (by assumption) ?_ | with_reducible refine ss_is ?_ | with_reducible refine ss_isnt ?_ | with_reducible refine ss_aug ?_ | with_reducible refine st_nx ?_ | with_reducible refine st_rt ?_ | with_reducible refine st_bk ?_ | with_reducible refine st_ct ?_ | with_reducible refine st_bind1 ?_ | with_reducible refine st_v (by with_unfolding_all rfl) ?_ | with_reducible refine st_seq ?_ | with_reducible refine st_skip ?_ | with_reducible refine st_asg ?_ | with_reducible refine st_ret ?_ | with_reducible refine st_if ?_ | with_reducible refine st_for ?_ | with_reducible refine st_par2 ?_ | with_reducible refine st_par3 ?_ | with_reducible refine st_asgT ?_ | with_reducible refine st_drop ?_ | with_reducible refine st_brk ?_ | with_reducible refine st_cnt ?_ | with_reducible refine st_tE ?_ | with_reducible refine st_tCmp ?_ | with_reducible refine st_tNt ?_ | with_reducible refine st_tAn ?_ | with_reducible refine st_tO ?_ | with_reducible refine st_tT ?_ | with_reducible refine st_c ?_ | with_reducible refine st_tr ?_ | with_reducible refine st_fz ?_ | with_reducible refine st_op ?_ | with_reducible refine st_call ?_ | with_reducible refine st_callK ?_ | with_reducible refine st_lst ?_ | with_reducible refine st_tup ?_ | with_reducible refine st_sl ?_ | with_reducible refine st_eif ?_ | with_reducible refine st_and ?_ | with_reducible refine st_or ?_ | with_reducible refine st_not ?_ | with_reducible refine st_neg ?_ | with_reducible refine st_isi ?_ | with_reducible refine st_lc ?_ | with_reducible refine st_dc ?_ | with_reducible refine st_anil ?_ | with_reducible refine st_acons ?_ | with_reducible refine st_ono ?_ | with_reducible refine st_osome ?_ | with_reducible refine st_iseq ?_ | with_reducible refine st_irg1 ?_ | with_reducible refine st_izp ?_ | with_reducible refine sd_addI ?_ | with_reducible refine sd_subI ?_ | with_reducible refine sd_lenL ?_ | with_reducible refine sd_lenT ?_ | with_reducible refine sd_list ?_ | with_reducible refine sd_tuple ?_ | with_reducible refine sd_lt ?_ | with_reducible refine sd_le ?_ | with_reducible refine sd_gt ?_ | with_reducible refine sd_ge ?_ | with_reducible refine sd_eqI ?_ | with_reducible refine sd_neI ?_ | with_reducible refine sd_eqS ?_ | with_reducible refine sd_neS ?_ | with_reducible refine sd_slL ?_ | with_reducible refine sd_slT ?_ | with_reducible refine sd_int ?_ | with_reducible refine st_app (by with_unfolding_all rfl) ?_ | with_reducible refine st_clr (by with_unfolding_all rfl) ?_ | with_reducible refine st_retO (by with_unfolding_all rfl) ?_ | with_reducible refine st_retV (by with_unfolding_all rfl) ?_ | with_reducible refine st_aug (by with_unfolding_all rfl) ?_ | with_reducible refine And.intro (by with_unfolding_all rfl) ?_ | with_reducible refine Exists.intro _ (And.intro (by with_unfolding_all rfl) ?_) | with_reducible refine And.intro (le_size (by with_unfolding_all rfl)) ?_ | with_reducible refine st_frz (by with_unfolding_all rfl) ?_))
          refine ⟨st_len0 ha (by omega), ?_⟩
          (repeat (first | with_reducible refine ss_ix (by assumption) (by assumption) ?_ | with_reducible refine ss_len (by assumption) ?_ | with_reducible refine ss_in ?_ | with_reducible refine ss_nin ?_ | with_reducible refine ss_eq ?_ | with_reducible refine ss_ne ?_ | with_reducible refine ss_mid (by assumption) ?_ | with_reducible refine ss_to (by assumption) ?_ | with_reducible refine ss_from (by assumption) ?_ | with_reducible refine ss_is ?_ | with_reducible refine ss_isnt ?_ | with_reducible refine ss_aug ?_ | with_reducible refine st_nx ?_ | with_reducible refine st_rt ?_ | with_reducible refine st_bk ?_ | with_reducible refine st_ct ?_ | with_reducible refine st_bind1 ?_ | with_reducible refine st_v (by with_unfolding_all rfl) ?_ | with_reducible refine st_seq ?_ | with_reducible refine st_skip ?_ | with_reducible refine st_asg ?_ | with_reducible refine st_ret ?_ | with_reducible refine st_if ?_ | with_reducible refine st_for ?_ | with_reducible refine st_par2 ?_ | with_reducible refine st_par3 ?_ | with_reducible refine st_asgT ?_ | with_reducible refine st_drop ?_ | with_reducible refine st_brk ?_ | with_reducible refine st_cnt ?_ | with_reducible refine st_tE ?_ | with_reducible refine st_tCmp ?_ | with_reducible refine st_tNt ?_ | with_reducible refine st_tAn ?_ | with_reducible refine st_tO ?_ | with_reducible refine st_tT ?_ | with_reducible refine st_c ?_ | with_reducible refine st_tr ?_ | with_reducible refine st_fz ?_ | with_reducible refine st_op ?_ | with_reducible refine st_call ?_ | with_reducible refine st_callK ?_ | with_reducible refine st_lst ?_ | with_reducible refine st_tup ?_ | with_reducible refine st_sl ?_ | with_reducible refine st_eif ?_ | with_reducible refine st_and ?_ | with_reducible refine st_or ?_ | with_reducible refine st_not ?_ | with_reducible refine st_neg ?_ | with_reducible refine st_isi ?_ | with_reducible refine st_lc ?_ | with_reducible refine st_dc ?_ | with_reducible refine st_anil ?_ | with_reducible refine st_acons ?_ | with_reducible refine st_ono ?_ | with_reducible refine st_osome ?_ | with_reducible refine st_iseq ?_ | with_reducible refine st_irg1 ?_ | with_reducible refine st_izp ?_ | with_reducible refine sd_addI ?_ | with_reducible refine sd_subI ?_ | with_reducible refine sd_lenL ?_ | with_reducible refine sd_lenT ?_ | with_reducible refine sd_list ?_ | with_reducible refine sd_tuple ?_ | with_reducible refine sd_lt ?_ | with_reducible refine sd_le ?_ | with_reducible refine sd_gt ?_ | with_reducible refine sd_ge ?_ | with_reducible refine sd_eqI ?_ | with_reducible refine sd_neI ?_ | with_reducible refine sd_eqS ?_ | with_reducible refine sd_neS ?_ | with_reducible refine sd_slL ?_ | with_reducible refine sd_slT ?_ | with_reducible refine sd_int ?_ | with_reducible refine st_app (by with_unfolding_all rfl) ?_ | with_reducible refine st_clr (by with_unfolding_all rfl) ?_ | with_reducible refine st_retO (by with_unfolding_all rfl) ?_ | with_reducible refine st_retV (by with_unfolding_all rfl) ?_ | with_reducible refine st_aug (by with_unfolding_all rfl) ?_ | with_reducible refine And.intro (by with_unfolding_all rfl) ?_ | with_reducible refine Exists.intro _ (And.intro (by with_unfolding_all rfl) ?_) | with_reducible refine And.intro (le_size (by with_unfolding_all rfl)) ?_ | with_reducible refine st_frz (by with_unfolding_all rfl) ?_))
          exact hN (cs.length - runE aL cs k) _ (by omega) ⟨runE aL cs k, acc ++ [tok k "word" (tx (mid cs k (runE aL cs k)))], n, _, _, rfl, hle, by rw [List.length_append]; simp; omega, by omega, by rw [List.append_assoc]; exact hR, rfl⟩
      · rw [decide_eq_false h2]
        refine iteF ?_
        (repeat (first | with_reducible refine ss_ix (by assumption) (by assumption) ?_ | with_reducible refine ss_len (by assumption) ?_ | with_reducible refine ss_in ?_ | with_reducible refine ss_nin ?_ | with_reducible refine ss_eq ?_ | with_reducible refine ss_ne ?_ | with_reducible refine ss_mid (by assumption) ?_ | with_reducible refine ss_to (by assumption) ?_ | with_reducible refine ss_from (by assumption) ?_ | with_reducible refine ss_is ?_ | with_reducible refine ss_isnt ?_ | with_reducible refine ss_aug ?_ | with_reducible refine st_nx ?_ | with_reducible refine st_rt ?_ | with_reducible refine st_bk ?_ | with_reducible refine st_ct ?_ | with_reducible refine st_bind1 ?_ | with_reducible refine st_v (by with_unfolding_all rfl) ?_ | with_reducible refine st_seq ?_ | with_reducible refine st_skip ?_ | with_reducible refine st_asg ?_ | with_reducible refine st_ret ?_ | with_reducible refine st_if ?_ | with_reducible refine st_for ?_ | with_reducible refine st_par2 ?_ | with_reducible refine st_par3 ?_ | with_reducible refine st_asgT ?_ | with_reducible refine st_drop ?_ | with_reducible refine st_brk ?_ | with_reducible refine st_cnt ?_ | with_reducible refine st_tE ?_ | with_reducible refine st_tCmp ?_ | with_reducible refine st_tNt ?_ | with_reducible refine st_tAn ?_ | with_reducible refine st_tO ?_ | with_reducible refine st_tT ?_ | with_reducible refine st_c ?_ | with_reducible refine st_tr ?_ | with_reducible refine st_fz ?_ | with_reducible refine st_op ?_ | with_reducible refine st_call ?_ | with_reducible refine st_callK ?_ | with_reducible refine st_lst ?_ | with_reducible refine st_tup ?_ | with_reducible refine st_sl ?_ | with_reducible refine st_eif ?_ | with_reducible refine st_and ?_ | with_reducible refine st_or ?_ | with_reducible refine st_not ?_ | with_reducible refine st_neg ?_ | with_reducible refine st_isi ?_ | with_reducible refine st_lc ?_ | with_reducible refine st_dc ?_ | with_reducible refine st_anil ?_ | with_reducible refine st_acons ?_ | with_reducible refine st_ono ?_ | with_reducible refine st_osome ?_ | with_reducible refine st_iseq ?_ | with_reducible refine st_irg1 ?_ | with_reducible refine st_izp ?_ | with_reducible refine sd_addI ?_ | with_reducible refine sd_subI ?_ | with_reducible refine sd_lenL ?_ | with_reducible refine sd_lenT ?_ | with_reducible refine sd_list ?_ | with_reducible refine sd_tuple ?_ | with_reducible refine sd_lt ?_ | with_reducible refine sd_le ?_ | with_reducible refine sd_gt ?_ | with_reducible refine sd_ge ?_ | with_reducible refine sd_eqI ?_ | with_reducible refine sd_neI ?_ | with_reducible refine sd_eqS ?_ | with_reducible refine sd_neS ?_ | with_reducible refine sd_slL ?_ | with_reducible refine sd_slT ?_ | with_reducible refine sd_int ?_ | with_reducible refine st_app (by with_unfolding_all rfl) ?_ | with_reducible refine st_clr (by with_unfolding_all rfl) ?_ | with_reducible refine st_retO (by with_unfolding_all rfl) ?_ | with_reducible refine st_retV (by with_unfolding_all rfl) ?_ | with_reducible refine st_aug (by with_unfolding_all rfl) ?_ | with_reducible refine And.intro (by with_unfolding_all rfl) ?_ | with_reducible refine Exists.intro _ (And.intro (by with_unfolding_all rfl) ?_) | with_reducible refine And.intro (le_size (by with_unfolding_all rfl)) ?_ | with_reducible refine st_frz (by with_unfolding_all rfl) ?_))
        rw [if_neg h2] at hR
        by_cases h3 : c ∈ dL
        · rw [decide_eq_true h3]
          refine iteT ?_
          rw [if_pos h3] at hR
          (repeat (first | with_reducible refine ss_ix (by assumption) (by assumption) ?_ | with_reducible refine ss_len (by assumption) ?_ | with_reducible refine ss_in ?_ | with_reducible refine ss_nin ?_ | with_reducible refine ss_eq ?_ | with_reducible refine ss_ne ?_ | with_reducible refine ss_mid (by assumption) ?_ | with_reducible refine ss_to (by assumption) ?_ | with_reducible refine ss_from (by assumption) ?_ | with_reducible refine ss_is ?_ | with_reducible refine ss_isnt ?_ | with_reducible refine ss_aug ?_ | with_reducible refine st_nx ?_ | with_reducible refine st_rt ?_ | with_reducible refine st_bk ?_ | with_reducible refine st_ct ?_ | with_reducible refine st_bind1 ?_ | with_reducible refine st_v (by with_unfolding_all rfl) ?_ | with_reducible refine st_seq ?_ | with_reducible refine st_skip ?_ | with_reducible refine st_asg ?_ | with_reducible refine st_ret ?_ | with_reducible refine st_if ?_ | with_reducible refine st_for ?_ | with_reducible refine st_par2 ?_ | with_reducible refine st_par3 ?_ | with_reducible refine st_asgT ?_ | with_reducible refine st_drop ?_ | with_reducible refine st_brk ?_ | with_reducible refine st_cnt ?_ | with_reducible refine st_tE ?_ | with_reducible refine st_tCmp ?_ | with_reducible refine st_tNt ?_ | with_reducible refine st_tAn ?_ | with_reducible refine st_tO ?_ | with_reducible refine st_tT ?_ | with_reducible refine st_c ?_ | with_reducible refine st_tr ?_ | with_reducible refine st_fz ?_ | with_reducible refine st_op ?_ | with_reducible refine st_call ?_ | with_reducible refine st_callK ?_ | with_reducible refine st_lst ?_ | with_reducible refine st_tup ?_ | with_reducible refine st_sl ?_ | with_reducible refine st_eif ?_ | with_reducible refine st_and ?_ | with_reducible refine st_or ?_ | with_reducible refine st_not ?_ | with_reducible refine st_neg ?_ | with_reducible refine st_isi ?_ | with_reducible refine st_lc ?_ | with_reducible refine st_dc ?_ | with_reducible refine st_anil ?_ | with_reducible refine st_acons ?_ | with_reducible refine st_ono ?_ | with_reducible refine st_osome ?_ | with_reducible refine st_iseq ?_ | with_reducible refine st_irg1 ?_ | with_reducible refine st_izp ?_ | with_reducible refine sd_addI ?_ | with_reducible refine sd_subI ?_ | with_reducible refine sd_lenL ?_ | with_reducible refine sd_lenT ?_ | with_reducible refine sd_list ?_ | with_reducible refine sd_tuple ?_ | with_reducible refine sd_lt ?_ | with_reducible refine sd_le ?_ | with_reducible refine sd_gt ?_ | with_reducible refine sd_ge ?_ | with_reducible refine sd_eqI ?_ | with_reducible refine sd_neI ?_ | with_reducible refine sd_eqS ?_ | with_reducible refine sd_neS ?_ | with_reducible refine sd_slL ?_ | with_reducible refine sd_slT ?_ | with_reducible refine sd_int ?_ | with_reducible refine st_app (by with_unfolding_all rfl) ?_ | with_reducible refine st_clr (by with_unfolding_all rfl) ?_ | with_reducible refine st_retO (by with_unfolding_all rfl) ?_ | with_reducible refine st_retV (by with_unfolding_all rfl) ?_ | with_reducible refine st_aug (by with_unfolding_all rfl) ?_ | with_reducible refine And.intro (by with_unfolding_all rfl) ?_ | with_reducible refine Exists.intro _ (And.intro (by with_unfolding_all rfl) ?_) | with_reducible refine And.intro (le_size (by with_unfolding_all rfl)) ?_ | with_reducible refine st_frz (by with_unfolding_all rfl) ?_))
          refine run_end_ok hl hk ?_
          have hg := runE_gt hc h3
          have hle := runE_le dL hk
          (repeat (first | with_reducible refine ss_ix (by assumption) (by assumption) ?_ | with_reducible refine ss_len (by assumption) ?_ | with_reducible refine ss_in ?_ | with_reducible refine ss_nin ?_ | with_reducible refine ss_eq ?_ | with_reducible refine ss_ne ?_ | with_reducible refine ss_mid (by assumption) ?_ | with_reducible refine ss_to (by assumption) ?_ | with_reducible refine ss_from (by assumption) ?_ | with_reducible refine ss_is ?_ | with_reducible refine ss_isnt ?_ | with_reducible refine ss_aug ?_ | with_reducible refine st_nx ?_ | with_reducible refine st_rt ?_ | with_reducible refine st_bk ?_ | with_reducible refine st_ct ?_ | with_reducible refine st_bind1 ?_ | with_reducible refine st_v (by with_unfolding_all rfl) ?_ | with_reducible refine st_seq ?_ | with_reducible refine st_skip ?_ | with_reducible refine st_asg ?_ | with_reducible refine st_ret ?_ | with_reducible refine st_if ?_ | with_reducible refine st_for ?_ | with_reducible refine st_par2 ?_ | with_reducible refine st_par3 ?_ | with_reducible refine st_asgT ?_ | with_reducible refine st_drop ?_ | with_reducible refine st_brk ?_ | with_reducible refine st_cnt ?_ | with_reducible refine st_tE ?_ | with_reducible refine st_tCmp ?_ | with_reducible refine st_tNt ?_ | with_reducible refine st_tAn ?_ | with_reducible refine st_tO ?_ | with_reducible refine st_tT ?_ | with_reducible refine st_c ?_ | with_reducible refine st_tr ?_ | with_reducible refine st_fz ?_ | with_reducible refine st_op ?_ | with_reducible refine st_call ?_ | with_reducible refine st_callK ?_ | with_reducible refine st_lst ?_ | with_reducible refine st_tup ?_ | with_reducible refine st_sl ?_ | with_reducible refine st_eif ?_ | with_reducible refine st_and ?_ | with_reducible refine st_or ?_ | with_reducible refine st_not ?_ | with_reducible refine st_neg ?_ | with_reducible refine st_isi ?_ | with_reducible refine st_lc ?_ | with_reducible refine st_dc ?_ | with_reducible refine st_anil ?_ | with_reducible refine st_acons ?_ | with_reducible refine st_ono ?_ | with_reducible refine st_osome ?_ | with_reducible refine st_iseq ?_ | with_reducible refine st_irg1 ?_ | with_reducible refine st_izp ?_ | with_reducible refine sd_addI ?_ | with_reducible refine sd_subI ?_ | with_reducible refine sd_lenL ?_ | with_reducible refine sd_lenT ?_ | with_reducible refine sd_list ?_ | with_reducible refine sd_tuple ?_ | with_reducible refine sd_lt ?_ | with_reducible refine sd_le ?_ | with_reducible refine sd_gt ?_ | with_reducible refine sd_ge ?_ | with_reducible refine sd_eqI ?_ | with_reducible refine sd_neI ?_ | with_reducible refine sd_eqS ?_ | with_reducible refine sd_neS ?_ | with_reducible refine sd_slL ?_ | with_reducible refine sd_slT ?_ | with_reducible refine sd_int ?_ | with_reducible refine st_app (by with_unfolding_all rfl) ?_ | with_reducible refine st_clr (by with_unfolding_all rfl) ?_ | with_reducible refine st_retO (by with_unfolding_all rfl) ?_ | with_reducible refine st_retV (by with_unfolding_all rfl) ?_ | with_reducible refine st_aug (by with_unfolding_all rfl) ?_ | with_reducible refine And.intro (by with_unfolding_all rfl) ?_ | with_reducible refine Exists.intro _ (And.intro (by with_unfolding_all rfl) ?_) | with_reducible refine And.intro (le_size (by with_unfolding_all rfl)) ?_ | with_reducible refine st_frz (by with_unfolding_all rfl) ?_))
          refine read_numeral_ok (cs := mid cs k (runE dL cs k)) (Nat.le_trans (mid_len _ _ _) hl) ?_
          (repeat (first | with_reducible refine ss_ix (by assumption) (by assumption) ?_ | with_reducible refine ss_len (by assumption) ?_ | with_reducible refine ss_in ?_ | with_reducible refine ss_nin ?_ | with_reducible refine ss_eq ?_ | with_reducible refine ss_ne ?_ | with_reducible refine ss_mid (by assumption) ?_ | with_reducible refine ss_to (by assumption) ?_ | with_reducible refine ss_from (by assumption) ?_ | with_reducible refine ss_is ?_ | with_reducible refine ss_isnt ?_ | with_reducible refine ss_aug ?_ | with_reducible refine st_nx ?_ | with_reducible refine st_rt ?_ | with_reducible refine st_bk ?_ | with_reducible refine st_ct ?_ | with_reducible refine st_bind1 ?_ | with_reducible refine st_v (by with_unfolding_all rfl) ?_ | with_reducible refine st_seq ?_ | with_reducible refine st_skip ?_ | with_reducible refine st_asg ?_ | with_reducible refine st_ret ?_ | with_reducible refine st_if ?_ | with_reducible refine st_for ?_ | with_reducible refine st_par2 ?_ | with_reducible refine st_par3 ?_ | with_reducible refine st_asgT ?_ | with_reducible refine st_drop ?_ | with_reducible refine st_brk ?_ | with_reducible refine st_cnt ?_ | with_reducible refine st_tE ?_ | with_reducible refine st_tCmp ?_ | with_reducible refine st_tNt ?_ | with_reducible refine st_tAn ?_ | with_reducible refine st_tO ?_ | with_reducible refine st_tT ?_ | with_reducible refine st_c ?_ | with_reducible refine st_tr ?_ | with_reducible refine st_fz ?_ | with_reducible refine st_op ?_ | with_reducible refine st_call ?_ | with_reducible refine st_callK ?_ | with_reducible refine st_lst ?_ | with_reducible refine st_tup ?_ | with_reducible refine st_sl ?_ | with_reducible refine st_eif ?_ | with_reducible refine st_and ?_ | with_reducible refine st_or ?_ | with_reducible refine st_not ?_ | with_reducible refine st_neg ?_ | with_reducible refine st_isi ?_ | with_reducible refine st_lc ?_ | with_reducible refine st_dc ?_ | with_reducible refine st_anil ?_ | with_reducible refine st_acons ?_ | with_reducible refine st_ono ?_ | with_reducible refine st_osome ?_ | with_reducible refine st_iseq ?_ | with_reducible refine st_irg1 ?_ | with_reducible refine st_izp ?_ | with_reducible refine sd_addI ?_ | with_reducible refine sd_subI ?_ | with_reducible refine sd_lenL ?_ | with_reducible refine sd_lenT ?_ | with_reducible refine sd_list ?_ | with_reducible refine sd_tuple ?_ | with_reducible refine sd_lt ?_ | with_reducible refine sd_le ?_ | with_reducible refine sd_gt ?_ | with_reducible refine sd_ge ?_ | with_reducible refine sd_eqI ?_ | with_reducible refine sd_neI ?_ | with_reducible refine sd_eqS ?_ | with_reducible refine sd_neS ?_ | with_reducible refine sd_slL ?_ | with_reducible refine sd_slT ?_ | with_reducible refine sd_int ?_ | with_reducible refine st_app (by with_unfolding_all rfl) ?_ | with_reducible refine st_clr (by with_unfolding_all rfl) ?_ | with_reducible refine st_retO (by with_unfolding_all rfl) ?_ | with_reducible refine st_retV (by with_unfolding_all rfl) ?_ | with_reducible refine st_aug (by with_unfolding_all rfl) ?_ | with_reducible refine And.intro (by with_unfolding_all rfl) ?_ | with_reducible refine Exists.intro _ (And.intro (by with_unfolding_all rfl) ?_) | with_reducible refine And.intro (le_size (by with_unfolding_all rfl)) ?_ | with_reducible refine st_frz (by with_unfolding_all rfl) ?_))
          cases h5 : badN (mid cs k (runE dL cs k)) with
          | true =>
            rw [if_pos h5] at hR
            rw [numD_bad h5]
            (repeat (first | with_reducible refine ss_ix (by assumption) (by assumption) ?_ | with_reducible refine ss_len (by assumption) ?_ | with_reducible refine ss_in ?_ | with_reducible refine ss_nin ?_ | with_reducible refine ss_eq ?_ | with_reducible refine ss_ne ?_ | with_reducible refine ss_mid (by assumption) ?_ | with_reducible refine ss_to (by assumption) ?_ | with_reducible refine ss_from (by assumption) ?_ | with_reducible refine ss_is ?_ | with_reducible refine ss_isnt ?_ | with_reducible refine ss_aug ?_ | with_reducible refine st_nx ?_ | with_reducible refine st_rt ?_ | with_reducible refine st_bk ?_ | with_reducible refine st_ct ?_ | with_reducible refine st_bind1 ?_ | with_reducible refine st_v (by with_unfolding_all rfl) ?_ | with_reducible refine st_seq ?_ | with_reducible refine st_skip ?_ | with_reducible refine st_asg ?_ | with_reducible refine st_ret ?_ | with_reducible refine st_if ?_ | with_reducible refine st_for ?_ | with_reducible refine st_par2 ?_ | with_reducible refine st_par3 ?_ | with_reducible refine st_asgT ?_ | with_reducible refine st_drop ?_ | with_reducible refine st_brk ?_ | with_reducible refine st_cnt ?_ | with_reducible refine st_tE ?_ | with_reducible refine st_tCmp ?_ | with_reducible refine st_tNt ?_ | with_reducible refine st_tAn ?_ | with_reducible refine st_tO ?_ | with_reducible refine st_tT ?_ | with_reducible refine st_c ?_ | with_reducible refine st_tr ?_ | with_reducible refine st_fz ?_ | with_reducible refine st_op ?_ | with_reducible refine st_call ?_ | with_reducible refine st_callK ?_ | with_reducible refine st_lst ?_ | with_reducible refine st_tup ?_ | with_reducible refine st_sl ?_ | with_reducible refine st_eif ?_ | with_reducible refine st_and ?_ | with_reducible refine st_or ?_ | with_reducible refine st_not ?_ | with_reducible refine st_neg ?_ | with_reducible refine st_isi ?_ | with_reducible refine st_lc ?_ | with_reducible refine st_dc ?_ | with_reducible refine st_anil ?_ | with_reducible refine st_acons ?_ | with_reducible refine st_ono ?_ | with_reducible refine st_osome ?_ | with_reducible refine st_iseq ?_ | with_reducible refine st_irg1 ?_ | with_reducible refine st_izp ?_ | with_reducible refine sd_addI ?_ | with_reducible refine sd_subI ?_ | with_reducible refine sd_lenL ?_ | with_reducible refine sd_lenT ?_ | with_reducible refine sd_list ?_ | with_reducible refine sd_tuple ?_ | with_reducible refine sd_lt ?_ | with_reducible refine sd_le ?_ | with_reducible refine sd_gt ?_ | with_reducible refine sd_ge ?_ | with_reducible refine sd_eqI ?_ | with_reducible refine sd_neI ?_ | with_reducible refine sd_eqS ?_ | with_reducible refine sd_neS ?_ | with_reducible refine sd_slL ?_ | with_reducible refine sd_slT ?_ | with_reducible refine sd_int ?_ | with_reducible refine st_app (by with_unfolding_all rfl) ?_ | with_reducible refine st_clr (by with_unfolding_all rfl) ?_ | with_reducible refine st_retO (by with_unfolding_all rfl) ?_ | with_reducible refine st_retV (by with_unfolding_all rfl) ?_ | with_reducible refine st_aug (by with_unfolding_all rfl) ?_ | with_reducible refine And.intro (by with_unfolding_all rfl) ?_ | with_reducible refine Exists.intro _ (And.intro (by with_unfolding_all rfl) ?_) | with_reducible refine And.intro (le_size (by with_unfolding_all rfl)) ?_ | with_reducible refine st_frz (by with_unfolding_all rfl) ?_))
            refine iteT ?_
            (repeat (first | with_reducible refine ss_ix (by assumption) (by assumption) ?_ | with_reducible refine ss_len (by assumption) ?_ | with_reducible refine ss_in ?_ | with_reducible refine ss_nin ?_ | with_reducible refine ss_eq ?_ | with_reducible refine ss_ne ?_ | with_reducible refine ss_mid (by assumption) ?_ | with_reducible refine ss_to (by assumption) ?_ | with_reducible refine ss_from (by assumption) ?_ | with_reducible refine ss_is ?_ | with_reducible refine ss_isnt ?_ | with_reducible refine ss_aug ?_ | with_reducible refine st_nx ?_ | with_reducible refine st_rt ?_ | with_reducible refine st_bk ?_ | with_reducible refine st_ct ?_ | with_reducible refine st_bind1 ?_ | with_reducible refine st_v (by with_unfolding_all rfl) ?_ | with_reducible refine st_seq ?_ | with_reducible refine st_skip ?_ | with_reducible refine st_asg ?_ | with_reducible refine st_ret ?_ | with_reducible refine st_if ?_ | with_reducible refine st_for ?_ | with_reducible refine st_par2 ?_ | with_reducible refine st_par3 ?_ | with_reducible refine st_asgT ?_ | with_reducible refine st_drop ?_ | with_reducible refine st_brk ?_ | with_reducible refine st_cnt ?_ | with_reducible refine st_tE ?_ | with_reducible refine st_tCmp ?_ | with_reducible refine st_tNt ?_ | with_reducible refine st_tAn ?_ | with_reducible refine st_tO ?_ | with_reducible refine st_tT ?_ | with_reducible refine st_c ?_ | with_reducible refine st_tr ?_ | with_reducible refine st_fz ?_ | with_reducible refine st_op ?_ | with_reducible refine st_call ?_ | with_reducible refine st_callK ?_ | with_reducible refine st_lst ?_ | with_reducible refine st_tup ?_ | with_reducible refine st_sl ?_ | with_reducible refine st_eif ?_ | with_reducible refine st_and ?_ | with_reducible refine st_or ?_ | with_reducible refine st_not ?_ | with_reducible refine st_neg ?_ | with_reducible refine st_isi ?_ | with_reducible refine st_lc ?_ | with_reducible refine st_dc ?_ | with_reducible refine st_anil ?_ | with_reducible refine st_acons ?_ | with_reducible refine st_ono ?_ | with_reducible refine st_osome ?_ | with_reducible refine st_iseq ?_ | with_reducible refine st_irg1 ?_ | with_reducible refine st_izp ?_ | with_reducible refine sd_addI ?_ | with_reducible refine sd_subI ?_ | with_reducible refine sd_lenL ?_ | with_reducible refine sd_lenT ?_ | with_reducible refine sd_list ?_ | with_reducible refine sd_tuple ?_ | with_reducible refine sd_lt ?_ | with_reducible refine sd_le ?_ | with_reducible refine sd_gt ?_ | with_reducible refine sd_ge ?_ | with_reducible refine sd_eqI ?_ | with_reducible refine sd_neI ?_ | with_reducible refine sd_eqS ?_ | with_reducible refine sd_neS ?_ | with_reducible refine sd_slL ?_ | with_reducible refine sd_slT ?_ | with_reducible refine sd_int ?_ | with_reducible refine st_app (by with_unfolding_all rfl) ?_ | with_reducible refine st_clr (by with_unfolding_all rfl) ?_ | with_reducible refine st_retO (by with_unfolding_all rfl) ?_ | with_reducible refine st_retV (by with_unfolding_all rfl) ?_ | with_reducible refine st_aug (by with_unfolding_all rfl) ?_ | with_reducible refine And.intro (by with_unfolding_all rfl) ?_ | with_reducible refine Exists.intro _ (And.intro (by with_unfolding_all rfl) ?_) | with_reducible refine And.intro (le_size (by with_unfolding_all rfl)) ?_ | with_reducible refine st_frz (by with_unfolding_all rfl) ?_))
            exact fin _ hR
          | false =>
            rw [if_neg (by rw [h5]; decide)] at hR
            obtain ⟨i, h4⟩ := numD_good h5
            rw [h4]
            (repeat (first | with_reducible refine ss_ix (by assumption) (by assumption) ?_ | with_reducible refine ss_len (by assumption) ?_ | with_reducible refine ss_in ?_ | with_reducible refine ss_nin ?_ | with_reducible refine ss_eq ?_ | with_reducible refine ss_ne ?_ | with_reducible refine ss_mid (by assumption) ?_ | with_reducible refine ss_to (by assumption) ?_ | with_reducible refine ss_from (by assumption) ?_ | with_reducible refine ss_is ?_ | with_reducible refine ss_isnt ?_ | with_reducible refine ss_aug ?_ | with_reducible refine st_nx ?_ | with_reducible refine st_rt ?_ | with_reducible refine st_bk ?_ | with_reducible refine st_ct ?_ | with_reducible refine st_bind1 ?_ | with_reducible refine st_v (by with_unfolding_all rfl) ?_ | with_reducible refine st_seq ?_ | with_reducible refine st_skip ?_ | with_reducible refine st_asg ?_ | with_reducible refine st_ret ?_ | with_reducible refine st_if ?_ | with_reducible refine st_for ?_ | with_reducible refine st_par2 ?_ | with_reducible refine st_par3 ?_ | with_reducible refine st_asgT ?_ | with_reducible refine st_drop ?_ | with_reducible refine st_brk ?_ | with_reducible refine st_cnt ?_ | with_reducible refine st_tE ?_ | with_reducible refine st_tCmp ?_ | with_reducible refine st_tNt ?_ | with_reducible refine st_tAn ?_ | with_reducible refine st_tO ?_ | with_reducible refine st_tT ?_ | with_reducible refine st_c ?_ | with_reducible refine st_tr ?_ | with_reducible refine st_fz ?_ | with_reducible refine st_op ?_ | with_reducible refine st_call ?_ | with_reducible refine st_callK ?_ | with_reducible refine st_lst ?_ | with_reducible refine st_tup ?_ | with_reducible refine st_sl ?_ | with_reducible refine st_eif ?_ | with_reducible refine st_and ?_ | with_reducible refine st_or ?_ | with_reducible refine st_not ?_ | with_reducible refine st_neg ?_ | with_reducible refine st_isi ?_ | with_reducible refine st_lc ?_ | with_reducible refine st_dc ?_ | with_reducible refine st_anil ?_ | with_reducible refine st_acons ?_ | with_reducible refine st_ono ?_ | with_reducible refine st_osome ?_ | with_reducible refine st_iseq ?_ | with_reducible refine st_irg1 ?_ | with_reducible refine st_izp ?_ | with_reducible refine sd_addI ?_ | with_reducible refine sd_subI ?_ | with_reducible refine sd_lenL ?_ | with_reducible refine sd_lenT ?_ | with_reducible refine sd_list ?_ | with_reducible refine sd_tuple ?_ | with_reducible refine sd_lt ?_ | with_reducible refine sd_le ?_ | with_reducible refine sd_gt ?_ | with_reducible refine sd_ge ?_ | with_reducible refine sd_eqI ?_ | with_reducible refine sd_neI ?_ | with_reducible refine sd_eqS ?_ | with_reducible refine sd_neS ?_ | with_reducible refine sd_slL ?_ | with_reducible refine sd_slT ?_ | with_reducible refine sd_int ?_ | with_reducible refine st_app (by with_unfolding_all rfl) ?_ | with_reducible refine st_clr (by with_unfolding_all rfl) ?_ | with_reducible refine st_retO (by with_unfolding_all rfl) ?_ | with_reducible refine st_retV (by with_unfolding_all rfl) ?_ | with_reducible refine st_aug (by with_unfolding_all rfl) ?_ | with_reducible refine And.intro (by with_unfolding_all rfl) ?_ | with_reducible refine Exists.intro _ (And.intro (by with_unfolding_all rfl) ?_) | with_reducible refine And.intro (le_size (by with_unfolding_all rfl)) ?_ | with_reducible refine st_frz (by with_unfolding_all rfl) ?_))
            refine iteF ?_
            (repeat (first | with_reducible refine ss_ix (by assumption) (by assumption) ?_ | with_reducible refine ss_len (by assumption) ?_ | with_reducible refine ss_in ?_ | with_reducible refine ss_nin ?_ | with_reducible refine ss_eq ?_ | with_reducible refine ss_ne ?_ | with_reducible refine ss_mid (by assumption) ?_ | with_reducible refine ss_to (by assumption) ?_ | with_reducible refine ss_from (by assumption) ?_ | with_reducible refine ss_is ?_ | with_reducible refine ss_isnt ?_ | with_reducible refine ss_aug ?_ | with_reducible refine st_nx ?_ | with_reducible refine st_rt ?_ | with_reducible refine st_bk ?_ | with_reducible refine st_ct ?_ | with_reducible refine st_bind1 ?_ | with_reducible refine st_v (by with_unfolding_all rfl) ?_ | with_reducible refine st_seq ?_ | with_reducible refine st_skip ?_ | with_reducible refine st_asg ?_ | with_reducible refine st_ret ?_ | with_reducible refine st_if ?_ | with_reducible refine st_for ?_ | with_reducible refine st_par2 ?_ | with_reducible refine st_par3 ?_ | with_reducible refine st_asgT ?_ | with_reducible refine st_drop ?_ | with_reducible refine st_brk ?_ | with_reducible refine st_cnt ?_ | with_reducible refine st_tE ?_ | with_reducible refine st_tCmp ?_ | with_reducible refine st_tNt ?_ | with_reducible refine st_tAn ?_ | with_reducible refine st_tO ?_ | with_reducible refine st_tT ?_ | with_reducible refine st_c ?_ | with_reducible refine st_tr ?_ | with_reducible refine st_fz ?_ | with_reducible refine st_op ?_ | with_reducible refine st_call ?_ | with_reducible refine st_callK ?_ | with_reducible refine st_lst ?_ | with_reducible refine st_tup ?_ | with_reducible refine st_sl ?_ | with_reducible refine st_eif ?_ | with_reducible refine st_and ?_ | with_reducible refine st_or ?_ | with_reducible refine st_not ?_ | with_reducible refine st_neg ?_ | with_reducible refine st_isi ?_ | with_reducible refine st_lc ?_ | with_reducible refine st_dc ?_ | with_reducible refine st_anil ?_ | with_reducible refine st_acons ?_ | with_reducible refine st_ono ?_ | with_reducible refine st_osome ?_ | with_reducible refine st_iseq ?_ | with_reducible refine st_irg1 ?_ | with_reducible refine st_izp ?_ | with_reducible refine sd_addI ?_ | with_reducible refine sd_subI ?_ | with_reducible refine sd_lenL ?_ | with_reducible refine sd_lenT ?_ | with_reducible refine sd_list ?_ | with_reducible refine sd_tuple ?_ | with_reducible refine sd_lt ?_ | with_reducible refine sd_le ?_ | with_reducible refine sd_gt ?_ | with_reducible refine sd_ge ?_ | with_reducible refine sd_eqI ?_ | with_reducible refine sd_neI ?_ | with_reducible refine sd_eqS ?_ | with_reducible refine sd_neS ?_ | with_reducible refine sd_slL ?_ | with_reducible refine sd_slT ?_ | with_reducible refine sd_int ?_ | with_reducible refine st_app (by with_unfolding_all rfl) ?_ | with_reducible refine st_clr (by with_unfolding_all rfl) ?_ | with_reducible refine st_retO (by with_unfolding_all rfl) ?_ | with_reducible refine st_retV (by with_unfolding_all rfl) ?_ | with_reducible refine st_aug (by with_unfolding_all rfl) ?_ | with_reducible refine And.intro (by with_unfolding_all rfl) ?_ | with_reducible refine Exists.intro _ (And.intro (by with_unfolding_all rfl) ?_) | with_reducible refine And.intro (le_size (by with_unfolding_all rfl)) ?_ | with_reducible refine st_frz (by with_unfolding_all rfl) ?_))
            refine ⟨st_len0 ha (by omega), ?_⟩
            (repeat (first | with_reducible refine ss_ix (by assumption) (by assumption) ?_ | with_reducible refine ss_len (by assumption) ?_ | with_reducible refine ss_in ?_ | with_reducible refine ss_nin ?_ | with_reducible refine ss_eq ?_ | with_reducible refine ss_ne ?_ | with_reducible refine ss_mid (by assumption) ?_ | with_reducible refine ss_to (by assumption) ?_ | with_reducible refine ss_from (by assumption) ?_ | with_reducible refine ss_is ?_ | with_reducible refine ss_isnt ?_ | with_reducible refine ss_aug ?_ | with_reducible refine st_nx ?_ | with_reducible refine st_rt ?_ | with_reducible refine st_bk ?_ | with_reducible refine st_ct ?_ | with_reducible refine st_bind1 ?_ | with_reducible refine st_v (by with_unfolding_all rfl) ?_ | with_reducible refine st_seq ?_ | with_reducible refine st_skip ?_ | with_reducible refine st_asg ?_ | with_reducible refine st_ret ?_ | with_reducible refine st_if ?_ | with_reducible refine st_for ?_ | with_reducible refine st_par2 ?_ | with_reducible refine st_par3 ?_ | with_reducible refine st_asgT ?_ | with_reducible refine st_drop ?_ | with_reducible refine st_brk ?_ | with_reducible refine st_cnt ?_ | with_reducible refine st_tE ?_ | with_reducible refine st_tCmp ?_ | with_reducible refine st_tNt ?_ | with_reducible refine st_tAn ?_ | with_reducible refine st_tO ?_ | with_reducible refine st_tT ?_ | with_reducible refine st_c ?_ | with_reducible refine st_tr ?_ | with_reducible refine st_fz ?_ | with_reducible refine st_op ?_ | with_reducible refine st_call ?_ | with_reducible refine st_callK ?_ | with_reducible refine st_lst ?_ | with_reducible refine st_tup ?_ | with_reducible refine st_sl ?_ | with_reducible refine st_eif ?_ | with_reducible refine st_and ?_ | with_reducible refine st_or ?_ | with_reducible refine st_not ?_ | with_reducible refine st_neg ?_ | with_reducible refine st_isi ?_ | with_reducible refine st_lc ?_ | with_reducible refine st_dc ?_ | with_reducible refine st_anil ?_ | with_reducible refine st_acons ?_ | with_reducible refine st_ono ?_ | with_reducible refine st_osome ?_ | with_reducible refine st_iseq ?_ | with_reducible refine st_irg1 ?_ | with_reducible refine st_izp ?_ | with_reducible refine sd_addI ?_ | with_reducible refine sd_subI ?_ | with_reducible refine sd_lenL ?_ | with_reducible refine sd_lenT ?_ | with_reducible refine sd_list ?_ | with_reducible refine sd_tuple ?_ | with_reducible refine sd_lt ?_ | with_reducible refine sd_le ?_ | with_reducible refine sd_gt ?_ | with_reducible refine sd_ge ?_ | with_reducible refine sd_eqI ?_ | with_reducible refine sd_neI ?_ | with_reducible refine sd_eqS ?_ | with_reducible refine sd_neS ?_ | with_reducible refine sd_slL ?_ | with_reducible refine sd_slT ?_ | with_reducible refine sd_int ?_ | with_reducible refine st_app (by with_unfolding_all rfl) ?_ | with_reducible refine st_clr (by with_unfolding_all rfl) ?_ | with_reducible refine st_retO (by with_unfolding_all rfl) ?_ | with_reducible refine st_retV (by with_unfolding_all rfl) ?_ | with_reducible refine st_aug (by with_unfolding_all rfl) ?_ | with_reducible refine And.intro (by with_unfolding_all rfl) ?_ | with_reducible refine Exists.intro _ (And.intro (by with_unfolding_all rfl) ?_) | with_reducible refine And.intro (le_size (by with_unfolding_all rfl)) ?_ | with_reducible refine st_frz (by with_unfolding_all rfl) ?_))
            exact hN (cs.length - runE dL cs k) _ (by omega) ⟨runE dL cs k, acc ++ [tok k "number" (tx (mid cs k (runE dL cs k)))], n, _, _, rfl, hle, by rw [List.length_append]; simp; omega, by omega, by rw [List.append_assoc]; exact hR, rfl⟩
        · rw [decide_eq_false h3]
          refine iteF ?_
          (repeat (first | with_reducible refine ss_ix (by assumption) (by assumption) ?_ | with_reducible refine ss_len (by assumption) ?_ | with_reducible refine ss_in ?_ | with_reducible refine ss_nin ?_ | with_reducible refine ss_eq ?_ | with_reducible refine ss_ne ?_ | with_reducible refine ss_mid (by assumption) ?_ | with_reducible refine ss_to (by assumption) ?_ | with_reducible refine ss_from (by assumption) ?_ | with_reducible refine ss_is ?_ | with_reducible refine ss_isnt ?_ | with_reducible refine ss_aug ?_ | with_reducible refine st_nx ?_ | with_reducible refine st_rt ?_ | with_reducible refine st_bk ?_ | with_reducible refine st_ct ?_ | with_reducible refine st_bind1 ?_ | with_reducible refine st_v (by with_unfolding_all rfl) ?_ | with_reducible refine st_seq ?_ | with_reducible refine st_skip ?_ | with_reducible refine st_asg ?_ | with_reducible refine st_ret ?_ | with_reducible refine st_if ?_ | with_reducible refine st_for ?_ | with_reducible refine st_par2 ?_ | with_reducible refine st_par3 ?_ | with_reducible refine st_asgT ?_ | with_reducible refine st_drop ?_ | with_reducible refine st_brk ?_ | with_reducible refine st_cnt ?_ | with_reducible refine st_tE ?_ | with_reducible refine st_tCmp ?_ | with_reducible refine st_tNt ?_ | with_reducible refine st_tAn ?_ | with_reducible refine st_tO ?_ | with_reducible refine st_tT ?_ | with_reducible refine st_c ?_ | with_reducible refine st_tr ?_ | with_reducible refine st_fz ?_ | with_reducible refine st_op ?_ | with_reducible refine st_call ?_ | with_reducible refine st_callK ?_ | with_reducible refine st_lst ?_ | with_reducible refine st_tup ?_ | with_reducible refine st_sl ?_ | with_reducible refine st_eif ?_ | with_reducible refine st_and ?_ | with_reducible refine st_or ?_ | with_reducible refine st_not ?_ | with_reducible refine st_neg ?_ | with_reducible refine st_isi ?_ | with_reducible refine st_lc ?_ | with_reducible refine st_dc ?_ | with_reducible refine st_anil ?_ | with_reducible refine st_acons ?_ | with_reducible refine st_ono ?_ | with_reducible refine st_osome ?_ | with_reducible refine st_iseq ?_ | with_reducible refine st_irg1 ?_ | with_reducible refine st_izp ?_ | with_reducible refine sd_addI ?_ | with_reducible refine sd_subI ?_ | with_reducible refine sd_lenL ?_ | with_reducible refine sd_lenT ?_ | with_reducible refine sd_list ?_ | with_reducible refine sd_tuple ?_ | with_reducible refine sd_lt ?_ | with_reducible refine sd_le ?_ | with_reducible refine sd_gt ?_ | with_reducible refine sd_ge ?_ | with_reducible refine sd_eqI ?_ | with_reducible refine sd_neI ?_ | with_reducible refine sd_eqS ?_ | with_reducible refine sd_neS ?_ | with_reducible refine sd_slL ?_ | with_reducible refine sd_slT ?_ | with_reducible refine sd_int ?_ | with_reducible refine st_app (by with_unfolding_all rfl) ?_ | with_reducible refine st_clr (by with_unfolding_all rfl) ?_ | with_reducible refine st_retO (by with_unfolding_all rfl) ?_ | with_reducible refine st_retV (by with_unfolding_all rfl) ?_ | with_reducible refine st_aug (by with_unfolding_all rfl) ?_ | with_reducible refine And.intro (by with_unfolding_all rfl) ?_ | with_reducible refine Exists.intro _ (And.intro (by with_unfolding_all rfl) ?_) | with_reducible refine And.intro (le_size (by with_unfolding_all rfl)) ?_ | with_reducible refine st_frz (by with_unfolding_all rfl) ?_))
          rw [if_neg h3] at hR
          by_cases h4 : c ∈ sL
          · rw [decide_eq_true h4]
            refine iteT ?_
            rw [if_pos h4] at hR
            (repeat (first | with_reducible refine ss_ix (by assumption) (by assumption) ?_ | with_reducible refine ss_len (by assumption) ?_ | with_reducible refine ss_in ?_ | with_reducible refine ss_nin ?_ | with_reducible refine ss_eq ?_ | with_reducible refine ss_ne ?_ | with_reducible refine ss_mid (by assumption) ?_ | with_reducible refine ss_to (by assumption) ?_ | with_reducible refine ss_from (by assumption) ?_ | with_reducible refine ss_is ?_ | with_reducible refine ss_isnt ?_ | with_reducible refine ss_aug ?_ | with_reducible refine st_nx ?_ | with_reducible refine st_rt ?_ | with_reducible refine st_bk ?_ | with_reducible refine st_ct ?_ | with_reducible refine st_bind1 ?_ | with_reducible refine st_v (by with_unfolding_all rfl) ?_ | with_reducible refine st_seq ?_ | with_reducible refine st_skip ?_ | with_reducible refine st_asg ?_ | with_reducible refine st_ret ?_ | with_reducible refine st_if ?_ | with_reducible refine st_for ?_ | with_reducible refine st_par2 ?_ | with_reducible refine st_par3 ?_ | with_reducible refine st_asgT ?_ | with_reducible refine st_drop ?_ | with_reducible refine st_brk ?_ | with_reducible refine st_cnt ?_ | with_reducible refine st_tE ?_ | with_reducible refine st_tCmp ?_ | with_reducible refine st_tNt ?_ | with_reducible refine st_tAn ?_ | with_reducible refine st_tO ?_ | with_reducible refine st_tT ?_ | with_reducible refine st_c ?_ | with_reducible refine st_tr ?_ | with_reducible refine st_fz ?_ | with_reducible refine st_op ?_ | with_reducible refine st_call ?_ | with_reducible refine st_callK ?_ | with_reducible refine st_lst ?_ | with_reducible refine st_tup ?_ | with_reducible refine st_sl ?_ | with_reducible refine st_eif ?_ | with_reducible refine st_and ?_ | with_reducible refine st_or ?_ | with_reducible refine st_not ?_ | with_reducible refine st_neg ?_ | with_reducible refine st_isi ?_ | with_reducible refine st_lc ?_ | with_reducible refine st_dc ?_ | with_reducible refine st_anil ?_ | with_reducible refine st_acons ?_ | with_reducible refine st_ono ?_ | with_reducible refine st_osome ?_ | with_reducible refine st_iseq ?_ | with_reducible refine st_irg1 ?_ | with_reducible refine st_izp ?_ | with_reducible refine sd_addI ?_ | with_reducible refine sd_subI ?_ | with_reducible refine sd_lenL ?_ | with_reducible refine sd_lenT ?_ | with_reducible refine sd_list ?_ | with_reducible refine sd_tuple ?_ | with_reducible refine sd_lt ?_ | with_reducible refine sd_le ?_ | with_reducible refine sd_gt ?_ | with_reducible refine sd_ge ?_ | with_reducible refine sd_eqI ?_ | with_reducible refine sd_neI ?_ | with_reducible refine sd_eqS ?_ | with_reducible refine sd_neS ?_ | with_reducible refine sd_slL ?_ | with_reducible refine sd_slT ?_ | with_reducible refine sd_int ?_ | with_reducible refine st_app (by with_unfolding_all rfl) ?_ | with_reducible refine st_clr (by with_unfolding_all rfl) ?_ | with_reducible refine st_retO (by with_unfolding_all rfl) ?_ | with_reducible refine st_retV (by with_unfolding_all rfl) ?_ | with_reducible refine st_aug (by with_unfolding_all rfl) ?_ | with_reducible refine And.intro (by with_unfolding_all rfl) ?_ | with_reducible refine Exists.intro _ (And.intro (by with_unfolding_all rfl) ?_) | with_reducible refine And.intro (le_size (by with_unfolding_all rfl)) ?_ | with_reducible refine st_frz (by with_unfolding_all rfl) ?_))
            refine ⟨st_len0 ha (by omega), ?_⟩
            (repeat (first | with_reducible refine ss_ix (by assumption) (by assumption) ?_ | with_reducible refine ss_len (by assumption) ?_ | with_reducible refine ss_in ?_ | with_reducible refine ss_nin ?_ | with_reducible refine ss_eq ?_ | with_reducible refine ss_ne ?_ | with_reducible refine ss_mid (by assumption) ?_ | with_reducible refine ss_to (by assumption) ?_ | with_reducible refine ss_from (by assumption) ?_ | with_reducible refine ss_is ?_ | with_reducible refine ss_isnt ?_ | with_reducible refine ss_aug ?_ | with_reducible refine st_nx ?_ | with_reducible refine st_rt ?_ | with_reducible refine st_bk ?_ | with_reducible refine st_ct ?_ | with_reducible refine st_bind1 ?_ | with_reducible refine st_v (by with_unfolding_all rfl) ?_ | with_reducible refine st_seq ?_ | with_reducible refine st_skip ?_ | with_reducible refine st_asg ?_ | with_reducible refine st_ret ?_ | with_reducible refine st_if ?_ | with_reducible refine st_for ?_ | with_reducible refine st_par2 ?_ | with_reducible refine st_par3 ?_ | with_reducible refine st_asgT ?_ | with_reducible refine st_drop ?_ | with_reducible refine st_brk ?_ | with_reducible refine st_cnt ?_ | with_reducible refine st_tE ?_ | with_reducible refine st_tCmp ?_ | with_reducible refine st_tNt ?_ | with_reducible refine st_tAn ?_ | with_reducible refine st_tO ?_ | with_reducible refine st_tT ?_ | with_reducible refine st_c ?_ | with_reducible refine st_tr ?_ | with_reducible refine st_fz ?_ | with_reducible refine st_op ?_ | with_reducible refine st_call ?_ | with_reducible refine st_callK ?_ | with_reducible refine st_lst ?_ | with_reducible refine st_tup ?_ | with_reducible refine st_sl ?_ | with_reducible refine st_eif ?_ | with_reducible refine st_and ?_ | with_reducible refine st_or ?_ | with_reducible refine st_not ?_ | with_reducible refine st_neg ?_ | with_reducible refine st_isi ?_ | with_reducible refine st_lc ?_ | with_reducible refine st_dc ?_ | with_reducible refine st_anil ?_ | with_reducible refine st_acons ?_ | with_reducible refine st_ono ?_ | with_reducible refine st_osome ?_ | with_reducible refine st_iseq ?_ | with_reducible refine st_irg1 ?_ | with_reducible refine st_izp ?_ | with_reducible refine sd_addI ?_ | with_reducible refine sd_subI ?_ | with_reducible refine sd_lenL ?_ | with_reducible refine sd_lenT ?_ | with_reducible refine sd_list ?_ | with_reducible refine sd_tuple ?_ | with_reducible refine sd_lt ?_ | with_reducible refine sd_le ?_ | with_reducible refine sd_gt ?_ | with_reducible refine sd_ge ?_ | with_reducible refine sd_eqI ?_ | with_reducible refine sd_neI ?_ | with_reducible refine sd_eqS ?_ | with_reducible refine sd_neS ?_ | with_reducible refine sd_slL ?_ | with_reducible refine sd_slT ?_ | with_reducible refine sd_int ?_ | with_reducible refine st_app (by with_unfolding_all rfl) ?_ | with_reducible refine st_clr (by with_unfolding_all rfl) ?_ | with_reducible refine st_retO (by with_unfolding_all rfl) ?_ | with_reducible refine st_retV (by with_unfolding_all rfl) ?_ | with_reducible refine st_aug (by with_unfolding_all rfl) ?_ | with_reducible refine And.intro (by with_unfolding_all rfl) ?_ | with_reducible refine Exists.intro _ (And.intro (by with_unfolding_all rfl) ?_) | with_reducible refine And.intro (le_size (by with_unfolding_all rfl)) ?_ | with_reducible refine st_frz (by with_unfolding_all rfl) ?_))
            exact hN (cs.length - (k + 1)) _ (by omega) ⟨k + 1, acc ++ [tok k "sign" (tx [c])], n, _, _, rfl, h, by rw [List.length_append]; simp; omega, by omega, by rw [List.append_assoc]; exact hR, rfl⟩
          · rw [decide_eq_false h4]
            refine iteF ?_
            rw [if_neg h4] at hR
            (repeat (first | with_reducible refine ss_ix (by assumption) (by assumption) ?_ | with_reducible refine ss_len (by assumption) ?_ | with_reducible refine ss_in ?_ | with_reducible refine ss_nin ?_ | with_reducible refine ss_eq ?_ | with_reducible refine ss_ne ?_ | with_reducible refine ss_mid (by assumption) ?_ | with_reducible refine ss_to (by assumption) ?_ | with_reducible refine ss_from (by assumption) ?_ | with_reducible refine ss_is ?_ | with_reducible refine ss_isnt ?_ | with_reducible refine ss_aug ?_ | with_reducible refine st_nx ?_ | with_reducible refine st_rt ?_ | with_reducible refine st_bk ?_ | with_reducible refine st_ct ?_ | with_reducible refine st_bind1 ?_ | with_reducible refine st_v (by with_unfolding_all rfl) ?_ | with_reducible refine st_seq ?_ | with_reducible refine st_skip ?_ | with_reducible refine st_asg ?_ | with_reducible refine st_ret ?_ | with_reducible refine st_if ?_ | with_reducible refine st_for ?_ | with_reducible refine st_par2 ?_ | with_reducible refine st_par3 ?_ | with_reducible refine st_asgT ?_ | with_reducible refine st_drop ?_ | with_reducible refine st_brk ?_ | with_reducible refine st_cnt ?_ | with_reducible refine st_tE ?_ | with_reducible refine st_tCmp ?_ | with_reducible refine st_tNt ?_ | with_reducible refine st_tAn ?_ | with_reducible refine st_tO ?_ | with_reducible refine st_tT ?_ | with_reducible refine st_c ?_ | with_reducible refine st_tr ?_ | with_reducible refine st_fz ?_ | with_reducible refine st_op ?_ | with_reducible refine st_call ?_ | with_reducible refine st_callK ?_ | with_reducible refine st_lst ?_ | with_reducible refine st_tup ?_ | with_reducible refine st_sl ?_ | with_reducible refine st_eif ?_ | with_reducible refine st_and ?_ | with_reducible refine st_or ?_ | with_reducible refine st_not ?_ | with_reducible refine st_neg ?_ | with_reducible refine st_isi ?_ | with_reducible refine st_lc ?_ | with_reducible refine st_dc ?_ | with_reducible refine st_anil ?_ | with_reducible refine st_acons ?_ | with_reducible refine st_ono ?_ | with_reducible refine st_osome ?_ | with_reducible refine st_iseq ?_ | with_reducible refine st_irg1 ?_ | with_reducible refine st_izp ?_ | with_reducible refine sd_addI ?_ | with_reducible refine sd_subI ?_ | with_reducible refine sd_lenL ?_ | with_reducible refine sd_lenT ?_ | with_reducible refine sd_list ?_ | with_reducible refine sd_tuple ?_ | with_reducible refine sd_lt ?_ | with_reducible refine sd_le ?_ | with_reducible refine sd_gt ?_ | with_reducible refine sd_ge ?_ | with_reducible refine sd_eqI ?_ | with_reducible refine sd_neI ?_ | with_reducible refine sd_eqS ?_ | with_reducible refine sd_neS ?_ | with_reducible refine sd_slL ?_ | with_reducible refine sd_slT ?_ | with_reducible refine sd_int ?_ | with_reducible refine st_app (by with_unfolding_all rfl) ?_ | with_reducible refine st_clr (by with_unfolding_all rfl) ?_ | with_reducible refine st_retO (by with_unfolding_all rfl) ?_ | with_reducible refine st_retV (by with_unfolding_all rfl) ?_ | with_reducible refine st_aug (by with_unfolding_all rfl) ?_ | with_reducible refine And.intro (by with_unfolding_all rfl) ?_ | with_reducible refine Exists.intro _ (And.intro (by with_unfolding_all rfl) ?_) | with_reducible refine And.intro (le_size (by with_unfolding_all rfl)) ?_ | with_reducible refine st_frz (by with_unfolding_all rfl) ?_))
            exact fin _ hR
  · rw [decide_eq_false (p := (k : Int) < (cs.length : Int)) (by omega)]
    refine iteF ?_
    have e : k = cs.length := by omega
    rw [tk_none (List.getElem?_eq_none (by omega))] at hR
    (repeat (first | with_reducible refine ss_ix (by assumption) (by assumption) ?_ | with_reducible refine ss_len (by assumption) ?_ | with_reducible refine ss_in ?_ | with_reducible refine ss_nin ?_ | with_reducible refine ss_eq ?_ | with_reducible refine ss_ne ?_ | with_reducible refine ss_mid (by assumption) ?_ | with_reducible refine ss_to (by assumption) ?_ | with_reducible refine ss_from (by assumption) ?_ | with_reducible refine ss_is ?_ | with_reducible refine ss_isnt ?_ | with_reducible refine ss_aug ?_ | with_reducible refine st_nx ?_ | with_reducible refine st_rt ?_ | with_reducible refine st_bk ?_ | with_reducible refine st_ct ?_ | with_reducible refine st_bind1 ?_ | with_reducible refine st_v (by with_unfolding_all rfl) ?_ | with_reducible refine st_seq ?_ | with_reducible refine st_skip ?_ | with_reducible refine st_asg ?_ | with_reducible refine st_ret ?_ | with_reducible refine st_if ?_ | with_reducible refine st_for ?_ | with_reducible refine st_par2 ?_ | with_reducible refine st_par3 ?_ | with_reducible refine st_asgT ?_ | with_reducible refine st_drop ?_ | with_reducible refine st_brk ?_ | with_reducible refine st_cnt ?_ | with_reducible refine st_tE ?_ | with_reducible refine st_tCmp ?_ | with_reducible refine st_tNt ?_ | with_reducible refine st_tAn ?_ | with_reducible refine st_tO ?_ | with_reducible refine st_tT ?_ | with_reducible refine st_c ?_ | with_reducible refine st_tr ?_ | with_reducible refine st_fz ?_ | with_reducible refine st_op ?_ | with_reducible refine st_call ?_ | with_reducible refine st_callK ?_ | with_reducible refine st_lst ?_ | with_reducible refine st_tup ?_ | with_reducible refine st_sl ?_ | with_reducible refine st_eif ?_ | with_reducible refine st_and ?_ | with_reducible refine st_or ?_ | with_reducible refine st_not ?_ | with_reducible refine st_neg ?_ | with_reducible refine st_isi ?_ | with_reducible refine st_lc ?_ | with_reducible refine st_dc ?_ | with_reducible refine st_anil ?_ | with_reducible refine st_acons ?_ | with_reducible refine st_ono ?_ | with_reducible refine st_osome ?_ | with_reducible refine st_iseq ?_ | with_reducible refine st_irg1 ?_ | with_reducible refine st_izp ?_ | with_reducible refine sd_addI ?_ | with_reducible refine sd_subI ?_ | with_reducible refine sd_lenL ?_ | with_reducible refine sd_lenT ?_ | with_reducible refine sd_list ?_ | with_reducible refine sd_tuple ?_ | with_reducible refine sd_lt ?_ | with_reducible refine sd_le ?_ | with_reducible refine sd_gt ?_ | with_reducible refine sd_ge ?_ | with_reducible refine sd_eqI ?_ | with_reducible refine sd_neI ?_ | with_reducible refine sd_eqS ?_ | with_reducible refine sd_neS ?_ | with_reducible refine sd_slL ?_ | with_reducible refine sd_slT ?_ | with_reducible refine sd_int ?_ | with_reducible refine st_app (by with_unfolding_all rfl) ?_ | with_reducible refine st_clr (by with_unfolding_all rfl) ?_ | with_reducible refine st_retO (by with_unfolding_all rfl) ?_ | with_reducible refine st_retV (by with_unfolding_all rfl) ?_ | with_reducible refine st_aug (by with_unfolding_all rfl) ?_ | with_reducible refine And.intro (by with_unfolding_all rfl) ?_ | with_reducible refine Exists.intro _ (And.intro (by with_unfolding_all rfl) ?_) | with_reducible refine And.intro (le_size (by with_unfolding_all rfl)) ?_ | with_reducible refine st_frz (by with_unfolding_all rfl) ?_))
    rw [e] at hR
    exact fin _ hR
end Law

namespace Law
open PySem L2 DI
theorem letters_ok {Q : Rz → Prop} (q : Q (.val (.str (tx aL)))) : S__law_letters [] Q := by
  refine st_body rfl ?_
  unfold b__law_letters
  rw [show (Str.ofString "abcdefghijklmnopqrstuvwxyz") = tx aL by decide +kernel]
  exact q
theorem is_digit_ok {c : Nat} {Q : Rz → Prop} (q : Q (.val (.bl (decide (c ∈ dL))))) : S__law_is_digit [.str (tx [c])] Q := by
  refine st_body rfl ?_
  unfold b__law_is_digit
  rw [show (Str.ofString "0123456789") = tx dL by decide +kernel]
  (repeat (first | with_reducible refine ss_ix (by assumption) (by assumption) ?_ | with_reducible refine ss_len (by assumption) ?_ | with_reducible refine ss_in ?_ | with_reducible refine ss_nin ?_ | with_reducible refine ss_eq ?_ | with_reducible refine ss_ne ?_ | with_reducible refine ss_mid (by assumption) ?_ | with_reducible refine ss_to (by assumption) ?_ | with_reducible refine ss_from (by assumption) ?_ | with_reducible refine ss_is ?_ | with_reducible refine ss_isnt ?_ | with_reducible refine ss_aug ?_ | with_reducible refine st_nx ?_ | with_reducible refine st_rt ?_ | with_reducible refine st_bk ?_ | with_reducible refine st_ct ?_ | with_reducible refine st_bind1 ?_ | with_reducible refine st_v (by with_unfolding_all rfl) ?_ | with_reducible refine st_seq ?_ | with_reducible refine st_skip ?_ | with_reducible refine st_asg ?_ | with_reducible refine st_ret ?_ | with_reducible refine st_if ?_ | with_reducible refine st_for ?_ | with_reducible refine st_par2 ?_ | with_reducible refine st_par3 ?_ | with_reducible refine st_asgT ?_ | with_reducible refine st_drop ?_ | with_reducible refine st_brk ?_ | with_reducible refine st_cnt ?_ | with_reducible refine st_tE ?_ | with_reducible refine st_tCmp ?_ | with_reducible refine st_tNt ?_ | with_reducible refine st_tAn ?_ | with_reducible refine st_tO ?_ | with_reducible refine st_tT ?_ | with_reducible refine st_c ?_ | with_reducible refine st_tr ?_ | with_reducible refine st_fz ?_ | with_reducible refine st_op ?_ | with_reducible refine st_call ?_ | with_reducible refine st_callK ?_ | with_reducible refine st_lst ?_ | with_reducible refine st_tup ?_ | with_reducible refine st_sl ?_ | with_reducible refine st_eif ?_ | with_reducible refine st_and ?_ | with_reducible refine st_or ?_ | with_reducible refine st_not ?_ | with_reducible refine st_neg ?_ | with_reducible refine st_isi ?_ | with_reducible refine st_lc ?_ | with_reducible refine st_dc ?_ | with_reducible refine st_anil ?_ | with_reducible refine st_acons ?_ | with_reducible refine st_ono ?_ | with_reducible refine st_osome ?_ | with_reducible refine st_iseq ?_ | with_reducible refine st_irg1 ?_ | with_reducible refine st_izp ?_ | with_reducible refine sd_addI ?_ | with_reducible refine sd_subI ?_ | with_reducible refine sd_lenL ?_ | with_reducible refine sd_lenT ?_ | with_reducible refine sd_list ?_ | with_reducible refine sd_tuple ?_ | with_reducible refine sd_lt ?_ | with_reducible refine sd_le ?_ | with_reducible refine sd_gt ?_ | with_reducible refine sd_ge ?_ | with_reducible refine sd_eqI ?_ | with_reducible refine sd_neI ?_ | with_reducible refine sd_eqS ?_ | with_reducible refine sd_neS ?_ | with_reducible refine sd_slL ?_ | with_reducible refine sd_slT ?_ | with_reducible refine sd_int ?_ | with_reducible refine st_app (by with_unfolding_all rfl) ?_ | with_reducible refine st_clr (by with_unfolding_all rfl) ?_ | with_reducible refine st_retO (by with_unfolding_all rfl) ?_ | with_reducible refine st_retV (by with_unfolding_all rfl) ?_ | with_reducible refine st_aug (by with_unfolding_all rfl) ?_ | with_reducible refine And.intro (by with_unfolding_all rfl) ?_ | with_reducible refine Exists.intro _ (And.intro (by with_unfolding_all rfl) ?_) | with_reducible refine And.intro (le_size (by with_unfolding_all rfl)) ?_ | with_reducible refine st_frz (by with_unfolding_all rfl) ?_))
  exact q
theorem inner_ok {cs S : List Nat} {e0 : Nat} {acc : List D} {a2 a3 a6 : Sl} {K : KD} (hS : S ≠ []) (hl : cs.length ≤ 100000) (h0 : e0 ≤ cs.length)
    (q : K.nx [.val (.str (tx cs)), .own acc, a2, a3, .val (.int (runE S cs e0 : Nat)), .val (.str (tx S)), a6]) :
    sWh (tAn (tCmp neB (eV 5) (eC (.str (tx [])))) (tAn (tCmp ltB (eV 4) (eTr (eCall lenD (aCons (eV 0) (aNil))))) (tCmp (inD false) (eOp ixD (eV 0) (eV 4)) (eV 5)))) (sAsg 4 (eFz (eOp addD (eV 4) (eC (.int 1))))) K [.val (.str (tx cs)), .own acc, a2, a3, .val (.int (e0 : Int)), .val (.str (tx S)), a6] := by
  refine wh_by (J := fun m δ => ∃ k : Nat, m = cs.length - k ∧ k ≤ cs.length ∧ runE S cs k = runE S cs e0 ∧ δ = [.val (.str (tx cs)), .own acc, a2, a3, .val (.int (k : Int)), .val (.str (tx S)), a6]) ?_ (n := cs.length - e0) ⟨e0, rfl, h0, rfl, rfl⟩
  rintro m δ N ⟨k, rfl, hk, he, rfl⟩ hN
  (repeat (first | with_reducible refine ss_ix (by assumption) (by assumption) ?_ | with_reducible refine ss_len (by assumption) ?_ | with_reducible refine ss_in ?_ | with_reducible refine ss_nin ?_ | with_reducible refine ss_eq ?_ | with_reducible refine ss_ne ?_ | with_reducible refine ss_mid (by assumption) ?_ | with_reducible refine ss_to (by assumption) ?_ | with_reducible refine ss_from (by assumption) ?_ | with_reducible refine ss_is ?_ | with_reducible refine ss_isnt ?_ | with_reducible refine ss_aug ?_ | with_reducible refine st_nx ?_ | with_reducible refine st_rt ?_ | with_reducible refine st_bk ?_ | with_reducible refine st_ct ?_ | with_reducible refine st_bind1 ?_ | with_reducible refine st_v (by with_unfolding_all rfl) ?_ | with_reducible refine st_seq ?_ | with_reducible refine st_skip ?_ | with_reducible refine st_asg ?_ | with_reducible refine st_ret ?_ | with_reducible refine st_if ?_ | with_reducible refine st_for ?_ | with_reducible refine st_par2 ?_ | with_reducible refine st_par3 ?_ | with_reducible refine st_asgT ?_ | with_reducible refine st_drop ?_ | with_reducible refine st_brk ?_ | with_reducible refine st_cnt ?_ | with_reducible refine st_tE ?_ | with_reducible refine st_tCmp ?_ | with_reducible refine st_tNt ?_ | with_reducible refine st_tAn ?_ | with_reducible refine st_tO ?_ | with_reducible refine st_tT ?_ | with_reducible refine st_c ?_ | with_reducible refine st_tr ?_ | with_reducible refine st_fz ?_ | with_reducible refine st_op ?_ | with_reducible refine st_call ?_ | with_reducible refine st_callK ?_ | with_reducible refine st_lst ?_ | with_reducible refine st_tup ?_ | with_reducible refine st_sl ?_ | with_reducible refine st_eif ?_ | with_reducible refine st_and ?_ | with_reducible refine st_or ?_ | with_reducible refine st_not ?_ | with_reducible refine st_neg ?_ | with_reducible refine st_isi ?_ | with_reducible refine st_lc ?_ | with_reducible refine st_dc ?_ | with_reducible refine st_anil ?_ | with_reducible refine st_acons ?_ | with_reducible refine st_ono ?_ | with_reducible refine st_osome ?_ | with_reducible refine st_iseq ?_ | with_reducible refine st_irg1 ?_ | with_reducible refine st_izp ?_ | with_reducible refine sd_addI ?_ | with_reducible refine sd_subI ?_ | with_reducible refine sd_lenL ?_ | with_reducible refine sd_lenT ?_ | with_reducible refine sd_list ?_ | with_reducible refine sd_tuple ?_ | with_reducible refine sd_lt ?_ | with_reducible refine sd_le ?_ | with_reducible refine sd_gt ?_ | with_reducible refine sd_ge ?_ | with_reducible refine sd_eqI ?_ | with_reducible refine sd_neI ?_ | with_reducible refine sd_eqS ?_ | with_reducible refine sd_neS ?_ | with_reducible refine sd_slL ?_ | with_reducible refine sd_slT ?_ | with_reducible refine sd_int ?_ | with_reducible refine st_app (by with_unfolding_all rfl) ?_ | with_reducible refine st_clr (by with_unfolding_all rfl) ?_ | with_reducible refine st_retO (by with_unfolding_all rfl) ?_ | with_reducible refine st_retV (by with_unfolding_all rfl) ?_ | with_reducible refine st_aug (by with_unfolding_all rfl) ?_ | with_reducible refine And.intro (by with_unfolding_all rfl) ?_ | with_reducible refine Exists.intro _ (And.intro (by with_unfolding_all rfl) ?_) | with_reducible refine And.intro (le_size (by with_unfolding_all rfl)) ?_ | with_reducible refine st_frz (by with_unfolding_all rfl) ?_))
  rw [decide_eq_false hS]
  refine iteT ?_
  (repeat (first | with_reducible refine ss_ix (by assumption) (by assumption) ?_ | with_reducible refine ss_len (by assumption) ?_ | with_reducible refine ss_in ?_ | with_reducible refine ss_nin ?_ | with_reducible refine ss_eq ?_ | with_reducible refine ss_ne ?_ | with_reducible refine ss_mid (by assumption) ?_ | with_reducible refine ss_to (by assumption) ?_ | with_reducible refine ss_from (by assumption) ?_ | with_reducible refine ss_is ?_ | with_reducible refine ss_isnt ?_ | with_reducible refine ss_aug ?_ | with_reducible refine st_nx ?_ | with_reducible refine st_rt ?_ | with_reducible refine st_bk ?_ | with_reducible refine st_ct ?_ | with_reducible refine st_bind1 ?_ | with_reducible refine st_v (by with_unfolding_all rfl) ?_ | with_reducible refine st_seq ?_ | with_reducible refine st_skip ?_ | with_reducible refine st_asg ?_ | with_reducible refine st_ret ?_ | with_reducible refine st_if ?_ | with_reducible refine st_for ?_ | with_reducible refine st_par2 ?_ | with_reducible refine st_par3 ?_ | with_reducible refine st_asgT ?_ | with_reducible refine st_drop ?_ | with_reducible refine st_brk ?_ | with_reducible refine st_cnt ?_ | with_reducible refine st_tE ?_ | with_reducible refine st_tCmp ?_ | with_reducible refine st_tNt ?_ | with_reducible refine st_tAn ?_ | with_reducible refine st_tO ?_ | with_reducible refine st_tT ?_ | with_reducible refine st_c ?_ | with_reducible refine st_tr ?_ | with_reducible refine st_fz ?_ | with_reducible refine st_op ?_ | with_reducible refine st_call ?_ | with_reducible refine st_callK ?_ | with_reducible refine st_lst ?_ | with_reducible refine st_tup ?_ | with_reducible refine st_sl ?_ | with_reducible refine st_eif ?_ | with_reducible refine st_and ?_ | with_reducible refine st_or ?_ | with_reducible refine st_not ?_ | with_reducible refine st_neg ?_ | with_reducible refine st_isi ?_ | with_reducible refine st_lc ?_ | with_reducible refine st_dc ?_ | with_reducible refine st_anil ?_ | with_reducible refine st_acons ?_ | with_reducible refine st_ono ?_ | with_reducible refine st_osome ?_ | with_reducible refine st_iseq ?_ | with_reducible refine st_irg1 ?_ | with_reducible refine st_izp ?_ | with_reducible refine sd_addI ?_ | with_reducible refine sd_subI ?_ | with_reducible refine sd_lenL ?_ | with_reducible refine sd_lenT ?_ | with_reducible refine sd_list ?_ | with_reducible refine sd_tuple ?_ | with_reducible refine sd_lt ?_ | with_reducible refine sd_le ?_ | with_reducible refine sd_gt ?_ | with_reducible refine sd_ge ?_ | with_reducible refine sd_eqI ?_ | with_reducible refine sd_neI ?_ | with_reducible refine sd_eqS ?_ | with_reducible refine sd_neS ?_ | with_reducible refine sd_slL ?_ | with_reducible refine sd_slT ?_ | with_reducible refine sd_int ?_ | with_reducible refine st_app (by with_unfolding_all rfl) ?_ | with_reducible refine st_clr (by with_unfolding_all rfl) ?_ | with_reducible refine st_retO (by with_unfolding_all rfl) ?_ | with_reducible refine st_retV (by with_unfolding_all rfl) ?_ | with_reducible refine st_aug (by with_unfolding_all rfl) ?_ | with_reducible refine And.intro (by with_unfolding_all rfl) ?_ | with_reducible refine Exists.intro _ (And.intro (by with_unfolding_all rfl) ?_) | with_reducible refine And.intro (le_size (by with_unfolding_all rfl)) ?_ | with_reducible refine st_frz (by with_unfolding_all rfl) ?_))
  by_cases h : k < cs.length
  · rw [decide_eq_true (p := (k : Int) < (cs.length : Int)) (by omega)]
    refine iteT ?_
    have hc : cs[k]? = some cs[k] := List.getElem?_eq_getElem h
    (repeat (first | with_reducible refine ss_ix (by assumption) (by assumption) ?_ | with_reducible refine ss_len (by assumption) ?_ | with_reducible refine ss_in ?_ | with_reducible refine ss_nin ?_ | with_reducible refine ss_eq ?_ | with_reducible refine ss_ne ?_ | with_reducible refine ss_mid (by assumption) ?_ | with_reducible refine ss_to (by assumption) ?_ | with_reducible refine ss_from (by assumption) ?_ | with_reducible refine ss_is ?_ | with_reducible refine ss_isnt ?_ | with_reducible refine ss_aug ?_ | with_reducible refine st_nx ?_ | with_reducible refine st_rt ?_ | with_reducible refine st_bk ?_ | with_reducible refine st_ct ?_ | with_reducible refine st_bind1 ?_ | with_reducible refine st_v (by with_unfolding_all rfl) ?_ | with_reducible refine st_seq ?_ | with_reducible refine st_skip ?_ | with_reducible refine st_asg ?_ | with_reducible refine st_ret ?_ | with_reducible refine st_if ?_ | with_reducible refine st_for ?_ | with_reducible refine st_par2 ?_ | with_reducible refine st_par3 ?_ | with_reducible refine st_asgT ?_ | with_reducible refine st_drop ?_ | with_reducible refine st_brk ?_ | with_reducible refine st_cnt ?_ | with_reducible refine st_tE ?_ | with_reducible refine st_tCmp ?_ | with_reducible refine st_tNt ?_ | with_reducible refine st_tAn ?_ | with_reducible refine st_tO ?_ | with_reducible refine st_tT ?_ | with_reducible refine st_c ?_ | with_reducible refine st_tr ?_ | with_reducible refine st_fz ?_ | with_reducible refine st_op ?_ | with_reducible refine st_call ?_ | with_reducible refine st_callK ?_ | with_reducible refine st_lst ?_ | with_reducible refine st_tup ?_ | with_reducible refine st_sl ?_ | with_reducible refine st_eif ?_ | with_reducible refine st_and ?_ | with_reducible refine st_or ?_ | with_reducible refine st_not ?_ | with_reducible refine st_neg ?_ | with_reducible refine st_isi ?_ | with_reducible refine st_lc ?_ | with_reducible refine st_dc ?_ | with_reducible refine st_anil ?_ | with_reducible refine st_acons ?_ | with_reducible refine st_ono ?_ | with_reducible refine st_osome ?_ | with_reducible refine st_iseq ?_ | with_reducible refine st_irg1 ?_ | with_reducible refine st_izp ?_ | with_reducible refine sd_addI ?_ | with_reducible refine sd_subI ?_ | with_reducible refine sd_lenL ?_ | with_reducible refine sd_lenT ?_ | with_reducible refine sd_list ?_ | with_reducible refine sd_tuple ?_ | with_reducible refine sd_lt ?_ | with_reducible refine sd_le ?_ | with_reducible refine sd_gt ?_ | with_reducible refine sd_ge ?_ | with_reducible refine sd_eqI ?_ | with_reducible refine sd_neI ?_ | with_reducible refine sd_eqS ?_ | with_reducible refine sd_neS ?_ | with_reducible refine sd_slL ?_ | with_reducible refine sd_slT ?_ | with_reducible refine sd_int ?_ | with_reducible refine st_app (by with_unfolding_all rfl) ?_ | with_reducible refine st_clr (by with_unfolding_all rfl) ?_ | with_reducible refine st_retO (by with_unfolding_all rfl) ?_ | with_reducible refine st_retV (by with_unfolding_all rfl) ?_ | with_reducible refine st_aug (by with_unfolding_all rfl) ?_ | with_reducible refine And.intro (by with_unfolding_all rfl) ?_ | with_reducible refine Exists.intro _ (And.intro (by with_unfolding_all rfl) ?_) | with_reducible refine And.intro (le_size (by with_unfolding_all rfl)) ?_ | with_reducible refine st_frz (by with_unfolding_all rfl) ?_))
    by_cases hi : cs[k] ∈ S
    · rw [decide_eq_true hi]
      refine iteT ?_
      (repeat (first | with_reducible refine ss_ix (by assumption) (by assumption) ?_ | with_reducible refine ss_len (by assumption) ?_ | with_reducible refine ss_in ?_ | with_reducible refine ss_nin ?_ | with_reducible refine ss_eq ?_ | with_reducible refine ss_ne ?_ | with_reducible refine ss_mid (by assumption) ?_ | with_reducible refine ss_to (by assumption) ?_ | with_reducible refine ss_from (by assumption) ?_ | with_reducible refine ss_is ?_ | with_reducible refine ss_isnt ?_ | with_reducible refine ss_aug ?_ | with_reducible refine st_nx ?_ | with_reducible refine st_rt ?_ | with_reducible refine st_bk ?_ | with_reducible refine st_ct ?_ | with_reducible refine st_bind1 ?_ | with_reducible refine st_v (by with_unfolding_all rfl) ?_ | with_reducible refine st_seq ?_ | with_reducible refine st_skip ?_ | with_reducible refine st_asg ?_ | with_reducible refine st_ret ?_ | with_reducible refine st_if ?_ | with_reducible refine st_for ?_ | with_reducible refine st_par2 ?_ | with_reducible refine st_par3 ?_ | with_reducible refine st_asgT ?_ | with_reducible refine st_drop ?_ | with_reducible refine st_brk ?_ | with_reducible refine st_cnt ?_ | with_reducible refine st_tE ?_ | with_reducible refine st_tCmp ?_ | with_reducible refine st_tNt ?_ | with_reducible refine st_tAn ?_ | with_reducible refine st_tO ?_ | with_reducible refine st_tT ?_ | with_reducible refine st_c ?_ | with_reducible refine st_tr ?_ | with_reducible refine st_fz ?_ | with_reducible refine st_op ?_ | with_reducible refine st_call ?_ | with_reducible refine st_callK ?_ | with_reducible refine st_lst ?_ | with_reducible refine st_tup ?_ | with_reducible refine st_sl ?_ | with_reducible refine st_eif ?_ | with_reducible refine st_and ?_ | with_reducible refine st_or ?_ | with_reducible refine st_not ?_ | with_reducible refine st_neg ?_ | with_reducible refine st_isi ?_ | with_reducible refine st_lc ?_ | with_reducible refine st_dc ?_ | with_reducible refine st_anil ?_ | with_reducible refine st_acons ?_ | with_reducible refine st_ono ?_ | with_reducible refine st_osome ?_ | with_reducible refine st_iseq ?_ | with_reducible refine st_irg1 ?_ | with_reducible refine st_izp ?_ | with_reducible refine sd_addI ?_ | with_reducible refine sd_subI ?_ | with_reducible refine sd_lenL ?_ | with_reducible refine sd_lenT ?_ | with_reducible refine sd_list ?_ | with_reducible refine sd_tuple ?_ | with_reducible refine sd_lt ?_ | with_reducible refine sd_le ?_ | with_reducible refine sd_gt ?_ | with_reducible refine sd_ge ?_ | with_reducible refine sd_eqI ?_ | with_reducible refine sd_neI ?_ | with_reducible refine sd_eqS ?_ | with_reducible refine sd_neS ?_ | with_reducible refine sd_slL ?_ | with_reducible refine sd_slT ?_ | with_reducible refine sd_int ?_ | with_reducible refine st_app (by with_unfolding_all rfl) ?_ | with_reducible refine st_clr (by with_unfolding_all rfl) ?_ | with_reducible refine st_retO (by with_unfolding_all rfl) ?_ | with_reducible refine st_retV (by with_unfolding_all rfl) ?_ | with_reducible refine st_aug (by with_unfolding_all rfl) ?_ | with_reducible refine And.intro (by with_unfolding_all rfl) ?_ | with_reducible refine Exists.intro _ (And.intro (by with_unfolding_all rfl) ?_) | with_reducible refine And.intro (le_size (by with_unfolding_all rfl)) ?_ | with_reducible refine st_frz (by with_unfolding_all rfl) ?_))
      exact hN (cs.length - (k + 1)) _ (by omega) ⟨k + 1, rfl, h, by rw [← he, runE_in hc hi], rfl⟩
    · rw [decide_eq_false hi]
      refine iteF ?_
      rw [show (k : Int) = ((runE S cs e0 : Nat) : Int) by rw [← he, runE_out hc hi]]
      exact q
  · rw [decide_eq_false (p := (k : Int) < (cs.length : Int)) (by omega)]
    refine iteF (iteF ?_)
    rw [show (k : Int) = ((runE S cs e0 : Nat) : Int) by rw [← he, runE_end (by omega)]]
    exact q
theorem aL_ne : aL ≠ [] := by decide
theorem dL_ne : dL ≠ [] := by decide
theorem aL_dL : aL ≠ dL := by decide
theorem dL_aL : dL ≠ aL := by decide
theorem mid_digits {cs : List Nat} {a : Nat} : allG (mid cs a (runE dL cs a)) = true := by
  unfold mid runE allG
  rw [Nat.add_sub_cancel_left, List.all_eq_true]
  intro c hc
  have e : (cs.drop a).take ((cs.drop a).takeWhile fun c => decide (c ∈ dL)).length = (cs.drop a).takeWhile fun c => decide (c ∈ dL) := by
    have := List.takeWhile_prefix (fun c => decide (c ∈ dL)) (l := cs.drop a)
    exact (List.prefix_iff_eq_take.mp this).symm
  rw [e] at hc
  exact List.all_eq_true.mp List.all_takeWhile c hc
theorem bad_eq {c : Nat} {w : List Nat} (h : allG (c :: w) = true) : badN (c :: w) = (decide (6 < (c :: w).length) || (decide (1 < (c :: w).length) && decide ([c] = [48]))) := by
  unfold badN plainB
  rw [h]
  by_cases hw : w = []
  · subst hw
    by_cases h2 : c = 48
    · subst h2; decide
    · simp [h2]
  · have : 0 < w.length := List.length_pos_iff.mpr hw
    by_cases h2 : c = 48
    · simp [h2, hw, this]
    · simp [h2, hw, this]
theorem law_tokens_ok {cs : List Nat} (hl : cs.length ≤ 100000) {Q : Rz → Prop} (q : Q (.new (toks cs))) : S__law_tokens [.str (tx cs)] Q := by
  refine st_body rfl ?_
  have hlet : ∀ {Q : Rz → Prop}, Q (.val (.str (tx aL))) → S__law_letters [] Q := letters_ok
  have hdig : ∀ {c : Nat} {Q : Rz → Prop}, Q (.val (.bl (decide (c ∈ dL)))) → S__law_is_digit [.str (tx [c])] Q := is_digit_ok
  generalize S__law_letters = S_let at hlet
  generalize S__law_is_digit = S_dig at hdig
  unfold b__law_tokens
  rw [show (Str.ofString "0123456789") = tx dL by decide +kernel, show (Str.ofString "=+-*<(),{}") = tx sL by decide +kernel, show (Str.ofString " ") = tx [32] by decide +kernel, zero_eq]
  rw [show (eC (D.str (Str.ofString ""))) = eC (.str (tx [])) by rw [emp_eq]]
  have eE : tx [] = Str.ofString "" := emp_eq.symm
  (repeat (first | with_reducible refine ss_ix (by assumption) (by assumption) ?_ | with_reducible refine ss_len (by assumption) ?_ | with_reducible refine ss_in ?_ | with_reducible refine ss_nin ?_ | with_reducible refine ss_eq ?_ | with_reducible refine ss_ne ?_ | with_reducible refine ss_mid (by assumption) ?_ | with_reducible refine ss_to (by assumption) ?_ | with_reducible refine ss_from (by assumption) ?_ | with_reducible refine ss_is ?_ | with_reducible refine ss_isnt ?_ | with_reducible refine ss_aug ?_ | with_reducible refine st_nx ?_ | with_reducible refine st_rt ?_ | with_reducible refine st_bk ?_ | with_reducible refine st_ct ?_ | with_reducible refine st_bind1 ?_ | with_reducible refine st_v (by with_unfolding_all rfl) ?_ | with_reducible refine st_seq ?_ | with_reducible refine st_skip ?_ | with_reducible refine st_asg ?_ | with_reducible refine st_ret ?_ | with_reducible refine st_if ?_ | with_reducible refine st_for ?_ | with_reducible refine st_par2 ?_ | with_reducible refine st_par3 ?_ | with_reducible refine st_asgT ?_ | with_reducible refine st_drop ?_ | with_reducible refine st_brk ?_ | with_reducible refine st_cnt ?_ | with_reducible refine st_tE ?_ | with_reducible refine st_tCmp ?_ | with_reducible refine st_tNt ?_ | with_reducible refine st_tAn ?_ | with_reducible refine st_tO ?_ | with_reducible refine st_tT ?_ | with_reducible refine st_c ?_ | with_reducible refine st_tr ?_ | with_reducible refine st_fz ?_ | with_reducible refine st_op ?_ | with_reducible refine st_call ?_ | with_reducible refine st_callK ?_ | with_reducible refine st_lst ?_ | with_reducible refine st_tup ?_ | with_reducible refine st_sl ?_ | with_reducible refine st_eif ?_ | with_reducible refine st_and ?_ | with_reducible refine st_or ?_ | with_reducible refine st_not ?_ | with_reducible refine st_neg ?_ | with_reducible refine st_isi ?_ | with_reducible refine st_lc ?_ | with_reducible refine st_dc ?_ | with_reducible refine st_anil ?_ | with_reducible refine st_acons ?_ | with_reducible refine st_ono ?_ | with_reducible refine st_osome ?_ | with_reducible refine st_iseq ?_ | with_reducible refine st_irg1 ?_ | with_reducible refine st_izp ?_ | with_reducible refine sd_addI ?_ | with_reducible refine sd_subI ?_ | with_reducible refine sd_lenL ?_ | with_reducible refine sd_lenT ?_ | with_reducible refine sd_list ?_ | with_reducible refine sd_tuple ?_ | with_reducible refine sd_lt ?_ | with_reducible refine sd_le ?_ | with_reducible refine sd_gt ?_ | with_reducible refine sd_ge ?_ | with_reducible refine sd_eqI ?_ | with_reducible refine sd_neI ?_ | with_reducible refine sd_eqS ?_ | with_reducible refine sd_neS ?_ | with_reducible refine sd_slL ?_ | with_reducible refine sd_slT ?_ | with_reducible refine sd_int ?_ | with_reducible refine st_app (by with_unfolding_all rfl) ?_ | with_reducible refine st_clr (by with_unfolding_all rfl) ?_ | with_reducible refine st_retO (by with_unfolding_all rfl) ?_ | with_reducible refine st_retV (by with_unfolding_all rfl) ?_ | with_reducible refine st_aug (by with_unfolding_all rfl) ?_ | with_reducible refine And.intro (by with_unfolding_all rfl) ?_ | with_reducible refine Exists.intro _ (And.intro (by with_unfolding_all rfl) ?_) | with_reducible refine And.intro (le_size (by with_unfolding_all rfl)) ?_ | with_reducible refine st_frz (by with_unfolding_all rfl) ?_))
  refine wh_by (J := fun m δ => ∃ (k : Nat) (acc : List D) (n : Nat) (s3 s4 s5 s6 : Sl), m = cs.length - k ∧ k ≤ cs.length ∧ acc.length ≤ k ∧ cs.length - k < n ∧ acc ++ tk cs n k = toks cs ∧ δ = [.val (.str (tx cs)), .own acc, .val (.int (k : Int)), s3, s4, s5, s6]) ?_ (n := cs.length) ⟨0, [], cs.length + 1, _, _, _, _, rfl, Nat.zero_le _, Nat.zero_le _, by omega, rfl, rfl⟩
  rintro m δ N ⟨k, acc, n, s3, s4, s5, s6, rfl, hk, ha, hn, hR, rfl⟩ hN
  (repeat (first | with_reducible refine ss_ix (by assumption) (by assumption) ?_ | with_reducible refine ss_len (by assumption) ?_ | with_reducible refine ss_in ?_ | with_reducible refine ss_nin ?_ | with_reducible refine ss_eq ?_ | with_reducible refine ss_ne ?_ | with_reducible refine ss_mid (by assumption) ?_ | with_reducible refine ss_to (by assumption) ?_ | with_reducible refine ss_from (by assumption) ?_ | with_reducible refine ss_is ?_ | with_reducible refine ss_isnt ?_ | with_reducible refine ss_aug ?_ | with_reducible refine st_nx ?_ | with_reducible refine st_rt ?_ | with_reducible refine st_bk ?_ | with_reducible refine st_ct ?_ | with_reducible refine st_bind1 ?_ | with_reducible refine st_v (by with_unfolding_all rfl) ?_ | with_reducible refine st_seq ?_ | with_reducible refine st_skip ?_ | with_reducible refine st_asg ?_ | with_reducible refine st_ret ?_ | with_reducible refine st_if ?_ | with_reducible refine st_for ?_ | with_reducible refine st_par2 ?_ | with_reducible refine st_par3 ?_ | with_reducible refine st_asgT ?_ | with_reducible refine st_drop ?_ | with_reducible refine st_brk ?_ | with_reducible refine st_cnt ?_ | with_reducible refine st_tE ?_ | with_reducible refine st_tCmp ?_ | with_reducible refine st_tNt ?_ | with_reducible refine st_tAn ?_ | with_reducible refine st_tO ?_ | with_reducible refine st_tT ?_ | with_reducible refine st_c ?_ | with_reducible refine st_tr ?_ | with_reducible refine st_fz ?_ | with_reducible refine st_op ?_ | with_reducible refine st_call ?_ | with_reducible refine st_callK ?_ | with_reducible refine st_lst ?_ | with_reducible refine st_tup ?_ | with_reducible refine st_sl ?_ | with_reducible refine st_eif ?_ | with_reducible refine st_and ?_ | with_reducible refine st_or ?_ | with_reducible refine st_not ?_ | with_reducible refine st_neg ?_ | with_reducible refine st_isi ?_ | with_reducible refine st_lc ?_ | with_reducible refine st_dc ?_ | with_reducible refine st_anil ?_ | with_reducible refine st_acons ?_ | with_reducible refine st_ono ?_ | with_reducible refine st_osome ?_ | with_reducible refine st_iseq ?_ | with_reducible refine st_irg1 ?_ | with_reducible refine st_izp ?_ | with_reducible refine sd_addI ?_ | with_reducible refine sd_subI ?_ | with_reducible refine sd_lenL ?_ | with_reducible refine sd_lenT ?_ | with_reducible refine sd_list ?_ | with_reducible refine sd_tuple ?_ | with_reducible refine sd_lt ?_ | with_reducible refine sd_le ?_ | with_reducible refine sd_gt ?_ | with_reducible refine sd_ge ?_ | with_reducible refine sd_eqI ?_ | with_reducible refine sd_neI ?_ | with_reducible refine sd_eqS ?_ | with_reducible refine sd_neS ?_ | with_reducible refine sd_slL ?_ | with_reducible refine sd_slT ?_ | with_reducible refine sd_int ?_ | with_reducible refine st_app (by with_unfolding_all rfl) ?_ | with_reducible refine st_clr (by with_unfolding_all rfl) ?_ | with_reducible refine st_retO (by with_unfolding_all rfl) ?_ | with_reducible refine st_retV (by with_unfolding_all rfl) ?_ | with_reducible refine st_aug (by with_unfolding_all rfl) ?_ | with_reducible refine And.intro (by with_unfolding_all rfl) ?_ | with_reducible refine Exists.intro _ (And.intro (by with_unfolding_all rfl) ?_) | with_reducible refine And.intro (le_size (by with_unfolding_all rfl)) ?_ | with_reducible refine st_frz (by with_unfolding_all rfl) ?_))
  obtain ⟨n, rfl⟩ : ∃ j, n = j + 1 := ⟨n - 1, by omega⟩
  have fin : ∀ (d : D), acc ++ [d] = toks cs → addD (.lst acc) (.lst [d]) Q := fun d e => ⟨by show acc.length + 1 ≤ sizeLine; exact Nat.le_trans (show acc.length + 1 ≤ 100001 by omega) (by decide), by rw [e]; exact q⟩
  by_cases h : k < cs.length
  · rw [decide_eq_true (p := (k : Int) < (cs.length : Int)) (by omega)]
    refine iteT ?_
    have hc : cs[k]? = some cs[k] := List.getElem?_eq_getElem h
    generalize cs[k] = c at hc
    rw [tk_some hc] at hR
    unfold tkC at hR
    (repeat (first | with_reducible refine ss_ix (by assumption) (by assumption) ?_ | with_reducible refine ss_len (by assumption) ?_ | with_reducible refine ss_in ?_ | with_reducible refine ss_nin ?_ | with_reducible refine ss_eq ?_ | with_reducible refine ss_ne ?_ | with_reducible refine ss_mid (by assumption) ?_ | with_reducible refine ss_to (by assumption) ?_ | with_reducible refine ss_from (by assumption) ?_ | with_reducible refine ss_is ?_ | with_reducible refine ss_isnt ?_ | with_reducible refine ss_aug ?_ | with_reducible refine st_nx ?_ | with_reducible refine st_rt ?_ | with_reducible refine st_bk ?_ | with_reducible refine st_ct ?_ | with_reducible refine st_bind1 ?_ | with_reducible refine st_v (by with_unfolding_all rfl) ?_ | with_reducible refine st_seq ?_ | with_reducible refine st_skip ?_ | with_reducible refine st_asg ?_ | with_reducible refine st_ret ?_ | with_reducible refine st_if ?_ | with_reducible refine st_for ?_ | with_reducible refine st_par2 ?_ | with_reducible refine st_par3 ?_ | with_reducible refine st_asgT ?_ | with_reducible refine st_drop ?_ | with_reducible refine st_brk ?_ | with_reducible refine st_cnt ?_ | with_reducible refine st_tE ?_ | with_reducible refine st_tCmp ?_ | with_reducible refine st_tNt ?_ | with_reducible refine st_tAn ?_ | with_reducible refine st_tO ?_ | with_reducible refine st_tT ?_ | with_reducible refine st_c ?_ | with_reducible refine st_tr ?_ | with_reducible refine st_fz ?_ | with_reducible refine st_op ?_ | with_reducible refine st_call ?_ | with_reducible refine st_callK ?_ | with_reducible refine st_lst ?_ | with_reducible refine st_tup ?_ | with_reducible refine st_sl ?_ | with_reducible refine st_eif ?_ | with_reducible refine st_and ?_ | with_reducible refine st_or ?_ | with_reducible refine st_not ?_ | with_reducible refine st_neg ?_ | with_reducible refine st_isi ?_ | with_reducible refine st_lc ?_ | with_reducible refine st_dc ?_ | with_reducible refine st_anil ?_ | with_reducible refine st_acons ?_ | with_reducible refine st_ono ?_ | with_reducible refine st_osome ?_ | with_reducible refine st_iseq ?_ | with_reducible refine st_irg1 ?_ | with_reducible refine st_izp ?_ | with_reducible refine sd_addI ?_ | with_reducible refine sd_subI ?_ | with_reducible refine sd_lenL ?_ | with_reducible refine sd_lenT ?_ | with_reducible refine sd_list ?_ | with_reducible refine sd_tuple ?_ | with_reducible refine sd_lt ?_ | with_reducible refine sd_le ?_ | with_reducible refine sd_gt ?_ | with_reducible refine sd_ge ?_ | with_reducible refine sd_eqI ?_ | with_reducible refine sd_neI ?_ | with_reducible refine sd_eqS ?_ | with_reducible refine sd_neS ?_ | with_reducible refine sd_slL ?_ | with_reducible refine sd_slT ?_ | with_reducible refine sd_int ?_ | with_reducible refine st_app (by with_unfolding_all rfl) ?_ | with_reducible refine st_clr (by with_unfolding_all rfl) ?_ | with_reducible refine st_retO (by with_unfolding_all rfl) ?_ | with_reducible refine st_retV (by with_unfolding_all rfl) ?_ | with_reducible refine st_aug (by with_unfolding_all rfl) ?_ | with_reducible refine And.intro (by with_unfolding_all rfl) ?_ | with_reducible refine Exists.intro _ (And.intro (by with_unfolding_all rfl) ?_) | with_reducible refine And.intro (le_size (by with_unfolding_all rfl)) ?_ | with_reducible refine st_frz (by with_unfolding_all rfl) ?_))
    by_cases h1 : c = 32
    · rw [decide_eq_true (p := [c] = [32]) (by rw [h1])]
      refine iteT ?_
      (repeat (first | with_reducible refine ss_ix (by assumption) (by assumption) ?_ | with_reducible refine ss_len (by assumption) ?_ | with_reducible refine ss_in ?_ | with_reducible refine ss_nin ?_ | with_reducible refine ss_eq ?_ | with_reducible refine ss_ne ?_ | with_reducible refine ss_mid (by assumption) ?_ | with_reducible refine ss_to (by assumption) ?_ | with_reducible refine ss_from (by assumption) ?_ | with_reducible refine ss_is ?_ | with_reducible refine ss_isnt ?_ | with_reducible refine ss_aug ?_ | with_reducible refine st_nx ?_ | with_reducible refine st_rt ?_ | with_reducible refine st_bk ?_ | with_reducible refine st_ct ?_ | with_reducible refine st_bind1 ?_ | with_reducible refine st_v (by with_unfolding_all rfl) ?_ | with_reducible refine st_seq ?_ | with_reducible refine st_skip ?_ | with_reducible refine st_asg ?_ | with_reducible refine st_ret ?_ | with_reducible refine st_if ?_ | with_reducible refine st_for ?_ | with_reducible refine st_par2 ?_ | with_reducible refine st_par3 ?_ | with_reducible refine st_asgT ?_ | with_reducible refine st_drop ?_ | with_reducible refine st_brk ?_ | with_reducible refine st_cnt ?_ | with_reducible refine st_tE ?_ | with_reducible refine st_tCmp ?_ | with_reducible refine st_tNt ?_ | with_reducible refine st_tAn ?_ | with_reducible refine st_tO ?_ | with_reducible refine st_tT ?_ | with_reducible refine st_c ?_ | with_reducible refine st_tr ?_ | with_reducible refine st_fz ?_ | with_reducible refine st_op ?_ | with_reducible refine st_call ?_ | with_reducible refine st_callK ?_ | with_reducible refine st_lst ?_ | with_reducible refine st_tup ?_ | with_reducible refine st_sl ?_ | with_reducible refine st_eif ?_ | with_reducible refine st_and ?_ | with_reducible refine st_or ?_ | with_reducible refine st_not ?_ | with_reducible refine st_neg ?_ | with_reducible refine st_isi ?_ | with_reducible refine st_lc ?_ | with_reducible refine st_dc ?_ | with_reducible refine st_anil ?_ | with_reducible refine st_acons ?_ | with_reducible refine st_ono ?_ | with_reducible refine st_osome ?_ | with_reducible refine st_iseq ?_ | with_reducible refine st_irg1 ?_ | with_reducible refine st_izp ?_ | with_reducible refine sd_addI ?_ | with_reducible refine sd_subI ?_ | with_reducible refine sd_lenL ?_ | with_reducible refine sd_lenT ?_ | with_reducible refine sd_list ?_ | with_reducible refine sd_tuple ?_ | with_reducible refine sd_lt ?_ | with_reducible refine sd_le ?_ | with_reducible refine sd_gt ?_ | with_reducible refine sd_ge ?_ | with_reducible refine sd_eqI ?_ | with_reducible refine sd_neI ?_ | with_reducible refine sd_eqS ?_ | with_reducible refine sd_neS ?_ | with_reducible refine sd_slL ?_ | with_reducible refine sd_slT ?_ | with_reducible refine sd_int ?_ | with_reducible refine st_app (by with_unfolding_all rfl) ?_ | with_reducible refine st_clr (by with_unfolding_all rfl) ?_ | with_reducible refine st_retO (by with_unfolding_all rfl) ?_ | with_reducible refine st_retV (by with_unfolding_all rfl) ?_ | with_reducible refine st_aug (by with_unfolding_all rfl) ?_ | with_reducible refine And.intro (by with_unfolding_all rfl) ?_ | with_reducible refine Exists.intro _ (And.intro (by with_unfolding_all rfl) ?_) | with_reducible refine And.intro (le_size (by with_unfolding_all rfl)) ?_ | with_reducible refine st_frz (by with_unfolding_all rfl) ?_))
      rw [if_pos h1] at hR
      exact hN (cs.length - (k + 1)) _ (by omega) ⟨k + 1, acc, n, _, _, _, _, rfl, h, by omega, by omega, hR, rfl⟩
    · rw [decide_eq_false (p := [c] = [32]) (by simpa using h1)]
      refine iteF ?_
      (repeat (first | with_reducible refine ss_ix (by assumption) (by assumption) ?_ | with_reducible refine ss_len (by assumption) ?_ | with_reducible refine ss_in ?_ | with_reducible refine ss_nin ?_ | with_reducible refine ss_eq ?_ | with_reducible refine ss_ne ?_ | with_reducible refine ss_mid (by assumption) ?_ | with_reducible refine ss_to (by assumption) ?_ | with_reducible refine ss_from (by assumption) ?_ | with_reducible refine ss_is ?_ | with_reducible refine ss_isnt ?_ | with_reducible refine ss_aug ?_ | with_reducible refine st_nx ?_ | with_reducible refine st_rt ?_ | with_reducible refine st_bk ?_ | with_reducible refine st_ct ?_ | with_reducible refine st_bind1 ?_ | with_reducible refine st_v (by with_unfolding_all rfl) ?_ | with_reducible refine st_seq ?_ | with_reducible refine st_skip ?_ | with_reducible refine st_asg ?_ | with_reducible refine st_ret ?_ | with_reducible refine st_if ?_ | with_reducible refine st_for ?_ | with_reducible refine st_par2 ?_ | with_reducible refine st_par3 ?_ | with_reducible refine st_asgT ?_ | with_reducible refine st_drop ?_ | with_reducible refine st_brk ?_ | with_reducible refine st_cnt ?_ | with_reducible refine st_tE ?_ | with_reducible refine st_tCmp ?_ | with_reducible refine st_tNt ?_ | with_reducible refine st_tAn ?_ | with_reducible refine st_tO ?_ | with_reducible refine st_tT ?_ | with_reducible refine st_c ?_ | with_reducible refine st_tr ?_ | with_reducible refine st_fz ?_ | with_reducible refine st_op ?_ | with_reducible refine st_call ?_ | with_reducible refine st_callK ?_ | with_reducible refine st_lst ?_ | with_reducible refine st_tup ?_ | with_reducible refine st_sl ?_ | with_reducible refine st_eif ?_ | with_reducible refine st_and ?_ | with_reducible refine st_or ?_ | with_reducible refine st_not ?_ | with_reducible refine st_neg ?_ | with_reducible refine st_isi ?_ | with_reducible refine st_lc ?_ | with_reducible refine st_dc ?_ | with_reducible refine st_anil ?_ | with_reducible refine st_acons ?_ | with_reducible refine st_ono ?_ | with_reducible refine st_osome ?_ | with_reducible refine st_iseq ?_ | with_reducible refine st_irg1 ?_ | with_reducible refine st_izp ?_ | with_reducible refine sd_addI ?_ | with_reducible refine sd_subI ?_ | with_reducible refine sd_lenL ?_ | with_reducible refine sd_lenT ?_ | with_reducible refine sd_list ?_ | with_reducible refine sd_tuple ?_ | with_reducible refine sd_lt ?_ | with_reducible refine sd_le ?_ | with_reducible refine sd_gt ?_ | with_reducible refine sd_ge ?_ | with_reducible refine sd_eqI ?_ | with_reducible refine sd_neI ?_ | with_reducible refine sd_eqS ?_ | with_reducible refine sd_neS ?_ | with_reducible refine sd_slL ?_ | with_reducible refine sd_slT ?_ | with_reducible refine sd_int ?_ | with_reducible refine st_app (by with_unfolding_all rfl) ?_ | with_reducible refine st_clr (by with_unfolding_all rfl) ?_ | with_reducible refine st_retO (by with_unfolding_all rfl) ?_ | with_reducible refine st_retV (by with_unfolding_all rfl) ?_ | with_reducible refine st_aug (by with_unfolding_all rfl) ?_ | with_reducible refine And.intro (by with_unfolding_all rfl) ?_ | with_reducible refine Exists.intro _ (And.intro (by with_unfolding_all rfl) ?_) | with_reducible refine And.intro (le_size (by with_unfolding_all rfl)) ?_ | with_reducible refine st_frz (by with_unfolding_all rfl) ?_))
      rw [if_neg h1] at hR
      refine hlet ?_
      (repeat (first | with_reducible refine ss_ix (by assumption) (by assumption) ?_ | with_reducible refine ss_len (by assumption) ?_ | with_reducible refine ss_in ?_ | with_reducible refine ss_nin ?_ | with_reducible refine ss_eq ?_ | with_reducible refine ss_ne ?_ | with_reducible refine ss_mid (by assumption) ?_ | with_reducible refine ss_to (by assumption) ?_ | with_reducible refine ss_from (by assumption) ?_ | with_reducible refine ss_is ?_ | with_reducible refine ss_isnt ?_ | with_reducible refine ss_aug ?_ | with_reducible refine st_nx ?_ | with_reducible refine st_rt ?_ | with_reducible refine st_bk ?_ | with_reducible refine st_ct ?_ | with_reducible refine st_bind1 ?_ | with_reducible refine st_v (by with_unfolding_all rfl) ?_ | with_reducible refine st_seq ?_ | with_reducible refine st_skip ?_ | with_reducible refine st_asg ?_ | with_reducible refine st_ret ?_ | with_reducible refine st_if ?_ | with_reducible refine st_for ?_ | with_reducible refine st_par2 ?_ | with_reducible refine st_par3 ?_ | with_reducible refine st_asgT ?_ | with_reducible refine st_drop ?_ | with_reducible refine st_brk ?_ | with_reducible refine st_cnt ?_ | with_reducible refine st_tE ?_ | with_reducible refine st_tCmp ?_ | with_reducible refine st_tNt ?_ | with_reducible refine st_tAn ?_ | with_reducible refine st_tO ?_ | with_reducible refine st_tT ?_ | with_reducible refine st_c ?_ | with_reducible refine st_tr ?_ | with_reducible refine st_fz ?_ | with_reducible refine st_op ?_ | with_reducible refine st_call ?_ | with_reducible refine st_callK ?_ | with_reducible refine st_lst ?_ | with_reducible refine st_tup ?_ | with_reducible refine st_sl ?_ | with_reducible refine st_eif ?_ | with_reducible refine st_and ?_ | with_reducible refine st_or ?_ | with_reducible refine st_not ?_ | with_reducible refine st_neg ?_ | with_reducible refine st_isi ?_ | with_reducible refine st_lc ?_ | with_reducible refine st_dc ?_ | with_reducible refine st_anil ?_ | with_reducible refine st_acons ?_ | with_reducible refine st_ono ?_ | with_reducible refine st_osome ?_ | with_reducible refine st_iseq ?_ | with_reducible refine st_irg1 ?_ | with_reducible refine st_izp ?_ | with_reducible refine sd_addI ?_ | with_reducible refine sd_subI ?_ | with_reducible refine sd_lenL ?_ | with_reducible refine sd_lenT ?_ | with_reducible refine sd_list ?_ | with_reducible refine sd_tuple ?_ | with_reducible refine sd_lt ?_ | with_reducible refine sd_le ?_ | with_reducible refine sd_gt ?_ | with_reducible refine sd_ge ?_ | with_reducible refine sd_eqI ?_ | with_reducible refine sd_neI ?_ | with_reducible refine sd_eqS ?_ | with_reducible refine sd_neS ?_ | with_reducible refine sd_slL ?_ | with_reducible refine sd_slT ?_ | with_reducible refine sd_int ?_ | with_reducible refine st_app (by with_unfolding_all rfl) ?_ | with_reducible refine st_clr (by with_unfolding_all rfl) ?_ | with_reducible refine st_retO (by with_unfolding_all rfl) ?_ | with_reducible refine st_retV (by with_unfolding_all rfl) ?_ | with_reducible refine st_aug (by with_unfolding_all rfl) ?_ | with_reducible refine And.intro (by with_unfolding_all rfl) ?_ | with_reducible refine Exists.intro _ (And.intro (by with_unfolding_all rfl) ?_) | with_reducible refine And.intro (le_size (by with_unfolding_all rfl)) ?_ | with_reducible refine st_frz (by with_unfolding_all rfl) ?_))
      by_cases h2 : c ∈ aL
      · rw [decide_eq_true h2]
        refine iteT ?_
        rw [if_pos h2] at hR
        (repeat (first | with_reducible refine ss_ix (by assumption) (by assumption) ?_ | with_reducible refine ss_len (by assumption) ?_ | with_reducible refine ss_in ?_ | with_reducible refine ss_nin ?_ | with_reducible refine ss_eq ?_ | with_reducible refine ss_ne ?_ | with_reducible refine ss_mid (by assumption) ?_ | with_reducible refine ss_to (by assumption) ?_ | with_reducible refine ss_from (by assumption) ?_ | with_reducible refine ss_is ?_ | with_reducible refine ss_isnt ?_ | with_reducible refine ss_aug ?_ | with_reducible refine st_nx ?_ | with_reducible refine st_rt ?_ | with_reducible refine st_bk ?_ | with_reducible refine st_ct ?_ | with_reducible refine st_bind1 ?_ | with_reducible refine st_v (by with_unfolding_all rfl) ?_ | with_reducible refine st_seq ?_ | with_reducible refine st_skip ?_ | with_reducible refine st_asg ?_ | with_reducible refine st_ret ?_ | with_reducible refine st_if ?_ | with_reducible refine st_for ?_ | with_reducible refine st_par2 ?_ | with_reducible refine st_par3 ?_ | with_reducible refine st_asgT ?_ | with_reducible refine st_drop ?_ | with_reducible refine st_brk ?_ | with_reducible refine st_cnt ?_ | with_reducible refine st_tE ?_ | with_reducible refine st_tCmp ?_ | with_reducible refine st_tNt ?_ | with_reducible refine st_tAn ?_ | with_reducible refine st_tO ?_ | with_reducible refine st_tT ?_ | with_reducible refine st_c ?_ | with_reducible refine st_tr ?_ | with_reducible refine st_fz ?_ | with_reducible refine st_op ?_ | with_reducible refine st_call ?_ | with_reducible refine st_callK ?_ | with_reducible refine st_lst ?_ | with_reducible refine st_tup ?_ | with_reducible refine st_sl ?_ | with_reducible refine st_eif ?_ | with_reducible refine st_and ?_ | with_reducible refine st_or ?_ | with_reducible refine st_not ?_ | with_reducible refine st_neg ?_ | with_reducible refine st_isi ?_ | with_reducible refine st_lc ?_ | with_reducible refine st_dc ?_ | with_reducible refine st_anil ?_ | with_reducible refine st_acons ?_ | with_reducible refine st_ono ?_ | with_reducible refine st_osome ?_ | with_reducible refine st_iseq ?_ | with_reducible refine st_irg1 ?_ | with_reducible refine st_izp ?_ | with_reducible refine sd_addI ?_ | with_reducible refine sd_subI ?_ | with_reducible refine sd_lenL ?_ | with_reducible refine sd_lenT ?_ | with_reducible refine sd_list ?_ | with_reducible refine sd_tuple ?_ | with_reducible refine sd_lt ?_ | with_reducible refine sd_le ?_ | with_reducible refine sd_gt ?_ | with_reducible refine sd_ge ?_ | with_reducible refine sd_eqI ?_ | with_reducible refine sd_neI ?_ | with_reducible refine sd_eqS ?_ | with_reducible refine sd_neS ?_ | with_reducible refine sd_slL ?_ | with_reducible refine sd_slT ?_ | with_reducible refine sd_int ?_ | with_reducible refine st_app (by with_unfolding_all rfl) ?_ | with_reducible refine st_clr (by with_unfolding_all rfl) ?_ | with_reducible refine st_retO (by with_unfolding_all rfl) ?_ | with_reducible refine st_retV (by with_unfolding_all rfl) ?_ | with_reducible refine st_aug (by with_unfolding_all rfl) ?_ | with_reducible refine And.intro (by with_unfolding_all rfl) ?_ | with_reducible refine Exists.intro _ (And.intro (by with_unfolding_all rfl) ?_) | with_reducible refine And.intro (le_size (by with_unfolding_all rfl)) ?_ | with_reducible refine st_frz (by with_unfolding_all rfl) ?_))
        refine hlet ?_
        (repeat (first | with_reducible refine ss_ix (by assumption) (by assumption) ?_ | with_reducible refine ss_len (by assumption) ?_ | with_reducible refine ss_in ?_ | with_reducible refine ss_nin ?_ | with_reducible refine ss_eq ?_ | with_reducible refine ss_ne ?_ | with_reducible refine ss_mid (by assumption) ?_ | with_reducible refine ss_to (by assumption) ?_ | with_reducible refine ss_from (by assumption) ?_ | with_reducible refine ss_is ?_ | with_reducible refine ss_isnt ?_ | with_reducible refine ss_aug ?_ | with_reducible refine st_nx ?_ | with_reducible refine st_rt ?_ | with_reducible refine st_bk ?_ | with_reducible refine st_ct ?_ | with_reducible refine st_bind1 ?_ | with_reducible refine st_v (by with_unfolding_all rfl) ?_ | with_reducible refine st_seq ?_ | with_reducible refine st_skip ?_ | with_reducible refine st_asg ?_ | with_reducible refine st_ret ?_ | with_reducible refine st_if ?_ | with_reducible refine st_for ?_ | with_reducible refine st_par2 ?_ | with_reducible refine st_par3 ?_ | with_reducible refine st_asgT ?_ | with_reducible refine st_drop ?_ | with_reducible refine st_brk ?_ | with_reducible refine st_cnt ?_ | with_reducible refine st_tE ?_ | with_reducible refine st_tCmp ?_ | with_reducible refine st_tNt ?_ | with_reducible refine st_tAn ?_ | with_reducible refine st_tO ?_ | with_reducible refine st_tT ?_ | with_reducible refine st_c ?_ | with_reducible refine st_tr ?_ | with_reducible refine st_fz ?_ | with_reducible refine st_op ?_ | with_reducible refine st_call ?_ | with_reducible refine st_callK ?_ | with_reducible refine st_lst ?_ | with_reducible refine st_tup ?_ | with_reducible refine st_sl ?_ | with_reducible refine st_eif ?_ | with_reducible refine st_and ?_ | with_reducible refine st_or ?_ | with_reducible refine st_not ?_ | with_reducible refine st_neg ?_ | with_reducible refine st_isi ?_ | with_reducible refine st_lc ?_ | with_reducible refine st_dc ?_ | with_reducible refine st_anil ?_ | with_reducible refine st_acons ?_ | with_reducible refine st_ono ?_ | with_reducible refine st_osome ?_ | with_reducible refine st_iseq ?_ | with_reducible refine st_irg1 ?_ | with_reducible refine st_izp ?_ | with_reducible refine sd_addI ?_ | with_reducible refine sd_subI ?_ | with_reducible refine sd_lenL ?_ | with_reducible refine sd_lenT ?_ | with_reducible refine sd_list ?_ | with_reducible refine sd_tuple ?_ | with_reducible refine sd_lt ?_ | with_reducible refine sd_le ?_ | with_reducible refine sd_gt ?_ | with_reducible refine sd_ge ?_ | with_reducible refine sd_eqI ?_ | with_reducible refine sd_neI ?_ | with_reducible refine sd_eqS ?_ | with_reducible refine sd_neS ?_ | with_reducible refine sd_slL ?_ | with_reducible refine sd_slT ?_ | with_reducible refine sd_int ?_ | with_reducible refine st_app (by with_unfolding_all rfl) ?_ | with_reducible refine st_clr (by with_unfolding_all rfl) ?_ | with_reducible refine st_retO (by with_unfolding_all rfl) ?_ | with_reducible refine st_retV (by with_unfolding_all rfl) ?_ | with_reducible refine st_aug (by with_unfolding_all rfl) ?_ | with_reducible refine And.intro (by with_unfolding_all rfl) ?_ | with_reducible refine Exists.intro _ (And.intro (by with_unfolding_all rfl) ?_) | with_reducible refine And.intro (le_size (by with_unfolding_all rfl)) ?_ | with_reducible refine st_frz (by with_unfolding_all rfl) ?_))
        rw [decide_eq_false aL_ne]
        refine iteF (iteF ?_)
        (repeat (first | with_reducible refine ss_ix (by assumption) (by assumption) ?_ | with_reducible refine ss_len (by assumption) ?_ | with_reducible refine ss_in ?_ | with_reducible refine ss_nin ?_ | with_reducible refine ss_eq ?_ | with_reducible refine ss_ne ?_ | with_reducible refine ss_mid (by assumption) ?_ | with_reducible refine ss_to (by assumption) ?_ | with_reducible refine ss_from (by assumption) ?_ | with_reducible refine ss_is ?_ | with_reducible refine ss_isnt ?_ | with_reducible refine ss_aug ?_ | with_reducible refine st_nx ?_ | with_reducible refine st_rt ?_ | with_reducible refine st_bk ?_ | with_reducible refine st_ct ?_ | with_reducible refine st_bind1 ?_ | with_reducible refine st_v (by with_unfolding_all rfl) ?_ | with_reducible refine st_seq ?_ | with_reducible refine st_skip ?_ | with_reducible refine st_asg ?_ | with_reducible refine st_ret ?_ | with_reducible refine st_if ?_ | with_reducible refine st_for ?_ | with_reducible refine st_par2 ?_ | with_reducible refine st_par3 ?_ | with_reducible refine st_asgT ?_ | with_reducible refine st_drop ?_ | with_reducible refine st_brk ?_ | with_reducible refine st_cnt ?_ | with_reducible refine st_tE ?_ | with_reducible refine st_tCmp ?_ | with_reducible refine st_tNt ?_ | with_reducible refine st_tAn ?_ | with_reducible refine st_tO ?_ | with_reducible refine st_tT ?_ | with_reducible refine st_c ?_ | with_reducible refine st_tr ?_ | with_reducible refine st_fz ?_ | with_reducible refine st_op ?_ | with_reducible refine st_call ?_ | with_reducible refine st_callK ?_ | with_reducible refine st_lst ?_ | with_reducible refine st_tup ?_ | with_reducible refine st_sl ?_ | with_reducible refine st_eif ?_ | with_reducible refine st_and ?_ | with_reducible refine st_or ?_ | with_reducible refine st_not ?_ | with_reducible refine st_neg ?_ | with_reducible refine st_isi ?_ | with_reducible refine st_lc ?_ | with_reducible refine st_dc ?_ | with_reducible refine st_anil ?_ | with_reducible refine st_acons ?_ | with_reducible refine st_ono ?_ | with_reducible refine st_osome ?_ | with_reducible refine st_iseq ?_ | with_reducible refine st_irg1 ?_ | with_reducible refine st_izp ?_ | with_reducible refine sd_addI ?_ | with_reducible refine sd_subI ?_ | with_reducible refine sd_lenL ?_ | with_reducible refine sd_lenT ?_ | with_reducible refine sd_list ?_ | with_reducible refine sd_tuple ?_ | with_reducible refine sd_lt ?_ | with_reducible refine sd_le ?_ | with_reducible refine sd_gt ?_ | with_reducible refine sd_ge ?_ | with_reducible refine sd_eqI ?_ | with_reducible refine sd_neI ?_ | with_reducible refine sd_eqS ?_ | with_reducible refine sd_neS ?_ | with_reducible refine sd_slL ?_ | with_reducible refine sd_slT ?_ | with_reducible refine sd_int ?_ | with_reducible refine st_app (by with_unfolding_all rfl) ?_ | with_reducible refine st_clr (by with_unfolding_all rfl) ?_ | with_reducible refine st_retO (by with_unfolding_all rfl) ?_ | with_reducible refine st_retV (by with_unfolding_all rfl) ?_ | with_reducible refine st_aug (by with_unfolding_all rfl) ?_ | with_reducible refine And.intro (by with_unfolding_all rfl) ?_ | with_reducible refine Exists.intro _ (And.intro (by with_unfolding_all rfl) ?_) | with_reducible refine And.intro (le_size (by with_unfolding_all rfl)) ?_ | with_reducible refine st_frz (by with_unfolding_all rfl) ?_))
        refine inner_ok aL_ne hl (e0 := k + 1) h ?_
        rw [← runE_in hc h2]
        have hg := runE_gt hc h2
        have hle := runE_le aL hk
        have hml : ((cs.drop k).take (runE aL cs k - k)).length = runE aL cs k - k := by rw [List.length_take, List.length_drop]; omega
        have hm : ((cs.drop k).take (runE aL cs k - k)).length ≤ 100000 := by omega
        (repeat (first | with_reducible refine ss_ix (by assumption) (by assumption) ?_ | with_reducible refine ss_len (by assumption) ?_ | with_reducible refine ss_in ?_ | with_reducible refine ss_nin ?_ | with_reducible refine ss_eq ?_ | with_reducible refine ss_ne ?_ | with_reducible refine ss_mid (by assumption) ?_ | with_reducible refine ss_to (by assumption) ?_ | with_reducible refine ss_from (by assumption) ?_ | with_reducible refine ss_is ?_ | with_reducible refine ss_isnt ?_ | with_reducible refine ss_aug ?_ | with_reducible refine st_nx ?_ | with_reducible refine st_rt ?_ | with_reducible refine st_bk ?_ | with_reducible refine st_ct ?_ | with_reducible refine st_bind1 ?_ | with_reducible refine st_v (by with_unfolding_all rfl) ?_ | with_reducible refine st_seq ?_ | with_reducible refine st_skip ?_ | with_reducible refine st_asg ?_ | with_reducible refine st_ret ?_ | with_reducible refine st_if ?_ | with_reducible refine st_for ?_ | with_reducible refine st_par2 ?_ | with_reducible refine st_par3 ?_ | with_reducible refine st_asgT ?_ | with_reducible refine st_drop ?_ | with_reducible refine st_brk ?_ | with_reducible refine st_cnt ?_ | with_reducible refine st_tE ?_ | with_reducible refine st_tCmp ?_ | with_reducible refine st_tNt ?_ | with_reducible refine st_tAn ?_ | with_reducible refine st_tO ?_ | with_reducible refine st_tT ?_ | with_reducible refine st_c ?_ | with_reducible refine st_tr ?_ | with_reducible refine st_fz ?_ | with_reducible refine st_op ?_ | with_reducible refine st_call ?_ | with_reducible refine st_callK ?_ | with_reducible refine st_lst ?_ | with_reducible refine st_tup ?_ | with_reducible refine st_sl ?_ | with_reducible refine st_eif ?_ | with_reducible refine st_and ?_ | with_reducible refine st_or ?_ | with_reducible refine st_not ?_ | with_reducible refine st_neg ?_ | with_reducible refine st_isi ?_ | with_reducible refine st_lc ?_ | with_reducible refine st_dc ?_ | with_reducible refine st_anil ?_ | with_reducible refine st_acons ?_ | with_reducible refine st_ono ?_ | with_reducible refine st_osome ?_ | with_reducible refine st_iseq ?_ | with_reducible refine st_irg1 ?_ | with_reducible refine st_izp ?_ | with_reducible refine sd_addI ?_ | with_reducible refine sd_subI ?_ | with_reducible refine sd_lenL ?_ | with_reducible refine sd_lenT ?_ | with_reducible refine sd_list ?_ | with_reducible refine sd_tuple ?_ | with_reducible refine sd_lt ?_ | with_reducible refine sd_le ?_ | with_reducible refine sd_gt ?_ | with_reducible refine sd_ge ?_ | with_reducible refine sd_eqI ?_ | with_reducible refine sd_neI ?_ | with_reducible refine sd_eqS ?_ | with_reducible refine sd_neS ?_ | with_reducible refine sd_slL ?_ | with_reducible refine sd_slT ?_ | with_reducible refine sd_int ?_ | with_reducible refine st_app (by with_unfolding_all rfl) ?_ | with_reducible refine st_clr (by with_unfolding_all rfl) ?_ | with_reducible refine st_retO (by with_unfolding_all rfl) ?_ | with_reducible refine st_retV (by with_unfolding_all rfl) ?_ | with_reducible refine st_aug (by with_unfolding_all rfl) ?_ | with_reducible refine And.intro (by with_unfolding_all rfl) ?_ | with_reducible refine Exists.intro _ (And.intro (by with_unfolding_all rfl) ?_) | with_reducible refine And.intro (le_size (by with_unfolding_all rfl)) ?_ | with_reducible refine st_frz (by with_unfolding_all rfl) ?_))
        rw [decide_eq_false aL_dL]
        refine iteF (iteF ?_)
        (repeat (first | with_reducible refine ss_ix (by assumption) (by assumption) ?_ | with_reducible refine ss_len (by assumption) ?_ | with_reducible refine ss_in ?_ | with_reducible refine ss_nin ?_ | with_reducible refine ss_eq ?_ | with_reducible refine ss_ne ?_ | with_reducible refine ss_mid (by assumption) ?_ | with_reducible refine ss_to (by assumption) ?_ | with_reducible refine ss_from (by assumption) ?_ | with_reducible refine ss_is ?_ | with_reducible refine ss_isnt ?_ | with_reducible refine ss_aug ?_ | with_reducible refine st_nx ?_ | with_reducible refine st_rt ?_ | with_reducible refine st_bk ?_ | with_reducible refine st_ct ?_ | with_reducible refine st_bind1 ?_ | with_reducible refine st_v (by with_unfolding_all rfl) ?_ | with_reducible refine st_seq ?_ | with_reducible refine st_skip ?_ | with_reducible refine st_asg ?_ | with_reducible refine st_ret ?_ | with_reducible refine st_if ?_ | with_reducible refine st_for ?_ | with_reducible refine st_par2 ?_ | with_reducible refine st_par3 ?_ | with_reducible refine st_asgT ?_ | with_reducible refine st_drop ?_ | with_reducible refine st_brk ?_ | with_reducible refine st_cnt ?_ | with_reducible refine st_tE ?_ | with_reducible refine st_tCmp ?_ | with_reducible refine st_tNt ?_ | with_reducible refine st_tAn ?_ | with_reducible refine st_tO ?_ | with_reducible refine st_tT ?_ | with_reducible refine st_c ?_ | with_reducible refine st_tr ?_ | with_reducible refine st_fz ?_ | with_reducible refine st_op ?_ | with_reducible refine st_call ?_ | with_reducible refine st_callK ?_ | with_reducible refine st_lst ?_ | with_reducible refine st_tup ?_ | with_reducible refine st_sl ?_ | with_reducible refine st_eif ?_ | with_reducible refine st_and ?_ | with_reducible refine st_or ?_ | with_reducible refine st_not ?_ | with_reducible refine st_neg ?_ | with_reducible refine st_isi ?_ | with_reducible refine st_lc ?_ | with_reducible refine st_dc ?_ | with_reducible refine st_anil ?_ | with_reducible refine st_acons ?_ | with_reducible refine st_ono ?_ | with_reducible refine st_osome ?_ | with_reducible refine st_iseq ?_ | with_reducible refine st_irg1 ?_ | with_reducible refine st_izp ?_ | with_reducible refine sd_addI ?_ | with_reducible refine sd_subI ?_ | with_reducible refine sd_lenL ?_ | with_reducible refine sd_lenT ?_ | with_reducible refine sd_list ?_ | with_reducible refine sd_tuple ?_ | with_reducible refine sd_lt ?_ | with_reducible refine sd_le ?_ | with_reducible refine sd_gt ?_ | with_reducible refine sd_ge ?_ | with_reducible refine sd_eqI ?_ | with_reducible refine sd_neI ?_ | with_reducible refine sd_eqS ?_ | with_reducible refine sd_neS ?_ | with_reducible refine sd_slL ?_ | with_reducible refine sd_slT ?_ | with_reducible refine sd_int ?_ | with_reducible refine st_app (by with_unfolding_all rfl) ?_ | with_reducible refine st_clr (by with_unfolding_all rfl) ?_ | with_reducible refine st_retO (by with_unfolding_all rfl) ?_ | with_reducible refine st_retV (by with_unfolding_all rfl) ?_ | with_reducible refine st_aug (by with_unfolding_all rfl) ?_ | with_reducible refine And.intro (by with_unfolding_all rfl) ?_ | with_reducible refine Exists.intro _ (And.intro (by with_unfolding_all rfl) ?_) | with_reducible refine And.intro (le_size (by with_unfolding_all rfl)) ?_ | with_reducible refine st_frz (by with_unfolding_all rfl) ?_))
        refine hlet ?_
        (repeat (first | with_reducible refine ss_ix (by assumption) (by assumption) ?_ | with_reducible refine ss_len (by assumption) ?_ | with_reducible refine ss_in ?_ | with_reducible refine ss_nin ?_ | with_reducible refine ss_eq ?_ | with_reducible refine ss_ne ?_ | with_reducible refine ss_mid (by assumption) ?_ | with_reducible refine ss_to (by assumption) ?_ | with_reducible refine ss_from (by assumption) ?_ | with_reducible refine ss_is ?_ | with_reducible refine ss_isnt ?_ | with_reducible refine ss_aug ?_ | with_reducible refine st_nx ?_ | with_reducible refine st_rt ?_ | with_reducible refine st_bk ?_ | with_reducible refine st_ct ?_ | with_reducible refine st_bind1 ?_ | with_reducible refine st_v (by with_unfolding_all rfl) ?_ | with_reducible refine st_seq ?_ | with_reducible refine st_skip ?_ | with_reducible refine st_asg ?_ | with_reducible refine st_ret ?_ | with_reducible refine st_if ?_ | with_reducible refine st_for ?_ | with_reducible refine st_par2 ?_ | with_reducible refine st_par3 ?_ | with_reducible refine st_asgT ?_ | with_reducible refine st_drop ?_ | with_reducible refine st_brk ?_ | with_reducible refine st_cnt ?_ | with_reducible refine st_tE ?_ | with_reducible refine st_tCmp ?_ | with_reducible refine st_tNt ?_ | with_reducible refine st_tAn ?_ | with_reducible refine st_tO ?_ | with_reducible refine st_tT ?_ | with_reducible refine st_c ?_ | with_reducible refine st_tr ?_ | with_reducible refine st_fz ?_ | with_reducible refine st_op ?_ | with_reducible refine st_call ?_ | with_reducible refine st_callK ?_ | with_reducible refine st_lst ?_ | with_reducible refine st_tup ?_ | with_reducible refine st_sl ?_ | with_reducible refine st_eif ?_ | with_reducible refine st_and ?_ | with_reducible refine st_or ?_ | with_reducible refine st_not ?_ | with_reducible refine st_neg ?_ | with_reducible refine st_isi ?_ | with_reducible refine st_lc ?_ | with_reducible refine st_dc ?_ | with_reducible refine st_anil ?_ | with_reducible refine st_acons ?_ | with_reducible refine st_ono ?_ | with_reducible refine st_osome ?_ | with_reducible refine st_iseq ?_ | with_reducible refine st_irg1 ?_ | with_reducible refine st_izp ?_ | with_reducible refine sd_addI ?_ | with_reducible refine sd_subI ?_ | with_reducible refine sd_lenL ?_ | with_reducible refine sd_lenT ?_ | with_reducible refine sd_list ?_ | with_reducible refine sd_tuple ?_ | with_reducible refine sd_lt ?_ | with_reducible refine sd_le ?_ | with_reducible refine sd_gt ?_ | with_reducible refine sd_ge ?_ | with_reducible refine sd_eqI ?_ | with_reducible refine sd_neI ?_ | with_reducible refine sd_eqS ?_ | with_reducible refine sd_neS ?_ | with_reducible refine sd_slL ?_ | with_reducible refine sd_slT ?_ | with_reducible refine sd_int ?_ | with_reducible refine st_app (by with_unfolding_all rfl) ?_ | with_reducible refine st_clr (by with_unfolding_all rfl) ?_ | with_reducible refine st_retO (by with_unfolding_all rfl) ?_ | with_reducible refine st_retV (by with_unfolding_all rfl) ?_ | with_reducible refine st_aug (by with_unfolding_all rfl) ?_ | with_reducible refine And.intro (by with_unfolding_all rfl) ?_ | with_reducible refine Exists.intro _ (And.intro (by with_unfolding_all rfl) ?_) | with_reducible refine And.intro (le_size (by with_unfolding_all rfl)) ?_ | with_reducible refine st_frz (by with_unfolding_all rfl) ?_))
        rw [decide_eq_true rfl]
        refine iteT ?_
        (repeat (first | with_reducible refine ss_ix (by assumption) (by assumption) ?_ | with_reducible refine ss_len (by assumption) ?_ | with_reducible refine ss_in ?_ | with_reducible refine ss_nin ?_ | with_reducible refine ss_eq ?_ | with_reducible refine ss_ne ?_ | with_reducible refine ss_mid (by assumption) ?_ | with_reducible refine ss_to (by assumption) ?_ | with_reducible refine ss_from (by assumption) ?_ | with_reducible refine ss_is ?_ | with_reducible refine ss_isnt ?_ | with_reducible refine ss_aug ?_ | with_reducible refine st_nx ?_ | with_reducible refine st_rt ?_ | with_reducible refine st_bk ?_ | with_reducible refine st_ct ?_ | with_reducible refine st_bind1 ?_ | with_reducible refine st_v (by with_unfolding_all rfl) ?_ | with_reducible refine st_seq ?_ | with_reducible refine st_skip ?_ | with_reducible refine st_asg ?_ | with_reducible refine st_ret ?_ | with_reducible refine st_if ?_ | with_reducible refine st_for ?_ | with_reducible refine st_par2 ?_ | with_reducible refine st_par3 ?_ | with_reducible refine st_asgT ?_ | with_reducible refine st_drop ?_ | with_reducible refine st_brk ?_ | with_reducible refine st_cnt ?_ | with_reducible refine st_tE ?_ | with_reducible refine st_tCmp ?_ | with_reducible refine st_tNt ?_ | with_reducible refine st_tAn ?_ | with_reducible refine st_tO ?_ | with_reducible refine st_tT ?_ | with_reducible refine st_c ?_ | with_reducible refine st_tr ?_ | with_reducible refine st_fz ?_ | with_reducible refine st_op ?_ | with_reducible refine st_call ?_ | with_reducible refine st_callK ?_ | with_reducible refine st_lst ?_ | with_reducible refine st_tup ?_ | with_reducible refine st_sl ?_ | with_reducible refine st_eif ?_ | with_reducible refine st_and ?_ | with_reducible refine st_or ?_ | with_reducible refine st_not ?_ | with_reducible refine st_neg ?_ | with_reducible refine st_isi ?_ | with_reducible refine st_lc ?_ | with_reducible refine st_dc ?_ | with_reducible refine st_anil ?_ | with_reducible refine st_acons ?_ | with_reducible refine st_ono ?_ | with_reducible refine st_osome ?_ | with_reducible refine st_iseq ?_ | with_reducible refine st_irg1 ?_ | with_reducible refine st_izp ?_ | with_reducible refine sd_addI ?_ | with_reducible refine sd_subI ?_ | with_reducible refine sd_lenL ?_ | with_reducible refine sd_lenT ?_ | with_reducible refine sd_list ?_ | with_reducible refine sd_tuple ?_ | with_reducible refine sd_lt ?_ | with_reducible refine sd_le ?_ | with_reducible refine sd_gt ?_ | with_reducible refine sd_ge ?_ | with_reducible refine sd_eqI ?_ | with_reducible refine sd_neI ?_ | with_reducible refine sd_eqS ?_ | with_reducible refine sd_neS ?_ | with_reducible refine sd_slL ?_ | with_reducible refine sd_slT ?_ | with_reducible refine sd_int ?_ | with_reducible refine st_app (by with_unfolding_all rfl) ?_ | with_reducible refine st_clr (by with_unfolding_all rfl) ?_ | with_reducible refine st_retO (by with_unfolding_all rfl) ?_ | with_reducible refine st_retV (by with_unfolding_all rfl) ?_ | with_reducible refine st_aug (by with_unfolding_all rfl) ?_ | with_reducible refine And.intro (by with_unfolding_all rfl) ?_ | with_reducible refine Exists.intro _ (And.intro (by with_unfolding_all rfl) ?_) | with_reducible refine And.intro (le_size (by with_unfolding_all rfl)) ?_ | with_reducible refine st_frz (by with_unfolding_all rfl) ?_))
        rw [hml]
        by_cases h6 : 6 < runE aL cs k - k
        · rw [decide_eq_true (p := (6 : Int) < ((runE aL cs k - k : Nat) : Int)) (by omega)]
          refine iteT ?_
          (repeat (first | with_reducible refine ss_ix (by assumption) (by assumption) ?_ | with_reducible refine ss_len (by assumption) ?_ | with_reducible refine ss_in ?_ | with_reducible refine ss_nin ?_ | with_reducible refine ss_eq ?_ | with_reducible refine ss_ne ?_ | with_reducible refine ss_mid (by assumption) ?_ | with_reducible refine ss_to (by assumption) ?_ | with_reducible refine ss_from (by assumption) ?_ | with_reducible refine ss_is ?_ | with_reducible refine ss_isnt ?_ | with_reducible refine ss_aug ?_ | with_reducible refine st_nx ?_ | with_reducible refine st_rt ?_ | with_reducible refine st_bk ?_ | with_reducible refine st_ct ?_ | with_reducible refine st_bind1 ?_ | with_reducible refine st_v (by with_unfolding_all rfl) ?_ | with_reducible refine st_seq ?_ | with_reducible refine st_skip ?_ | with_reducible refine st_asg ?_ | with_reducible refine st_ret ?_ | with_reducible refine st_if ?_ | with_reducible refine st_for ?_ | with_reducible refine st_par2 ?_ | with_reducible refine st_par3 ?_ | with_reducible refine st_asgT ?_ | with_reducible refine st_drop ?_ | with_reducible refine st_brk ?_ | with_reducible refine st_cnt ?_ | with_reducible refine st_tE ?_ | with_reducible refine st_tCmp ?_ | with_reducible refine st_tNt ?_ | with_reducible refine st_tAn ?_ | with_reducible refine st_tO ?_ | with_reducible refine st_tT ?_ | with_reducible refine st_c ?_ | with_reducible refine st_tr ?_ | with_reducible refine st_fz ?_ | with_reducible refine st_op ?_ | with_reducible refine st_call ?_ | with_reducible refine st_callK ?_ | with_reducible refine st_lst ?_ | with_reducible refine st_tup ?_ | with_reducible refine st_sl ?_ | with_reducible refine st_eif ?_ | with_reducible refine st_and ?_ | with_reducible refine st_or ?_ | with_reducible refine st_not ?_ | with_reducible refine st_neg ?_ | with_reducible refine st_isi ?_ | with_reducible refine st_lc ?_ | with_reducible refine st_dc ?_ | with_reducible refine st_anil ?_ | with_reducible refine st_acons ?_ | with_reducible refine st_ono ?_ | with_reducible refine st_osome ?_ | with_reducible refine st_iseq ?_ | with_reducible refine st_irg1 ?_ | with_reducible refine st_izp ?_ | with_reducible refine sd_addI ?_ | with_reducible refine sd_subI ?_ | with_reducible refine sd_lenL ?_ | with_reducible refine sd_lenT ?_ | with_reducible refine sd_list ?_ | with_reducible refine sd_tuple ?_ | with_reducible refine sd_lt ?_ | with_reducible refine sd_le ?_ | with_reducible refine sd_gt ?_ | with_reducible refine sd_ge ?_ | with_reducible refine sd_eqI ?_ | with_reducible refine sd_neI ?_ | with_reducible refine sd_eqS ?_ | with_reducible refine sd_neS ?_ | with_reducible refine sd_slL ?_ | with_reducible refine sd_slT ?_ | with_reducible refine sd_int ?_ | with_reducible refine st_app (by with_unfolding_all rfl) ?_ | with_reducible refine st_clr (by with_unfolding_all rfl) ?_ | with_reducible refine st_retO (by with_unfolding_all rfl) ?_ | with_reducible refine st_retV (by with_unfolding_all rfl) ?_ | with_reducible refine st_aug (by with_unfolding_all rfl) ?_ | with_reducible refine And.intro (by with_unfolding_all rfl) ?_ | with_reducible refine Exists.intro _ (And.intro (by with_unfolding_all rfl) ?_) | with_reducible refine And.intro (le_size (by with_unfolding_all rfl)) ?_ | with_reducible refine st_frz (by with_unfolding_all rfl) ?_))
          rw [if_pos h6] at hR
          rw [eE]
          exact fin _ hR
        · rw [decide_eq_false (p := (6 : Int) < ((runE aL cs k - k : Nat) : Int)) (by omega)]
          refine iteF ?_
          rw [if_neg h6] at hR
          (repeat (first | with_reducible refine ss_ix (by assumption) (by assumption) ?_ | with_reducible refine ss_len (by assumption) ?_ | with_reducible refine ss_in ?_ | with_reducible refine ss_nin ?_ | with_reducible refine ss_eq ?_ | with_reducible refine ss_ne ?_ | with_reducible refine ss_mid (by assumption) ?_ | with_reducible refine ss_to (by assumption) ?_ | with_reducible refine ss_from (by assumption) ?_ | with_reducible refine ss_is ?_ | with_reducible refine ss_isnt ?_ | with_reducible refine ss_aug ?_ | with_reducible refine st_nx ?_ | with_reducible refine st_rt ?_ | with_reducible refine st_bk ?_ | with_reducible refine st_ct ?_ | with_reducible refine st_bind1 ?_ | with_reducible refine st_v (by with_unfolding_all rfl) ?_ | with_reducible refine st_seq ?_ | with_reducible refine st_skip ?_ | with_reducible refine st_asg ?_ | with_reducible refine st_ret ?_ | with_reducible refine st_if ?_ | with_reducible refine st_for ?_ | with_reducible refine st_par2 ?_ | with_reducible refine st_par3 ?_ | with_reducible refine st_asgT ?_ | with_reducible refine st_drop ?_ | with_reducible refine st_brk ?_ | with_reducible refine st_cnt ?_ | with_reducible refine st_tE ?_ | with_reducible refine st_tCmp ?_ | with_reducible refine st_tNt ?_ | with_reducible refine st_tAn ?_ | with_reducible refine st_tO ?_ | with_reducible refine st_tT ?_ | with_reducible refine st_c ?_ | with_reducible refine st_tr ?_ | with_reducible refine st_fz ?_ | with_reducible refine st_op ?_ | with_reducible refine st_call ?_ | with_reducible refine st_callK ?_ | with_reducible refine st_lst ?_ | with_reducible refine st_tup ?_ | with_reducible refine st_sl ?_ | with_reducible refine st_eif ?_ | with_reducible refine st_and ?_ | with_reducible refine st_or ?_ | with_reducible refine st_not ?_ | with_reducible refine st_neg ?_ | with_reducible refine st_isi ?_ | with_reducible refine st_lc ?_ | with_reducible refine st_dc ?_ | with_reducible refine st_anil ?_ | with_reducible refine st_acons ?_ | with_reducible refine st_ono ?_ | with_reducible refine st_osome ?_ | with_reducible refine st_iseq ?_ | with_reducible refine st_irg1 ?_ | with_reducible refine st_izp ?_ | with_reducible refine sd_addI ?_ | with_reducible refine sd_subI ?_ | with_reducible refine sd_lenL ?_ | with_reducible refine sd_lenT ?_ | with_reducible refine sd_list ?_ | with_reducible refine sd_tuple ?_ | with_reducible refine sd_lt ?_ | with_reducible refine sd_le ?_ | with_reducible refine sd_gt ?_ | with_reducible refine sd_ge ?_ | with_reducible refine sd_eqI ?_ | with_reducible refine sd_neI ?_ | with_reducible refine sd_eqS ?_ | with_reducible refine sd_neS ?_ | with_reducible refine sd_slL ?_ | with_reducible refine sd_slT ?_ | with_reducible refine sd_int ?_ | with_reducible refine st_app (by with_unfolding_all rfl) ?_ | with_reducible refine st_clr (by with_unfolding_all rfl) ?_ | with_reducible refine st_retO (by with_unfolding_all rfl) ?_ | with_reducible refine st_retV (by with_unfolding_all rfl) ?_ | with_reducible refine st_aug (by with_unfolding_all rfl) ?_ | with_reducible refine And.intro (by with_unfolding_all rfl) ?_ | with_reducible refine Exists.intro _ (And.intro (by with_unfolding_all rfl) ?_) | with_reducible refine And.intro (le_size (by with_unfolding_all rfl)) ?_ | with_reducible refine st_frz (by with_unfolding_all rfl) ?_))
          rw [decide_eq_false aL_ne]
          refine iteF ?_
          (repeat (first | with_reducible refine ss_ix (by assumption) (by assumption) ?_ | with_reducible refine ss_len (by assumption) ?_ | with_reducible refine ss_in ?_ | with_reducible refine ss_nin ?_ | with_reducible refine ss_eq ?_ | with_reducible refine ss_ne ?_ | with_reducible refine ss_mid (by assumption) ?_ | with_reducible refine ss_to (by assumption) ?_ | with_reducible refine ss_from (by assumption) ?_ | with_reducible refine ss_is ?_ | with_reducible refine ss_isnt ?_ | with_reducible refine ss_aug ?_ | with_reducible refine st_nx ?_ | with_reducible refine st_rt ?_ | with_reducible refine st_bk ?_ | with_reducible refine st_ct ?_ | with_reducible refine st_bind1 ?_ | with_reducible refine st_v (by with_unfolding_all rfl) ?_ | with_reducible refine st_seq ?_ | with_reducible refine st_skip ?_ | with_reducible refine st_asg ?_ | with_reducible refine st_ret ?_ | with_reducible refine st_if ?_ | with_reducible refine st_for ?_ | with_reducible refine st_par2 ?_ | with_reducible refine st_par3 ?_ | with_reducible refine st_asgT ?_ | with_reducible refine st_drop ?_ | with_reducible refine st_brk ?_ | with_reducible refine st_cnt ?_ | with_reducible refine st_tE ?_ | with_reducible refine st_tCmp ?_ | with_reducible refine st_tNt ?_ | with_reducible refine st_tAn ?_ | with_reducible refine st_tO ?_ | with_reducible refine st_tT ?_ | with_reducible refine st_c ?_ | with_reducible refine st_tr ?_ | with_reducible refine st_fz ?_ | with_reducible refine st_op ?_ | with_reducible refine st_call ?_ | with_reducible refine st_callK ?_ | with_reducible refine st_lst ?_ | with_reducible refine st_tup ?_ | with_reducible refine st_sl ?_ | with_reducible refine st_eif ?_ | with_reducible refine st_and ?_ | with_reducible refine st_or ?_ | with_reducible refine st_not ?_ | with_reducible refine st_neg ?_ | with_reducible refine st_isi ?_ | with_reducible refine st_lc ?_ | with_reducible refine st_dc ?_ | with_reducible refine st_anil ?_ | with_reducible refine st_acons ?_ | with_reducible refine st_ono ?_ | with_reducible refine st_osome ?_ | with_reducible refine st_iseq ?_ | with_reducible refine st_irg1 ?_ | with_reducible refine st_izp ?_ | with_reducible refine sd_addI ?_ | with_reducible refine sd_subI ?_ | with_reducible refine sd_lenL ?_ | with_reducible refine sd_lenT ?_ | with_reducible refine sd_list ?_ | with_reducible refine sd_tuple ?_ | with_reducible refine sd_lt ?_ | with_reducible refine sd_le ?_ | with_reducible refine sd_gt ?_ | with_reducible refine sd_ge ?_ | with_reducible refine sd_eqI ?_ | with_reducible refine sd_neI ?_ | with_reducible refine sd_eqS ?_ | with_reducible refine sd_neS ?_ | with_reducible refine sd_slL ?_ | with_reducible refine sd_slT ?_ | with_reducible refine sd_int ?_ | with_reducible refine st_app (by with_unfolding_all rfl) ?_ | with_reducible refine st_clr (by with_unfolding_all rfl) ?_ | with_reducible refine st_retO (by with_unfolding_all rfl) ?_ | with_reducible refine st_retV (by with_unfolding_all rfl) ?_ | with_reducible refine st_aug (by with_unfolding_all rfl) ?_ | with_reducible refine And.intro (by with_unfolding_all rfl) ?_ | with_reducible refine Exists.intro _ (And.intro (by with_unfolding_all rfl) ?_) | with_reducible refine And.intro (le_size (by with_unfolding_all rfl)) ?_ | with_reducible refine st_frz (by with_unfolding_all rfl) ?_))
          rw [decide_eq_false aL_dL]
          refine iteF ?_
          (repeat (first | with_reducible refine ss_ix (by assumption) (by assumption) ?_ | with_reducible refine ss_len (by assumption) ?_ | with_reducible refine ss_in ?_ | with_reducible refine ss_nin ?_ | with_reducible refine ss_eq ?_ | with_reducible refine ss_ne ?_ | with_reducible refine ss_mid (by assumption) ?_ | with_reducible refine ss_to (by assumption) ?_ | with_reducible refine ss_from (by assumption) ?_ | with_reducible refine ss_is ?_ | with_reducible refine ss_isnt ?_ | with_reducible refine ss_aug ?_ | with_reducible refine st_nx ?_ | with_reducible refine st_rt ?_ | with_reducible refine st_bk ?_ | with_reducible refine st_ct ?_ | with_reducible refine st_bind1 ?_ | with_reducible refine st_v (by with_unfolding_all rfl) ?_ | with_reducible refine st_seq ?_ | with_reducible refine st_skip ?_ | with_reducible refine st_asg ?_ | with_reducible refine st_ret ?_ | with_reducible refine st_if ?_ | with_reducible refine st_for ?_ | with_reducible refine st_par2 ?_ | with_reducible refine st_par3 ?_ | with_reducible refine st_asgT ?_ | with_reducible refine st_drop ?_ | with_reducible refine st_brk ?_ | with_reducible refine st_cnt ?_ | with_reducible refine st_tE ?_ | with_reducible refine st_tCmp ?_ | with_reducible refine st_tNt ?_ | with_reducible refine st_tAn ?_ | with_reducible refine st_tO ?_ | with_reducible refine st_tT ?_ | with_reducible refine st_c ?_ | with_reducible refine st_tr ?_ | with_reducible refine st_fz ?_ | with_reducible refine st_op ?_ | with_reducible refine st_call ?_ | with_reducible refine st_callK ?_ | with_reducible refine st_lst ?_ | with_reducible refine st_tup ?_ | with_reducible refine st_sl ?_ | with_reducible refine st_eif ?_ | with_reducible refine st_and ?_ | with_reducible refine st_or ?_ | with_reducible refine st_not ?_ | with_reducible refine st_neg ?_ | with_reducible refine st_isi ?_ | with_reducible refine st_lc ?_ | with_reducible refine st_dc ?_ | with_reducible refine st_anil ?_ | with_reducible refine st_acons ?_ | with_reducible refine st_ono ?_ | with_reducible refine st_osome ?_ | with_reducible refine st_iseq ?_ | with_reducible refine st_irg1 ?_ | with_reducible refine st_izp ?_ | with_reducible refine sd_addI ?_ | with_reducible refine sd_subI ?_ | with_reducible refine sd_lenL ?_ | with_reducible refine sd_lenT ?_ | with_reducible refine sd_list ?_ | with_reducible refine sd_tuple ?_ | with_reducible refine sd_lt ?_ | with_reducible refine sd_le ?_ | with_reducible refine sd_gt ?_ | with_reducible refine sd_ge ?_ | with_reducible refine sd_eqI ?_ | with_reducible refine sd_neI ?_ | with_reducible refine sd_eqS ?_ | with_reducible refine sd_neS ?_ | with_reducible refine sd_slL ?_ | with_reducible refine sd_slT ?_ | with_reducible refine sd_int ?_ | with_reducible refine st_app (by with_unfolding_all rfl) ?_ | with_reducible refine st_clr (by with_unfolding_all rfl) ?_ | with_reducible refine st_retO (by with_unfolding_all rfl) ?_ | with_reducible refine st_retV (by with_unfolding_all rfl) ?_ | with_reducible refine st_aug (by with_unfolding_all rfl) ?_ | with_reducible refine And.intro (by with_unfolding_all rfl) ?_ | with_reducible refine Exists.intro _ (And.intro (by with_unfolding_all rfl) ?_) | with_reducible refine And.intro (le_size (by with_unfolding_all rfl)) ?_ | with_reducible refine st_frz (by with_unfolding_all rfl) ?_))
          refine ⟨st_len0 ha (by omega), ?_⟩
          (repeat (first | with_reducible refine ss_ix (by assumption) (by assumption) ?_ | with_reducible refine ss_len (by assumption) ?_ | with_reducible refine ss_in ?_ | with_reducible refine ss_nin ?_ | with_reducible refine ss_eq ?_ | with_reducible refine ss_ne ?_ | with_reducible refine ss_mid (by assumption) ?_ | with_reducible refine ss_to (by assumption) ?_ | with_reducible refine ss_from (by assumption) ?_ | with_reducible refine ss_is ?_ | with_reducible refine ss_isnt ?_ | with_reducible refine ss_aug ?_ | with_reducible refine st_nx ?_ | with_reducible refine st_rt ?_ | with_reducible refine st_bk ?_ | with_reducible refine st_ct ?_ | with_reducible refine st_bind1 ?_ | with_reducible refine st_v (by with_unfolding_all rfl) ?_ | with_reducible refine st_seq ?_ | with_reducible refine st_skip ?_ | with_reducible refine st_asg ?_ | with_reducible refine st_ret ?_ | with_reducible refine st_if ?_ | with_reducible refine st_for ?_ | with_reducible refine st_par2 ?_ | with_reducible refine st_par3 ?_ | with_reducible refine st_asgT ?_ | with_reducible refine st_drop ?_ | with_reducible refine st_brk ?_ | with_reducible refine st_cnt ?_ | with_reducible refine st_tE ?_ | with_reducible refine st_tCmp ?_ | with_reducible refine st_tNt ?_ | with_reducible refine st_tAn ?_ | with_reducible refine st_tO ?_ | with_reducible refine st_tT ?_ | with_reducible refine st_c ?_ | with_reducible refine st_tr ?_ | with_reducible refine st_fz ?_ | with_reducible refine st_op ?_ | with_reducible refine st_call ?_ | with_reducible refine st_callK ?_ | with_reducible refine st_lst ?_ | with_reducible refine st_tup ?_ | with_reducible refine st_sl ?_ | with_reducible refine st_eif ?_ | with_reducible refine st_and ?_ | with_reducible refine st_or ?_ | with_reducible refine st_not ?_ | with_reducible refine st_neg ?_ | with_reducible refine st_isi ?_ | with_reducible refine st_lc ?_ | with_reducible refine st_dc ?_ | with_reducible refine st_anil ?_ | with_reducible refine st_acons ?_ | with_reducible refine st_ono ?_ | with_reducible refine st_osome ?_ | with_reducible refine st_iseq ?_ | with_reducible refine st_irg1 ?_ | with_reducible refine st_izp ?_ | with_reducible refine sd_addI ?_ | with_reducible refine sd_subI ?_ | with_reducible refine sd_lenL ?_ | with_reducible refine sd_lenT ?_ | with_reducible refine sd_list ?_ | with_reducible refine sd_tuple ?_ | with_reducible refine sd_lt ?_ | with_reducible refine sd_le ?_ | with_reducible refine sd_gt ?_ | with_reducible refine sd_ge ?_ | with_reducible refine sd_eqI ?_ | with_reducible refine sd_neI ?_ | with_reducible refine sd_eqS ?_ | with_reducible refine sd_neS ?_ | with_reducible refine sd_slL ?_ | with_reducible refine sd_slT ?_ | with_reducible refine sd_int ?_ | with_reducible refine st_app (by with_unfolding_all rfl) ?_ | with_reducible refine st_clr (by with_unfolding_all rfl) ?_ | with_reducible refine st_retO (by with_unfolding_all rfl) ?_ | with_reducible refine st_retV (by with_unfolding_all rfl) ?_ | with_reducible refine st_aug (by with_unfolding_all rfl) ?_ | with_reducible refine And.intro (by with_unfolding_all rfl) ?_ | with_reducible refine Exists.intro _ (And.intro (by with_unfolding_all rfl) ?_) | with_reducible refine And.intro (le_size (by with_unfolding_all rfl)) ?_ | with_reducible refine st_frz (by with_unfolding_all rfl) ?_))
          exact hN (cs.length - runE aL cs k) _ (by omega) ⟨runE aL cs k, acc ++ [tok k "word" (tx (mid cs k (runE aL cs k)))], n, _, _, _, _, rfl, hle, by rw [List.length_append]; simp; omega, by omega, by rw [List.append_assoc]; exact hR, rfl⟩
      · rw [decide_eq_false h2]
        refine iteF ?_
        (repeat (first | with_reducible refine ss_ix (by assumption) (by assumption) ?_ | with_reducible refine ss_len (by assumption) ?_ | with_reducible refine ss_in ?_ | with_reducible refine ss_nin ?_ | with_reducible refine ss_eq ?_ | with_reducible refine ss_ne ?_ | with_reducible refine ss_mid (by assumption) ?_ | with_reducible refine ss_to (by assumption) ?_ | with_reducible refine ss_from (by assumption) ?_ | with_reducible refine ss_is ?_ | with_reducible refine ss_isnt ?_ | with_reducible refine ss_aug ?_ | with_reducible refine st_nx ?_ | with_reducible refine st_rt ?_ | with_reducible refine st_bk ?_ | with_reducible refine st_ct ?_ | with_reducible refine st_bind1 ?_ | with_reducible refine st_v (by with_unfolding_all rfl) ?_ | with_reducible refine st_seq ?_ | with_reducible refine st_skip ?_ | with_reducible refine st_asg ?_ | with_reducible refine st_ret ?_ | with_reducible refine st_if ?_ | with_reducible refine st_for ?_ | with_reducible refine st_par2 ?_ | with_reducible refine st_par3 ?_ | with_reducible refine st_asgT ?_ | with_reducible refine st_drop ?_ | with_reducible refine st_brk ?_ | with_reducible refine st_cnt ?_ | with_reducible refine st_tE ?_ | with_reducible refine st_tCmp ?_ | with_reducible refine st_tNt ?_ | with_reducible refine st_tAn ?_ | with_reducible refine st_tO ?_ | with_reducible refine st_tT ?_ | with_reducible refine st_c ?_ | with_reducible refine st_tr ?_ | with_reducible refine st_fz ?_ | with_reducible refine st_op ?_ | with_reducible refine st_call ?_ | with_reducible refine st_callK ?_ | with_reducible refine st_lst ?_ | with_reducible refine st_tup ?_ | with_reducible refine st_sl ?_ | with_reducible refine st_eif ?_ | with_reducible refine st_and ?_ | with_reducible refine st_or ?_ | with_reducible refine st_not ?_ | with_reducible refine st_neg ?_ | with_reducible refine st_isi ?_ | with_reducible refine st_lc ?_ | with_reducible refine st_dc ?_ | with_reducible refine st_anil ?_ | with_reducible refine st_acons ?_ | with_reducible refine st_ono ?_ | with_reducible refine st_osome ?_ | with_reducible refine st_iseq ?_ | with_reducible refine st_irg1 ?_ | with_reducible refine st_izp ?_ | with_reducible refine sd_addI ?_ | with_reducible refine sd_subI ?_ | with_reducible refine sd_lenL ?_ | with_reducible refine sd_lenT ?_ | with_reducible refine sd_list ?_ | with_reducible refine sd_tuple ?_ | with_reducible refine sd_lt ?_ | with_reducible refine sd_le ?_ | with_reducible refine sd_gt ?_ | with_reducible refine sd_ge ?_ | with_reducible refine sd_eqI ?_ | with_reducible refine sd_neI ?_ | with_reducible refine sd_eqS ?_ | with_reducible refine sd_neS ?_ | with_reducible refine sd_slL ?_ | with_reducible refine sd_slT ?_ | with_reducible refine sd_int ?_ | with_reducible refine st_app (by with_unfolding_all rfl) ?_ | with_reducible refine st_clr (by with_unfolding_all rfl) ?_ | with_reducible refine st_retO (by with_unfolding_all rfl) ?_ | with_reducible refine st_retV (by with_unfolding_all rfl) ?_ | with_reducible refine st_aug (by with_unfolding_all rfl) ?_ | with_reducible refine And.intro (by with_unfolding_all rfl) ?_ | with_reducible refine Exists.intro _ (And.intro (by with_unfolding_all rfl) ?_) | with_reducible refine And.intro (le_size (by with_unfolding_all rfl)) ?_ | with_reducible refine st_frz (by with_unfolding_all rfl) ?_))
        refine hdig ?_
        (repeat (first | with_reducible refine ss_ix (by assumption) (by assumption) ?_ | with_reducible refine ss_len (by assumption) ?_ | with_reducible refine ss_in ?_ | with_reducible refine ss_nin ?_ | with_reducible refine ss_eq ?_ | with_reducible refine ss_ne ?_ | with_reducible refine ss_mid (by assumption) ?_ | with_reducible refine ss_to (by assumption) ?_ | with_reducible refine ss_from (by assumption) ?_ | with_reducible refine ss_is ?_ | with_reducible refine ss_isnt ?_ | with_reducible refine ss_aug ?_ | with_reducible refine st_nx ?_ | with_reducible refine st_rt ?_ | with_reducible refine st_bk ?_ | with_reducible refine st_ct ?_ | with_reducible refine st_bind1 ?_ | with_reducible refine st_v (by with_unfolding_all rfl) ?_ | with_reducible refine st_seq ?_ | with_reducible refine st_skip ?_ | with_reducible refine st_asg ?_ | with_reducible refine st_ret ?_ | with_reducible refine st_if ?_ | with_reducible refine st_for ?_ | with_reducible refine st_par2 ?_ | with_reducible refine st_par3 ?_ | with_reducible refine st_asgT ?_ | with_reducible refine st_drop ?_ | with_reducible refine st_brk ?_ | with_reducible refine st_cnt ?_ | with_reducible refine st_tE ?_ | with_reducible refine st_tCmp ?_ | with_reducible refine st_tNt ?_ | with_reducible refine st_tAn ?_ | with_reducible refine st_tO ?_ | with_reducible refine st_tT ?_ | with_reducible refine st_c ?_ | with_reducible refine st_tr ?_ | with_reducible refine st_fz ?_ | with_reducible refine st_op ?_ | with_reducible refine st_call ?_ | with_reducible refine st_callK ?_ | with_reducible refine st_lst ?_ | with_reducible refine st_tup ?_ | with_reducible refine st_sl ?_ | with_reducible refine st_eif ?_ | with_reducible refine st_and ?_ | with_reducible refine st_or ?_ | with_reducible refine st_not ?_ | with_reducible refine st_neg ?_ | with_reducible refine st_isi ?_ | with_reducible refine st_lc ?_ | with_reducible refine st_dc ?_ | with_reducible refine st_anil ?_ | with_reducible refine st_acons ?_ | with_reducible refine st_ono ?_ | with_reducible refine st_osome ?_ | with_reducible refine st_iseq ?_ | with_reducible refine st_irg1 ?_ | with_reducible refine st_izp ?_ | with_reducible refine sd_addI ?_ | with_reducible refine sd_subI ?_ | with_reducible refine sd_lenL ?_ | with_reducible refine sd_lenT ?_ | with_reducible refine sd_list ?_ | with_reducible refine sd_tuple ?_ | with_reducible refine sd_lt ?_ | with_reducible refine sd_le ?_ | with_reducible refine sd_gt ?_ | with_reducible refine sd_ge ?_ | with_reducible refine sd_eqI ?_ | with_reducible refine sd_neI ?_ | with_reducible refine sd_eqS ?_ | with_reducible refine sd_neS ?_ | with_reducible refine sd_slL ?_ | with_reducible refine sd_slT ?_ | with_reducible refine sd_int ?_ | with_reducible refine st_app (by with_unfolding_all rfl) ?_ | with_reducible refine st_clr (by with_unfolding_all rfl) ?_ | with_reducible refine st_retO (by with_unfolding_all rfl) ?_ | with_reducible refine st_retV (by with_unfolding_all rfl) ?_ | with_reducible refine st_aug (by with_unfolding_all rfl) ?_ | with_reducible refine And.intro (by with_unfolding_all rfl) ?_ | with_reducible refine Exists.intro _ (And.intro (by with_unfolding_all rfl) ?_) | with_reducible refine And.intro (le_size (by with_unfolding_all rfl)) ?_ | with_reducible refine st_frz (by with_unfolding_all rfl) ?_))
        rw [if_neg h2] at hR
        by_cases h3 : c ∈ dL
        · rw [decide_eq_true h3]
          refine iteT ?_
          rw [if_pos h3] at hR
          (repeat (first | with_reducible refine ss_ix (by assumption) (by assumption) ?_ | with_reducible refine ss_len (by assumption) ?_ | with_reducible refine ss_in ?_ | with_reducible refine ss_nin ?_ | with_reducible refine ss_eq ?_ | with_reducible refine ss_ne ?_ | with_reducible refine ss_mid (by assumption) ?_ | with_reducible refine ss_to (by assumption) ?_ | with_reducible refine ss_from (by assumption) ?_ | with_reducible refine ss_is ?_ | with_reducible refine ss_isnt ?_ | with_reducible refine ss_aug ?_ | with_reducible refine st_nx ?_ | with_reducible refine st_rt ?_ | with_reducible refine st_bk ?_ | with_reducible refine st_ct ?_ | with_reducible refine st_bind1 ?_ | with_reducible refine st_v (by with_unfolding_all rfl) ?_ | with_reducible refine st_seq ?_ | with_reducible refine st_skip ?_ | with_reducible refine st_asg ?_ | with_reducible refine st_ret ?_ | with_reducible refine st_if ?_ | with_reducible refine st_for ?_ | with_reducible refine st_par2 ?_ | with_reducible refine st_par3 ?_ | with_reducible refine st_asgT ?_ | with_reducible refine st_drop ?_ | with_reducible refine st_brk ?_ | with_reducible refine st_cnt ?_ | with_reducible refine st_tE ?_ | with_reducible refine st_tCmp ?_ | with_reducible refine st_tNt ?_ | with_reducible refine st_tAn ?_ | with_reducible refine st_tO ?_ | with_reducible refine st_tT ?_ | with_reducible refine st_c ?_ | with_reducible refine st_tr ?_ | with_reducible refine st_fz ?_ | with_reducible refine st_op ?_ | with_reducible refine st_call ?_ | with_reducible refine st_callK ?_ | with_reducible refine st_lst ?_ | with_reducible refine st_tup ?_ | with_reducible refine st_sl ?_ | with_reducible refine st_eif ?_ | with_reducible refine st_and ?_ | with_reducible refine st_or ?_ | with_reducible refine st_not ?_ | with_reducible refine st_neg ?_ | with_reducible refine st_isi ?_ | with_reducible refine st_lc ?_ | with_reducible refine st_dc ?_ | with_reducible refine st_anil ?_ | with_reducible refine st_acons ?_ | with_reducible refine st_ono ?_ | with_reducible refine st_osome ?_ | with_reducible refine st_iseq ?_ | with_reducible refine st_irg1 ?_ | with_reducible refine st_izp ?_ | with_reducible refine sd_addI ?_ | with_reducible refine sd_subI ?_ | with_reducible refine sd_lenL ?_ | with_reducible refine sd_lenT ?_ | with_reducible refine sd_list ?_ | with_reducible refine sd_tuple ?_ | with_reducible refine sd_lt ?_ | with_reducible refine sd_le ?_ | with_reducible refine sd_gt ?_ | with_reducible refine sd_ge ?_ | with_reducible refine sd_eqI ?_ | with_reducible refine sd_neI ?_ | with_reducible refine sd_eqS ?_ | with_reducible refine sd_neS ?_ | with_reducible refine sd_slL ?_ | with_reducible refine sd_slT ?_ | with_reducible refine sd_int ?_ | with_reducible refine st_app (by with_unfolding_all rfl) ?_ | with_reducible refine st_clr (by with_unfolding_all rfl) ?_ | with_reducible refine st_retO (by with_unfolding_all rfl) ?_ | with_reducible refine st_retV (by with_unfolding_all rfl) ?_ | with_reducible refine st_aug (by with_unfolding_all rfl) ?_ | with_reducible refine And.intro (by with_unfolding_all rfl) ?_ | with_reducible refine Exists.intro _ (And.intro (by with_unfolding_all rfl) ?_) | with_reducible refine And.intro (le_size (by with_unfolding_all rfl)) ?_ | with_reducible refine st_frz (by with_unfolding_all rfl) ?_))
          rw [decide_eq_false dL_ne]
          refine iteF (iteF ?_)
          (repeat (first | with_reducible refine ss_ix (by assumption) (by assumption) ?_ | with_reducible refine ss_len (by assumption) ?_ | with_reducible refine ss_in ?_ | with_reducible refine ss_nin ?_ | with_reducible refine ss_eq ?_ | with_reducible refine ss_ne ?_ | with_reducible refine ss_mid (by assumption) ?_ | with_reducible refine ss_to (by assumption) ?_ | with_reducible refine ss_from (by assumption) ?_ | with_reducible refine ss_is ?_ | with_reducible refine ss_isnt ?_ | with_reducible refine ss_aug ?_ | with_reducible refine st_nx ?_ | with_reducible refine st_rt ?_ | with_reducible refine st_bk ?_ | with_reducible refine st_ct ?_ | with_reducible refine st_bind1 ?_ | with_reducible refine st_v (by with_unfolding_all rfl) ?_ | with_reducible refine st_seq ?_ | with_reducible refine st_skip ?_ | with_reducible refine st_asg ?_ | with_reducible refine st_ret ?_ | with_reducible refine st_if ?_ | with_reducible refine st_for ?_ | with_reducible refine st_par2 ?_ | with_reducible refine st_par3 ?_ | with_reducible refine st_asgT ?_ | with_reducible refine st_drop ?_ | with_reducible refine st_brk ?_ | with_reducible refine st_cnt ?_ | with_reducible refine st_tE ?_ | with_reducible refine st_tCmp ?_ | with_reducible refine st_tNt ?_ | with_reducible refine st_tAn ?_ | with_reducible refine st_tO ?_ | with_reducible refine st_tT ?_ | with_reducible refine st_c ?_ | with_reducible refine st_tr ?_ | with_reducible refine st_fz ?_ | with_reducible refine st_op ?_ | with_reducible refine st_call ?_ | with_reducible refine st_callK ?_ | with_reducible refine st_lst ?_ | with_reducible refine st_tup ?_ | with_reducible refine st_sl ?_ | with_reducible refine st_eif ?_ | with_reducible refine st_and ?_ | with_reducible refine st_or ?_ | with_reducible refine st_not ?_ | with_reducible refine st_neg ?_ | with_reducible refine st_isi ?_ | with_reducible refine st_lc ?_ | with_reducible refine st_dc ?_ | with_reducible refine st_anil ?_ | with_reducible refine st_acons ?_ | with_reducible refine st_ono ?_ | with_reducible refine st_osome ?_ | with_reducible refine st_iseq ?_ | with_reducible refine st_irg1 ?_ | with_reducible refine st_izp ?_ | with_reducible refine sd_addI ?_ | with_reducible refine sd_subI ?_ | with_reducible refine sd_lenL ?_ | with_reducible refine sd_lenT ?_ | with_reducible refine sd_list ?_ | with_reducible refine sd_tuple ?_ | with_reducible refine sd_lt ?_ | with_reducible refine sd_le ?_ | with_reducible refine sd_gt ?_ | with_reducible refine sd_ge ?_ | with_reducible refine sd_eqI ?_ | with_reducible refine sd_neI ?_ | with_reducible refine sd_eqS ?_ | with_reducible refine sd_neS ?_ | with_reducible refine sd_slL ?_ | with_reducible refine sd_slT ?_ | with_reducible refine sd_int ?_ | with_reducible refine st_app (by with_unfolding_all rfl) ?_ | with_reducible refine st_clr (by with_unfolding_all rfl) ?_ | with_reducible refine st_retO (by with_unfolding_all rfl) ?_ | with_reducible refine st_retV (by with_unfolding_all rfl) ?_ | with_reducible refine st_aug (by with_unfolding_all rfl) ?_ | with_reducible refine And.intro (by with_unfolding_all rfl) ?_ | with_reducible refine Exists.intro _ (And.intro (by with_unfolding_all rfl) ?_) | with_reducible refine And.intro (le_size (by with_unfolding_all rfl)) ?_ | with_reducible refine st_frz (by with_unfolding_all rfl) ?_))
          refine inner_ok dL_ne hl (e0 := k + 1) h ?_
          rw [← runE_in hc h3]
          have hg := runE_gt hc h3
          have hle := runE_le dL hk
          have hml : ((cs.drop k).take (runE dL cs k - k)).length = runE dL cs k - k := by rw [List.length_take, List.length_drop]; omega
          have hm : ((cs.drop k).take (runE dL cs k - k)).length ≤ 100000 := by omega
          have hmc : ((cs.drop k).take (runE dL cs k - k))[0]? = some c := by
            rw [List.getElem?_take, if_pos (by omega), List.getElem?_drop]
            exact hc
          have hmd : ∃ w, mid cs k (runE dL cs k) = c :: w := by
            unfold mid
            cases e : (cs.drop k).take (runE dL cs k - k) with
            | nil => rw [e] at hmc; cases hmc
            | cons x w => rw [e] at hmc; cases hmc; exact ⟨w, rfl⟩
          obtain ⟨w, hw⟩ := hmd
          have hbad := bad_eq (c := c) (w := w) (by rw [← hw]; exact mid_digits)
          rw [← hw] at hbad
          have hlen : (mid cs k (runE dL cs k)).length = runE dL cs k - k := hml
          rw [hlen] at hbad
          (repeat (first | with_reducible refine ss_ix (by assumption) (by assumption) ?_ | with_reducible refine ss_len (by assumption) ?_ | with_reducible refine ss_in ?_ | with_reducible refine ss_nin ?_ | with_reducible refine ss_eq ?_ | with_reducible refine ss_ne ?_ | with_reducible refine ss_mid (by assumption) ?_ | with_reducible refine ss_to (by assumption) ?_ | with_reducible refine ss_from (by assumption) ?_ | with_reducible refine ss_is ?_ | with_reducible refine ss_isnt ?_ | with_reducible refine ss_aug ?_ | with_reducible refine st_nx ?_ | with_reducible refine st_rt ?_ | with_reducible refine st_bk ?_ | with_reducible refine st_ct ?_ | with_reducible refine st_bind1 ?_ | with_reducible refine st_v (by with_unfolding_all rfl) ?_ | with_reducible refine st_seq ?_ | with_reducible refine st_skip ?_ | with_reducible refine st_asg ?_ | with_reducible refine st_ret ?_ | with_reducible refine st_if ?_ | with_reducible refine st_for ?_ | with_reducible refine st_par2 ?_ | with_reducible refine st_par3 ?_ | with_reducible refine st_asgT ?_ | with_reducible refine st_drop ?_ | with_reducible refine st_brk ?_ | with_reducible refine st_cnt ?_ | with_reducible refine st_tE ?_ | with_reducible refine st_tCmp ?_ | with_reducible refine st_tNt ?_ | with_reducible refine st_tAn ?_ | with_reducible refine st_tO ?_ | with_reducible refine st_tT ?_ | with_reducible refine st_c ?_ | with_reducible refine st_tr ?_ | with_reducible refine st_fz ?_ | with_reducible refine st_op ?_ | with_reducible refine st_call ?_ | with_reducible refine st_callK ?_ | with_reducible refine st_lst ?_ | with_reducible refine st_tup ?_ | with_reducible refine st_sl ?_ | with_reducible refine st_eif ?_ | with_reducible refine st_and ?_ | with_reducible refine st_or ?_ | with_reducible refine st_not ?_ | with_reducible refine st_neg ?_ | with_reducible refine st_isi ?_ | with_reducible refine st_lc ?_ | with_reducible refine st_dc ?_ | with_reducible refine st_anil ?_ | with_reducible refine st_acons ?_ | with_reducible refine st_ono ?_ | with_reducible refine st_osome ?_ | with_reducible refine st_iseq ?_ | with_reducible refine st_irg1 ?_ | with_reducible refine st_izp ?_ | with_reducible refine sd_addI ?_ | with_reducible refine sd_subI ?_ | with_reducible refine sd_lenL ?_ | with_reducible refine sd_lenT ?_ | with_reducible refine sd_list ?_ | with_reducible refine sd_tuple ?_ | with_reducible refine sd_lt ?_ | with_reducible refine sd_le ?_ | with_reducible refine sd_gt ?_ | with_reducible refine sd_ge ?_ | with_reducible refine sd_eqI ?_ | with_reducible refine sd_neI ?_ | with_reducible refine sd_eqS ?_ | with_reducible refine sd_neS ?_ | with_reducible refine sd_slL ?_ | with_reducible refine sd_slT ?_ | with_reducible refine sd_int ?_ | with_reducible refine st_app (by with_unfolding_all rfl) ?_ | with_reducible refine st_clr (by with_unfolding_all rfl) ?_ | with_reducible refine st_retO (by with_unfolding_all rfl) ?_ | with_reducible refine st_retV (by with_unfolding_all rfl) ?_ | with_reducible refine st_aug (by with_unfolding_all rfl) ?_ | with_reducible refine And.intro (by with_unfolding_all rfl) ?_ | with_reducible refine Exists.intro _ (And.intro (by with_unfolding_all rfl) ?_) | with_reducible refine And.intro (le_size (by with_unfolding_all rfl)) ?_ | with_reducible refine st_frz (by with_unfolding_all rfl) ?_))
          rw [decide_eq_true rfl]
          refine iteT ?_
          (repeat (first | with_reducible refine ss_ix (by assumption) (by assumption) ?_ | with_reducible refine ss_len (by assumption) ?_ | with_reducible refine ss_in ?_ | with_reducible refine ss_nin ?_ | with_reducible refine ss_eq ?_ | with_reducible refine ss_ne ?_ | with_reducible refine ss_mid (by assumption) ?_ | with_reducible refine ss_to (by assumption) ?_ | with_reducible refine ss_from (by assumption) ?_ | with_reducible refine ss_is ?_ | with_reducible refine ss_isnt ?_ | with_reducible refine ss_aug ?_ | with_reducible refine st_nx ?_ | with_reducible refine st_rt ?_ | with_reducible refine st_bk ?_ | with_reducible refine st_ct ?_ | with_reducible refine st_bind1 ?_ | with_reducible refine st_v (by with_unfolding_all rfl) ?_ | with_reducible refine st_seq ?_ | with_reducible refine st_skip ?_ | with_reducible refine st_asg ?_ | with_reducible refine st_ret ?_ | with_reducible refine st_if ?_ | with_reducible refine st_for ?_ | with_reducible refine st_par2 ?_ | with_reducible refine st_par3 ?_ | with_reducible refine st_asgT ?_ | with_reducible refine st_drop ?_ | with_reducible refine st_brk ?_ | with_reducible refine st_cnt ?_ | with_reducible refine st_tE ?_ | with_reducible refine st_tCmp ?_ | with_reducible refine st_tNt ?_ | with_reducible refine st_tAn ?_ | with_reducible refine st_tO ?_ | with_reducible refine st_tT ?_ | with_reducible refine st_c ?_ | with_reducible refine st_tr ?_ | with_reducible refine st_fz ?_ | with_reducible refine st_op ?_ | with_reducible refine st_call ?_ | with_reducible refine st_callK ?_ | with_reducible refine st_lst ?_ | with_reducible refine st_tup ?_ | with_reducible refine st_sl ?_ | with_reducible refine st_eif ?_ | with_reducible refine st_and ?_ | with_reducible refine st_or ?_ | with_reducible refine st_not ?_ | with_reducible refine st_neg ?_ | with_reducible refine st_isi ?_ | with_reducible refine st_lc ?_ | with_reducible refine st_dc ?_ | with_reducible refine st_anil ?_ | with_reducible refine st_acons ?_ | with_reducible refine st_ono ?_ | with_reducible refine st_osome ?_ | with_reducible refine st_iseq ?_ | with_reducible refine st_irg1 ?_ | with_reducible refine st_izp ?_ | with_reducible refine sd_addI ?_ | with_reducible refine sd_subI ?_ | with_reducible refine sd_lenL ?_ | with_reducible refine sd_lenT ?_ | with_reducible refine sd_list ?_ | with_reducible refine sd_tuple ?_ | with_reducible refine sd_lt ?_ | with_reducible refine sd_le ?_ | with_reducible refine sd_gt ?_ | with_reducible refine sd_ge ?_ | with_reducible refine sd_eqI ?_ | with_reducible refine sd_neI ?_ | with_reducible refine sd_eqS ?_ | with_reducible refine sd_neS ?_ | with_reducible refine sd_slL ?_ | with_reducible refine sd_slT ?_ | with_reducible refine sd_int ?_ | with_reducible refine st_app (by with_unfolding_all rfl) ?_ | with_reducible refine st_clr (by with_unfolding_all rfl) ?_ | with_reducible refine st_retO (by with_unfolding_all rfl) ?_ | with_reducible refine st_retV (by with_unfolding_all rfl) ?_ | with_reducible refine st_aug (by with_unfolding_all rfl) ?_ | with_reducible refine And.intro (by with_unfolding_all rfl) ?_ | with_reducible refine Exists.intro _ (And.intro (by with_unfolding_all rfl) ?_) | with_reducible refine And.intro (le_size (by with_unfolding_all rfl)) ?_ | with_reducible refine st_frz (by with_unfolding_all rfl) ?_))
          rw [hml]
          have stop : badN (mid cs k (runE dL cs k)) = true → acc ++ [tok k "bad number" ""] = toks cs := fun e => by rw [if_pos e] at hR; exact hR
          by_cases h6 : 6 < runE dL cs k - k
          · rw [decide_eq_true (p := (6 : Int) < ((runE dL cs k - k : Nat) : Int)) (by omega)]
            refine iteT (iteT ?_)
            (repeat (first | with_reducible refine ss_ix (by assumption) (by assumption) ?_ | with_reducible refine ss_len (by assumption) ?_ | with_reducible refine ss_in ?_ | with_reducible refine ss_nin ?_ | with_reducible refine ss_eq ?_ | with_reducible refine ss_ne ?_ | with_reducible refine ss_mid (by assumption) ?_ | with_reducible refine ss_to (by assumption) ?_ | with_reducible refine ss_from (by assumption) ?_ | with_reducible refine ss_is ?_ | with_reducible refine ss_isnt ?_ | with_reducible refine ss_aug ?_ | with_reducible refine st_nx ?_ | with_reducible refine st_rt ?_ | with_reducible refine st_bk ?_ | with_reducible refine st_ct ?_ | with_reducible refine st_bind1 ?_ | with_reducible refine st_v (by with_unfolding_all rfl) ?_ | with_reducible refine st_seq ?_ | with_reducible refine st_skip ?_ | with_reducible refine st_asg ?_ | with_reducible refine st_ret ?_ | with_reducible refine st_if ?_ | with_reducible refine st_for ?_ | with_reducible refine st_par2 ?_ | with_reducible refine st_par3 ?_ | with_reducible refine st_asgT ?_ | with_reducible refine st_drop ?_ | with_reducible refine st_brk ?_ | with_reducible refine st_cnt ?_ | with_reducible refine st_tE ?_ | with_reducible refine st_tCmp ?_ | with_reducible refine st_tNt ?_ | with_reducible refine st_tAn ?_ | with_reducible refine st_tO ?_ | with_reducible refine st_tT ?_ | with_reducible refine st_c ?_ | with_reducible refine st_tr ?_ | with_reducible refine st_fz ?_ | with_reducible refine st_op ?_ | with_reducible refine st_call ?_ | with_reducible refine st_callK ?_ | with_reducible refine st_lst ?_ | with_reducible refine st_tup ?_ | with_reducible refine st_sl ?_ | with_reducible refine st_eif ?_ | with_reducible refine st_and ?_ | with_reducible refine st_or ?_ | with_reducible refine st_not ?_ | with_reducible refine st_neg ?_ | with_reducible refine st_isi ?_ | with_reducible refine st_lc ?_ | with_reducible refine st_dc ?_ | with_reducible refine st_anil ?_ | with_reducible refine st_acons ?_ | with_reducible refine st_ono ?_ | with_reducible refine st_osome ?_ | with_reducible refine st_iseq ?_ | with_reducible refine st_irg1 ?_ | with_reducible refine st_izp ?_ | with_reducible refine sd_addI ?_ | with_reducible refine sd_subI ?_ | with_reducible refine sd_lenL ?_ | with_reducible refine sd_lenT ?_ | with_reducible refine sd_list ?_ | with_reducible refine sd_tuple ?_ | with_reducible refine sd_lt ?_ | with_reducible refine sd_le ?_ | with_reducible refine sd_gt ?_ | with_reducible refine sd_ge ?_ | with_reducible refine sd_eqI ?_ | with_reducible refine sd_neI ?_ | with_reducible refine sd_eqS ?_ | with_reducible refine sd_neS ?_ | with_reducible refine sd_slL ?_ | with_reducible refine sd_slT ?_ | with_reducible refine sd_int ?_ | with_reducible refine st_app (by with_unfolding_all rfl) ?_ | with_reducible refine st_clr (by with_unfolding_all rfl) ?_ | with_reducible refine st_retO (by with_unfolding_all rfl) ?_ | with_reducible refine st_retV (by with_unfolding_all rfl) ?_ | with_reducible refine st_aug (by with_unfolding_all rfl) ?_ | with_reducible refine And.intro (by with_unfolding_all rfl) ?_ | with_reducible refine Exists.intro _ (And.intro (by with_unfolding_all rfl) ?_) | with_reducible refine And.intro (le_size (by with_unfolding_all rfl)) ?_ | with_reducible refine st_frz (by with_unfolding_all rfl) ?_))
            rw [eE]
            exact fin _ (stop (by rw [hbad, decide_eq_true h6]; rfl))
          · rw [decide_eq_false (p := (6 : Int) < ((runE dL cs k - k : Nat) : Int)) (by omega)]
            refine iteF ?_
            (repeat (first | with_reducible refine ss_ix (by assumption) (by assumption) ?_ | with_reducible refine ss_len (by assumption) ?_ | with_reducible refine ss_in ?_ | with_reducible refine ss_nin ?_ | with_reducible refine ss_eq ?_ | with_reducible refine ss_ne ?_ | with_reducible refine ss_mid (by assumption) ?_ | with_reducible refine ss_to (by assumption) ?_ | with_reducible refine ss_from (by assumption) ?_ | with_reducible refine ss_is ?_ | with_reducible refine ss_isnt ?_ | with_reducible refine ss_aug ?_ | with_reducible refine st_nx ?_ | with_reducible refine st_rt ?_ | with_reducible refine st_bk ?_ | with_reducible refine st_ct ?_ | with_reducible refine st_bind1 ?_ | with_reducible refine st_v (by with_unfolding_all rfl) ?_ | with_reducible refine st_seq ?_ | with_reducible refine st_skip ?_ | with_reducible refine st_asg ?_ | with_reducible refine st_ret ?_ | with_reducible refine st_if ?_ | with_reducible refine st_for ?_ | with_reducible refine st_par2 ?_ | with_reducible refine st_par3 ?_ | with_reducible refine st_asgT ?_ | with_reducible refine st_drop ?_ | with_reducible refine st_brk ?_ | with_reducible refine st_cnt ?_ | with_reducible refine st_tE ?_ | with_reducible refine st_tCmp ?_ | with_reducible refine st_tNt ?_ | with_reducible refine st_tAn ?_ | with_reducible refine st_tO ?_ | with_reducible refine st_tT ?_ | with_reducible refine st_c ?_ | with_reducible refine st_tr ?_ | with_reducible refine st_fz ?_ | with_reducible refine st_op ?_ | with_reducible refine st_call ?_ | with_reducible refine st_callK ?_ | with_reducible refine st_lst ?_ | with_reducible refine st_tup ?_ | with_reducible refine st_sl ?_ | with_reducible refine st_eif ?_ | with_reducible refine st_and ?_ | with_reducible refine st_or ?_ | with_reducible refine st_not ?_ | with_reducible refine st_neg ?_ | with_reducible refine st_isi ?_ | with_reducible refine st_lc ?_ | with_reducible refine st_dc ?_ | with_reducible refine st_anil ?_ | with_reducible refine st_acons ?_ | with_reducible refine st_ono ?_ | with_reducible refine st_osome ?_ | with_reducible refine st_iseq ?_ | with_reducible refine st_irg1 ?_ | with_reducible refine st_izp ?_ | with_reducible refine sd_addI ?_ | with_reducible refine sd_subI ?_ | with_reducible refine sd_lenL ?_ | with_reducible refine sd_lenT ?_ | with_reducible refine sd_list ?_ | with_reducible refine sd_tuple ?_ | with_reducible refine sd_lt ?_ | with_reducible refine sd_le ?_ | with_reducible refine sd_gt ?_ | with_reducible refine sd_ge ?_ | with_reducible refine sd_eqI ?_ | with_reducible refine sd_neI ?_ | with_reducible refine sd_eqS ?_ | with_reducible refine sd_neS ?_ | with_reducible refine sd_slL ?_ | with_reducible refine sd_slT ?_ | with_reducible refine sd_int ?_ | with_reducible refine st_app (by with_unfolding_all rfl) ?_ | with_reducible refine st_clr (by with_unfolding_all rfl) ?_ | with_reducible refine st_retO (by with_unfolding_all rfl) ?_ | with_reducible refine st_retV (by with_unfolding_all rfl) ?_ | with_reducible refine st_aug (by with_unfolding_all rfl) ?_ | with_reducible refine And.intro (by with_unfolding_all rfl) ?_ | with_reducible refine Exists.intro _ (And.intro (by with_unfolding_all rfl) ?_) | with_reducible refine And.intro (le_size (by with_unfolding_all rfl)) ?_ | with_reducible refine st_frz (by with_unfolding_all rfl) ?_))
            rw [hml]
            by_cases h7 : 1 < runE dL cs k - k
            · rw [decide_eq_true (p := (1 : Int) < ((runE dL cs k - k : Nat) : Int)) (by omega)]
              refine iteT ?_
              (repeat (first | with_reducible refine ss_ix (by assumption) (by assumption) ?_ | with_reducible refine ss_len (by assumption) ?_ | with_reducible refine ss_in ?_ | with_reducible refine ss_nin ?_ | with_reducible refine ss_eq ?_ | with_reducible refine ss_ne ?_ | with_reducible refine ss_mid (by assumption) ?_ | with_reducible refine ss_to (by assumption) ?_ | with_reducible refine ss_from (by assumption) ?_ | with_reducible refine ss_is ?_ | with_reducible refine ss_isnt ?_ | with_reducible refine ss_aug ?_ | with_reducible refine st_nx ?_ | with_reducible refine st_rt ?_ | with_reducible refine st_bk ?_ | with_reducible refine st_ct ?_ | with_reducible refine st_bind1 ?_ | with_reducible refine st_v (by with_unfolding_all rfl) ?_ | with_reducible refine st_seq ?_ | with_reducible refine st_skip ?_ | with_reducible refine st_asg ?_ | with_reducible refine st_ret ?_ | with_reducible refine st_if ?_ | with_reducible refine st_for ?_ | with_reducible refine st_par2 ?_ | with_reducible refine st_par3 ?_ | with_reducible refine st_asgT ?_ | with_reducible refine st_drop ?_ | with_reducible refine st_brk ?_ | with_reducible refine st_cnt ?_ | with_reducible refine st_tE ?_ | with_reducible refine st_tCmp ?_ | with_reducible refine st_tNt ?_ | with_reducible refine st_tAn ?_ | with_reducible refine st_tO ?_ | with_reducible refine st_tT ?_ | with_reducible refine st_c ?_ | with_reducible refine st_tr ?_ | with_reducible refine st_fz ?_ | with_reducible refine st_op ?_ | with_reducible refine st_call ?_ | with_reducible refine st_callK ?_ | with_reducible refine st_lst ?_ | with_reducible refine st_tup ?_ | with_reducible refine st_sl ?_ | with_reducible refine st_eif ?_ | with_reducible refine st_and ?_ | with_reducible refine st_or ?_ | with_reducible refine st_not ?_ | with_reducible refine st_neg ?_ | with_reducible refine st_isi ?_ | with_reducible refine st_lc ?_ | with_reducible refine st_dc ?_ | with_reducible refine st_anil ?_ | with_reducible refine st_acons ?_ | with_reducible refine st_ono ?_ | with_reducible refine st_osome ?_ | with_reducible refine st_iseq ?_ | with_reducible refine st_irg1 ?_ | with_reducible refine st_izp ?_ | with_reducible refine sd_addI ?_ | with_reducible refine sd_subI ?_ | with_reducible refine sd_lenL ?_ | with_reducible refine sd_lenT ?_ | with_reducible refine sd_list ?_ | with_reducible refine sd_tuple ?_ | with_reducible refine sd_lt ?_ | with_reducible refine sd_le ?_ | with_reducible refine sd_gt ?_ | with_reducible refine sd_ge ?_ | with_reducible refine sd_eqI ?_ | with_reducible refine sd_neI ?_ | with_reducible refine sd_eqS ?_ | with_reducible refine sd_neS ?_ | with_reducible refine sd_slL ?_ | with_reducible refine sd_slT ?_ | with_reducible refine sd_int ?_ | with_reducible refine st_app (by with_unfolding_all rfl) ?_ | with_reducible refine st_clr (by with_unfolding_all rfl) ?_ | with_reducible refine st_retO (by with_unfolding_all rfl) ?_ | with_reducible refine st_retV (by with_unfolding_all rfl) ?_ | with_reducible refine st_aug (by with_unfolding_all rfl) ?_ | with_reducible refine And.intro (by with_unfolding_all rfl) ?_ | with_reducible refine Exists.intro _ (And.intro (by with_unfolding_all rfl) ?_) | with_reducible refine And.intro (le_size (by with_unfolding_all rfl)) ?_ | with_reducible refine st_frz (by with_unfolding_all rfl) ?_))
              refine ss_ix (n := 0) hm hmc ?_
              (repeat (first | with_reducible refine ss_ix (by assumption) (by assumption) ?_ | with_reducible refine ss_len (by assumption) ?_ | with_reducible refine ss_in ?_ | with_reducible refine ss_nin ?_ | with_reducible refine ss_eq ?_ | with_reducible refine ss_ne ?_ | with_reducible refine ss_mid (by assumption) ?_ | with_reducible refine ss_to (by assumption) ?_ | with_reducible refine ss_from (by assumption) ?_ | with_reducible refine ss_is ?_ | with_reducible refine ss_isnt ?_ | with_reducible refine ss_aug ?_ | with_reducible refine st_nx ?_ | with_reducible refine st_rt ?_ | with_reducible refine st_bk ?_ | with_reducible refine st_ct ?_ | with_reducible refine st_bind1 ?_ | with_reducible refine st_v (by with_unfolding_all rfl) ?_ | with_reducible refine st_seq ?_ | with_reducible refine st_skip ?_ | with_reducible refine st_asg ?_ | with_reducible refine st_ret ?_ | with_reducible refine st_if ?_ | with_reducible refine st_for ?_ | with_reducible refine st_par2 ?_ | with_reducible refine st_par3 ?_ | with_reducible refine st_asgT ?_ | with_reducible refine st_drop ?_ | with_reducible refine st_brk ?_ | with_reducible refine st_cnt ?_ | with_reducible refine st_tE ?_ | with_reducible refine st_tCmp ?_ | with_reducible refine st_tNt ?_ | with_reducible refine st_tAn ?_ | with_reducible refine st_tO ?_ | with_reducible refine st_tT ?_ | with_reducible refine st_c ?_ | with_reducible refine st_tr ?_ | with_reducible refine st_fz ?_ | with_reducible refine st_op ?_ | with_reducible refine st_call ?_ | with_reducible refine st_callK ?_ | with_reducible refine st_lst ?_ | with_reducible refine st_tup ?_ | with_reducible refine st_sl ?_ | with_reducible refine st_eif ?_ | with_reducible refine st_and ?_ | with_reducible refine st_or ?_ | with_reducible refine st_not ?_ | with_reducible refine st_neg ?_ | with_reducible refine st_isi ?_ | with_reducible refine st_lc ?_ | with_reducible refine st_dc ?_ | with_reducible refine st_anil ?_ | with_reducible refine st_acons ?_ | with_reducible refine st_ono ?_ | with_reducible refine st_osome ?_ | with_reducible refine st_iseq ?_ | with_reducible refine st_irg1 ?_ | with_reducible refine st_izp ?_ | with_reducible refine sd_addI ?_ | with_reducible refine sd_subI ?_ | with_reducible refine sd_lenL ?_ | with_reducible refine sd_lenT ?_ | with_reducible refine sd_list ?_ | with_reducible refine sd_tuple ?_ | with_reducible refine sd_lt ?_ | with_reducible refine sd_le ?_ | with_reducible refine sd_gt ?_ | with_reducible refine sd_ge ?_ | with_reducible refine sd_eqI ?_ | with_reducible refine sd_neI ?_ | with_reducible refine sd_eqS ?_ | with_reducible refine sd_neS ?_ | with_reducible refine sd_slL ?_ | with_reducible refine sd_slT ?_ | with_reducible refine sd_int ?_ | with_reducible refine st_app (by with_unfolding_all rfl) ?_ | with_reducible refine st_clr (by with_unfolding_all rfl) ?_ | with_reducible refine st_retO (by with_unfolding_all rfl) ?_ | with_reducible refine st_retV (by with_unfolding_all rfl) ?_ | with_reducible refine st_aug (by with_unfolding_all rfl) ?_ | with_reducible refine And.intro (by with_unfolding_all rfl) ?_ | with_reducible refine Exists.intro _ (And.intro (by with_unfolding_all rfl) ?_) | with_reducible refine And.intro (le_size (by with_unfolding_all rfl)) ?_ | with_reducible refine st_frz (by with_unfolding_all rfl) ?_))
              by_cases h8 : c = 48
              · rw [decide_eq_true (p := [c] = [48]) (by rw [h8])]
                refine iteT ?_
                (repeat (first | with_reducible refine ss_ix (by assumption) (by assumption) ?_ | with_reducible refine ss_len (by assumption) ?_ | with_reducible refine ss_in ?_ | with_reducible refine ss_nin ?_ | with_reducible refine ss_eq ?_ | with_reducible refine ss_ne ?_ | with_reducible refine ss_mid (by assumption) ?_ | with_reducible refine ss_to (by assumption) ?_ | with_reducible refine ss_from (by assumption) ?_ | with_reducible refine ss_is ?_ | with_reducible refine ss_isnt ?_ | with_reducible refine ss_aug ?_ | with_reducible refine st_nx ?_ | with_reducible refine st_rt ?_ | with_reducible refine st_bk ?_ | with_reducible refine st_ct ?_ | with_reducible refine st_bind1 ?_ | with_reducible refine st_v (by with_unfolding_all rfl) ?_ | with_reducible refine st_seq ?_ | with_reducible refine st_skip ?_ | with_reducible refine st_asg ?_ | with_reducible refine st_ret ?_ | with_reducible refine st_if ?_ | with_reducible refine st_for ?_ | with_reducible refine st_par2 ?_ | with_reducible refine st_par3 ?_ | with_reducible refine st_asgT ?_ | with_reducible refine st_drop ?_ | with_reducible refine st_brk ?_ | with_reducible refine st_cnt ?_ | with_reducible refine st_tE ?_ | with_reducible refine st_tCmp ?_ | with_reducible refine st_tNt ?_ | with_reducible refine st_tAn ?_ | with_reducible refine st_tO ?_ | with_reducible refine st_tT ?_ | with_reducible refine st_c ?_ | with_reducible refine st_tr ?_ | with_reducible refine st_fz ?_ | with_reducible refine st_op ?_ | with_reducible refine st_call ?_ | with_reducible refine st_callK ?_ | with_reducible refine st_lst ?_ | with_reducible refine st_tup ?_ | with_reducible refine st_sl ?_ | with_reducible refine st_eif ?_ | with_reducible refine st_and ?_ | with_reducible refine st_or ?_ | with_reducible refine st_not ?_ | with_reducible refine st_neg ?_ | with_reducible refine st_isi ?_ | with_reducible refine st_lc ?_ | with_reducible refine st_dc ?_ | with_reducible refine st_anil ?_ | with_reducible refine st_acons ?_ | with_reducible refine st_ono ?_ | with_reducible refine st_osome ?_ | with_reducible refine st_iseq ?_ | with_reducible refine st_irg1 ?_ | with_reducible refine st_izp ?_ | with_reducible refine sd_addI ?_ | with_reducible refine sd_subI ?_ | with_reducible refine sd_lenL ?_ | with_reducible refine sd_lenT ?_ | with_reducible refine sd_list ?_ | with_reducible refine sd_tuple ?_ | with_reducible refine sd_lt ?_ | with_reducible refine sd_le ?_ | with_reducible refine sd_gt ?_ | with_reducible refine sd_ge ?_ | with_reducible refine sd_eqI ?_ | with_reducible refine sd_neI ?_ | with_reducible refine sd_eqS ?_ | with_reducible refine sd_neS ?_ | with_reducible refine sd_slL ?_ | with_reducible refine sd_slT ?_ | with_reducible refine sd_int ?_ | with_reducible refine st_app (by with_unfolding_all rfl) ?_ | with_reducible refine st_clr (by with_unfolding_all rfl) ?_ | with_reducible refine st_retO (by with_unfolding_all rfl) ?_ | with_reducible refine st_retV (by with_unfolding_all rfl) ?_ | with_reducible refine st_aug (by with_unfolding_all rfl) ?_ | with_reducible refine And.intro (by with_unfolding_all rfl) ?_ | with_reducible refine Exists.intro _ (And.intro (by with_unfolding_all rfl) ?_) | with_reducible refine And.intro (le_size (by with_unfolding_all rfl)) ?_ | with_reducible refine st_frz (by with_unfolding_all rfl) ?_))
                rw [eE]
                exact fin _ (stop (by rw [hbad, decide_eq_true h7, decide_eq_true (p := [c] = [48]) (by rw [h8]), Bool.and_self, Bool.or_true]))
              · rw [decide_eq_false (p := [c] = [48]) (by simpa using h8)]
                refine iteF ?_
                have hgood : badN (mid cs k (runE dL cs k)) = false := by rw [hbad, decide_eq_false h6, decide_eq_false (p := [c] = [48]) (by simpa using h8), Bool.and_false, Bool.or_false]
                (repeat (first | with_reducible refine ss_ix (by assumption) (by assumption) ?_ | with_reducible refine ss_len (by assumption) ?_ | with_reducible refine ss_in ?_ | with_reducible refine ss_nin ?_ | with_reducible refine ss_eq ?_ | with_reducible refine ss_ne ?_ | with_reducible refine ss_mid (by assumption) ?_ | with_reducible refine ss_to (by assumption) ?_ | with_reducible refine ss_from (by assumption) ?_ | with_reducible refine ss_is ?_ | with_reducible refine ss_isnt ?_ | with_reducible refine ss_aug ?_ | with_reducible refine st_nx ?_ | with_reducible refine st_rt ?_ | with_reducible refine st_bk ?_ | with_reducible refine st_ct ?_ | with_reducible refine st_bind1 ?_ | with_reducible refine st_v (by with_unfolding_all rfl) ?_ | with_reducible refine st_seq ?_ | with_reducible refine st_skip ?_ | with_reducible refine st_asg ?_ | with_reducible refine st_ret ?_ | with_reducible refine st_if ?_ | with_reducible refine st_for ?_ | with_reducible refine st_par2 ?_ | with_reducible refine st_par3 ?_ | with_reducible refine st_asgT ?_ | with_reducible refine st_drop ?_ | with_reducible refine st_brk ?_ | with_reducible refine st_cnt ?_ | with_reducible refine st_tE ?_ | with_reducible refine st_tCmp ?_ | with_reducible refine st_tNt ?_ | with_reducible refine st_tAn ?_ | with_reducible refine st_tO ?_ | with_reducible refine st_tT ?_ | with_reducible refine st_c ?_ | with_reducible refine st_tr ?_ | with_reducible refine st_fz ?_ | with_reducible refine st_op ?_ | with_reducible refine st_call ?_ | with_reducible refine st_callK ?_ | with_reducible refine st_lst ?_ | with_reducible refine st_tup ?_ | with_reducible refine st_sl ?_ | with_reducible refine st_eif ?_ | with_reducible refine st_and ?_ | with_reducible refine st_or ?_ | with_reducible refine st_not ?_ | with_reducible refine st_neg ?_ | with_reducible refine st_isi ?_ | with_reducible refine st_lc ?_ | with_reducible refine st_dc ?_ | with_reducible refine st_anil ?_ | with_reducible refine st_acons ?_ | with_reducible refine st_ono ?_ | with_reducible refine st_osome ?_ | with_reducible refine st_iseq ?_ | with_reducible refine st_irg1 ?_ | with_reducible refine st_izp ?_ | with_reducible refine sd_addI ?_ | with_reducible refine sd_subI ?_ | with_reducible refine sd_lenL ?_ | with_reducible refine sd_lenT ?_ | with_reducible refine sd_list ?_ | with_reducible refine sd_tuple ?_ | with_reducible refine sd_lt ?_ | with_reducible refine sd_le ?_ | with_reducible refine sd_gt ?_ | with_reducible refine sd_ge ?_ | with_reducible refine sd_eqI ?_ | with_reducible refine sd_neI ?_ | with_reducible refine sd_eqS ?_ | with_reducible refine sd_neS ?_ | with_reducible refine sd_slL ?_ | with_reducible refine sd_slT ?_ | with_reducible refine sd_int ?_ | with_reducible refine st_app (by with_unfolding_all rfl) ?_ | with_reducible refine st_clr (by with_unfolding_all rfl) ?_ | with_reducible refine st_retO (by with_unfolding_all rfl) ?_ | with_reducible refine st_retV (by with_unfolding_all rfl) ?_ | with_reducible refine st_aug (by with_unfolding_all rfl) ?_ | with_reducible refine And.intro (by with_unfolding_all rfl) ?_ | with_reducible refine Exists.intro _ (And.intro (by with_unfolding_all rfl) ?_) | with_reducible refine And.intro (le_size (by with_unfolding_all rfl)) ?_ | with_reducible refine st_frz (by with_unfolding_all rfl) ?_))
                refine hlet ?_
                (repeat (first | with_reducible refine ss_ix (by assumption) (by assumption) ?_ | with_reducible refine ss_len (by assumption) ?_ | with_reducible refine ss_in ?_ | with_reducible refine ss_nin ?_ | with_reducible refine ss_eq ?_ | with_reducible refine ss_ne ?_ | with_reducible refine ss_mid (by assumption) ?_ | with_reducible refine ss_to (by assumption) ?_ | with_reducible refine ss_from (by assumption) ?_ | with_reducible refine ss_is ?_ | with_reducible refine ss_isnt ?_ | with_reducible refine ss_aug ?_ | with_reducible refine st_nx ?_ | with_reducible refine st_rt ?_ | with_reducible refine st_bk ?_ | with_reducible refine st_ct ?_ | with_reducible refine st_bind1 ?_ | with_reducible refine st_v (by with_unfolding_all rfl) ?_ | with_reducible refine st_seq ?_ | with_reducible refine st_skip ?_ | with_reducible refine st_asg ?_ | with_reducible refine st_ret ?_ | with_reducible refine st_if ?_ | with_reducible refine st_for ?_ | with_reducible refine st_par2 ?_ | with_reducible refine st_par3 ?_ | with_reducible refine st_asgT ?_ | with_reducible refine st_drop ?_ | with_reducible refine st_brk ?_ | with_reducible refine st_cnt ?_ | with_reducible refine st_tE ?_ | with_reducible refine st_tCmp ?_ | with_reducible refine st_tNt ?_ | with_reducible refine st_tAn ?_ | with_reducible refine st_tO ?_ | with_reducible refine st_tT ?_ | with_reducible refine st_c ?_ | with_reducible refine st_tr ?_ | with_reducible refine st_fz ?_ | with_reducible refine st_op ?_ | with_reducible refine st_call ?_ | with_reducible refine st_callK ?_ | with_reducible refine st_lst ?_ | with_reducible refine st_tup ?_ | with_reducible refine st_sl ?_ | with_reducible refine st_eif ?_ | with_reducible refine st_and ?_ | with_reducible refine st_or ?_ | with_reducible refine st_not ?_ | with_reducible refine st_neg ?_ | with_reducible refine st_isi ?_ | with_reducible refine st_lc ?_ | with_reducible refine st_dc ?_ | with_reducible refine st_anil ?_ | with_reducible refine st_acons ?_ | with_reducible refine st_ono ?_ | with_reducible refine st_osome ?_ | with_reducible refine st_iseq ?_ | with_reducible refine st_irg1 ?_ | with_reducible refine st_izp ?_ | with_reducible refine sd_addI ?_ | with_reducible refine sd_subI ?_ | with_reducible refine sd_lenL ?_ | with_reducible refine sd_lenT ?_ | with_reducible refine sd_list ?_ | with_reducible refine sd_tuple ?_ | with_reducible refine sd_lt ?_ | with_reducible refine sd_le ?_ | with_reducible refine sd_gt ?_ | with_reducible refine sd_ge ?_ | with_reducible refine sd_eqI ?_ | with_reducible refine sd_neI ?_ | with_reducible refine sd_eqS ?_ | with_reducible refine sd_neS ?_ | with_reducible refine sd_slL ?_ | with_reducible refine sd_slT ?_ | with_reducible refine sd_int ?_ | with_reducible refine st_app (by with_unfolding_all rfl) ?_ | with_reducible refine st_clr (by with_unfolding_all rfl) ?_ | with_reducible refine st_retO (by with_unfolding_all rfl) ?_ | with_reducible refine st_retV (by with_unfolding_all rfl) ?_ | with_reducible refine st_aug (by with_unfolding_all rfl) ?_ | with_reducible refine And.intro (by with_unfolding_all rfl) ?_ | with_reducible refine Exists.intro _ (And.intro (by with_unfolding_all rfl) ?_) | with_reducible refine And.intro (le_size (by with_unfolding_all rfl)) ?_ | with_reducible refine st_frz (by with_unfolding_all rfl) ?_))
                rw [decide_eq_false dL_aL]
                refine iteF (iteF ?_)
                (repeat (first | with_reducible refine ss_ix (by assumption) (by assumption) ?_ | with_reducible refine ss_len (by assumption) ?_ | with_reducible refine ss_in ?_ | with_reducible refine ss_nin ?_ | with_reducible refine ss_eq ?_ | with_reducible refine ss_ne ?_ | with_reducible refine ss_mid (by assumption) ?_ | with_reducible refine ss_to (by assumption) ?_ | with_reducible refine ss_from (by assumption) ?_ | with_reducible refine ss_is ?_ | with_reducible refine ss_isnt ?_ | with_reducible refine ss_aug ?_ | with_reducible refine st_nx ?_ | with_reducible refine st_rt ?_ | with_reducible refine st_bk ?_ | with_reducible refine st_ct ?_ | with_reducible refine st_bind1 ?_ | with_reducible refine st_v (by with_unfolding_all rfl) ?_ | with_reducible refine st_seq ?_ | with_reducible refine st_skip ?_ | with_reducible refine st_asg ?_ | with_reducible refine st_ret ?_ | with_reducible refine st_if ?_ | with_reducible refine st_for ?_ | with_reducible refine st_par2 ?_ | with_reducible refine st_par3 ?_ | with_reducible refine st_asgT ?_ | with_reducible refine st_drop ?_ | with_reducible refine st_brk ?_ | with_reducible refine st_cnt ?_ | with_reducible refine st_tE ?_ | with_reducible refine st_tCmp ?_ | with_reducible refine st_tNt ?_ | with_reducible refine st_tAn ?_ | with_reducible refine st_tO ?_ | with_reducible refine st_tT ?_ | with_reducible refine st_c ?_ | with_reducible refine st_tr ?_ | with_reducible refine st_fz ?_ | with_reducible refine st_op ?_ | with_reducible refine st_call ?_ | with_reducible refine st_callK ?_ | with_reducible refine st_lst ?_ | with_reducible refine st_tup ?_ | with_reducible refine st_sl ?_ | with_reducible refine st_eif ?_ | with_reducible refine st_and ?_ | with_reducible refine st_or ?_ | with_reducible refine st_not ?_ | with_reducible refine st_neg ?_ | with_reducible refine st_isi ?_ | with_reducible refine st_lc ?_ | with_reducible refine st_dc ?_ | with_reducible refine st_anil ?_ | with_reducible refine st_acons ?_ | with_reducible refine st_ono ?_ | with_reducible refine st_osome ?_ | with_reducible refine st_iseq ?_ | with_reducible refine st_irg1 ?_ | with_reducible refine st_izp ?_ | with_reducible refine sd_addI ?_ | with_reducible refine sd_subI ?_ | with_reducible refine sd_lenL ?_ | with_reducible refine sd_lenT ?_ | with_reducible refine sd_list ?_ | with_reducible refine sd_tuple ?_ | with_reducible refine sd_lt ?_ | with_reducible refine sd_le ?_ | with_reducible refine sd_gt ?_ | with_reducible refine sd_ge ?_ | with_reducible refine sd_eqI ?_ | with_reducible refine sd_neI ?_ | with_reducible refine sd_eqS ?_ | with_reducible refine sd_neS ?_ | with_reducible refine sd_slL ?_ | with_reducible refine sd_slT ?_ | with_reducible refine sd_int ?_ | with_reducible refine st_app (by with_unfolding_all rfl) ?_ | with_reducible refine st_clr (by with_unfolding_all rfl) ?_ | with_reducible refine st_retO (by with_unfolding_all rfl) ?_ | with_reducible refine st_retV (by with_unfolding_all rfl) ?_ | with_reducible refine st_aug (by with_unfolding_all rfl) ?_ | with_reducible refine And.intro (by with_unfolding_all rfl) ?_ | with_reducible refine Exists.intro _ (And.intro (by with_unfolding_all rfl) ?_) | with_reducible refine And.intro (le_size (by with_unfolding_all rfl)) ?_ | with_reducible refine st_frz (by with_unfolding_all rfl) ?_))
                rw [decide_eq_false dL_ne]
                refine iteF ?_
                (repeat (first | with_reducible refine ss_ix (by assumption) (by assumption) ?_ | with_reducible refine ss_len (by assumption) ?_ | with_reducible refine ss_in ?_ | with_reducible refine ss_nin ?_ | with_reducible refine ss_eq ?_ | with_reducible refine ss_ne ?_ | with_reducible refine ss_mid (by assumption) ?_ | with_reducible refine ss_to (by assumption) ?_ | with_reducible refine ss_from (by assumption) ?_ | with_reducible refine ss_is ?_ | with_reducible refine ss_isnt ?_ | with_reducible refine ss_aug ?_ | with_reducible refine st_nx ?_ | with_reducible refine st_rt ?_ | with_reducible refine st_bk ?_ | with_reducible refine st_ct ?_ | with_reducible refine st_bind1 ?_ | with_reducible refine st_v (by with_unfolding_all rfl) ?_ | with_reducible refine st_seq ?_ | with_reducible refine st_skip ?_ | with_reducible refine st_asg ?_ | with_reducible refine st_ret ?_ | with_reducible refine st_if ?_ | with_reducible refine st_for ?_ | with_reducible refine st_par2 ?_ | with_reducible refine st_par3 ?_ | with_reducible refine st_asgT ?_ | with_reducible refine st_drop ?_ | with_reducible refine st_brk ?_ | with_reducible refine st_cnt ?_ | with_reducible refine st_tE ?_ | with_reducible refine st_tCmp ?_ | with_reducible refine st_tNt ?_ | with_reducible refine st_tAn ?_ | with_reducible refine st_tO ?_ | with_reducible refine st_tT ?_ | with_reducible refine st_c ?_ | with_reducible refine st_tr ?_ | with_reducible refine st_fz ?_ | with_reducible refine st_op ?_ | with_reducible refine st_call ?_ | with_reducible refine st_callK ?_ | with_reducible refine st_lst ?_ | with_reducible refine st_tup ?_ | with_reducible refine st_sl ?_ | with_reducible refine st_eif ?_ | with_reducible refine st_and ?_ | with_reducible refine st_or ?_ | with_reducible refine st_not ?_ | with_reducible refine st_neg ?_ | with_reducible refine st_isi ?_ | with_reducible refine st_lc ?_ | with_reducible refine st_dc ?_ | with_reducible refine st_anil ?_ | with_reducible refine st_acons ?_ | with_reducible refine st_ono ?_ | with_reducible refine st_osome ?_ | with_reducible refine st_iseq ?_ | with_reducible refine st_irg1 ?_ | with_reducible refine st_izp ?_ | with_reducible refine sd_addI ?_ | with_reducible refine sd_subI ?_ | with_reducible refine sd_lenL ?_ | with_reducible refine sd_lenT ?_ | with_reducible refine sd_list ?_ | with_reducible refine sd_tuple ?_ | with_reducible refine sd_lt ?_ | with_reducible refine sd_le ?_ | with_reducible refine sd_gt ?_ | with_reducible refine sd_ge ?_ | with_reducible refine sd_eqI ?_ | with_reducible refine sd_neI ?_ | with_reducible refine sd_eqS ?_ | with_reducible refine sd_neS ?_ | with_reducible refine sd_slL ?_ | with_reducible refine sd_slT ?_ | with_reducible refine sd_int ?_ | with_reducible refine st_app (by with_unfolding_all rfl) ?_ | with_reducible refine st_clr (by with_unfolding_all rfl) ?_ | with_reducible refine st_retO (by with_unfolding_all rfl) ?_ | with_reducible refine st_retV (by with_unfolding_all rfl) ?_ | with_reducible refine st_aug (by with_unfolding_all rfl) ?_ | with_reducible refine And.intro (by with_unfolding_all rfl) ?_ | with_reducible refine Exists.intro _ (And.intro (by with_unfolding_all rfl) ?_) | with_reducible refine And.intro (le_size (by with_unfolding_all rfl)) ?_ | with_reducible refine st_frz (by with_unfolding_all rfl) ?_))
                rw [decide_eq_true rfl]
                refine iteT ?_
                (repeat (first | with_reducible refine ss_ix (by assumption) (by assumption) ?_ | with_reducible refine ss_len (by assumption) ?_ | with_reducible refine ss_in ?_ | with_reducible refine ss_nin ?_ | with_reducible refine ss_eq ?_ | with_reducible refine ss_ne ?_ | with_reducible refine ss_mid (by assumption) ?_ | with_reducible refine ss_to (by assumption) ?_ | with_reducible refine ss_from (by assumption) ?_ | with_reducible refine ss_is ?_ | with_reducible refine ss_isnt ?_ | with_reducible refine ss_aug ?_ | with_reducible refine st_nx ?_ | with_reducible refine st_rt ?_ | with_reducible refine st_bk ?_ | with_reducible refine st_ct ?_ | with_reducible refine st_bind1 ?_ | with_reducible refine st_v (by with_unfolding_all rfl) ?_ | with_reducible refine st_seq ?_ | with_reducible refine st_skip ?_ | with_reducible refine st_asg ?_ | with_reducible refine st_ret ?_ | with_reducible refine st_if ?_ | with_reducible refine st_for ?_ | with_reducible refine st_par2 ?_ | with_reducible refine st_par3 ?_ | with_reducible refine st_asgT ?_ | with_reducible refine st_drop ?_ | with_reducible refine st_brk ?_ | with_reducible refine st_cnt ?_ | with_reducible refine st_tE ?_ | with_reducible refine st_tCmp ?_ | with_reducible refine st_tNt ?_ | with_reducible refine st_tAn ?_ | with_reducible refine st_tO ?_ | with_reducible refine st_tT ?_ | with_reducible refine st_c ?_ | with_reducible refine st_tr ?_ | with_reducible refine st_fz ?_ | with_reducible refine st_op ?_ | with_reducible refine st_call ?_ | with_reducible refine st_callK ?_ | with_reducible refine st_lst ?_ | with_reducible refine st_tup ?_ | with_reducible refine st_sl ?_ | with_reducible refine st_eif ?_ | with_reducible refine st_and ?_ | with_reducible refine st_or ?_ | with_reducible refine st_not ?_ | with_reducible refine st_neg ?_ | with_reducible refine st_isi ?_ | with_reducible refine st_lc ?_ | with_reducible refine st_dc ?_ | with_reducible refine st_anil ?_ | with_reducible refine st_acons ?_ | with_reducible refine st_ono ?_ | with_reducible refine st_osome ?_ | with_reducible refine st_iseq ?_ | with_reducible refine st_irg1 ?_ | with_reducible refine st_izp ?_ | with_reducible refine sd_addI ?_ | with_reducible refine sd_subI ?_ | with_reducible refine sd_lenL ?_ | with_reducible refine sd_lenT ?_ | with_reducible refine sd_list ?_ | with_reducible refine sd_tuple ?_ | with_reducible refine sd_lt ?_ | with_reducible refine sd_le ?_ | with_reducible refine sd_gt ?_ | with_reducible refine sd_ge ?_ | with_reducible refine sd_eqI ?_ | with_reducible refine sd_neI ?_ | with_reducible refine sd_eqS ?_ | with_reducible refine sd_neS ?_ | with_reducible refine sd_slL ?_ | with_reducible refine sd_slT ?_ | with_reducible refine sd_int ?_ | with_reducible refine st_app (by with_unfolding_all rfl) ?_ | with_reducible refine st_clr (by with_unfolding_all rfl) ?_ | with_reducible refine st_retO (by with_unfolding_all rfl) ?_ | with_reducible refine st_retV (by with_unfolding_all rfl) ?_ | with_reducible refine st_aug (by with_unfolding_all rfl) ?_ | with_reducible refine And.intro (by with_unfolding_all rfl) ?_ | with_reducible refine Exists.intro _ (And.intro (by with_unfolding_all rfl) ?_) | with_reducible refine And.intro (le_size (by with_unfolding_all rfl)) ?_ | with_reducible refine st_frz (by with_unfolding_all rfl) ?_))
                refine ⟨st_len0 ha (by omega), ?_⟩
                (repeat (first | with_reducible refine ss_ix (by assumption) (by assumption) ?_ | with_reducible refine ss_len (by assumption) ?_ | with_reducible refine ss_in ?_ | with_reducible refine ss_nin ?_ | with_reducible refine ss_eq ?_ | with_reducible refine ss_ne ?_ | with_reducible refine ss_mid (by assumption) ?_ | with_reducible refine ss_to (by assumption) ?_ | with_reducible refine ss_from (by assumption) ?_ | with_reducible refine ss_is ?_ | with_reducible refine ss_isnt ?_ | with_reducible refine ss_aug ?_ | with_reducible refine st_nx ?_ | with_reducible refine st_rt ?_ | with_reducible refine st_bk ?_ | with_reducible refine st_ct ?_ | with_reducible refine st_bind1 ?_ | with_reducible refine st_v (by with_unfolding_all rfl) ?_ | with_reducible refine st_seq ?_ | with_reducible refine st_skip ?_ | with_reducible refine st_asg ?_ | with_reducible refine st_ret ?_ | with_reducible refine st_if ?_ | with_reducible refine st_for ?_ | with_reducible refine st_par2 ?_ | with_reducible refine st_par3 ?_ | with_reducible refine st_asgT ?_ | with_reducible refine st_drop ?_ | with_reducible refine st_brk ?_ | with_reducible refine st_cnt ?_ | with_reducible refine st_tE ?_ | with_reducible refine st_tCmp ?_ | with_reducible refine st_tNt ?_ | with_reducible refine st_tAn ?_ | with_reducible refine st_tO ?_ | with_reducible refine st_tT ?_ | with_reducible refine st_c ?_ | with_reducible refine st_tr ?_ | with_reducible refine st_fz ?_ | with_reducible refine st_op ?_ | with_reducible refine st_call ?_ | with_reducible refine st_callK ?_ | with_reducible refine st_lst ?_ | with_reducible refine st_tup ?_ | with_reducible refine st_sl ?_ | with_reducible refine st_eif ?_ | with_reducible refine st_and ?_ | with_reducible refine st_or ?_ | with_reducible refine st_not ?_ | with_reducible refine st_neg ?_ | with_reducible refine st_isi ?_ | with_reducible refine st_lc ?_ | with_reducible refine st_dc ?_ | with_reducible refine st_anil ?_ | with_reducible refine st_acons ?_ | with_reducible refine st_ono ?_ | with_reducible refine st_osome ?_ | with_reducible refine st_iseq ?_ | with_reducible refine st_irg1 ?_ | with_reducible refine st_izp ?_ | with_reducible refine sd_addI ?_ | with_reducible refine sd_subI ?_ | with_reducible refine sd_lenL ?_ | with_reducible refine sd_lenT ?_ | with_reducible refine sd_list ?_ | with_reducible refine sd_tuple ?_ | with_reducible refine sd_lt ?_ | with_reducible refine sd_le ?_ | with_reducible refine sd_gt ?_ | with_reducible refine sd_ge ?_ | with_reducible refine sd_eqI ?_ | with_reducible refine sd_neI ?_ | with_reducible refine sd_eqS ?_ | with_reducible refine sd_neS ?_ | with_reducible refine sd_slL ?_ | with_reducible refine sd_slT ?_ | with_reducible refine sd_int ?_ | with_reducible refine st_app (by with_unfolding_all rfl) ?_ | with_reducible refine st_clr (by with_unfolding_all rfl) ?_ | with_reducible refine st_retO (by with_unfolding_all rfl) ?_ | with_reducible refine st_retV (by with_unfolding_all rfl) ?_ | with_reducible refine st_aug (by with_unfolding_all rfl) ?_ | with_reducible refine And.intro (by with_unfolding_all rfl) ?_ | with_reducible refine Exists.intro _ (And.intro (by with_unfolding_all rfl) ?_) | with_reducible refine And.intro (le_size (by with_unfolding_all rfl)) ?_ | with_reducible refine st_frz (by with_unfolding_all rfl) ?_))
                rw [if_neg (by rw [hgood]; decide)] at hR
                exact hN (cs.length - runE dL cs k) _ (by omega) ⟨runE dL cs k, acc ++ [tok k "number" (tx (mid cs k (runE dL cs k)))], n, _, _, _, _, rfl, hle, by rw [List.length_append]; simp; omega, by omega, by rw [List.append_assoc]; exact hR, rfl⟩
            · rw [decide_eq_false (p := (1 : Int) < ((runE dL cs k - k : Nat) : Int)) (by omega)]
              refine iteF (iteF ?_)
              have hgood : badN (mid cs k (runE dL cs k)) = false := by rw [hbad, decide_eq_false h6, decide_eq_false h7, Bool.false_and, Bool.or_false]
              (repeat (first | with_reducible refine ss_ix (by assumption) (by assumption) ?_ | with_reducible refine ss_len (by assumption) ?_ | with_reducible refine ss_in ?_ | with_reducible refine ss_nin ?_ | with_reducible refine ss_eq ?_ | with_reducible refine ss_ne ?_ | with_reducible refine ss_mid (by assumption) ?_ | with_reducible refine ss_to (by assumption) ?_ | with_reducible refine ss_from (by assumption) ?_ | with_reducible refine ss_is ?_ | with_reducible refine ss_isnt ?_ | with_reducible refine ss_aug ?_ | with_reducible refine st_nx ?_ | with_reducible refine st_rt ?_ | with_reducible refine st_bk ?_ | with_reducible refine st_ct ?_ | with_reducible refine st_bind1 ?_ | with_reducible refine st_v (by with_unfolding_all rfl) ?_ | with_reducible refine st_seq ?_ | with_reducible refine st_skip ?_ | with_reducible refine st_asg ?_ | with_reducible refine st_ret ?_ | with_reducible refine st_if ?_ | with_reducible refine st_for ?_ | with_reducible refine st_par2 ?_ | with_reducible refine st_par3 ?_ | with_reducible refine st_asgT ?_ | with_reducible refine st_drop ?_ | with_reducible refine st_brk ?_ | with_reducible refine st_cnt ?_ | with_reducible refine st_tE ?_ | with_reducible refine st_tCmp ?_ | with_reducible refine st_tNt ?_ | with_reducible refine st_tAn ?_ | with_reducible refine st_tO ?_ | with_reducible refine st_tT ?_ | with_reducible refine st_c ?_ | with_reducible refine st_tr ?_ | with_reducible refine st_fz ?_ | with_reducible refine st_op ?_ | with_reducible refine st_call ?_ | with_reducible refine st_callK ?_ | with_reducible refine st_lst ?_ | with_reducible refine st_tup ?_ | with_reducible refine st_sl ?_ | with_reducible refine st_eif ?_ | with_reducible refine st_and ?_ | with_reducible refine st_or ?_ | with_reducible refine st_not ?_ | with_reducible refine st_neg ?_ | with_reducible refine st_isi ?_ | with_reducible refine st_lc ?_ | with_reducible refine st_dc ?_ | with_reducible refine st_anil ?_ | with_reducible refine st_acons ?_ | with_reducible refine st_ono ?_ | with_reducible refine st_osome ?_ | with_reducible refine st_iseq ?_ | with_reducible refine st_irg1 ?_ | with_reducible refine st_izp ?_ | with_reducible refine sd_addI ?_ | with_reducible refine sd_subI ?_ | with_reducible refine sd_lenL ?_ | with_reducible refine sd_lenT ?_ | with_reducible refine sd_list ?_ | with_reducible refine sd_tuple ?_ | with_reducible refine sd_lt ?_ | with_reducible refine sd_le ?_ | with_reducible refine sd_gt ?_ | with_reducible refine sd_ge ?_ | with_reducible refine sd_eqI ?_ | with_reducible refine sd_neI ?_ | with_reducible refine sd_eqS ?_ | with_reducible refine sd_neS ?_ | with_reducible refine sd_slL ?_ | with_reducible refine sd_slT ?_ | with_reducible refine sd_int ?_ | with_reducible refine st_app (by with_unfolding_all rfl) ?_ | with_reducible refine st_clr (by with_unfolding_all rfl) ?_ | with_reducible refine st_retO (by with_unfolding_all rfl) ?_ | with_reducible refine st_retV (by with_unfolding_all rfl) ?_ | with_reducible refine st_aug (by with_unfolding_all rfl) ?_ | with_reducible refine And.intro (by with_unfolding_all rfl) ?_ | with_reducible refine Exists.intro _ (And.intro (by with_unfolding_all rfl) ?_) | with_reducible refine And.intro (le_size (by with_unfolding_all rfl)) ?_ | with_reducible refine st_frz (by with_unfolding_all rfl) ?_))
              refine hlet ?_
              (repeat (first | with_reducible refine ss_ix (by assumption) (by assumption) ?_ | with_reducible refine ss_len (by assumption) ?_ | with_reducible refine ss_in ?_ | with_reducible refine ss_nin ?_ | with_reducible refine ss_eq ?_ | with_reducible refine ss_ne ?_ | with_reducible refine ss_mid (by assumption) ?_ | with_reducible refine ss_to (by assumption) ?_ | with_reducible refine ss_from (by assumption) ?_ | with_reducible refine ss_is ?_ | with_reducible refine ss_isnt ?_ | with_reducible refine ss_aug ?_ | with_reducible refine st_nx ?_ | with_reducible refine st_rt ?_ | with_reducible refine st_bk ?_ | with_reducible refine st_ct ?_ | with_reducible refine st_bind1 ?_ | with_reducible refine st_v (by with_unfolding_all rfl) ?_ | with_reducible refine st_seq ?_ | with_reducible refine st_skip ?_ | with_reducible refine st_asg ?_ | with_reducible refine st_ret ?_ | with_reducible refine st_if ?_ | with_reducible refine st_for ?_ | with_reducible refine st_par2 ?_ | with_reducible refine st_par3 ?_ | with_reducible refine st_asgT ?_ | with_reducible refine st_drop ?_ | with_reducible refine st_brk ?_ | with_reducible refine st_cnt ?_ | with_reducible refine st_tE ?_ | with_reducible refine st_tCmp ?_ | with_reducible refine st_tNt ?_ | with_reducible refine st_tAn ?_ | with_reducible refine st_tO ?_ | with_reducible refine st_tT ?_ | with_reducible refine st_c ?_ | with_reducible refine st_tr ?_ | with_reducible refine st_fz ?_ | with_reducible refine st_op ?_ | with_reducible refine st_call ?_ | with_reducible refine st_callK ?_ | with_reducible refine st_lst ?_ | with_reducible refine st_tup ?_ | with_reducible refine st_sl ?_ | with_reducible refine st_eif ?_ | with_reducible refine st_and ?_ | with_reducible refine st_or ?_ | with_reducible refine st_not ?_ | with_reducible refine st_neg ?_ | with_reducible refine st_isi ?_ | with_reducible refine st_lc ?_ | with_reducible refine st_dc ?_ | with_reducible refine st_anil ?_ | with_reducible refine st_acons ?_ | with_reducible refine st_ono ?_ | with_reducible refine st_osome ?_ | with_reducible refine st_iseq ?_ | with_reducible refine st_irg1 ?_ | with_reducible refine st_izp ?_ | with_reducible refine sd_addI ?_ | with_reducible refine sd_subI ?_ | with_reducible refine sd_lenL ?_ | with_reducible refine sd_lenT ?_ | with_reducible refine sd_list ?_ | with_reducible refine sd_tuple ?_ | with_reducible refine sd_lt ?_ | with_reducible refine sd_le ?_ | with_reducible refine sd_gt ?_ | with_reducible refine sd_ge ?_ | with_reducible refine sd_eqI ?_ | with_reducible refine sd_neI ?_ | with_reducible refine sd_eqS ?_ | with_reducible refine sd_neS ?_ | with_reducible refine sd_slL ?_ | with_reducible refine sd_slT ?_ | with_reducible refine sd_int ?_ | with_reducible refine st_app (by with_unfolding_all rfl) ?_ | with_reducible refine st_clr (by with_unfolding_all rfl) ?_ | with_reducible refine st_retO (by with_unfolding_all rfl) ?_ | with_reducible refine st_retV (by with_unfolding_all rfl) ?_ | with_reducible refine st_aug (by with_unfolding_all rfl) ?_ | with_reducible refine And.intro (by with_unfolding_all rfl) ?_ | with_reducible refine Exists.intro _ (And.intro (by with_unfolding_all rfl) ?_) | with_reducible refine And.intro (le_size (by with_unfolding_all rfl)) ?_ | with_reducible refine st_frz (by with_unfolding_all rfl) ?_))
              rw [decide_eq_false dL_aL]
              refine iteF (iteF ?_)
              (repeat (first | with_reducible refine ss_ix (by assumption) (by assumption) ?_ | with_reducible refine ss_len (by assumption) ?_ | with_reducible refine ss_in ?_ | with_reducible refine ss_nin ?_ | with_reducible refine ss_eq ?_ | with_reducible refine ss_ne ?_ | with_reducible refine ss_mid (by assumption) ?_ | with_reducible refine ss_to (by assumption) ?_ | with_reducible refine ss_from (by assumption) ?_ | with_reducible refine ss_is ?_ | with_reducible refine ss_isnt ?_ | with_reducible refine ss_aug ?_ | with_reducible refine st_nx ?_ | with_reducible refine st_rt ?_ | with_reducible refine st_bk ?_ | with_reducible refine st_ct ?_ | with_reducible refine st_bind1 ?_ | with_reducible refine st_v (by with_unfolding_all rfl) ?_ | with_reducible refine st_seq ?_ | with_reducible refine st_skip ?_ | with_reducible refine st_asg ?_ | with_reducible refine st_ret ?_ | with_reducible refine st_if ?_ | with_reducible refine st_for ?_ | with_reducible refine st_par2 ?_ | with_reducible refine st_par3 ?_ | with_reducible refine st_asgT ?_ | with_reducible refine st_drop ?_ | with_reducible refine st_brk ?_ | with_reducible refine st_cnt ?_ | with_reducible refine st_tE ?_ | with_reducible refine st_tCmp ?_ | with_reducible refine st_tNt ?_ | with_reducible refine st_tAn ?_ | with_reducible refine st_tO ?_ | with_reducible refine st_tT ?_ | with_reducible refine st_c ?_ | with_reducible refine st_tr ?_ | with_reducible refine st_fz ?_ | with_reducible refine st_op ?_ | with_reducible refine st_call ?_ | with_reducible refine st_callK ?_ | with_reducible refine st_lst ?_ | with_reducible refine st_tup ?_ | with_reducible refine st_sl ?_ | with_reducible refine st_eif ?_ | with_reducible refine st_and ?_ | with_reducible refine st_or ?_ | with_reducible refine st_not ?_ | with_reducible refine st_neg ?_ | with_reducible refine st_isi ?_ | with_reducible refine st_lc ?_ | with_reducible refine st_dc ?_ | with_reducible refine st_anil ?_ | with_reducible refine st_acons ?_ | with_reducible refine st_ono ?_ | with_reducible refine st_osome ?_ | with_reducible refine st_iseq ?_ | with_reducible refine st_irg1 ?_ | with_reducible refine st_izp ?_ | with_reducible refine sd_addI ?_ | with_reducible refine sd_subI ?_ | with_reducible refine sd_lenL ?_ | with_reducible refine sd_lenT ?_ | with_reducible refine sd_list ?_ | with_reducible refine sd_tuple ?_ | with_reducible refine sd_lt ?_ | with_reducible refine sd_le ?_ | with_reducible refine sd_gt ?_ | with_reducible refine sd_ge ?_ | with_reducible refine sd_eqI ?_ | with_reducible refine sd_neI ?_ | with_reducible refine sd_eqS ?_ | with_reducible refine sd_neS ?_ | with_reducible refine sd_slL ?_ | with_reducible refine sd_slT ?_ | with_reducible refine sd_int ?_ | with_reducible refine st_app (by with_unfolding_all rfl) ?_ | with_reducible refine st_clr (by with_unfolding_all rfl) ?_ | with_reducible refine st_retO (by with_unfolding_all rfl) ?_ | with_reducible refine st_retV (by with_unfolding_all rfl) ?_ | with_reducible refine st_aug (by with_unfolding_all rfl) ?_ | with_reducible refine And.intro (by with_unfolding_all rfl) ?_ | with_reducible refine Exists.intro _ (And.intro (by with_unfolding_all rfl) ?_) | with_reducible refine And.intro (le_size (by with_unfolding_all rfl)) ?_ | with_reducible refine st_frz (by with_unfolding_all rfl) ?_))
              rw [decide_eq_false dL_ne]
              refine iteF ?_
              (repeat (first | with_reducible refine ss_ix (by assumption) (by assumption) ?_ | with_reducible refine ss_len (by assumption) ?_ | with_reducible refine ss_in ?_ | with_reducible refine ss_nin ?_ | with_reducible refine ss_eq ?_ | with_reducible refine ss_ne ?_ | with_reducible refine ss_mid (by assumption) ?_ | with_reducible refine ss_to (by assumption) ?_ | with_reducible refine ss_from (by assumption) ?_ | with_reducible refine ss_is ?_ | with_reducible refine ss_isnt ?_ | with_reducible refine ss_aug ?_ | with_reducible refine st_nx ?_ | with_reducible refine st_rt ?_ | with_reducible refine st_bk ?_ | with_reducible refine st_ct ?_ | with_reducible refine st_bind1 ?_ | with_reducible refine st_v (by with_unfolding_all rfl) ?_ | with_reducible refine st_seq ?_ | with_reducible refine st_skip ?_ | with_reducible refine st_asg ?_ | with_reducible refine st_ret ?_ | with_reducible refine st_if ?_ | with_reducible refine st_for ?_ | with_reducible refine st_par2 ?_ | with_reducible refine st_par3 ?_ | with_reducible refine st_asgT ?_ | with_reducible refine st_drop ?_ | with_reducible refine st_brk ?_ | with_reducible refine st_cnt ?_ | with_reducible refine st_tE ?_ | with_reducible refine st_tCmp ?_ | with_reducible refine st_tNt ?_ | with_reducible refine st_tAn ?_ | with_reducible refine st_tO ?_ | with_reducible refine st_tT ?_ | with_reducible refine st_c ?_ | with_reducible refine st_tr ?_ | with_reducible refine st_fz ?_ | with_reducible refine st_op ?_ | with_reducible refine st_call ?_ | with_reducible refine st_callK ?_ | with_reducible refine st_lst ?_ | with_reducible refine st_tup ?_ | with_reducible refine st_sl ?_ | with_reducible refine st_eif ?_ | with_reducible refine st_and ?_ | with_reducible refine st_or ?_ | with_reducible refine st_not ?_ | with_reducible refine st_neg ?_ | with_reducible refine st_isi ?_ | with_reducible refine st_lc ?_ | with_reducible refine st_dc ?_ | with_reducible refine st_anil ?_ | with_reducible refine st_acons ?_ | with_reducible refine st_ono ?_ | with_reducible refine st_osome ?_ | with_reducible refine st_iseq ?_ | with_reducible refine st_irg1 ?_ | with_reducible refine st_izp ?_ | with_reducible refine sd_addI ?_ | with_reducible refine sd_subI ?_ | with_reducible refine sd_lenL ?_ | with_reducible refine sd_lenT ?_ | with_reducible refine sd_list ?_ | with_reducible refine sd_tuple ?_ | with_reducible refine sd_lt ?_ | with_reducible refine sd_le ?_ | with_reducible refine sd_gt ?_ | with_reducible refine sd_ge ?_ | with_reducible refine sd_eqI ?_ | with_reducible refine sd_neI ?_ | with_reducible refine sd_eqS ?_ | with_reducible refine sd_neS ?_ | with_reducible refine sd_slL ?_ | with_reducible refine sd_slT ?_ | with_reducible refine sd_int ?_ | with_reducible refine st_app (by with_unfolding_all rfl) ?_ | with_reducible refine st_clr (by with_unfolding_all rfl) ?_ | with_reducible refine st_retO (by with_unfolding_all rfl) ?_ | with_reducible refine st_retV (by with_unfolding_all rfl) ?_ | with_reducible refine st_aug (by with_unfolding_all rfl) ?_ | with_reducible refine And.intro (by with_unfolding_all rfl) ?_ | with_reducible refine Exists.intro _ (And.intro (by with_unfolding_all rfl) ?_) | with_reducible refine And.intro (le_size (by with_unfolding_all rfl)) ?_ | with_reducible refine st_frz (by with_unfolding_all rfl) ?_))
              rw [decide_eq_true rfl]
              refine iteT ?_
              (repeat (first | with_reducible refine ss_ix (by assumption) (by assumption) ?_ | with_reducible refine ss_len (by assumption) ?_ | with_reducible refine ss_in ?_ | with_reducible refine ss_nin ?_ | with_reducible refine ss_eq ?_ | with_reducible refine ss_ne ?_ | with_reducible refine ss_mid (by assumption) ?_ | with_reducible refine ss_to (by assumption) ?_ | with_reducible refine ss_from (by assumption) ?_ | with_reducible refine ss_is ?_ | with_reducible refine ss_isnt ?_ | with_reducible refine ss_aug ?_ | with_reducible refine st_nx ?_ | with_reducible refine st_rt ?_ | with_reducible refine st_bk ?_ | with_reducible refine st_ct ?_ | with_reducible refine st_bind1 ?_ | with_reducible refine st_v (by with_unfolding_all rfl) ?_ | with_reducible refine st_seq ?_ | with_reducible refine st_skip ?_ | with_reducible refine st_asg ?_ | with_reducible refine st_ret ?_ | with_reducible refine st_if ?_ | with_reducible refine st_for ?_ | with_reducible refine st_par2 ?_ | with_reducible refine st_par3 ?_ | with_reducible refine st_asgT ?_ | with_reducible refine st_drop ?_ | with_reducible refine st_brk ?_ | with_reducible refine st_cnt ?_ | with_reducible refine st_tE ?_ | with_reducible refine st_tCmp ?_ | with_reducible refine st_tNt ?_ | with_reducible refine st_tAn ?_ | with_reducible refine st_tO ?_ | with_reducible refine st_tT ?_ | with_reducible refine st_c ?_ | with_reducible refine st_tr ?_ | with_reducible refine st_fz ?_ | with_reducible refine st_op ?_ | with_reducible refine st_call ?_ | with_reducible refine st_callK ?_ | with_reducible refine st_lst ?_ | with_reducible refine st_tup ?_ | with_reducible refine st_sl ?_ | with_reducible refine st_eif ?_ | with_reducible refine st_and ?_ | with_reducible refine st_or ?_ | with_reducible refine st_not ?_ | with_reducible refine st_neg ?_ | with_reducible refine st_isi ?_ | with_reducible refine st_lc ?_ | with_reducible refine st_dc ?_ | with_reducible refine st_anil ?_ | with_reducible refine st_acons ?_ | with_reducible refine st_ono ?_ | with_reducible refine st_osome ?_ | with_reducible refine st_iseq ?_ | with_reducible refine st_irg1 ?_ | with_reducible refine st_izp ?_ | with_reducible refine sd_addI ?_ | with_reducible refine sd_subI ?_ | with_reducible refine sd_lenL ?_ | with_reducible refine sd_lenT ?_ | with_reducible refine sd_list ?_ | with_reducible refine sd_tuple ?_ | with_reducible refine sd_lt ?_ | with_reducible refine sd_le ?_ | with_reducible refine sd_gt ?_ | with_reducible refine sd_ge ?_ | with_reducible refine sd_eqI ?_ | with_reducible refine sd_neI ?_ | with_reducible refine sd_eqS ?_ | with_reducible refine sd_neS ?_ | with_reducible refine sd_slL ?_ | with_reducible refine sd_slT ?_ | with_reducible refine sd_int ?_ | with_reducible refine st_app (by with_unfolding_all rfl) ?_ | with_reducible refine st_clr (by with_unfolding_all rfl) ?_ | with_reducible refine st_retO (by with_unfolding_all rfl) ?_ | with_reducible refine st_retV (by with_unfolding_all rfl) ?_ | with_reducible refine st_aug (by with_unfolding_all rfl) ?_ | with_reducible refine And.intro (by with_unfolding_all rfl) ?_ | with_reducible refine Exists.intro _ (And.intro (by with_unfolding_all rfl) ?_) | with_reducible refine And.intro (le_size (by with_unfolding_all rfl)) ?_ | with_reducible refine st_frz (by with_unfolding_all rfl) ?_))
              refine ⟨st_len0 ha (by omega), ?_⟩
              (repeat (first | with_reducible refine ss_ix (by assumption) (by assumption) ?_ | with_reducible refine ss_len (by assumption) ?_ | with_reducible refine ss_in ?_ | with_reducible refine ss_nin ?_ | with_reducible refine ss_eq ?_ | with_reducible refine ss_ne ?_ | with_reducible refine ss_mid (by assumption) ?_ | with_reducible refine ss_to (by assumption) ?_ | with_reducible refine ss_from (by assumption) ?_ | with_reducible refine ss_is ?_ | with_reducible refine ss_isnt ?_ | with_reducible refine ss_aug ?_ | with_reducible refine st_nx ?_ | with_reducible refine st_rt ?_ | with_reducible refine st_bk ?_ | with_reducible refine st_ct ?_ | with_reducible refine st_bind1 ?_ | with_reducible refine st_v (by with_unfolding_all rfl) ?_ | with_reducible refine st_seq ?_ | with_reducible refine st_skip ?_ | with_reducible refine st_asg ?_ | with_reducible refine st_ret ?_ | with_reducible refine st_if ?_ | with_reducible refine st_for ?_ | with_reducible refine st_par2 ?_ | with_reducible refine st_par3 ?_ | with_reducible refine st_asgT ?_ | with_reducible refine st_drop ?_ | with_reducible refine st_brk ?_ | with_reducible refine st_cnt ?_ | with_reducible refine st_tE ?_ | with_reducible refine st_tCmp ?_ | with_reducible refine st_tNt ?_ | with_reducible refine st_tAn ?_ | with_reducible refine st_tO ?_ | with_reducible refine st_tT ?_ | with_reducible refine st_c ?_ | with_reducible refine st_tr ?_ | with_reducible refine st_fz ?_ | with_reducible refine st_op ?_ | with_reducible refine st_call ?_ | with_reducible refine st_callK ?_ | with_reducible refine st_lst ?_ | with_reducible refine st_tup ?_ | with_reducible refine st_sl ?_ | with_reducible refine st_eif ?_ | with_reducible refine st_and ?_ | with_reducible refine st_or ?_ | with_reducible refine st_not ?_ | with_reducible refine st_neg ?_ | with_reducible refine st_isi ?_ | with_reducible refine st_lc ?_ | with_reducible refine st_dc ?_ | with_reducible refine st_anil ?_ | with_reducible refine st_acons ?_ | with_reducible refine st_ono ?_ | with_reducible refine st_osome ?_ | with_reducible refine st_iseq ?_ | with_reducible refine st_irg1 ?_ | with_reducible refine st_izp ?_ | with_reducible refine sd_addI ?_ | with_reducible refine sd_subI ?_ | with_reducible refine sd_lenL ?_ | with_reducible refine sd_lenT ?_ | with_reducible refine sd_list ?_ | with_reducible refine sd_tuple ?_ | with_reducible refine sd_lt ?_ | with_reducible refine sd_le ?_ | with_reducible refine sd_gt ?_ | with_reducible refine sd_ge ?_ | with_reducible refine sd_eqI ?_ | with_reducible refine sd_neI ?_ | with_reducible refine sd_eqS ?_ | with_reducible refine sd_neS ?_ | with_reducible refine sd_slL ?_ | with_reducible refine sd_slT ?_ | with_reducible refine sd_int ?_ | with_reducible refine st_app (by with_unfolding_all rfl) ?_ | with_reducible refine st_clr (by with_unfolding_all rfl) ?_ | with_reducible refine st_retO (by with_unfolding_all rfl) ?_ | with_reducible refine st_retV (by with_unfolding_all rfl) ?_ | with_reducible refine st_aug (by with_unfolding_all rfl) ?_ | with_reducible refine And.intro (by with_unfolding_all rfl) ?_ | with_reducible refine Exists.intro _ (And.intro (by with_unfolding_all rfl) ?_) | with_reducible refine And.intro (le_size (by with_unfolding_all rfl)) ?_ | with_reducible refine st_frz (by with_unfolding_all rfl) ?_))
              rw [if_neg (by rw [hgood]; decide)] at hR
              exact hN (cs.length - runE dL cs k) _ (by omega) ⟨runE dL cs k, acc ++ [tok k "number" (tx (mid cs k (runE dL cs k)))], n, _, _, _, _, rfl, hle, by rw [List.length_append]; simp; omega, by omega, by rw [List.append_assoc]; exact hR, rfl⟩
        · rw [decide_eq_false h3]
          refine iteF ?_
          rw [if_neg h3] at hR
          rw [show ((k : Int) + 1) = ((k + 1 : Nat) : Int) from rfl]
          (repeat (first | with_reducible refine ss_ix (by assumption) (by assumption) ?_ | with_reducible refine ss_len (by assumption) ?_ | with_reducible refine ss_in ?_ | with_reducible refine ss_nin ?_ | with_reducible refine ss_eq ?_ | with_reducible refine ss_ne ?_ | with_reducible refine ss_mid (by assumption) ?_ | with_reducible refine ss_to (by assumption) ?_ | with_reducible refine ss_from (by assumption) ?_ | with_reducible refine ss_is ?_ | with_reducible refine ss_isnt ?_ | with_reducible refine ss_aug ?_ | with_reducible refine st_nx ?_ | with_reducible refine st_rt ?_ | with_reducible refine st_bk ?_ | with_reducible refine st_ct ?_ | with_reducible refine st_bind1 ?_ | with_reducible refine st_v (by with_unfolding_all rfl) ?_ | with_reducible refine st_seq ?_ | with_reducible refine st_skip ?_ | with_reducible refine st_asg ?_ | with_reducible refine st_ret ?_ | with_reducible refine st_if ?_ | with_reducible refine st_for ?_ | with_reducible refine st_par2 ?_ | with_reducible refine st_par3 ?_ | with_reducible refine st_asgT ?_ | with_reducible refine st_drop ?_ | with_reducible refine st_brk ?_ | with_reducible refine st_cnt ?_ | with_reducible refine st_tE ?_ | with_reducible refine st_tCmp ?_ | with_reducible refine st_tNt ?_ | with_reducible refine st_tAn ?_ | with_reducible refine st_tO ?_ | with_reducible refine st_tT ?_ | with_reducible refine st_c ?_ | with_reducible refine st_tr ?_ | with_reducible refine st_fz ?_ | with_reducible refine st_op ?_ | with_reducible refine st_call ?_ | with_reducible refine st_callK ?_ | with_reducible refine st_lst ?_ | with_reducible refine st_tup ?_ | with_reducible refine st_sl ?_ | with_reducible refine st_eif ?_ | with_reducible refine st_and ?_ | with_reducible refine st_or ?_ | with_reducible refine st_not ?_ | with_reducible refine st_neg ?_ | with_reducible refine st_isi ?_ | with_reducible refine st_lc ?_ | with_reducible refine st_dc ?_ | with_reducible refine st_anil ?_ | with_reducible refine st_acons ?_ | with_reducible refine st_ono ?_ | with_reducible refine st_osome ?_ | with_reducible refine st_iseq ?_ | with_reducible refine st_irg1 ?_ | with_reducible refine st_izp ?_ | with_reducible refine sd_addI ?_ | with_reducible refine sd_subI ?_ | with_reducible refine sd_lenL ?_ | with_reducible refine sd_lenT ?_ | with_reducible refine sd_list ?_ | with_reducible refine sd_tuple ?_ | with_reducible refine sd_lt ?_ | with_reducible refine sd_le ?_ | with_reducible refine sd_gt ?_ | with_reducible refine sd_ge ?_ | with_reducible refine sd_eqI ?_ | with_reducible refine sd_neI ?_ | with_reducible refine sd_eqS ?_ | with_reducible refine sd_neS ?_ | with_reducible refine sd_slL ?_ | with_reducible refine sd_slT ?_ | with_reducible refine sd_int ?_ | with_reducible refine st_app (by with_unfolding_all rfl) ?_ | with_reducible refine st_clr (by with_unfolding_all rfl) ?_ | with_reducible refine st_retO (by with_unfolding_all rfl) ?_ | with_reducible refine st_retV (by with_unfolding_all rfl) ?_ | with_reducible refine st_aug (by with_unfolding_all rfl) ?_ | with_reducible refine And.intro (by with_unfolding_all rfl) ?_ | with_reducible refine Exists.intro _ (And.intro (by with_unfolding_all rfl) ?_) | with_reducible refine And.intro (le_size (by with_unfolding_all rfl)) ?_ | with_reducible refine st_frz (by with_unfolding_all rfl) ?_))
          rw [decide_eq_true rfl]
          refine iteT ?_
          (repeat (first | with_reducible refine ss_ix (by assumption) (by assumption) ?_ | with_reducible refine ss_len (by assumption) ?_ | with_reducible refine ss_in ?_ | with_reducible refine ss_nin ?_ | with_reducible refine ss_eq ?_ | with_reducible refine ss_ne ?_ | with_reducible refine ss_mid (by assumption) ?_ | with_reducible refine ss_to (by assumption) ?_ | with_reducible refine ss_from (by assumption) ?_ | with_reducible refine ss_is ?_ | with_reducible refine ss_isnt ?_ | with_reducible refine ss_aug ?_ | with_reducible refine st_nx ?_ | with_reducible refine st_rt ?_ | with_reducible refine st_bk ?_ | with_reducible refine st_ct ?_ | with_reducible refine st_bind1 ?_ | with_reducible refine st_v (by with_unfolding_all rfl) ?_ | with_reducible refine st_seq ?_ | with_reducible refine st_skip ?_ | with_reducible refine st_asg ?_ | with_reducible refine st_ret ?_ | with_reducible refine st_if ?_ | with_reducible refine st_for ?_ | with_reducible refine st_par2 ?_ | with_reducible refine st_par3 ?_ | with_reducible refine st_asgT ?_ | with_reducible refine st_drop ?_ | with_reducible refine st_brk ?_ | with_reducible refine st_cnt ?_ | with_reducible refine st_tE ?_ | with_reducible refine st_tCmp ?_ | with_reducible refine st_tNt ?_ | with_reducible refine st_tAn ?_ | with_reducible refine st_tO ?_ | with_reducible refine st_tT ?_ | with_reducible refine st_c ?_ | with_reducible refine st_tr ?_ | with_reducible refine st_fz ?_ | with_reducible refine st_op ?_ | with_reducible refine st_call ?_ | with_reducible refine st_callK ?_ | with_reducible refine st_lst ?_ | with_reducible refine st_tup ?_ | with_reducible refine st_sl ?_ | with_reducible refine st_eif ?_ | with_reducible refine st_and ?_ | with_reducible refine st_or ?_ | with_reducible refine st_not ?_ | with_reducible refine st_neg ?_ | with_reducible refine st_isi ?_ | with_reducible refine st_lc ?_ | with_reducible refine st_dc ?_ | with_reducible refine st_anil ?_ | with_reducible refine st_acons ?_ | with_reducible refine st_ono ?_ | with_reducible refine st_osome ?_ | with_reducible refine st_iseq ?_ | with_reducible refine st_irg1 ?_ | with_reducible refine st_izp ?_ | with_reducible refine sd_addI ?_ | with_reducible refine sd_subI ?_ | with_reducible refine sd_lenL ?_ | with_reducible refine sd_lenT ?_ | with_reducible refine sd_list ?_ | with_reducible refine sd_tuple ?_ | with_reducible refine sd_lt ?_ | with_reducible refine sd_le ?_ | with_reducible refine sd_gt ?_ | with_reducible refine sd_ge ?_ | with_reducible refine sd_eqI ?_ | with_reducible refine sd_neI ?_ | with_reducible refine sd_eqS ?_ | with_reducible refine sd_neS ?_ | with_reducible refine sd_slL ?_ | with_reducible refine sd_slT ?_ | with_reducible refine sd_int ?_ | with_reducible refine st_app (by with_unfolding_all rfl) ?_ | with_reducible refine st_clr (by with_unfolding_all rfl) ?_ | with_reducible refine st_retO (by with_unfolding_all rfl) ?_ | with_reducible refine st_retV (by with_unfolding_all rfl) ?_ | with_reducible refine st_aug (by with_unfolding_all rfl) ?_ | with_reducible refine And.intro (by with_unfolding_all rfl) ?_ | with_reducible refine Exists.intro _ (And.intro (by with_unfolding_all rfl) ?_) | with_reducible refine And.intro (le_size (by with_unfolding_all rfl)) ?_ | with_reducible refine st_frz (by with_unfolding_all rfl) ?_))
          by_cases h4 : c ∈ sL
          · rw [decide_eq_true h4]
            refine iteF ?_
            rw [if_pos h4] at hR
            (repeat (first | with_reducible refine ss_ix (by assumption) (by assumption) ?_ | with_reducible refine ss_len (by assumption) ?_ | with_reducible refine ss_in ?_ | with_reducible refine ss_nin ?_ | with_reducible refine ss_eq ?_ | with_reducible refine ss_ne ?_ | with_reducible refine ss_mid (by assumption) ?_ | with_reducible refine ss_to (by assumption) ?_ | with_reducible refine ss_from (by assumption) ?_ | with_reducible refine ss_is ?_ | with_reducible refine ss_isnt ?_ | with_reducible refine ss_aug ?_ | with_reducible refine st_nx ?_ | with_reducible refine st_rt ?_ | with_reducible refine st_bk ?_ | with_reducible refine st_ct ?_ | with_reducible refine st_bind1 ?_ | with_reducible refine st_v (by with_unfolding_all rfl) ?_ | with_reducible refine st_seq ?_ | with_reducible refine st_skip ?_ | with_reducible refine st_asg ?_ | with_reducible refine st_ret ?_ | with_reducible refine st_if ?_ | with_reducible refine st_for ?_ | with_reducible refine st_par2 ?_ | with_reducible refine st_par3 ?_ | with_reducible refine st_asgT ?_ | with_reducible refine st_drop ?_ | with_reducible refine st_brk ?_ | with_reducible refine st_cnt ?_ | with_reducible refine st_tE ?_ | with_reducible refine st_tCmp ?_ | with_reducible refine st_tNt ?_ | with_reducible refine st_tAn ?_ | with_reducible refine st_tO ?_ | with_reducible refine st_tT ?_ | with_reducible refine st_c ?_ | with_reducible refine st_tr ?_ | with_reducible refine st_fz ?_ | with_reducible refine st_op ?_ | with_reducible refine st_call ?_ | with_reducible refine st_callK ?_ | with_reducible refine st_lst ?_ | with_reducible refine st_tup ?_ | with_reducible refine st_sl ?_ | with_reducible refine st_eif ?_ | with_reducible refine st_and ?_ | with_reducible refine st_or ?_ | with_reducible refine st_not ?_ | with_reducible refine st_neg ?_ | with_reducible refine st_isi ?_ | with_reducible refine st_lc ?_ | with_reducible refine st_dc ?_ | with_reducible refine st_anil ?_ | with_reducible refine st_acons ?_ | with_reducible refine st_ono ?_ | with_reducible refine st_osome ?_ | with_reducible refine st_iseq ?_ | with_reducible refine st_irg1 ?_ | with_reducible refine st_izp ?_ | with_reducible refine sd_addI ?_ | with_reducible refine sd_subI ?_ | with_reducible refine sd_lenL ?_ | with_reducible refine sd_lenT ?_ | with_reducible refine sd_list ?_ | with_reducible refine sd_tuple ?_ | with_reducible refine sd_lt ?_ | with_reducible refine sd_le ?_ | with_reducible refine sd_gt ?_ | with_reducible refine sd_ge ?_ | with_reducible refine sd_eqI ?_ | with_reducible refine sd_neI ?_ | with_reducible refine sd_eqS ?_ | with_reducible refine sd_neS ?_ | with_reducible refine sd_slL ?_ | with_reducible refine sd_slT ?_ | with_reducible refine sd_int ?_ | with_reducible refine st_app (by with_unfolding_all rfl) ?_ | with_reducible refine st_clr (by with_unfolding_all rfl) ?_ | with_reducible refine st_retO (by with_unfolding_all rfl) ?_ | with_reducible refine st_retV (by with_unfolding_all rfl) ?_ | with_reducible refine st_aug (by with_unfolding_all rfl) ?_ | with_reducible refine And.intro (by with_unfolding_all rfl) ?_ | with_reducible refine Exists.intro _ (And.intro (by with_unfolding_all rfl) ?_) | with_reducible refine And.intro (le_size (by with_unfolding_all rfl)) ?_ | with_reducible refine st_frz (by with_unfolding_all rfl) ?_))
            refine wh_by (J := fun _ δ => δ = _) ?_ (n := 0) rfl
            rintro _ _ N' rfl hN'
            (repeat (first | with_reducible refine ss_ix (by assumption) (by assumption) ?_ | with_reducible refine ss_len (by assumption) ?_ | with_reducible refine ss_in ?_ | with_reducible refine ss_nin ?_ | with_reducible refine ss_eq ?_ | with_reducible refine ss_ne ?_ | with_reducible refine ss_mid (by assumption) ?_ | with_reducible refine ss_to (by assumption) ?_ | with_reducible refine ss_from (by assumption) ?_ | with_reducible refine ss_is ?_ | with_reducible refine ss_isnt ?_ | with_reducible refine ss_aug ?_ | with_reducible refine st_nx ?_ | with_reducible refine st_rt ?_ | with_reducible refine st_bk ?_ | with_reducible refine st_ct ?_ | with_reducible refine st_bind1 ?_ | with_reducible refine st_v (by with_unfolding_all rfl) ?_ | with_reducible refine st_seq ?_ | with_reducible refine st_skip ?_ | with_reducible refine st_asg ?_ | with_reducible refine st_ret ?_ | with_reducible refine st_if ?_ | with_reducible refine st_for ?_ | with_reducible refine st_par2 ?_ | with_reducible refine st_par3 ?_ | with_reducible refine st_asgT ?_ | with_reducible refine st_drop ?_ | with_reducible refine st_brk ?_ | with_reducible refine st_cnt ?_ | with_reducible refine st_tE ?_ | with_reducible refine st_tCmp ?_ | with_reducible refine st_tNt ?_ | with_reducible refine st_tAn ?_ | with_reducible refine st_tO ?_ | with_reducible refine st_tT ?_ | with_reducible refine st_c ?_ | with_reducible refine st_tr ?_ | with_reducible refine st_fz ?_ | with_reducible refine st_op ?_ | with_reducible refine st_call ?_ | with_reducible refine st_callK ?_ | with_reducible refine st_lst ?_ | with_reducible refine st_tup ?_ | with_reducible refine st_sl ?_ | with_reducible refine st_eif ?_ | with_reducible refine st_and ?_ | with_reducible refine st_or ?_ | with_reducible refine st_not ?_ | with_reducible refine st_neg ?_ | with_reducible refine st_isi ?_ | with_reducible refine st_lc ?_ | with_reducible refine st_dc ?_ | with_reducible refine st_anil ?_ | with_reducible refine st_acons ?_ | with_reducible refine st_ono ?_ | with_reducible refine st_osome ?_ | with_reducible refine st_iseq ?_ | with_reducible refine st_irg1 ?_ | with_reducible refine st_izp ?_ | with_reducible refine sd_addI ?_ | with_reducible refine sd_subI ?_ | with_reducible refine sd_lenL ?_ | with_reducible refine sd_lenT ?_ | with_reducible refine sd_list ?_ | with_reducible refine sd_tuple ?_ | with_reducible refine sd_lt ?_ | with_reducible refine sd_le ?_ | with_reducible refine sd_gt ?_ | with_reducible refine sd_ge ?_ | with_reducible refine sd_eqI ?_ | with_reducible refine sd_neI ?_ | with_reducible refine sd_eqS ?_ | with_reducible refine sd_neS ?_ | with_reducible refine sd_slL ?_ | with_reducible refine sd_slT ?_ | with_reducible refine sd_int ?_ | with_reducible refine st_app (by with_unfolding_all rfl) ?_ | with_reducible refine st_clr (by with_unfolding_all rfl) ?_ | with_reducible refine st_retO (by with_unfolding_all rfl) ?_ | with_reducible refine st_retV (by with_unfolding_all rfl) ?_ | with_reducible refine st_aug (by with_unfolding_all rfl) ?_ | with_reducible refine And.intro (by with_unfolding_all rfl) ?_ | with_reducible refine Exists.intro _ (And.intro (by with_unfolding_all rfl) ?_) | with_reducible refine And.intro (le_size (by with_unfolding_all rfl)) ?_ | with_reducible refine st_frz (by with_unfolding_all rfl) ?_))
            rw [decide_eq_true rfl]
            refine iteF (iteF ?_)
            (repeat (first | with_reducible refine ss_ix (by assumption) (by assumption) ?_ | with_reducible refine ss_len (by assumption) ?_ | with_reducible refine ss_in ?_ | with_reducible refine ss_nin ?_ | with_reducible refine ss_eq ?_ | with_reducible refine ss_ne ?_ | with_reducible refine ss_mid (by assumption) ?_ | with_reducible refine ss_to (by assumption) ?_ | with_reducible refine ss_from (by assumption) ?_ | with_reducible refine ss_is ?_ | with_reducible refine ss_isnt ?_ | with_reducible refine ss_aug ?_ | with_reducible refine st_nx ?_ | with_reducible refine st_rt ?_ | with_reducible refine st_bk ?_ | with_reducible refine st_ct ?_ | with_reducible refine st_bind1 ?_ | with_reducible refine st_v (by with_unfolding_all rfl) ?_ | with_reducible refine st_seq ?_ | with_reducible refine st_skip ?_ | with_reducible refine st_asg ?_ | with_reducible refine st_ret ?_ | with_reducible refine st_if ?_ | with_reducible refine st_for ?_ | with_reducible refine st_par2 ?_ | with_reducible refine st_par3 ?_ | with_reducible refine st_asgT ?_ | with_reducible refine st_drop ?_ | with_reducible refine st_brk ?_ | with_reducible refine st_cnt ?_ | with_reducible refine st_tE ?_ | with_reducible refine st_tCmp ?_ | with_reducible refine st_tNt ?_ | with_reducible refine st_tAn ?_ | with_reducible refine st_tO ?_ | with_reducible refine st_tT ?_ | with_reducible refine st_c ?_ | with_reducible refine st_tr ?_ | with_reducible refine st_fz ?_ | with_reducible refine st_op ?_ | with_reducible refine st_call ?_ | with_reducible refine st_callK ?_ | with_reducible refine st_lst ?_ | with_reducible refine st_tup ?_ | with_reducible refine st_sl ?_ | with_reducible refine st_eif ?_ | with_reducible refine st_and ?_ | with_reducible refine st_or ?_ | with_reducible refine st_not ?_ | with_reducible refine st_neg ?_ | with_reducible refine st_isi ?_ | with_reducible refine st_lc ?_ | with_reducible refine st_dc ?_ | with_reducible refine st_anil ?_ | with_reducible refine st_acons ?_ | with_reducible refine st_ono ?_ | with_reducible refine st_osome ?_ | with_reducible refine st_iseq ?_ | with_reducible refine st_irg1 ?_ | with_reducible refine st_izp ?_ | with_reducible refine sd_addI ?_ | with_reducible refine sd_subI ?_ | with_reducible refine sd_lenL ?_ | with_reducible refine sd_lenT ?_ | with_reducible refine sd_list ?_ | with_reducible refine sd_tuple ?_ | with_reducible refine sd_lt ?_ | with_reducible refine sd_le ?_ | with_reducible refine sd_gt ?_ | with_reducible refine sd_ge ?_ | with_reducible refine sd_eqI ?_ | with_reducible refine sd_neI ?_ | with_reducible refine sd_eqS ?_ | with_reducible refine sd_neS ?_ | with_reducible refine sd_slL ?_ | with_reducible refine sd_slT ?_ | with_reducible refine sd_int ?_ | with_reducible refine st_app (by with_unfolding_all rfl) ?_ | with_reducible refine st_clr (by with_unfolding_all rfl) ?_ | with_reducible refine st_retO (by with_unfolding_all rfl) ?_ | with_reducible refine st_retV (by with_unfolding_all rfl) ?_ | with_reducible refine st_aug (by with_unfolding_all rfl) ?_ | with_reducible refine And.intro (by with_unfolding_all rfl) ?_ | with_reducible refine Exists.intro _ (And.intro (by with_unfolding_all rfl) ?_) | with_reducible refine And.intro (le_size (by with_unfolding_all rfl)) ?_ | with_reducible refine st_frz (by with_unfolding_all rfl) ?_))
            have e1 : (cs.drop k).take (k + 1 - k) = [c] := by
              obtain ⟨h7, h8⟩ := List.getElem?_eq_some_iff.mp hc
              rw [List.drop_eq_getElem_cons h7, h8, Nat.add_sub_cancel_left]
              rfl
            rw [e1]
            rw [decide_eq_false (p := [] = dL) (fun z => dL_ne z.symm)]
            refine iteF (iteF ?_)
            (repeat (first | with_reducible refine ss_ix (by assumption) (by assumption) ?_ | with_reducible refine ss_len (by assumption) ?_ | with_reducible refine ss_in ?_ | with_reducible refine ss_nin ?_ | with_reducible refine ss_eq ?_ | with_reducible refine ss_ne ?_ | with_reducible refine ss_mid (by assumption) ?_ | with_reducible refine ss_to (by assumption) ?_ | with_reducible refine ss_from (by assumption) ?_ | with_reducible refine ss_is ?_ | with_reducible refine ss_isnt ?_ | with_reducible refine ss_aug ?_ | with_reducible refine st_nx ?_ | with_reducible refine st_rt ?_ | with_reducible refine st_bk ?_ | with_reducible refine st_ct ?_ | with_reducible refine st_bind1 ?_ | with_reducible refine st_v (by with_unfolding_all rfl) ?_ | with_reducible refine st_seq ?_ | with_reducible refine st_skip ?_ | with_reducible refine st_asg ?_ | with_reducible refine st_ret ?_ | with_reducible refine st_if ?_ | with_reducible refine st_for ?_ | with_reducible refine st_par2 ?_ | with_reducible refine st_par3 ?_ | with_reducible refine st_asgT ?_ | with_reducible refine st_drop ?_ | with_reducible refine st_brk ?_ | with_reducible refine st_cnt ?_ | with_reducible refine st_tE ?_ | with_reducible refine st_tCmp ?_ | with_reducible refine st_tNt ?_ | with_reducible refine st_tAn ?_ | with_reducible refine st_tO ?_ | with_reducible refine st_tT ?_ | with_reducible refine st_c ?_ | with_reducible refine st_tr ?_ | with_reducible refine st_fz ?_ | with_reducible refine st_op ?_ | with_reducible refine st_call ?_ | with_reducible refine st_callK ?_ | with_reducible refine st_lst ?_ | with_reducible refine st_tup ?_ | with_reducible refine st_sl ?_ | with_reducible refine st_eif ?_ | with_reducible refine st_and ?_ | with_reducible refine st_or ?_ | with_reducible refine st_not ?_ | with_reducible refine st_neg ?_ | with_reducible refine st_isi ?_ | with_reducible refine st_lc ?_ | with_reducible refine st_dc ?_ | with_reducible refine st_anil ?_ | with_reducible refine st_acons ?_ | with_reducible refine st_ono ?_ | with_reducible refine st_osome ?_ | with_reducible refine st_iseq ?_ | with_reducible refine st_irg1 ?_ | with_reducible refine st_izp ?_ | with_reducible refine sd_addI ?_ | with_reducible refine sd_subI ?_ | with_reducible refine sd_lenL ?_ | with_reducible refine sd_lenT ?_ | with_reducible refine sd_list ?_ | with_reducible refine sd_tuple ?_ | with_reducible refine sd_lt ?_ | with_reducible refine sd_le ?_ | with_reducible refine sd_gt ?_ | with_reducible refine sd_ge ?_ | with_reducible refine sd_eqI ?_ | with_reducible refine sd_neI ?_ | with_reducible refine sd_eqS ?_ | with_reducible refine sd_neS ?_ | with_reducible refine sd_slL ?_ | with_reducible refine sd_slT ?_ | with_reducible refine sd_int ?_ | with_reducible refine st_app (by with_unfolding_all rfl) ?_ | with_reducible refine st_clr (by with_unfolding_all rfl) ?_ | with_reducible refine st_retO (by with_unfolding_all rfl) ?_ | with_reducible refine st_retV (by with_unfolding_all rfl) ?_ | with_reducible refine st_aug (by with_unfolding_all rfl) ?_ | with_reducible refine And.intro (by with_unfolding_all rfl) ?_ | with_reducible refine Exists.intro _ (And.intro (by with_unfolding_all rfl) ?_) | with_reducible refine And.intro (le_size (by with_unfolding_all rfl)) ?_ | with_reducible refine st_frz (by with_unfolding_all rfl) ?_))
            refine hlet ?_
            (repeat (first | with_reducible refine ss_ix (by assumption) (by assumption) ?_ | with_reducible refine ss_len (by assumption) ?_ | with_reducible refine ss_in ?_ | with_reducible refine ss_nin ?_ | with_reducible refine ss_eq ?_ | with_reducible refine ss_ne ?_ | with_reducible refine ss_mid (by assumption) ?_ | with_reducible refine ss_to (by assumption) ?_ | with_reducible refine ss_from (by assumption) ?_ | with_reducible refine ss_is ?_ | with_reducible refine ss_isnt ?_ | with_reducible refine ss_aug ?_ | with_reducible refine st_nx ?_ | with_reducible refine st_rt ?_ | with_reducible refine st_bk ?_ | with_reducible refine st_ct ?_ | with_reducible refine st_bind1 ?_ | with_reducible refine st_v (by with_unfolding_all rfl) ?_ | with_reducible refine st_seq ?_ | with_reducible refine st_skip ?_ | with_reducible refine st_asg ?_ | with_reducible refine st_ret ?_ | with_reducible refine st_if ?_ | with_reducible refine st_for ?_ | with_reducible refine st_par2 ?_ | with_reducible refine st_par3 ?_ | with_reducible refine st_asgT ?_ | with_reducible refine st_drop ?_ | with_reducible refine st_brk ?_ | with_reducible refine st_cnt ?_ | with_reducible refine st_tE ?_ | with_reducible refine st_tCmp ?_ | with_reducible refine st_tNt ?_ | with_reducible refine st_tAn ?_ | with_reducible refine st_tO ?_ | with_reducible refine st_tT ?_ | with_reducible refine st_c ?_ | with_reducible refine st_tr ?_ | with_reducible refine st_fz ?_ | with_reducible refine st_op ?_ | with_reducible refine st_call ?_ | with_reducible refine st_callK ?_ | with_reducible refine st_lst ?_ | with_reducible refine st_tup ?_ | with_reducible refine st_sl ?_ | with_reducible refine st_eif ?_ | with_reducible refine st_and ?_ | with_reducible refine st_or ?_ | with_reducible refine st_not ?_ | with_reducible refine st_neg ?_ | with_reducible refine st_isi ?_ | with_reducible refine st_lc ?_ | with_reducible refine st_dc ?_ | with_reducible refine st_anil ?_ | with_reducible refine st_acons ?_ | with_reducible refine st_ono ?_ | with_reducible refine st_osome ?_ | with_reducible refine st_iseq ?_ | with_reducible refine st_irg1 ?_ | with_reducible refine st_izp ?_ | with_reducible refine sd_addI ?_ | with_reducible refine sd_subI ?_ | with_reducible refine sd_lenL ?_ | with_reducible refine sd_lenT ?_ | with_reducible refine sd_list ?_ | with_reducible refine sd_tuple ?_ | with_reducible refine sd_lt ?_ | with_reducible refine sd_le ?_ | with_reducible refine sd_gt ?_ | with_reducible refine sd_ge ?_ | with_reducible refine sd_eqI ?_ | with_reducible refine sd_neI ?_ | with_reducible refine sd_eqS ?_ | with_reducible refine sd_neS ?_ | with_reducible refine sd_slL ?_ | with_reducible refine sd_slT ?_ | with_reducible refine sd_int ?_ | with_reducible refine st_app (by with_unfolding_all rfl) ?_ | with_reducible refine st_clr (by with_unfolding_all rfl) ?_ | with_reducible refine st_retO (by with_unfolding_all rfl) ?_ | with_reducible refine st_retV (by with_unfolding_all rfl) ?_ | with_reducible refine st_aug (by with_unfolding_all rfl) ?_ | with_reducible refine And.intro (by with_unfolding_all rfl) ?_ | with_reducible refine Exists.intro _ (And.intro (by with_unfolding_all rfl) ?_) | with_reducible refine And.intro (le_size (by with_unfolding_all rfl)) ?_ | with_reducible refine st_frz (by with_unfolding_all rfl) ?_))
            rw [decide_eq_false (p := [] = aL) (fun z => aL_ne z.symm)]
            refine iteF (iteF ?_)
            (repeat (first | with_reducible refine ss_ix (by assumption) (by assumption) ?_ | with_reducible refine ss_len (by assumption) ?_ | with_reducible refine ss_in ?_ | with_reducible refine ss_nin ?_ | with_reducible refine ss_eq ?_ | with_reducible refine ss_ne ?_ | with_reducible refine ss_mid (by assumption) ?_ | with_reducible refine ss_to (by assumption) ?_ | with_reducible refine ss_from (by assumption) ?_ | with_reducible refine ss_is ?_ | with_reducible refine ss_isnt ?_ | with_reducible refine ss_aug ?_ | with_reducible refine st_nx ?_ | with_reducible refine st_rt ?_ | with_reducible refine st_bk ?_ | with_reducible refine st_ct ?_ | with_reducible refine st_bind1 ?_ | with_reducible refine st_v (by with_unfolding_all rfl) ?_ | with_reducible refine st_seq ?_ | with_reducible refine st_skip ?_ | with_reducible refine st_asg ?_ | with_reducible refine st_ret ?_ | with_reducible refine st_if ?_ | with_reducible refine st_for ?_ | with_reducible refine st_par2 ?_ | with_reducible refine st_par3 ?_ | with_reducible refine st_asgT ?_ | with_reducible refine st_drop ?_ | with_reducible refine st_brk ?_ | with_reducible refine st_cnt ?_ | with_reducible refine st_tE ?_ | with_reducible refine st_tCmp ?_ | with_reducible refine st_tNt ?_ | with_reducible refine st_tAn ?_ | with_reducible refine st_tO ?_ | with_reducible refine st_tT ?_ | with_reducible refine st_c ?_ | with_reducible refine st_tr ?_ | with_reducible refine st_fz ?_ | with_reducible refine st_op ?_ | with_reducible refine st_call ?_ | with_reducible refine st_callK ?_ | with_reducible refine st_lst ?_ | with_reducible refine st_tup ?_ | with_reducible refine st_sl ?_ | with_reducible refine st_eif ?_ | with_reducible refine st_and ?_ | with_reducible refine st_or ?_ | with_reducible refine st_not ?_ | with_reducible refine st_neg ?_ | with_reducible refine st_isi ?_ | with_reducible refine st_lc ?_ | with_reducible refine st_dc ?_ | with_reducible refine st_anil ?_ | with_reducible refine st_acons ?_ | with_reducible refine st_ono ?_ | with_reducible refine st_osome ?_ | with_reducible refine st_iseq ?_ | with_reducible refine st_irg1 ?_ | with_reducible refine st_izp ?_ | with_reducible refine sd_addI ?_ | with_reducible refine sd_subI ?_ | with_reducible refine sd_lenL ?_ | with_reducible refine sd_lenT ?_ | with_reducible refine sd_list ?_ | with_reducible refine sd_tuple ?_ | with_reducible refine sd_lt ?_ | with_reducible refine sd_le ?_ | with_reducible refine sd_gt ?_ | with_reducible refine sd_ge ?_ | with_reducible refine sd_eqI ?_ | with_reducible refine sd_neI ?_ | with_reducible refine sd_eqS ?_ | with_reducible refine sd_neS ?_ | with_reducible refine sd_slL ?_ | with_reducible refine sd_slT ?_ | with_reducible refine sd_int ?_ | with_reducible refine st_app (by with_unfolding_all rfl) ?_ | with_reducible refine st_clr (by with_unfolding_all rfl) ?_ | with_reducible refine st_retO (by with_unfolding_all rfl) ?_ | with_reducible refine st_retV (by with_unfolding_all rfl) ?_ | with_reducible refine st_aug (by with_unfolding_all rfl) ?_ | with_reducible refine And.intro (by with_unfolding_all rfl) ?_ | with_reducible refine Exists.intro _ (And.intro (by with_unfolding_all rfl) ?_) | with_reducible refine And.intro (le_size (by with_unfolding_all rfl)) ?_ | with_reducible refine st_frz (by with_unfolding_all rfl) ?_))
            rw [decide_eq_true rfl]
            refine iteT ?_
            (repeat (first | with_reducible refine ss_ix (by assumption) (by assumption) ?_ | with_reducible refine ss_len (by assumption) ?_ | with_reducible refine ss_in ?_ | with_reducible refine ss_nin ?_ | with_reducible refine ss_eq ?_ | with_reducible refine ss_ne ?_ | with_reducible refine ss_mid (by assumption) ?_ | with_reducible refine ss_to (by assumption) ?_ | with_reducible refine ss_from (by assumption) ?_ | with_reducible refine ss_is ?_ | with_reducible refine ss_isnt ?_ | with_reducible refine ss_aug ?_ | with_reducible refine st_nx ?_ | with_reducible refine st_rt ?_ | with_reducible refine st_bk ?_ | with_reducible refine st_ct ?_ | with_reducible refine st_bind1 ?_ | with_reducible refine st_v (by with_unfolding_all rfl) ?_ | with_reducible refine st_seq ?_ | with_reducible refine st_skip ?_ | with_reducible refine st_asg ?_ | with_reducible refine st_ret ?_ | with_reducible refine st_if ?_ | with_reducible refine st_for ?_ | with_reducible refine st_par2 ?_ | with_reducible refine st_par3 ?_ | with_reducible refine st_asgT ?_ | with_reducible refine st_drop ?_ | with_reducible refine st_brk ?_ | with_reducible refine st_cnt ?_ | with_reducible refine st_tE ?_ | with_reducible refine st_tCmp ?_ | with_reducible refine st_tNt ?_ | with_reducible refine st_tAn ?_ | with_reducible refine st_tO ?_ | with_reducible refine st_tT ?_ | with_reducible refine st_c ?_ | with_reducible refine st_tr ?_ | with_reducible refine st_fz ?_ | with_reducible refine st_op ?_ | with_reducible refine st_call ?_ | with_reducible refine st_callK ?_ | with_reducible refine st_lst ?_ | with_reducible refine st_tup ?_ | with_reducible refine st_sl ?_ | with_reducible refine st_eif ?_ | with_reducible refine st_and ?_ | with_reducible refine st_or ?_ | with_reducible refine st_not ?_ | with_reducible refine st_neg ?_ | with_reducible refine st_isi ?_ | with_reducible refine st_lc ?_ | with_reducible refine st_dc ?_ | with_reducible refine st_anil ?_ | with_reducible refine st_acons ?_ | with_reducible refine st_ono ?_ | with_reducible refine st_osome ?_ | with_reducible refine st_iseq ?_ | with_reducible refine st_irg1 ?_ | with_reducible refine st_izp ?_ | with_reducible refine sd_addI ?_ | with_reducible refine sd_subI ?_ | with_reducible refine sd_lenL ?_ | with_reducible refine sd_lenT ?_ | with_reducible refine sd_list ?_ | with_reducible refine sd_tuple ?_ | with_reducible refine sd_lt ?_ | with_reducible refine sd_le ?_ | with_reducible refine sd_gt ?_ | with_reducible refine sd_ge ?_ | with_reducible refine sd_eqI ?_ | with_reducible refine sd_neI ?_ | with_reducible refine sd_eqS ?_ | with_reducible refine sd_neS ?_ | with_reducible refine sd_slL ?_ | with_reducible refine sd_slT ?_ | with_reducible refine sd_int ?_ | with_reducible refine st_app (by with_unfolding_all rfl) ?_ | with_reducible refine st_clr (by with_unfolding_all rfl) ?_ | with_reducible refine st_retO (by with_unfolding_all rfl) ?_ | with_reducible refine st_retV (by with_unfolding_all rfl) ?_ | with_reducible refine st_aug (by with_unfolding_all rfl) ?_ | with_reducible refine And.intro (by with_unfolding_all rfl) ?_ | with_reducible refine Exists.intro _ (And.intro (by with_unfolding_all rfl) ?_) | with_reducible refine And.intro (le_size (by with_unfolding_all rfl)) ?_ | with_reducible refine st_frz (by with_unfolding_all rfl) ?_))
            refine ⟨st_len0 ha (by omega), ?_⟩
            (repeat (first | with_reducible refine ss_ix (by assumption) (by assumption) ?_ | with_reducible refine ss_len (by assumption) ?_ | with_reducible refine ss_in ?_ | with_reducible refine ss_nin ?_ | with_reducible refine ss_eq ?_ | with_reducible refine ss_ne ?_ | with_reducible refine ss_mid (by assumption) ?_ | with_reducible refine ss_to (by assumption) ?_ | with_reducible refine ss_from (by assumption) ?_ | with_reducible refine ss_is ?_ | with_reducible refine ss_isnt ?_ | with_reducible refine ss_aug ?_ | with_reducible refine st_nx ?_ | with_reducible refine st_rt ?_ | with_reducible refine st_bk ?_ | with_reducible refine st_ct ?_ | with_reducible refine st_bind1 ?_ | with_reducible refine st_v (by with_unfolding_all rfl) ?_ | with_reducible refine st_seq ?_ | with_reducible refine st_skip ?_ | with_reducible refine st_asg ?_ | with_reducible refine st_ret ?_ | with_reducible refine st_if ?_ | with_reducible refine st_for ?_ | with_reducible refine st_par2 ?_ | with_reducible refine st_par3 ?_ | with_reducible refine st_asgT ?_ | with_reducible refine st_drop ?_ | with_reducible refine st_brk ?_ | with_reducible refine st_cnt ?_ | with_reducible refine st_tE ?_ | with_reducible refine st_tCmp ?_ | with_reducible refine st_tNt ?_ | with_reducible refine st_tAn ?_ | with_reducible refine st_tO ?_ | with_reducible refine st_tT ?_ | with_reducible refine st_c ?_ | with_reducible refine st_tr ?_ | with_reducible refine st_fz ?_ | with_reducible refine st_op ?_ | with_reducible refine st_call ?_ | with_reducible refine st_callK ?_ | with_reducible refine st_lst ?_ | with_reducible refine st_tup ?_ | with_reducible refine st_sl ?_ | with_reducible refine st_eif ?_ | with_reducible refine st_and ?_ | with_reducible refine st_or ?_ | with_reducible refine st_not ?_ | with_reducible refine st_neg ?_ | with_reducible refine st_isi ?_ | with_reducible refine st_lc ?_ | with_reducible refine st_dc ?_ | with_reducible refine st_anil ?_ | with_reducible refine st_acons ?_ | with_reducible refine st_ono ?_ | with_reducible refine st_osome ?_ | with_reducible refine st_iseq ?_ | with_reducible refine st_irg1 ?_ | with_reducible refine st_izp ?_ | with_reducible refine sd_addI ?_ | with_reducible refine sd_subI ?_ | with_reducible refine sd_lenL ?_ | with_reducible refine sd_lenT ?_ | with_reducible refine sd_list ?_ | with_reducible refine sd_tuple ?_ | with_reducible refine sd_lt ?_ | with_reducible refine sd_le ?_ | with_reducible refine sd_gt ?_ | with_reducible refine sd_ge ?_ | with_reducible refine sd_eqI ?_ | with_reducible refine sd_neI ?_ | with_reducible refine sd_eqS ?_ | with_reducible refine sd_neS ?_ | with_reducible refine sd_slL ?_ | with_reducible refine sd_slT ?_ | with_reducible refine sd_int ?_ | with_reducible refine st_app (by with_unfolding_all rfl) ?_ | with_reducible refine st_clr (by with_unfolding_all rfl) ?_ | with_reducible refine st_retO (by with_unfolding_all rfl) ?_ | with_reducible refine st_retV (by with_unfolding_all rfl) ?_ | with_reducible refine st_aug (by with_unfolding_all rfl) ?_ | with_reducible refine And.intro (by with_unfolding_all rfl) ?_ | with_reducible refine Exists.intro _ (And.intro (by with_unfolding_all rfl) ?_) | with_reducible refine And.intro (le_size (by with_unfolding_all rfl)) ?_ | with_reducible refine st_frz (by with_unfolding_all rfl) ?_))
            exact hN (cs.length - (k + 1)) _ (by omega) ⟨k + 1, acc ++ [tok k "sign" (tx [c])], n, _, _, _, _, rfl, h, by rw [List.length_append]; simp; omega, by omega, by rw [List.append_assoc]; exact hR, rfl⟩
          · rw [decide_eq_false h4]
            refine iteT ?_
            rw [if_neg h4] at hR
            (repeat (first | with_reducible refine ss_ix (by assumption) (by assumption) ?_ | with_reducible refine ss_len (by assumption) ?_ | with_reducible refine ss_in ?_ | with_reducible refine ss_nin ?_ | with_reducible refine ss_eq ?_ | with_reducible refine ss_ne ?_ | with_reducible refine ss_mid (by assumption) ?_ | with_reducible refine ss_to (by assumption) ?_ | with_reducible refine ss_from (by assumption) ?_ | with_reducible refine ss_is ?_ | with_reducible refine ss_isnt ?_ | with_reducible refine ss_aug ?_ | with_reducible refine st_nx ?_ | with_reducible refine st_rt ?_ | with_reducible refine st_bk ?_ | with_reducible refine st_ct ?_ | with_reducible refine st_bind1 ?_ | with_reducible refine st_v (by with_unfolding_all rfl) ?_ | with_reducible refine st_seq ?_ | with_reducible refine st_skip ?_ | with_reducible refine st_asg ?_ | with_reducible refine st_ret ?_ | with_reducible refine st_if ?_ | with_reducible refine st_for ?_ | with_reducible refine st_par2 ?_ | with_reducible refine st_par3 ?_ | with_reducible refine st_asgT ?_ | with_reducible refine st_drop ?_ | with_reducible refine st_brk ?_ | with_reducible refine st_cnt ?_ | with_reducible refine st_tE ?_ | with_reducible refine st_tCmp ?_ | with_reducible refine st_tNt ?_ | with_reducible refine st_tAn ?_ | with_reducible refine st_tO ?_ | with_reducible refine st_tT ?_ | with_reducible refine st_c ?_ | with_reducible refine st_tr ?_ | with_reducible refine st_fz ?_ | with_reducible refine st_op ?_ | with_reducible refine st_call ?_ | with_reducible refine st_callK ?_ | with_reducible refine st_lst ?_ | with_reducible refine st_tup ?_ | with_reducible refine st_sl ?_ | with_reducible refine st_eif ?_ | with_reducible refine st_and ?_ | with_reducible refine st_or ?_ | with_reducible refine st_not ?_ | with_reducible refine st_neg ?_ | with_reducible refine st_isi ?_ | with_reducible refine st_lc ?_ | with_reducible refine st_dc ?_ | with_reducible refine st_anil ?_ | with_reducible refine st_acons ?_ | with_reducible refine st_ono ?_ | with_reducible refine st_osome ?_ | with_reducible refine st_iseq ?_ | with_reducible refine st_irg1 ?_ | with_reducible refine st_izp ?_ | with_reducible refine sd_addI ?_ | with_reducible refine sd_subI ?_ | with_reducible refine sd_lenL ?_ | with_reducible refine sd_lenT ?_ | with_reducible refine sd_list ?_ | with_reducible refine sd_tuple ?_ | with_reducible refine sd_lt ?_ | with_reducible refine sd_le ?_ | with_reducible refine sd_gt ?_ | with_reducible refine sd_ge ?_ | with_reducible refine sd_eqI ?_ | with_reducible refine sd_neI ?_ | with_reducible refine sd_eqS ?_ | with_reducible refine sd_neS ?_ | with_reducible refine sd_slL ?_ | with_reducible refine sd_slT ?_ | with_reducible refine sd_int ?_ | with_reducible refine st_app (by with_unfolding_all rfl) ?_ | with_reducible refine st_clr (by with_unfolding_all rfl) ?_ | with_reducible refine st_retO (by with_unfolding_all rfl) ?_ | with_reducible refine st_retV (by with_unfolding_all rfl) ?_ | with_reducible refine st_aug (by with_unfolding_all rfl) ?_ | with_reducible refine And.intro (by with_unfolding_all rfl) ?_ | with_reducible refine Exists.intro _ (And.intro (by with_unfolding_all rfl) ?_) | with_reducible refine And.intro (le_size (by with_unfolding_all rfl)) ?_ | with_reducible refine st_frz (by with_unfolding_all rfl) ?_))
            rw [eE]
            exact fin _ hR
  · rw [decide_eq_false (p := (k : Int) < (cs.length : Int)) (by omega)]
    refine iteF ?_
    have e : k = cs.length := by omega
    rw [tk_none (List.getElem?_eq_none (by omega))] at hR
    (repeat (first | with_reducible refine ss_ix (by assumption) (by assumption) ?_ | with_reducible refine ss_len (by assumption) ?_ | with_reducible refine ss_in ?_ | with_reducible refine ss_nin ?_ | with_reducible refine ss_eq ?_ | with_reducible refine ss_ne ?_ | with_reducible refine ss_mid (by assumption) ?_ | with_reducible refine ss_to (by assumption) ?_ | with_reducible refine ss_from (by assumption) ?_ | with_reducible refine ss_is ?_ | with_reducible refine ss_isnt ?_ | with_reducible refine ss_aug ?_ | with_reducible refine st_nx ?_ | with_reducible refine st_rt ?_ | with_reducible refine st_bk ?_ | with_reducible refine st_ct ?_ | with_reducible refine st_bind1 ?_ | with_reducible refine st_v (by with_unfolding_all rfl) ?_ | with_reducible refine st_seq ?_ | with_reducible refine st_skip ?_ | with_reducible refine st_asg ?_ | with_reducible refine st_ret ?_ | with_reducible refine st_if ?_ | with_reducible refine st_for ?_ | with_reducible refine st_par2 ?_ | with_reducible refine st_par3 ?_ | with_reducible refine st_asgT ?_ | with_reducible refine st_drop ?_ | with_reducible refine st_brk ?_ | with_reducible refine st_cnt ?_ | with_reducible refine st_tE ?_ | with_reducible refine st_tCmp ?_ | with_reducible refine st_tNt ?_ | with_reducible refine st_tAn ?_ | with_reducible refine st_tO ?_ | with_reducible refine st_tT ?_ | with_reducible refine st_c ?_ | with_reducible refine st_tr ?_ | with_reducible refine st_fz ?_ | with_reducible refine st_op ?_ | with_reducible refine st_call ?_ | with_reducible refine st_callK ?_ | with_reducible refine st_lst ?_ | with_reducible refine st_tup ?_ | with_reducible refine st_sl ?_ | with_reducible refine st_eif ?_ | with_reducible refine st_and ?_ | with_reducible refine st_or ?_ | with_reducible refine st_not ?_ | with_reducible refine st_neg ?_ | with_reducible refine st_isi ?_ | with_reducible refine st_lc ?_ | with_reducible refine st_dc ?_ | with_reducible refine st_anil ?_ | with_reducible refine st_acons ?_ | with_reducible refine st_ono ?_ | with_reducible refine st_osome ?_ | with_reducible refine st_iseq ?_ | with_reducible refine st_irg1 ?_ | with_reducible refine st_izp ?_ | with_reducible refine sd_addI ?_ | with_reducible refine sd_subI ?_ | with_reducible refine sd_lenL ?_ | with_reducible refine sd_lenT ?_ | with_reducible refine sd_list ?_ | with_reducible refine sd_tuple ?_ | with_reducible refine sd_lt ?_ | with_reducible refine sd_le ?_ | with_reducible refine sd_gt ?_ | with_reducible refine sd_ge ?_ | with_reducible refine sd_eqI ?_ | with_reducible refine sd_neI ?_ | with_reducible refine sd_eqS ?_ | with_reducible refine sd_neS ?_ | with_reducible refine sd_slL ?_ | with_reducible refine sd_slT ?_ | with_reducible refine sd_int ?_ | with_reducible refine st_app (by with_unfolding_all rfl) ?_ | with_reducible refine st_clr (by with_unfolding_all rfl) ?_ | with_reducible refine st_retO (by with_unfolding_all rfl) ?_ | with_reducible refine st_retV (by with_unfolding_all rfl) ?_ | with_reducible refine st_aug (by with_unfolding_all rfl) ?_ | with_reducible refine And.intro (by with_unfolding_all rfl) ?_ | with_reducible refine Exists.intro _ (And.intro (by with_unfolding_all rfl) ?_) | with_reducible refine And.intro (le_size (by with_unfolding_all rfl)) ?_ | with_reducible refine st_frz (by with_unfolding_all rfl) ?_))
    rw [e] at hR
    rw [eE]
    exact fin _ hR
end Law

namespace Law
open PySem L2 DI
/-- the tokens, seen as plain triples -/
def see : D → Option (Int × Str × Str)
  | .tup [.int a, .str k, .str w] => some (a, k, w)
  | _ => none
theorem see_inj {d e : D} {t : Int × Str × Str} (h : see d = some t) (g : see e = some t) : d = e := by
  have key : ∀ d : D, see d = some t → d = .tup [.int t.1, .str t.2.1, .str t.2.2] := by
    intro d h
    unfold see at h
    split at h
    · cases h; rfl
    · cases h
  rw [key d h, key e g]
theorem sees {ds es : List D} {ts : List (Int × Str × Str)} (h : ds.map see = ts.map some) (g : es.map see = ts.map some) : ds = es := by
  induction ts generalizing ds es with
  | nil =>
    rw [List.map_nil, List.map_eq_nil_iff] at h g
    rw [h, g]
  | cons t r ih =>
    cases ds with
    | nil => cases h
    | cons d ds =>
      cases es with
      | nil => cases g
      | cons e es =>
        rw [List.map_cons, List.map_cons] at h g
        injection h with h1 h2
        injection g with g1 g2
        rw [see_inj h1 g1, ih h2 g2]
theorem T1 : toks (Str.ofString "").cps.toList = [.tup [.int 0, .str "end", .str ""]] := sees (ts := [(0, "end", "")]) (by decide +kernel) rfl
theorem T2 : toks (Str.ofString "  ").cps.toList = [.tup [.int 2, .str "end", .str ""]] := sees (ts := [(2, "end", "")]) (by decide +kernel) rfl
theorem T3 : toks (Str.ofString "ab1").cps.toList = [.tup [.int 0, .str "word", .str "ab"], .tup [.int 2, .str "number", .str "1"], .tup [.int 3, .str "end", .str ""]] := sees (ts := [(0, "word", "ab"), (2, "number", "1"), (3, "end", "")]) (by decide +kernel) rfl
theorem T4 : toks (Str.ofString "1ab").cps.toList = [.tup [.int 0, .str "number", .str "1"], .tup [.int 1, .str "word", .str "ab"], .tup [.int 3, .str "end", .str ""]] := sees (ts := [(0, "number", "1"), (1, "word", "ab"), (3, "end", "")]) (by decide +kernel) rfl
theorem T5 : toks (Str.ofString "a  <{").cps.toList = [.tup [.int 0, .str "word", .str "a"], .tup [.int 3, .str "sign", .str "<"], .tup [.int 4, .str "sign", .str "{"], .tup [.int 5, .str "end", .str ""]] := sees (ts := [(0, "word", "a"), (3, "sign", "<"), (4, "sign", "{"), (5, "end", "")]) (by decide +kernel) rfl
theorem T6 : toks (Str.ofString "abcdefg 01").cps.toList = [.tup [.int 0, .str "bad word", .str ""]] := sees (ts := [(0, "bad word", "")]) (by decide +kernel) rfl
theorem T7 : toks (Str.ofString "01 ?").cps.toList = [.tup [.int 0, .str "bad number", .str ""]] := sees (ts := [(0, "bad number", "")]) (by decide +kernel) rfl
end Law

namespace Law
open PySem L2 DI
def SD (k : Nat) (d : D) : Prop := ∃ p : List Nat, d = .str (tx p) ∧ p.length ≤ k
theorem sd_lit {s : Str} {k : Nat} (h : s.cps.toList.length ≤ k) : SD k (.str s) := ⟨s.cps.toList, by rw [← tx_of], h⟩
theorem tk_tok {m : Nat} (cs : List Nat) : ∀ (n a : Nat), ∀ d ∈ tk cs n a, plainN (m + 2) d
  | 0, _, d, h => by cases h
  | n + 1, a, d, h => by
    have ht : ∀ (a : Nat) (s t : Str), plainN (m + 2) (tok a s t) := fun a s t => ⟨by show 3 ≤ sizeLine; decide, fun x hx => by
      simp only [List.mem_cons, List.not_mem_nil, or_false] at hx
      rcases hx with e | e | e <;> subst e <;> trivial⟩
    cases hc : cs[a]? with
    | none =>
      rw [tk_none hc, List.mem_singleton] at h
      subst h
      exact ht _ _ _
    | some c =>
      rw [tk_some hc] at h
      unfold tkC at h
      split at h
      · exact tk_tok cs n _ d h
      · split at h
        · split at h
          · rw [List.mem_singleton] at h; subst h; exact ht _ _ _
          · rcases List.mem_cons.mp h with e | e
            · subst e; exact ht _ _ _
            · exact tk_tok cs n _ d e
        · split at h
          · split at h
            · rw [List.mem_singleton] at h; subst h; exact ht _ _ _
            · rcases List.mem_cons.mp h with e | e
              · subst e; exact ht _ _ _
              · exact tk_tok cs n _ d e
          · split at h
            · rcases List.mem_cons.mp h with e | e
              · subst e; exact ht _ _ _
              · exact tk_tok cs n _ d e
            · rw [List.mem_singleton] at h; subst h; exact ht _ _ _
theorem tk_len (cs : List Nat) : ∀ (n a : Nat), (tk cs n a).length ≤ n
  | 0, _ => Nat.zero_le _
  | n + 1, a => by
    cases hc : cs[a]? with
    | none => rw [tk_none hc]; exact Nat.succ_le_succ (Nat.zero_le _)
    | some c =>
      rw [tk_some hc]
      unfold tkC
      have i1 := tk_len cs n (a + 1)
      have i2 := tk_len cs n (runE aL cs a)
      have i3 := tk_len cs n (runE dL cs a)
      split
      · omega
      · split
        · split
          · simp
          · simp; omega
        · split
          · split
            · simp
            · simp; omega
          · split
            · simp; omega
            · simp
theorem toks_plain {m : Nat} (cs : List Nat) (hl : cs.length ≤ 99999) : plainN (m + 3) (.lst (toks cs)) := ⟨size5 (Nat.le_trans (tk_len cs _ _) (by omega)), fun d hd => tk_tok cs _ _ d hd⟩
theorem pair_plain {m : Nat} {d : D} (h : plainN (m + 3) d) : plainN (m + 4) (.lst [d, d]) := ⟨by show 2 ≤ sizeLine; decide, fun x hx => by
  simp only [List.mem_cons, List.not_mem_nil, or_false, or_self] at hx
  subst hx
  exact h⟩
theorem sd_cases {k : Nat} {d : D} {xs : List D} (h : ∀ x ∈ xs, SD k x) (hd : d ∈ xs) : SD k d := h d hd
section
variable {S_same S_ltok S_draw S_tok S_of S_let S_kw : DI.Spec} {kws : List D}
theorem law_core (hdraw : ∀ {n : Int} {Q : Rz → Prop}, 0 < n → n < 1000000000 → (∀ k : Nat, (k : Int) < n → Q (.val (.int (k : Int)))) → S_draw [.bag, .int n] Q)
    (hof : ∀ {ds : List D} {Q : Rz → Prop}, ds.length ≤ 1000000 → ds ≠ [] → (∀ d ∈ ds, Q (.val d)) → S_of [.bag, .lst ds] Q)
    (hofs : ∀ {z : Str} {Q : Rz → Prop}, z.length ≤ 1000000 → 0 < z.length → (∀ c, Q (.val (.str (tx [c])))) → S_of [.bag, .str z] Q)
    (hsame : ∀ (d : D) {Q : Rz → Prop}, plainN 8 d → Q (.val (.bl true)) → S_same [d, d] Q)
    (hlet : ∀ {Q : Rz → Prop}, Q (.val (.str (tx aL))) → S_let [] Q)
    (hkw : ∀ {Q : Rz → Prop}, Q (.new kws) → S_kw [] Q) (kw1 : kws.length = 10) (kw2 : ∀ d ∈ kws, SD 20 d)
    (htok : ∀ {cs : List Nat} {Q : Rz → Prop}, cs.length ≤ 100000 → Q (.new (toks cs)) → S_tok [.str (tx cs)] Q)
    (hltok : ∀ {cs : List Nat} {Q : Rz → Prop}, cs.length ≤ 100000 → Q (.new (toks cs)) → S_ltok [.str (tx cs)] Q) :
    lawS 15 (b_law S_same S_ltok S_draw S_tok S_of S_let S_kw) := by
  unfold lawS b_law
  (repeat (first | with_reducible refine st_nx ?_ | with_reducible refine st_rt ?_ | with_reducible refine st_bk ?_ | with_reducible refine st_ct ?_ | with_reducible refine st_bind1 ?_ | with_reducible refine st_v (by with_unfolding_all rfl) ?_ | with_reducible refine st_seq ?_ | with_reducible refine st_skip ?_ | with_reducible refine st_asg ?_ | with_reducible refine st_ret ?_ | with_reducible refine st_if ?_ | with_reducible refine st_for ?_ | with_reducible refine st_par2 ?_ | with_reducible refine st_par3 ?_ | with_reducible refine st_asgT ?_ | with_reducible refine st_drop ?_ | with_reducible refine st_brk ?_ | with_reducible refine st_cnt ?_ | with_reducible refine st_tE ?_ | with_reducible refine st_tCmp ?_ | with_reducible refine st_tNt ?_ | with_reducible refine st_tAn ?_ | with_reducible refine st_tO ?_ | with_reducible refine st_tT ?_ | with_reducible refine st_c ?_ | with_reducible refine st_tr ?_ | with_reducible refine st_fz ?_ | with_reducible refine st_op ?_ | with_reducible refine st_call ?_ | with_reducible refine st_callK ?_ | with_reducible refine st_lst ?_ | with_reducible refine st_tup ?_ | with_reducible refine st_sl ?_ | with_reducible refine st_eif ?_ | with_reducible refine st_and ?_ | with_reducible refine st_or ?_ | with_reducible refine st_not ?_ | with_reducible refine st_neg ?_ | with_reducible refine st_isi ?_ | with_reducible refine st_lc ?_ | with_reducible refine st_dc ?_ | with_reducible refine st_anil ?_ | with_reducible refine st_acons ?_ | with_reducible refine st_ono ?_ | with_reducible refine st_osome ?_ | with_reducible refine st_iseq ?_ | with_reducible refine st_irg1 ?_ | with_reducible refine st_izp ?_ | with_reducible refine sd_addI ?_ | with_reducible refine sd_subI ?_ | with_reducible refine sd_lenL ?_ | with_reducible refine sd_lenT ?_ | with_reducible refine sd_list ?_ | with_reducible refine sd_tuple ?_ | with_reducible refine sd_lt ?_ | with_reducible refine sd_le ?_ | with_reducible refine sd_gt ?_ | with_reducible refine sd_ge ?_ | with_reducible refine sd_eqI ?_ | with_reducible refine sd_neI ?_ | with_reducible refine sd_eqS ?_ | with_reducible refine sd_neS ?_ | with_reducible refine sd_slL ?_ | with_reducible refine sd_slT ?_ | with_reducible refine sd_int ?_ | with_reducible refine st_app (by with_unfolding_all rfl) ?_ | with_reducible refine st_clr (by with_unfolding_all rfl) ?_ | with_reducible refine st_retO (by with_unfolding_all rfl) ?_ | with_reducible refine st_retV (by with_unfolding_all rfl) ?_ | with_reducible refine st_aug (by with_unfolding_all rfl) ?_ | with_reducible refine And.intro (by with_unfolding_all rfl) ?_ | with_reducible refine Exists.intro _ (And.intro (by with_unfolding_all rfl) ?_) | with_reducible refine And.intro (le_size (by with_unfolding_all rfl)) ?_ | with_reducible refine st_frz (by with_unfolding_all rfl) ?_ | with_reducible refine st_ms ?_))
  refine ⟨by decide, by decide, ?_⟩
  refine forL_all (fun δ => ∃ s2 s3 s4 s5 s6 s7 s8 s9 s10 s11 s12 s13 s14, δ = [.no, .val .bag, s2, s3, s4, s5, s6, s7, s8, s9, s10, s11, s12, s13, s14]) _ ?_ ?_ ⟨_, _, _, _, _, _, _, _, _, _, _, _, _, rfl⟩
  · rintro _ _ N - ⟨s2, s3, s4, s5, s6, s7, s8, s9, s10, s11, s12, s13, s14, rfl⟩ hN
    (repeat (first | with_reducible refine st_nx ?_ | with_reducible refine st_rt ?_ | with_reducible refine st_bk ?_ | with_reducible refine st_ct ?_ | with_reducible refine st_bind1 ?_ | with_reducible refine st_v (by with_unfolding_all rfl) ?_ | with_reducible refine st_seq ?_ | with_reducible refine st_skip ?_ | with_reducible refine st_asg ?_ | with_reducible refine st_ret ?_ | with_reducible refine st_if ?_ | with_reducible refine st_for ?_ | with_reducible refine st_par2 ?_ | with_reducible refine st_par3 ?_ | with_reducible refine st_asgT ?_ | with_reducible refine st_drop ?_ | with_reducible refine st_brk ?_ | with_reducible refine st_cnt ?_ | with_reducible refine st_tE ?_ | with_reducible refine st_tCmp ?_ | with_reducible refine st_tNt ?_ | with_reducible refine st_tAn ?_ | with_reducible refine st_tO ?_ | with_reducible refine st_tT ?_ | with_reducible refine st_c ?_ | with_reducible refine st_tr ?_ | with_reducible refine st_fz ?_ | with_reducible refine st_op ?_ | with_reducible refine st_call ?_ | with_reducible refine st_callK ?_ | with_reducible refine st_lst ?_ | with_reducible refine st_tup ?_ | with_reducible refine st_sl ?_ | with_reducible refine st_eif ?_ | with_reducible refine st_and ?_ | with_reducible refine st_or ?_ | with_reducible refine st_not ?_ | with_reducible refine st_neg ?_ | with_reducible refine st_isi ?_ | with_reducible refine st_lc ?_ | with_reducible refine st_dc ?_ | with_reducible refine st_anil ?_ | with_reducible refine st_acons ?_ | with_reducible refine st_ono ?_ | with_reducible refine st_osome ?_ | with_reducible refine st_iseq ?_ | with_reducible refine st_irg1 ?_ | with_reducible refine st_izp ?_ | with_reducible refine sd_addI ?_ | with_reducible refine sd_subI ?_ | with_reducible refine sd_lenL ?_ | with_reducible refine sd_lenT ?_ | with_reducible refine sd_list ?_ | with_reducible refine sd_tuple ?_ | with_reducible refine sd_lt ?_ | with_reducible refine sd_le ?_ | with_reducible refine sd_gt ?_ | with_reducible refine sd_ge ?_ | with_reducible refine sd_eqI ?_ | with_reducible refine sd_neI ?_ | with_reducible refine sd_eqS ?_ | with_reducible refine sd_neS ?_ | with_reducible refine sd_slL ?_ | with_reducible refine sd_slT ?_ | with_reducible refine sd_int ?_ | with_reducible refine st_app (by with_unfolding_all rfl) ?_ | with_reducible refine st_clr (by with_unfolding_all rfl) ?_ | with_reducible refine st_retO (by with_unfolding_all rfl) ?_ | with_reducible refine st_retV (by with_unfolding_all rfl) ?_ | with_reducible refine st_aug (by with_unfolding_all rfl) ?_ | with_reducible refine And.intro (by with_unfolding_all rfl) ?_ | with_reducible refine Exists.intro _ (And.intro (by with_unfolding_all rfl) ?_) | with_reducible refine And.intro (le_size (by with_unfolding_all rfl)) ?_ | with_reducible refine st_frz (by with_unfolding_all rfl) ?_ | with_reducible refine st_ms ?_))
    refine hdraw (by decide) (by decide) fun k0 hk0 => ?_
    (repeat (first | with_reducible refine st_nx ?_ | with_reducible refine st_rt ?_ | with_reducible refine st_bk ?_ | with_reducible refine st_ct ?_ | with_reducible refine st_bind1 ?_ | with_reducible refine st_v (by with_unfolding_all rfl) ?_ | with_reducible refine st_seq ?_ | with_reducible refine st_skip ?_ | with_reducible refine st_asg ?_ | with_reducible refine st_ret ?_ | with_reducible refine st_if ?_ | with_reducible refine st_for ?_ | with_reducible refine st_par2 ?_ | with_reducible refine st_par3 ?_ | with_reducible refine st_asgT ?_ | with_reducible refine st_drop ?_ | with_reducible refine st_brk ?_ | with_reducible refine st_cnt ?_ | with_reducible refine st_tE ?_ | with_reducible refine st_tCmp ?_ | with_reducible refine st_tNt ?_ | with_reducible refine st_tAn ?_ | with_reducible refine st_tO ?_ | with_reducible refine st_tT ?_ | with_reducible refine st_c ?_ | with_reducible refine st_tr ?_ | with_reducible refine st_fz ?_ | with_reducible refine st_op ?_ | with_reducible refine st_call ?_ | with_reducible refine st_callK ?_ | with_reducible refine st_lst ?_ | with_reducible refine st_tup ?_ | with_reducible refine st_sl ?_ | with_reducible refine st_eif ?_ | with_reducible refine st_and ?_ | with_reducible refine st_or ?_ | with_reducible refine st_not ?_ | with_reducible refine st_neg ?_ | with_reducible refine st_isi ?_ | with_reducible refine st_lc ?_ | with_reducible refine st_dc ?_ | with_reducible refine st_anil ?_ | with_reducible refine st_acons ?_ | with_reducible refine st_ono ?_ | with_reducible refine st_osome ?_ | with_reducible refine st_iseq ?_ | with_reducible refine st_irg1 ?_ | with_reducible refine st_izp ?_ | with_reducible refine sd_addI ?_ | with_reducible refine sd_subI ?_ | with_reducible refine sd_lenL ?_ | with_reducible refine sd_lenT ?_ | with_reducible refine sd_list ?_ | with_reducible refine sd_tuple ?_ | with_reducible refine sd_lt ?_ | with_reducible refine sd_le ?_ | with_reducible refine sd_gt ?_ | with_reducible refine sd_ge ?_ | with_reducible refine sd_eqI ?_ | with_reducible refine sd_neI ?_ | with_reducible refine sd_eqS ?_ | with_reducible refine sd_neS ?_ | with_reducible refine sd_slL ?_ | with_reducible refine sd_slT ?_ | with_reducible refine sd_int ?_ | with_reducible refine st_app (by with_unfolding_all rfl) ?_ | with_reducible refine st_clr (by with_unfolding_all rfl) ?_ | with_reducible refine st_retO (by with_unfolding_all rfl) ?_ | with_reducible refine st_retV (by with_unfolding_all rfl) ?_ | with_reducible refine st_aug (by with_unfolding_all rfl) ?_ | with_reducible refine And.intro (by with_unfolding_all rfl) ?_ | with_reducible refine Exists.intro _ (And.intro (by with_unfolding_all rfl) ?_) | with_reducible refine And.intro (le_size (by with_unfolding_all rfl)) ?_ | with_reducible refine st_frz (by with_unfolding_all rfl) ?_ | with_reducible refine st_ms ?_))
    refine ⟨by omega, by omega, ?_⟩
    refine forL_turns _ (fun i δ => ∃ (cs : List Nat) (s2 s4 s5 s6 s7 s8 s9 s10 s11 s12 s13 s14 : Sl), cs.length ≤ 30 * i ∧ δ = [.no, .val .bag, s2, .val (.str (tx cs)), s4, s5, s6, s7, s8, s9, s10, s11, s12, s13, s14]) ?_ ?_ ⟨[], _, _, _, _, _, _, _, _, _, _, _, _, by decide, by rw [show Str.ofString "" = tx [] from emp_eq]; rfl⟩
    · rintro i x _ N' hx ⟨cs, s2, s4, s5, s6, s7, s8, s9, s10, s11, s12, s13, s14, hl, rfl⟩ hN'
      have hi : i < k0 := by
        have := (List.getElem?_eq_some_iff.mp hx).1
        unfold rngD at this
        rw [List.length_map, List.length_range] at this
        omega
      have hcs : cs.length ≤ 100000 := by omega
      (repeat (first | with_reducible refine st_nx ?_ | with_reducible refine st_rt ?_ | with_reducible refine st_bk ?_ | with_reducible refine st_ct ?_ | with_reducible refine st_bind1 ?_ | with_reducible refine st_v (by with_unfolding_all rfl) ?_ | with_reducible refine st_seq ?_ | with_reducible refine st_skip ?_ | with_reducible refine st_asg ?_ | with_reducible refine st_ret ?_ | with_reducible refine st_if ?_ | with_reducible refine st_for ?_ | with_reducible refine st_par2 ?_ | with_reducible refine st_par3 ?_ | with_reducible refine st_asgT ?_ | with_reducible refine st_drop ?_ | with_reducible refine st_brk ?_ | with_reducible refine st_cnt ?_ | with_reducible refine st_tE ?_ | with_reducible refine st_tCmp ?_ | with_reducible refine st_tNt ?_ | with_reducible refine st_tAn ?_ | with_reducible refine st_tO ?_ | with_reducible refine st_tT ?_ | with_reducible refine st_c ?_ | with_reducible refine st_tr ?_ | with_reducible refine st_fz ?_ | with_reducible refine st_op ?_ | with_reducible refine st_call ?_ | with_reducible refine st_callK ?_ | with_reducible refine st_lst ?_ | with_reducible refine st_tup ?_ | with_reducible refine st_sl ?_ | with_reducible refine st_eif ?_ | with_reducible refine st_and ?_ | with_reducible refine st_or ?_ | with_reducible refine st_not ?_ | with_reducible refine st_neg ?_ | with_reducible refine st_isi ?_ | with_reducible refine st_lc ?_ | with_reducible refine st_dc ?_ | with_reducible refine st_anil ?_ | with_reducible refine st_acons ?_ | with_reducible refine st_ono ?_ | with_reducible refine st_osome ?_ | with_reducible refine st_iseq ?_ | with_reducible refine st_irg1 ?_ | with_reducible refine st_izp ?_ | with_reducible refine sd_addI ?_ | with_reducible refine sd_subI ?_ | with_reducible refine sd_lenL ?_ | with_reducible refine sd_lenT ?_ | with_reducible refine sd_list ?_ | with_reducible refine sd_tuple ?_ | with_reducible refine sd_lt ?_ | with_reducible refine sd_le ?_ | with_reducible refine sd_gt ?_ | with_reducible refine sd_ge ?_ | with_reducible refine sd_eqI ?_ | with_reducible refine sd_neI ?_ | with_reducible refine sd_eqS ?_ | with_reducible refine sd_neS ?_ | with_reducible refine sd_slL ?_ | with_reducible refine sd_slT ?_ | with_reducible refine sd_int ?_ | with_reducible refine st_app (by with_unfolding_all rfl) ?_ | with_reducible refine st_clr (by with_unfolding_all rfl) ?_ | with_reducible refine st_retO (by with_unfolding_all rfl) ?_ | with_reducible refine st_retV (by with_unfolding_all rfl) ?_ | with_reducible refine st_aug (by with_unfolding_all rfl) ?_ | with_reducible refine And.intro (by with_unfolding_all rfl) ?_ | with_reducible refine Exists.intro _ (And.intro (by with_unfolding_all rfl) ?_) | with_reducible refine And.intro (le_size (by with_unfolding_all rfl)) ?_ | with_reducible refine st_frz (by with_unfolding_all rfl) ?_ | with_reducible refine st_ms ?_))
      refine ⟨⟨_, rfl⟩, ?_⟩
      (repeat (first | with_reducible refine st_nx ?_ | with_reducible refine st_rt ?_ | with_reducible refine st_bk ?_ | with_reducible refine st_ct ?_ | with_reducible refine st_bind1 ?_ | with_reducible refine st_v (by with_unfolding_all rfl) ?_ | with_reducible refine st_seq ?_ | with_reducible refine st_skip ?_ | with_reducible refine st_asg ?_ | with_reducible refine st_ret ?_ | with_reducible refine st_if ?_ | with_reducible refine st_for ?_ | with_reducible refine st_par2 ?_ | with_reducible refine st_par3 ?_ | with_reducible refine st_asgT ?_ | with_reducible refine st_drop ?_ | with_reducible refine st_brk ?_ | with_reducible refine st_cnt ?_ | with_reducible refine st_tE ?_ | with_reducible refine st_tCmp ?_ | with_reducible refine st_tNt ?_ | with_reducible refine st_tAn ?_ | with_reducible refine st_tO ?_ | with_reducible refine st_tT ?_ | with_reducible refine st_c ?_ | with_reducible refine st_tr ?_ | with_reducible refine st_fz ?_ | with_reducible refine st_op ?_ | with_reducible refine st_call ?_ | with_reducible refine st_callK ?_ | with_reducible refine st_lst ?_ | with_reducible refine st_tup ?_ | with_reducible refine st_sl ?_ | with_reducible refine st_eif ?_ | with_reducible refine st_and ?_ | with_reducible refine st_or ?_ | with_reducible refine st_not ?_ | with_reducible refine st_neg ?_ | with_reducible refine st_isi ?_ | with_reducible refine st_lc ?_ | with_reducible refine st_dc ?_ | with_reducible refine st_anil ?_ | with_reducible refine st_acons ?_ | with_reducible refine st_ono ?_ | with_reducible refine st_osome ?_ | with_reducible refine st_iseq ?_ | with_reducible refine st_irg1 ?_ | with_reducible refine st_izp ?_ | with_reducible refine sd_addI ?_ | with_reducible refine sd_subI ?_ | with_reducible refine sd_lenL ?_ | with_reducible refine sd_lenT ?_ | with_reducible refine sd_list ?_ | with_reducible refine sd_tuple ?_ | with_reducible refine sd_lt ?_ | with_reducible refine sd_le ?_ | with_reducible refine sd_gt ?_ | with_reducible refine sd_ge ?_ | with_reducible refine sd_eqI ?_ | with_reducible refine sd_neI ?_ | with_reducible refine sd_eqS ?_ | with_reducible refine sd_neS ?_ | with_reducible refine sd_slL ?_ | with_reducible refine sd_slT ?_ | with_reducible refine sd_int ?_ | with_reducible refine st_app (by with_unfolding_all rfl) ?_ | with_reducible refine st_clr (by with_unfolding_all rfl) ?_ | with_reducible refine st_retO (by with_unfolding_all rfl) ?_ | with_reducible refine st_retV (by with_unfolding_all rfl) ?_ | with_reducible refine st_aug (by with_unfolding_all rfl) ?_ | with_reducible refine And.intro (by with_unfolding_all rfl) ?_ | with_reducible refine Exists.intro _ (And.intro (by with_unfolding_all rfl) ?_) | with_reducible refine And.intro (le_size (by with_unfolding_all rfl)) ?_ | with_reducible refine st_frz (by with_unfolding_all rfl) ?_ | with_reducible refine st_ms ?_))
      refine hdraw (by decide) (by decide) fun k1 hk1 => ?_
      (repeat (first | with_reducible refine st_nx ?_ | with_reducible refine st_rt ?_ | with_reducible refine st_bk ?_ | with_reducible refine st_ct ?_ | with_reducible refine st_bind1 ?_ | with_reducible refine st_v (by with_unfolding_all rfl) ?_ | with_reducible refine st_seq ?_ | with_reducible refine st_skip ?_ | with_reducible refine st_asg ?_ | with_reducible refine st_ret ?_ | with_reducible refine st_if ?_ | with_reducible refine st_for ?_ | with_reducible refine st_par2 ?_ | with_reducible refine st_par3 ?_ | with_reducible refine st_asgT ?_ | with_reducible refine st_drop ?_ | with_reducible refine st_brk ?_ | with_reducible refine st_cnt ?_ | with_reducible refine st_tE ?_ | with_reducible refine st_tCmp ?_ | with_reducible refine st_tNt ?_ | with_reducible refine st_tAn ?_ | with_reducible refine st_tO ?_ | with_reducible refine st_tT ?_ | with_reducible refine st_c ?_ | with_reducible refine st_tr ?_ | with_reducible refine st_fz ?_ | with_reducible refine st_op ?_ | with_reducible refine st_call ?_ | with_reducible refine st_callK ?_ | with_reducible refine st_lst ?_ | with_reducible refine st_tup ?_ | with_reducible refine st_sl ?_ | with_reducible refine st_eif ?_ | with_reducible refine st_and ?_ | with_reducible refine st_or ?_ | with_reducible refine st_not ?_ | with_reducible refine st_neg ?_ | with_reducible refine st_isi ?_ | with_reducible refine st_lc ?_ | with_reducible refine st_dc ?_ | with_reducible refine st_anil ?_ | with_reducible refine st_acons ?_ | with_reducible refine st_ono ?_ | with_reducible refine st_osome ?_ | with_reducible refine st_iseq ?_ | with_reducible refine st_irg1 ?_ | with_reducible refine st_izp ?_ | with_reducible refine sd_addI ?_ | with_reducible refine sd_subI ?_ | with_reducible refine sd_lenL ?_ | with_reducible refine sd_lenT ?_ | with_reducible refine sd_list ?_ | with_reducible refine sd_tuple ?_ | with_reducible refine sd_lt ?_ | with_reducible refine sd_le ?_ | with_reducible refine sd_gt ?_ | with_reducible refine sd_ge ?_ | with_reducible refine sd_eqI ?_ | with_reducible refine sd_neI ?_ | with_reducible refine sd_eqS ?_ | with_reducible refine sd_neS ?_ | with_reducible refine sd_slL ?_ | with_reducible refine sd_slT ?_ | with_reducible refine sd_int ?_ | with_reducible refine st_app (by with_unfolding_all rfl) ?_ | with_reducible refine st_clr (by with_unfolding_all rfl) ?_ | with_reducible refine st_retO (by with_unfolding_all rfl) ?_ | with_reducible refine st_retV (by with_unfolding_all rfl) ?_ | with_reducible refine st_aug (by with_unfolding_all rfl) ?_ | with_reducible refine And.intro (by with_unfolding_all rfl) ?_ | with_reducible refine Exists.intro _ (And.intro (by with_unfolding_all rfl) ?_) | with_reducible refine And.intro (le_size (by with_unfolding_all rfl)) ?_ | with_reducible refine st_frz (by with_unfolding_all rfl) ?_ | with_reducible refine st_ms ?_))
      refine ⟨by omega, by omega, ?_⟩
      (repeat (first | with_reducible refine st_nx ?_ | with_reducible refine st_rt ?_ | with_reducible refine st_bk ?_ | with_reducible refine st_ct ?_ | with_reducible refine st_bind1 ?_ | with_reducible refine st_v (by with_unfolding_all rfl) ?_ | with_reducible refine st_seq ?_ | with_reducible refine st_skip ?_ | with_reducible refine st_asg ?_ | with_reducible refine st_ret ?_ | with_reducible refine st_if ?_ | with_reducible refine st_for ?_ | with_reducible refine st_par2 ?_ | with_reducible refine st_par3 ?_ | with_reducible refine st_asgT ?_ | with_reducible refine st_drop ?_ | with_reducible refine st_brk ?_ | with_reducible refine st_cnt ?_ | with_reducible refine st_tE ?_ | with_reducible refine st_tCmp ?_ | with_reducible refine st_tNt ?_ | with_reducible refine st_tAn ?_ | with_reducible refine st_tO ?_ | with_reducible refine st_tT ?_ | with_reducible refine st_c ?_ | with_reducible refine st_tr ?_ | with_reducible refine st_fz ?_ | with_reducible refine st_op ?_ | with_reducible refine st_call ?_ | with_reducible refine st_callK ?_ | with_reducible refine st_lst ?_ | with_reducible refine st_tup ?_ | with_reducible refine st_sl ?_ | with_reducible refine st_eif ?_ | with_reducible refine st_and ?_ | with_reducible refine st_or ?_ | with_reducible refine st_not ?_ | with_reducible refine st_neg ?_ | with_reducible refine st_isi ?_ | with_reducible refine st_lc ?_ | with_reducible refine st_dc ?_ | with_reducible refine st_anil ?_ | with_reducible refine st_acons ?_ | with_reducible refine st_ono ?_ | with_reducible refine st_osome ?_ | with_reducible refine st_iseq ?_ | with_reducible refine st_irg1 ?_ | with_reducible refine st_izp ?_ | with_reducible refine sd_addI ?_ | with_reducible refine sd_subI ?_ | with_reducible refine sd_lenL ?_ | with_reducible refine sd_lenT ?_ | with_reducible refine sd_list ?_ | with_reducible refine sd_tuple ?_ | with_reducible refine sd_lt ?_ | with_reducible refine sd_le ?_ | with_reducible refine sd_gt ?_ | with_reducible refine sd_ge ?_ | with_reducible refine sd_eqI ?_ | with_reducible refine sd_neI ?_ | with_reducible refine sd_eqS ?_ | with_reducible refine sd_neS ?_ | with_reducible refine sd_slL ?_ | with_reducible refine sd_slT ?_ | with_reducible refine sd_int ?_ | with_reducible refine st_app (by with_unfolding_all rfl) ?_ | with_reducible refine st_clr (by with_unfolding_all rfl) ?_ | with_reducible refine st_retO (by with_unfolding_all rfl) ?_ | with_reducible refine st_retV (by with_unfolding_all rfl) ?_ | with_reducible refine st_aug (by with_unfolding_all rfl) ?_ | with_reducible refine And.intro (by with_unfolding_all rfl) ?_ | with_reducible refine Exists.intro _ (And.intro (by with_unfolding_all rfl) ?_) | with_reducible refine And.intro (le_size (by with_unfolding_all rfl)) ?_ | with_reducible refine st_frz (by with_unfolding_all rfl) ?_ | with_reducible refine st_ms ?_))
      refine ⟨?_, ?_⟩
      · unfold rngD
        rw [List.length_map, List.length_range]
        exact size5 (by omega)
      refine lc_each (fun d => ∃ c, d = .str (tx [c])) _ (fun x hx Q q => ?_) fun ds hdl hds => ?_
      · (repeat (first | with_reducible refine st_nx ?_ | with_reducible refine st_rt ?_ | with_reducible refine st_bk ?_ | with_reducible refine st_ct ?_ | with_reducible refine st_bind1 ?_ | with_reducible refine st_v (by with_unfolding_all rfl) ?_ | with_reducible refine st_seq ?_ | with_reducible refine st_skip ?_ | with_reducible refine st_asg ?_ | with_reducible refine st_ret ?_ | with_reducible refine st_if ?_ | with_reducible refine st_for ?_ | with_reducible refine st_par2 ?_ | with_reducible refine st_par3 ?_ | with_reducible refine st_asgT ?_ | with_reducible refine st_drop ?_ | with_reducible refine st_brk ?_ | with_reducible refine st_cnt ?_ | with_reducible refine st_tE ?_ | with_reducible refine st_tCmp ?_ | with_reducible refine st_tNt ?_ | with_reducible refine st_tAn ?_ | with_reducible refine st_tO ?_ | with_reducible refine st_tT ?_ | with_reducible refine st_c ?_ | with_reducible refine st_tr ?_ | with_reducible refine st_fz ?_ | with_reducible refine st_op ?_ | with_reducible refine st_call ?_ | with_reducible refine st_callK ?_ | with_reducible refine st_lst ?_ | with_reducible refine st_tup ?_ | with_reducible refine st_sl ?_ | with_reducible refine st_eif ?_ | with_reducible refine st_and ?_ | with_reducible refine st_or ?_ | with_reducible refine st_not ?_ | with_reducible refine st_neg ?_ | with_reducible refine st_isi ?_ | with_reducible refine st_lc ?_ | with_reducible refine st_dc ?_ | with_reducible refine st_anil ?_ | with_reducible refine st_acons ?_ | with_reducible refine st_ono ?_ | with_reducible refine st_osome ?_ | with_reducible refine st_iseq ?_ | with_reducible refine st_irg1 ?_ | with_reducible refine st_izp ?_ | with_reducible refine sd_addI ?_ | with_reducible refine sd_subI ?_ | with_reducible refine sd_lenL ?_ | with_reducible refine sd_lenT ?_ | with_reducible refine sd_list ?_ | with_reducible refine sd_tuple ?_ | with_reducible refine sd_lt ?_ | with_reducible refine sd_le ?_ | with_reducible refine sd_gt ?_ | with_reducible refine sd_ge ?_ | with_reducible refine sd_eqI ?_ | with_reducible refine sd_neI ?_ | with_reducible refine sd_eqS ?_ | with_reducible refine sd_neS ?_ | with_reducible refine sd_slL ?_ | with_reducible refine sd_slT ?_ | with_reducible refine sd_int ?_ | with_reducible refine st_app (by with_unfolding_all rfl) ?_ | with_reducible refine st_clr (by with_unfolding_all rfl) ?_ | with_reducible refine st_retO (by with_unfolding_all rfl) ?_ | with_reducible refine st_retV (by with_unfolding_all rfl) ?_ | with_reducible refine st_aug (by with_unfolding_all rfl) ?_ | with_reducible refine And.intro (by with_unfolding_all rfl) ?_ | with_reducible refine Exists.intro _ (And.intro (by with_unfolding_all rfl) ?_) | with_reducible refine And.intro (le_size (by with_unfolding_all rfl)) ?_ | with_reducible refine st_frz (by with_unfolding_all rfl) ?_ | with_reducible refine st_ms ?_))
        refine hlet ?_
        (repeat (first | with_reducible refine st_nx ?_ | with_reducible refine st_rt ?_ | with_reducible refine st_bk ?_ | with_reducible refine st_ct ?_ | with_reducible refine st_bind1 ?_ | with_reducible refine st_v (by with_unfolding_all rfl) ?_ | with_reducible refine st_seq ?_ | with_reducible refine st_skip ?_ | with_reducible refine st_asg ?_ | with_reducible refine st_ret ?_ | with_reducible refine st_if ?_ | with_reducible refine st_for ?_ | with_reducible refine st_par2 ?_ | with_reducible refine st_par3 ?_ | with_reducible refine st_asgT ?_ | with_reducible refine st_drop ?_ | with_reducible refine st_brk ?_ | with_reducible refine st_cnt ?_ | with_reducible refine st_tE ?_ | with_reducible refine st_tCmp ?_ | with_reducible refine st_tNt ?_ | with_reducible refine st_tAn ?_ | with_reducible refine st_tO ?_ | with_reducible refine st_tT ?_ | with_reducible refine st_c ?_ | with_reducible refine st_tr ?_ | with_reducible refine st_fz ?_ | with_reducible refine st_op ?_ | with_reducible refine st_call ?_ | with_reducible refine st_callK ?_ | with_reducible refine st_lst ?_ | with_reducible refine st_tup ?_ | with_reducible refine st_sl ?_ | with_reducible refine st_eif ?_ | with_reducible refine st_and ?_ | with_reducible refine st_or ?_ | with_reducible refine st_not ?_ | with_reducible refine st_neg ?_ | with_reducible refine st_isi ?_ | with_reducible refine st_lc ?_ | with_reducible refine st_dc ?_ | with_reducible refine st_anil ?_ | with_reducible refine st_acons ?_ | with_reducible refine st_ono ?_ | with_reducible refine st_osome ?_ | with_reducible refine st_iseq ?_ | with_reducible refine st_irg1 ?_ | with_reducible refine st_izp ?_ | with_reducible refine sd_addI ?_ | with_reducible refine sd_subI ?_ | with_reducible refine sd_lenL ?_ | with_reducible refine sd_lenT ?_ | with_reducible refine sd_list ?_ | with_reducible refine sd_tuple ?_ | with_reducible refine sd_lt ?_ | with_reducible refine sd_le ?_ | with_reducible refine sd_gt ?_ | with_reducible refine sd_ge ?_ | with_reducible refine sd_eqI ?_ | with_reducible refine sd_neI ?_ | with_reducible refine sd_eqS ?_ | with_reducible refine sd_neS ?_ | with_reducible refine sd_slL ?_ | with_reducible refine sd_slT ?_ | with_reducible refine sd_int ?_ | with_reducible refine st_app (by with_unfolding_all rfl) ?_ | with_reducible refine st_clr (by with_unfolding_all rfl) ?_ | with_reducible refine st_retO (by with_unfolding_all rfl) ?_ | with_reducible refine st_retV (by with_unfolding_all rfl) ?_ | with_reducible refine st_aug (by with_unfolding_all rfl) ?_ | with_reducible refine And.intro (by with_unfolding_all rfl) ?_ | with_reducible refine Exists.intro _ (And.intro (by with_unfolding_all rfl) ?_) | with_reducible refine And.intro (le_size (by with_unfolding_all rfl)) ?_ | with_reducible refine st_frz (by with_unfolding_all rfl) ?_ | with_reducible refine st_ms ?_))
        refine hofs (by rw [tx_len]; decide) (by rw [tx_len]; decide) fun c => q _ ⟨c, rfl⟩
      rw [rng_len] at hdl
      rw [show Str.ofString "" = tx [] from emp_eq]
      (repeat (first | with_reducible refine st_nx ?_ | with_reducible refine st_rt ?_ | with_reducible refine st_bk ?_ | with_reducible refine st_ct ?_ | with_reducible refine st_bind1 ?_ | with_reducible refine st_v (by with_unfolding_all rfl) ?_ | with_reducible refine st_seq ?_ | with_reducible refine st_skip ?_ | with_reducible refine st_asg ?_ | with_reducible refine st_ret ?_ | with_reducible refine st_if ?_ | with_reducible refine st_for ?_ | with_reducible refine st_par2 ?_ | with_reducible refine st_par3 ?_ | with_reducible refine st_asgT ?_ | with_reducible refine st_drop ?_ | with_reducible refine st_brk ?_ | with_reducible refine st_cnt ?_ | with_reducible refine st_tE ?_ | with_reducible refine st_tCmp ?_ | with_reducible refine st_tNt ?_ | with_reducible refine st_tAn ?_ | with_reducible refine st_tO ?_ | with_reducible refine st_tT ?_ | with_reducible refine st_c ?_ | with_reducible refine st_tr ?_ | with_reducible refine st_fz ?_ | with_reducible refine st_op ?_ | with_reducible refine st_call ?_ | with_reducible refine st_callK ?_ | with_reducible refine st_lst ?_ | with_reducible refine st_tup ?_ | with_reducible refine st_sl ?_ | with_reducible refine st_eif ?_ | with_reducible refine st_and ?_ | with_reducible refine st_or ?_ | with_reducible refine st_not ?_ | with_reducible refine st_neg ?_ | with_reducible refine st_isi ?_ | with_reducible refine st_lc ?_ | with_reducible refine st_dc ?_ | with_reducible refine st_anil ?_ | with_reducible refine st_acons ?_ | with_reducible refine st_ono ?_ | with_reducible refine st_osome ?_ | with_reducible refine st_iseq ?_ | with_reducible refine st_irg1 ?_ | with_reducible refine st_izp ?_ | with_reducible refine sd_addI ?_ | with_reducible refine sd_subI ?_ | with_reducible refine sd_lenL ?_ | with_reducible refine sd_lenT ?_ | with_reducible refine sd_list ?_ | with_reducible refine sd_tuple ?_ | with_reducible refine sd_lt ?_ | with_reducible refine sd_le ?_ | with_reducible refine sd_gt ?_ | with_reducible refine sd_ge ?_ | with_reducible refine sd_eqI ?_ | with_reducible refine sd_neI ?_ | with_reducible refine sd_eqS ?_ | with_reducible refine sd_neS ?_ | with_reducible refine sd_slL ?_ | with_reducible refine sd_slT ?_ | with_reducible refine sd_int ?_ | with_reducible refine st_app (by with_unfolding_all rfl) ?_ | with_reducible refine st_clr (by with_unfolding_all rfl) ?_ | with_reducible refine st_retO (by with_unfolding_all rfl) ?_ | with_reducible refine st_retV (by with_unfolding_all rfl) ?_ | with_reducible refine st_aug (by with_unfolding_all rfl) ?_ | with_reducible refine And.intro (by with_unfolding_all rfl) ?_ | with_reducible refine Exists.intro _ (And.intro (by with_unfolding_all rfl) ?_) | with_reducible refine And.intro (le_size (by with_unfolding_all rfl)) ?_ | with_reducible refine st_frz (by with_unfolding_all rfl) ?_ | with_reducible refine st_ms ?_))
      refine ss_join (by omega) hds fun w hw => ?_
      (repeat (first | with_reducible refine st_nx ?_ | with_reducible refine st_rt ?_ | with_reducible refine st_bk ?_ | with_reducible refine st_ct ?_ | with_reducible refine st_bind1 ?_ | with_reducible refine st_v (by with_unfolding_all rfl) ?_ | with_reducible refine st_seq ?_ | with_reducible refine st_skip ?_ | with_reducible refine st_asg ?_ | with_reducible refine st_ret ?_ | with_reducible refine st_if ?_ | with_reducible refine st_for ?_ | with_reducible refine st_par2 ?_ | with_reducible refine st_par3 ?_ | with_reducible refine st_asgT ?_ | with_reducible refine st_drop ?_ | with_reducible refine st_brk ?_ | with_reducible refine st_cnt ?_ | with_reducible refine st_tE ?_ | with_reducible refine st_tCmp ?_ | with_reducible refine st_tNt ?_ | with_reducible refine st_tAn ?_ | with_reducible refine st_tO ?_ | with_reducible refine st_tT ?_ | with_reducible refine st_c ?_ | with_reducible refine st_tr ?_ | with_reducible refine st_fz ?_ | with_reducible refine st_op ?_ | with_reducible refine st_call ?_ | with_reducible refine st_callK ?_ | with_reducible refine st_lst ?_ | with_reducible refine st_tup ?_ | with_reducible refine st_sl ?_ | with_reducible refine st_eif ?_ | with_reducible refine st_and ?_ | with_reducible refine st_or ?_ | with_reducible refine st_not ?_ | with_reducible refine st_neg ?_ | with_reducible refine st_isi ?_ | with_reducible refine st_lc ?_ | with_reducible refine st_dc ?_ | with_reducible refine st_anil ?_ | with_reducible refine st_acons ?_ | with_reducible refine st_ono ?_ | with_reducible refine st_osome ?_ | with_reducible refine st_iseq ?_ | with_reducible refine st_irg1 ?_ | with_reducible refine st_izp ?_ | with_reducible refine sd_addI ?_ | with_reducible refine sd_subI ?_ | with_reducible refine sd_lenL ?_ | with_reducible refine sd_lenT ?_ | with_reducible refine sd_list ?_ | with_reducible refine sd_tuple ?_ | with_reducible refine sd_lt ?_ | with_reducible refine sd_le ?_ | with_reducible refine sd_gt ?_ | with_reducible refine sd_ge ?_ | with_reducible refine sd_eqI ?_ | with_reducible refine sd_neI ?_ | with_reducible refine sd_eqS ?_ | with_reducible refine sd_neS ?_ | with_reducible refine sd_slL ?_ | with_reducible refine sd_slT ?_ | with_reducible refine sd_int ?_ | with_reducible refine st_app (by with_unfolding_all rfl) ?_ | with_reducible refine st_clr (by with_unfolding_all rfl) ?_ | with_reducible refine st_retO (by with_unfolding_all rfl) ?_ | with_reducible refine st_retV (by with_unfolding_all rfl) ?_ | with_reducible refine st_aug (by with_unfolding_all rfl) ?_ | with_reducible refine And.intro (by with_unfolding_all rfl) ?_ | with_reducible refine Exists.intro _ (And.intro (by with_unfolding_all rfl) ?_) | with_reducible refine And.intro (le_size (by with_unfolding_all rfl)) ?_ | with_reducible refine st_frz (by with_unfolding_all rfl) ?_ | with_reducible refine st_ms ?_))
      refine hof (by show 3 ≤ 1000000; decide) (by simp) fun d hd => ?_
      obtain ⟨m, rfl, hm0, hm⟩ : ∃ m : Nat, d = .int (m : Int) ∧ 0 < m ∧ m ≤ 1000000 := by
        simp only [List.mem_cons, List.not_mem_nil, or_false] at hd
        rcases hd with h | h | h
        · exact ⟨10, h, by decide, by decide⟩
        · exact ⟨1000, h, by decide, by decide⟩
        · exact ⟨1000000, h, by decide, by decide⟩
      clear hd
      (repeat (first | with_reducible refine st_nx ?_ | with_reducible refine st_rt ?_ | with_reducible refine st_bk ?_ | with_reducible refine st_ct ?_ | with_reducible refine st_bind1 ?_ | with_reducible refine st_v (by with_unfolding_all rfl) ?_ | with_reducible refine st_seq ?_ | with_reducible refine st_skip ?_ | with_reducible refine st_asg ?_ | with_reducible refine st_ret ?_ | with_reducible refine st_if ?_ | with_reducible refine st_for ?_ | with_reducible refine st_par2 ?_ | with_reducible refine st_par3 ?_ | with_reducible refine st_asgT ?_ | with_reducible refine st_drop ?_ | with_reducible refine st_brk ?_ | with_reducible refine st_cnt ?_ | with_reducible refine st_tE ?_ | with_reducible refine st_tCmp ?_ | with_reducible refine st_tNt ?_ | with_reducible refine st_tAn ?_ | with_reducible refine st_tO ?_ | with_reducible refine st_tT ?_ | with_reducible refine st_c ?_ | with_reducible refine st_tr ?_ | with_reducible refine st_fz ?_ | with_reducible refine st_op ?_ | with_reducible refine st_call ?_ | with_reducible refine st_callK ?_ | with_reducible refine st_lst ?_ | with_reducible refine st_tup ?_ | with_reducible refine st_sl ?_ | with_reducible refine st_eif ?_ | with_reducible refine st_and ?_ | with_reducible refine st_or ?_ | with_reducible refine st_not ?_ | with_reducible refine st_neg ?_ | with_reducible refine st_isi ?_ | with_reducible refine st_lc ?_ | with_reducible refine st_dc ?_ | with_reducible refine st_anil ?_ | with_reducible refine st_acons ?_ | with_reducible refine st_ono ?_ | with_reducible refine st_osome ?_ | with_reducible refine st_iseq ?_ | with_reducible refine st_irg1 ?_ | with_reducible refine st_izp ?_ | with_reducible refine sd_addI ?_ | with_reducible refine sd_subI ?_ | with_reducible refine sd_lenL ?_ | with_reducible refine sd_lenT ?_ | with_reducible refine sd_list ?_ | with_reducible refine sd_tuple ?_ | with_reducible refine sd_lt ?_ | with_reducible refine sd_le ?_ | with_reducible refine sd_gt ?_ | with_reducible refine sd_ge ?_ | with_reducible refine sd_eqI ?_ | with_reducible refine sd_neI ?_ | with_reducible refine sd_eqS ?_ | with_reducible refine sd_neS ?_ | with_reducible refine sd_slL ?_ | with_reducible refine sd_slT ?_ | with_reducible refine sd_int ?_ | with_reducible refine st_app (by with_unfolding_all rfl) ?_ | with_reducible refine st_clr (by with_unfolding_all rfl) ?_ | with_reducible refine st_retO (by with_unfolding_all rfl) ?_ | with_reducible refine st_retV (by with_unfolding_all rfl) ?_ | with_reducible refine st_aug (by with_unfolding_all rfl) ?_ | with_reducible refine And.intro (by with_unfolding_all rfl) ?_ | with_reducible refine Exists.intro _ (And.intro (by with_unfolding_all rfl) ?_) | with_reducible refine And.intro (le_size (by with_unfolding_all rfl)) ?_ | with_reducible refine st_frz (by with_unfolding_all rfl) ?_ | with_reducible refine st_ms ?_))
      refine hdraw (by omega) (by omega) fun k2 hk2 => ?_
      (repeat (first | with_reducible refine st_nx ?_ | with_reducible refine st_rt ?_ | with_reducible refine st_bk ?_ | with_reducible refine st_ct ?_ | with_reducible refine st_bind1 ?_ | with_reducible refine st_v (by with_unfolding_all rfl) ?_ | with_reducible refine st_seq ?_ | with_reducible refine st_skip ?_ | with_reducible refine st_asg ?_ | with_reducible refine st_ret ?_ | with_reducible refine st_if ?_ | with_reducible refine st_for ?_ | with_reducible refine st_par2 ?_ | with_reducible refine st_par3 ?_ | with_reducible refine st_asgT ?_ | with_reducible refine st_drop ?_ | with_reducible refine st_brk ?_ | with_reducible refine st_cnt ?_ | with_reducible refine st_tE ?_ | with_reducible refine st_tCmp ?_ | with_reducible refine st_tNt ?_ | with_reducible refine st_tAn ?_ | with_reducible refine st_tO ?_ | with_reducible refine st_tT ?_ | with_reducible refine st_c ?_ | with_reducible refine st_tr ?_ | with_reducible refine st_fz ?_ | with_reducible refine st_op ?_ | with_reducible refine st_call ?_ | with_reducible refine st_callK ?_ | with_reducible refine st_lst ?_ | with_reducible refine st_tup ?_ | with_reducible refine st_sl ?_ | with_reducible refine st_eif ?_ | with_reducible refine st_and ?_ | with_reducible refine st_or ?_ | with_reducible refine st_not ?_ | with_reducible refine st_neg ?_ | with_reducible refine st_isi ?_ | with_reducible refine st_lc ?_ | with_reducible refine st_dc ?_ | with_reducible refine st_anil ?_ | with_reducible refine st_acons ?_ | with_reducible refine st_ono ?_ | with_reducible refine st_osome ?_ | with_reducible refine st_iseq ?_ | with_reducible refine st_irg1 ?_ | with_reducible refine st_izp ?_ | with_reducible refine sd_addI ?_ | with_reducible refine sd_subI ?_ | with_reducible refine sd_lenL ?_ | with_reducible refine sd_lenT ?_ | with_reducible refine sd_list ?_ | with_reducible refine sd_tuple ?_ | with_reducible refine sd_lt ?_ | with_reducible refine sd_le ?_ | with_reducible refine sd_gt ?_ | with_reducible refine sd_ge ?_ | with_reducible refine sd_eqI ?_ | with_reducible refine sd_neI ?_ | with_reducible refine sd_eqS ?_ | with_reducible refine sd_neS ?_ | with_reducible refine sd_slL ?_ | with_reducible refine sd_slT ?_ | with_reducible refine sd_int ?_ | with_reducible refine st_app (by with_unfolding_all rfl) ?_ | with_reducible refine st_clr (by with_unfolding_all rfl) ?_ | with_reducible refine st_retO (by with_unfolding_all rfl) ?_ | with_reducible refine st_retV (by with_unfolding_all rfl) ?_ | with_reducible refine st_aug (by with_unfolding_all rfl) ?_ | with_reducible refine And.intro (by with_unfolding_all rfl) ?_ | with_reducible refine Exists.intro _ (And.intro (by with_unfolding_all rfl) ?_) | with_reducible refine And.intro (le_size (by with_unfolding_all rfl)) ?_ | with_reducible refine st_frz (by with_unfolding_all rfl) ?_ | with_reducible refine st_ms ?_))
      have hk3 : k2 < 10 ^ 6 := by omega
      refine ss_str (Nat.lt_of_lt_of_le hk3 (by decide)) ?_
      have hn : (TL.numL k2).length ≤ 6 := TL.numL_len (by decide) hk3
      (repeat (first | with_reducible refine st_nx ?_ | with_reducible refine st_rt ?_ | with_reducible refine st_bk ?_ | with_reducible refine st_ct ?_ | with_reducible refine st_bind1 ?_ | with_reducible refine st_v (by with_unfolding_all rfl) ?_ | with_reducible refine st_seq ?_ | with_reducible refine st_skip ?_ | with_reducible refine st_asg ?_ | with_reducible refine st_ret ?_ | with_reducible refine st_if ?_ | with_reducible refine st_for ?_ | with_reducible refine st_par2 ?_ | with_reducible refine st_par3 ?_ | with_reducible refine st_asgT ?_ | with_reducible refine st_drop ?_ | with_reducible refine st_brk ?_ | with_reducible refine st_cnt ?_ | with_reducible refine st_tE ?_ | with_reducible refine st_tCmp ?_ | with_reducible refine st_tNt ?_ | with_reducible refine st_tAn ?_ | with_reducible refine st_tO ?_ | with_reducible refine st_tT ?_ | with_reducible refine st_c ?_ | with_reducible refine st_tr ?_ | with_reducible refine st_fz ?_ | with_reducible refine st_op ?_ | with_reducible refine st_call ?_ | with_reducible refine st_callK ?_ | with_reducible refine st_lst ?_ | with_reducible refine st_tup ?_ | with_reducible refine st_sl ?_ | with_reducible refine st_eif ?_ | with_reducible refine st_and ?_ | with_reducible refine st_or ?_ | with_reducible refine st_not ?_ | with_reducible refine st_neg ?_ | with_reducible refine st_isi ?_ | with_reducible refine st_lc ?_ | with_reducible refine st_dc ?_ | with_reducible refine st_anil ?_ | with_reducible refine st_acons ?_ | with_reducible refine st_ono ?_ | with_reducible refine st_osome ?_ | with_reducible refine st_iseq ?_ | with_reducible refine st_irg1 ?_ | with_reducible refine st_izp ?_ | with_reducible refine sd_addI ?_ | with_reducible refine sd_subI ?_ | with_reducible refine sd_lenL ?_ | with_reducible refine sd_lenT ?_ | with_reducible refine sd_list ?_ | with_reducible refine sd_tuple ?_ | with_reducible refine sd_lt ?_ | with_reducible refine sd_le ?_ | with_reducible refine sd_gt ?_ | with_reducible refine sd_ge ?_ | with_reducible refine sd_eqI ?_ | with_reducible refine sd_neI ?_ | with_reducible refine sd_eqS ?_ | with_reducible refine sd_neS ?_ | with_reducible refine sd_slL ?_ | with_reducible refine sd_slT ?_ | with_reducible refine sd_int ?_ | with_reducible refine st_app (by with_unfolding_all rfl) ?_ | with_reducible refine st_clr (by with_unfolding_all rfl) ?_ | with_reducible refine st_retO (by with_unfolding_all rfl) ?_ | with_reducible refine st_retV (by with_unfolding_all rfl) ?_ | with_reducible refine st_aug (by with_unfolding_all rfl) ?_ | with_reducible refine And.intro (by with_unfolding_all rfl) ?_ | with_reducible refine Exists.intro _ (And.intro (by with_unfolding_all rfl) ?_) | with_reducible refine And.intro (le_size (by with_unfolding_all rfl)) ?_ | with_reducible refine st_frz (by with_unfolding_all rfl) ?_ | with_reducible refine st_ms ?_))
      refine hofs (by decide) (by decide) fun c1 => ?_
      (repeat (first | with_reducible refine st_nx ?_ | with_reducible refine st_rt ?_ | with_reducible refine st_bk ?_ | with_reducible refine st_ct ?_ | with_reducible refine st_bind1 ?_ | with_reducible refine st_v (by with_unfolding_all rfl) ?_ | with_reducible refine st_seq ?_ | with_reducible refine st_skip ?_ | with_reducible refine st_asg ?_ | with_reducible refine st_ret ?_ | with_reducible refine st_if ?_ | with_reducible refine st_for ?_ | with_reducible refine st_par2 ?_ | with_reducible refine st_par3 ?_ | with_reducible refine st_asgT ?_ | with_reducible refine st_drop ?_ | with_reducible refine st_brk ?_ | with_reducible refine st_cnt ?_ | with_reducible refine st_tE ?_ | with_reducible refine st_tCmp ?_ | with_reducible refine st_tNt ?_ | with_reducible refine st_tAn ?_ | with_reducible refine st_tO ?_ | with_reducible refine st_tT ?_ | with_reducible refine st_c ?_ | with_reducible refine st_tr ?_ | with_reducible refine st_fz ?_ | with_reducible refine st_op ?_ | with_reducible refine st_call ?_ | with_reducible refine st_callK ?_ | with_reducible refine st_lst ?_ | with_reducible refine st_tup ?_ | with_reducible refine st_sl ?_ | with_reducible refine st_eif ?_ | with_reducible refine st_and ?_ | with_reducible refine st_or ?_ | with_reducible refine st_not ?_ | with_reducible refine st_neg ?_ | with_reducible refine st_isi ?_ | with_reducible refine st_lc ?_ | with_reducible refine st_dc ?_ | with_reducible refine st_anil ?_ | with_reducible refine st_acons ?_ | with_reducible refine st_ono ?_ | with_reducible refine st_osome ?_ | with_reducible refine st_iseq ?_ | with_reducible refine st_irg1 ?_ | with_reducible refine st_izp ?_ | with_reducible refine sd_addI ?_ | with_reducible refine sd_subI ?_ | with_reducible refine sd_lenL ?_ | with_reducible refine sd_lenT ?_ | with_reducible refine sd_list ?_ | with_reducible refine sd_tuple ?_ | with_reducible refine sd_lt ?_ | with_reducible refine sd_le ?_ | with_reducible refine sd_gt ?_ | with_reducible refine sd_ge ?_ | with_reducible refine sd_eqI ?_ | with_reducible refine sd_neI ?_ | with_reducible refine sd_eqS ?_ | with_reducible refine sd_neS ?_ | with_reducible refine sd_slL ?_ | with_reducible refine sd_slT ?_ | with_reducible refine sd_int ?_ | with_reducible refine st_app (by with_unfolding_all rfl) ?_ | with_reducible refine st_clr (by with_unfolding_all rfl) ?_ | with_reducible refine st_retO (by with_unfolding_all rfl) ?_ | with_reducible refine st_retV (by with_unfolding_all rfl) ?_ | with_reducible refine st_aug (by with_unfolding_all rfl) ?_ | with_reducible refine And.intro (by with_unfolding_all rfl) ?_ | with_reducible refine Exists.intro _ (And.intro (by with_unfolding_all rfl) ?_) | with_reducible refine And.intro (le_size (by with_unfolding_all rfl)) ?_ | with_reducible refine st_frz (by with_unfolding_all rfl) ?_ | with_reducible refine st_ms ?_))
      refine hofs (by decide) (by decide) fun c2 => ?_
      (repeat (first | with_reducible refine st_nx ?_ | with_reducible refine st_rt ?_ | with_reducible refine st_bk ?_ | with_reducible refine st_ct ?_ | with_reducible refine st_bind1 ?_ | with_reducible refine st_v (by with_unfolding_all rfl) ?_ | with_reducible refine st_seq ?_ | with_reducible refine st_skip ?_ | with_reducible refine st_asg ?_ | with_reducible refine st_ret ?_ | with_reducible refine st_if ?_ | with_reducible refine st_for ?_ | with_reducible refine st_par2 ?_ | with_reducible refine st_par3 ?_ | with_reducible refine st_asgT ?_ | with_reducible refine st_drop ?_ | with_reducible refine st_brk ?_ | with_reducible refine st_cnt ?_ | with_reducible refine st_tE ?_ | with_reducible refine st_tCmp ?_ | with_reducible refine st_tNt ?_ | with_reducible refine st_tAn ?_ | with_reducible refine st_tO ?_ | with_reducible refine st_tT ?_ | with_reducible refine st_c ?_ | with_reducible refine st_tr ?_ | with_reducible refine st_fz ?_ | with_reducible refine st_op ?_ | with_reducible refine st_call ?_ | with_reducible refine st_callK ?_ | with_reducible refine st_lst ?_ | with_reducible refine st_tup ?_ | with_reducible refine st_sl ?_ | with_reducible refine st_eif ?_ | with_reducible refine st_and ?_ | with_reducible refine st_or ?_ | with_reducible refine st_not ?_ | with_reducible refine st_neg ?_ | with_reducible refine st_isi ?_ | with_reducible refine st_lc ?_ | with_reducible refine st_dc ?_ | with_reducible refine st_anil ?_ | with_reducible refine st_acons ?_ | with_reducible refine st_ono ?_ | with_reducible refine st_osome ?_ | with_reducible refine st_iseq ?_ | with_reducible refine st_irg1 ?_ | with_reducible refine st_izp ?_ | with_reducible refine sd_addI ?_ | with_reducible refine sd_subI ?_ | with_reducible refine sd_lenL ?_ | with_reducible refine sd_lenT ?_ | with_reducible refine sd_list ?_ | with_reducible refine sd_tuple ?_ | with_reducible refine sd_lt ?_ | with_reducible refine sd_le ?_ | with_reducible refine sd_gt ?_ | with_reducible refine sd_ge ?_ | with_reducible refine sd_eqI ?_ | with_reducible refine sd_neI ?_ | with_reducible refine sd_eqS ?_ | with_reducible refine sd_neS ?_ | with_reducible refine sd_slL ?_ | with_reducible refine sd_slT ?_ | with_reducible refine sd_int ?_ | with_reducible refine st_app (by with_unfolding_all rfl) ?_ | with_reducible refine st_clr (by with_unfolding_all rfl) ?_ | with_reducible refine st_retO (by with_unfolding_all rfl) ?_ | with_reducible refine st_retV (by with_unfolding_all rfl) ?_ | with_reducible refine st_aug (by with_unfolding_all rfl) ?_ | with_reducible refine And.intro (by with_unfolding_all rfl) ?_ | with_reducible refine Exists.intro _ (And.intro (by with_unfolding_all rfl) ?_) | with_reducible refine And.intro (le_size (by with_unfolding_all rfl)) ?_ | with_reducible refine st_frz (by with_unfolding_all rfl) ?_ | with_reducible refine st_ms ?_))
      refine hkw ?_
      (repeat (first | with_reducible refine st_nx ?_ | with_reducible refine st_rt ?_ | with_reducible refine st_bk ?_ | with_reducible refine st_ct ?_ | with_reducible refine st_bind1 ?_ | with_reducible refine st_v (by with_unfolding_all rfl) ?_ | with_reducible refine st_seq ?_ | with_reducible refine st_skip ?_ | with_reducible refine st_asg ?_ | with_reducible refine st_ret ?_ | with_reducible refine st_if ?_ | with_reducible refine st_for ?_ | with_reducible refine st_par2 ?_ | with_reducible refine st_par3 ?_ | with_reducible refine st_asgT ?_ | with_reducible refine st_drop ?_ | with_reducible refine st_brk ?_ | with_reducible refine st_cnt ?_ | with_reducible refine st_tE ?_ | with_reducible refine st_tCmp ?_ | with_reducible refine st_tNt ?_ | with_reducible refine st_tAn ?_ | with_reducible refine st_tO ?_ | with_reducible refine st_tT ?_ | with_reducible refine st_c ?_ | with_reducible refine st_tr ?_ | with_reducible refine st_fz ?_ | with_reducible refine st_op ?_ | with_reducible refine st_call ?_ | with_reducible refine st_callK ?_ | with_reducible refine st_lst ?_ | with_reducible refine st_tup ?_ | with_reducible refine st_sl ?_ | with_reducible refine st_eif ?_ | with_reducible refine st_and ?_ | with_reducible refine st_or ?_ | with_reducible refine st_not ?_ | with_reducible refine st_neg ?_ | with_reducible refine st_isi ?_ | with_reducible refine st_lc ?_ | with_reducible refine st_dc ?_ | with_reducible refine st_anil ?_ | with_reducible refine st_acons ?_ | with_reducible refine st_ono ?_ | with_reducible refine st_osome ?_ | with_reducible refine st_iseq ?_ | with_reducible refine st_irg1 ?_ | with_reducible refine st_izp ?_ | with_reducible refine sd_addI ?_ | with_reducible refine sd_subI ?_ | with_reducible refine sd_lenL ?_ | with_reducible refine sd_lenT ?_ | with_reducible refine sd_list ?_ | with_reducible refine sd_tuple ?_ | with_reducible refine sd_lt ?_ | with_reducible refine sd_le ?_ | with_reducible refine sd_gt ?_ | with_reducible refine sd_ge ?_ | with_reducible refine sd_eqI ?_ | with_reducible refine sd_neI ?_ | with_reducible refine sd_eqS ?_ | with_reducible refine sd_neS ?_ | with_reducible refine sd_slL ?_ | with_reducible refine sd_slT ?_ | with_reducible refine sd_int ?_ | with_reducible refine st_app (by with_unfolding_all rfl) ?_ | with_reducible refine st_clr (by with_unfolding_all rfl) ?_ | with_reducible refine st_retO (by with_unfolding_all rfl) ?_ | with_reducible refine st_retV (by with_unfolding_all rfl) ?_ | with_reducible refine st_aug (by with_unfolding_all rfl) ?_ | with_reducible refine And.intro (by with_unfolding_all rfl) ?_ | with_reducible refine Exists.intro _ (And.intro (by with_unfolding_all rfl) ?_) | with_reducible refine And.intro (le_size (by with_unfolding_all rfl)) ?_ | with_reducible refine st_frz (by with_unfolding_all rfl) ?_ | with_reducible refine st_ms ?_))
      refine hof (by omega) (by intro e; rw [e] at kw1; cases kw1) fun dk hdk => ?_
      have hdk := kw2 dk hdk
      (repeat (first | with_reducible refine st_nx ?_ | with_reducible refine st_rt ?_ | with_reducible refine st_bk ?_ | with_reducible refine st_ct ?_ | with_reducible refine st_bind1 ?_ | with_reducible refine st_v (by with_unfolding_all rfl) ?_ | with_reducible refine st_seq ?_ | with_reducible refine st_skip ?_ | with_reducible refine st_asg ?_ | with_reducible refine st_ret ?_ | with_reducible refine st_if ?_ | with_reducible refine st_for ?_ | with_reducible refine st_par2 ?_ | with_reducible refine st_par3 ?_ | with_reducible refine st_asgT ?_ | with_reducible refine st_drop ?_ | with_reducible refine st_brk ?_ | with_reducible refine st_cnt ?_ | with_reducible refine st_tE ?_ | with_reducible refine st_tCmp ?_ | with_reducible refine st_tNt ?_ | with_reducible refine st_tAn ?_ | with_reducible refine st_tO ?_ | with_reducible refine st_tT ?_ | with_reducible refine st_c ?_ | with_reducible refine st_tr ?_ | with_reducible refine st_fz ?_ | with_reducible refine st_op ?_ | with_reducible refine st_call ?_ | with_reducible refine st_callK ?_ | with_reducible refine st_lst ?_ | with_reducible refine st_tup ?_ | with_reducible refine st_sl ?_ | with_reducible refine st_eif ?_ | with_reducible refine st_and ?_ | with_reducible refine st_or ?_ | with_reducible refine st_not ?_ | with_reducible refine st_neg ?_ | with_reducible refine st_isi ?_ | with_reducible refine st_lc ?_ | with_reducible refine st_dc ?_ | with_reducible refine st_anil ?_ | with_reducible refine st_acons ?_ | with_reducible refine st_ono ?_ | with_reducible refine st_osome ?_ | with_reducible refine st_iseq ?_ | with_reducible refine st_irg1 ?_ | with_reducible refine st_izp ?_ | with_reducible refine sd_addI ?_ | with_reducible refine sd_subI ?_ | with_reducible refine sd_lenL ?_ | with_reducible refine sd_lenT ?_ | with_reducible refine sd_list ?_ | with_reducible refine sd_tuple ?_ | with_reducible refine sd_lt ?_ | with_reducible refine sd_le ?_ | with_reducible refine sd_gt ?_ | with_reducible refine sd_ge ?_ | with_reducible refine sd_eqI ?_ | with_reducible refine sd_neI ?_ | with_reducible refine sd_eqS ?_ | with_reducible refine sd_neS ?_ | with_reducible refine sd_slL ?_ | with_reducible refine sd_slT ?_ | with_reducible refine sd_int ?_ | with_reducible refine st_app (by with_unfolding_all rfl) ?_ | with_reducible refine st_clr (by with_unfolding_all rfl) ?_ | with_reducible refine st_retO (by with_unfolding_all rfl) ?_ | with_reducible refine st_retV (by with_unfolding_all rfl) ?_ | with_reducible refine st_aug (by with_unfolding_all rfl) ?_ | with_reducible refine And.intro (by with_unfolding_all rfl) ?_ | with_reducible refine Exists.intro _ (And.intro (by with_unfolding_all rfl) ?_) | with_reducible refine And.intro (le_size (by with_unfolding_all rfl)) ?_ | with_reducible refine st_frz (by with_unfolding_all rfl) ?_ | with_reducible refine st_ms ?_))
      refine hof (by show 9 ≤ 1000000; decide) (by simp) fun d hd => ?_
      have hd : SD 20 d := by
        simp only [List.mem_cons, List.not_mem_nil, or_false] at hd
        have b1 : SD 20 (.str (tx w)) := ⟨w, rfl, by omega⟩
        have b2 : SD 20 (.str (tx (TL.numL k2))) := ⟨_, rfl, by omega⟩
        rcases hd with h | h | h | h | h | h | h | h | h <;> rw [h]
        · exact b1
        · exact b2
        · exact b1
        · exact b2
        · exact ⟨[c1], rfl, by simp⟩
        · exact ⟨[c2], rfl, by simp⟩
        · exact sd_lit (by decide)
        · exact sd_lit (by decide)
        · exact hdk
      obtain ⟨p, rfl, hp⟩ := hd
      refine st_nx ?_
      refine seq_cut (fun δ => ∃ (p : List Nat) (s2 s4 s5 s6 s8 s9 s10 s11 s12 s13 s14 : Sl), p.length ≤ 20 ∧ δ = [.no, .val .bag, s2, .val (.str (tx cs)), s4, s5, s6, .val (.str (tx p)), s8, s9, s10, s11, s12, s13, s14]) ?_ ?_
      · rintro _ ⟨p, s2, s4, s5, s6, s8, s9, s10, s11, s12, s13, s14, hp, rfl⟩
        refine seq_cut (fun δ => ∃ (b : Bool) (s2 s4 s5 s6 s9 s10 s11 s12 s13 s14 : Sl), δ = [.no, .val .bag, s2, .val (.str (tx cs)), s4, s5, s6, .val (.str (tx p)), .val (.bl b), s9, s10, s11, s12, s13, s14]) ?_ ?_
        · rintro _ ⟨b, s2, s4, s5, s6, s9, s10, s11, s12, s13, s14, rfl⟩
          (repeat (first | with_reducible refine st_nx ?_ | with_reducible refine st_rt ?_ | with_reducible refine st_bk ?_ | with_reducible refine st_ct ?_ | with_reducible refine st_bind1 ?_ | with_reducible refine st_v (by with_unfolding_all rfl) ?_ | with_reducible refine st_seq ?_ | with_reducible refine st_skip ?_ | with_reducible refine st_asg ?_ | with_reducible refine st_ret ?_ | with_reducible refine st_if ?_ | with_reducible refine st_for ?_ | with_reducible refine st_par2 ?_ | with_reducible refine st_par3 ?_ | with_reducible refine st_asgT ?_ | with_reducible refine st_drop ?_ | with_reducible refine st_brk ?_ | with_reducible refine st_cnt ?_ | with_reducible refine st_tE ?_ | with_reducible refine st_tCmp ?_ | with_reducible refine st_tNt ?_ | with_reducible refine st_tAn ?_ | with_reducible refine st_tO ?_ | with_reducible refine st_tT ?_ | with_reducible refine st_c ?_ | with_reducible refine st_tr ?_ | with_reducible refine st_fz ?_ | with_reducible refine st_op ?_ | with_reducible refine st_call ?_ | with_reducible refine st_callK ?_ | with_reducible refine st_lst ?_ | with_reducible refine st_tup ?_ | with_reducible refine st_sl ?_ | with_reducible refine st_eif ?_ | with_reducible refine st_and ?_ | with_reducible refine st_or ?_ | with_reducible refine st_not ?_ | with_reducible refine st_neg ?_ | with_reducible refine st_isi ?_ | with_reducible refine st_lc ?_ | with_reducible refine st_dc ?_ | with_reducible refine st_anil ?_ | with_reducible refine st_acons ?_ | with_reducible refine st_ono ?_ | with_reducible refine st_osome ?_ | with_reducible refine st_iseq ?_ | with_reducible refine st_irg1 ?_ | with_reducible refine st_izp ?_ | with_reducible refine sd_addI ?_ | with_reducible refine sd_subI ?_ | with_reducible refine sd_lenL ?_ | with_reducible refine sd_lenT ?_ | with_reducible refine sd_list ?_ | with_reducible refine sd_tuple ?_ | with_reducible refine sd_lt ?_ | with_reducible refine sd_le ?_ | with_reducible refine sd_gt ?_ | with_reducible refine sd_ge ?_ | with_reducible refine sd_eqI ?_ | with_reducible refine sd_neI ?_ | with_reducible refine sd_eqS ?_ | with_reducible refine sd_neS ?_ | with_reducible refine sd_slL ?_ | with_reducible refine sd_slT ?_ | with_reducible refine sd_int ?_ | with_reducible refine st_app (by with_unfolding_all rfl) ?_ | with_reducible refine st_clr (by with_unfolding_all rfl) ?_ | with_reducible refine st_retO (by with_unfolding_all rfl) ?_ | with_reducible refine st_retV (by with_unfolding_all rfl) ?_ | with_reducible refine st_aug (by with_unfolding_all rfl) ?_ | with_reducible refine And.intro (by with_unfolding_all rfl) ?_ | with_reducible refine Exists.intro _ (And.intro (by with_unfolding_all rfl) ?_) | with_reducible refine And.intro (le_size (by with_unfolding_all rfl)) ?_ | with_reducible refine st_frz (by with_unfolding_all rfl) ?_ | with_reducible refine st_ms ?_))
          have fin : ∀ u : List Nat, u.length ≤ 1 → addD (.str (tx (cs ++ u))) (.str (tx p)) fun r => eCall S_of (aCons (eV 1) (aCons (eLst (aCons (eC (.str (tx []))) (aCons (eC (.str " ")) (aCons (eC (.str " ")) (aNil))))) (aNil))) [.no, .val .bag, s2, .val (.str (tx cs)), s4, s5, s6, .val (.str (tx p)), .val (.bl b), s9, s10, s11, s12, s13, s14] fun r' => addD r.d r'.d fun r => N' (List.set [.no, .val .bag, s2, .val (.str (tx cs)), s4, s5, s6, .val (.str (tx p)), .val (.bl b), s9, s10, s11, s12, s13, s14] 3 (.val r.d)) := by
            intro u hu
            refine ss_add (by rw [List.length_append]; omega) ?_
            (repeat (first | with_reducible refine st_nx ?_ | with_reducible refine st_rt ?_ | with_reducible refine st_bk ?_ | with_reducible refine st_ct ?_ | with_reducible refine st_bind1 ?_ | with_reducible refine st_v (by with_unfolding_all rfl) ?_ | with_reducible refine st_seq ?_ | with_reducible refine st_skip ?_ | with_reducible refine st_asg ?_ | with_reducible refine st_ret ?_ | with_reducible refine st_if ?_ | with_reducible refine st_for ?_ | with_reducible refine st_par2 ?_ | with_reducible refine st_par3 ?_ | with_reducible refine st_asgT ?_ | with_reducible refine st_drop ?_ | with_reducible refine st_brk ?_ | with_reducible refine st_cnt ?_ | with_reducible refine st_tE ?_ | with_reducible refine st_tCmp ?_ | with_reducible refine st_tNt ?_ | with_reducible refine st_tAn ?_ | with_reducible refine st_tO ?_ | with_reducible refine st_tT ?_ | with_reducible refine st_c ?_ | with_reducible refine st_tr ?_ | with_reducible refine st_fz ?_ | with_reducible refine st_op ?_ | with_reducible refine st_call ?_ | with_reducible refine st_callK ?_ | with_reducible refine st_lst ?_ | with_reducible refine st_tup ?_ | with_reducible refine st_sl ?_ | with_reducible refine st_eif ?_ | with_reducible refine st_and ?_ | with_reducible refine st_or ?_ | with_reducible refine st_not ?_ | with_reducible refine st_neg ?_ | with_reducible refine st_isi ?_ | with_reducible refine st_lc ?_ | with_reducible refine st_dc ?_ | with_reducible refine st_anil ?_ | with_reducible refine st_acons ?_ | with_reducible refine st_ono ?_ | with_reducible refine st_osome ?_ | with_reducible refine st_iseq ?_ | with_reducible refine st_irg1 ?_ | with_reducible refine st_izp ?_ | with_reducible refine sd_addI ?_ | with_reducible refine sd_subI ?_ | with_reducible refine sd_lenL ?_ | with_reducible refine sd_lenT ?_ | with_reducible refine sd_list ?_ | with_reducible refine sd_tuple ?_ | with_reducible refine sd_lt ?_ | with_reducible refine sd_le ?_ | with_reducible refine sd_gt ?_ | with_reducible refine sd_ge ?_ | with_reducible refine sd_eqI ?_ | with_reducible refine sd_neI ?_ | with_reducible refine sd_eqS ?_ | with_reducible refine sd_neS ?_ | with_reducible refine sd_slL ?_ | with_reducible refine sd_slT ?_ | with_reducible refine sd_int ?_ | with_reducible refine st_app (by with_unfolding_all rfl) ?_ | with_reducible refine st_clr (by with_unfolding_all rfl) ?_ | with_reducible refine st_retO (by with_unfolding_all rfl) ?_ | with_reducible refine st_retV (by with_unfolding_all rfl) ?_ | with_reducible refine st_aug (by with_unfolding_all rfl) ?_ | with_reducible refine And.intro (by with_unfolding_all rfl) ?_ | with_reducible refine Exists.intro _ (And.intro (by with_unfolding_all rfl) ?_) | with_reducible refine And.intro (le_size (by with_unfolding_all rfl)) ?_ | with_reducible refine st_frz (by with_unfolding_all rfl) ?_ | with_reducible refine st_ms ?_))
            refine hof (by show 3 ≤ 1000000; decide) (by simp) fun d hd => ?_
            have hd : SD 1 d := by
              simp only [List.mem_cons, List.not_mem_nil, or_false] at hd
              rcases hd with h | h | h <;> rw [h]
              · exact ⟨[], rfl, by simp⟩
              · exact sd_lit (by decide)
              · exact sd_lit (by decide)
            obtain ⟨v, rfl, hv⟩ := hd
            refine ss_add (by rw [List.length_append, List.length_append]; omega) ?_
            exact hN' _ ⟨cs ++ u ++ p ++ v, _, _, _, _, _, _, _, _, _, _, _, _, by rw [List.length_append, List.length_append, List.length_append]; omega, rfl⟩
          cases b with
          | true =>
            refine iteT ?_
            (repeat (first | with_reducible refine st_nx ?_ | with_reducible refine st_rt ?_ | with_reducible refine st_bk ?_ | with_reducible refine st_ct ?_ | with_reducible refine st_bind1 ?_ | with_reducible refine st_v (by with_unfolding_all rfl) ?_ | with_reducible refine st_seq ?_ | with_reducible refine st_skip ?_ | with_reducible refine st_asg ?_ | with_reducible refine st_ret ?_ | with_reducible refine st_if ?_ | with_reducible refine st_for ?_ | with_reducible refine st_par2 ?_ | with_reducible refine st_par3 ?_ | with_reducible refine st_asgT ?_ | with_reducible refine st_drop ?_ | with_reducible refine st_brk ?_ | with_reducible refine st_cnt ?_ | with_reducible refine st_tE ?_ | with_reducible refine st_tCmp ?_ | with_reducible refine st_tNt ?_ | with_reducible refine st_tAn ?_ | with_reducible refine st_tO ?_ | with_reducible refine st_tT ?_ | with_reducible refine st_c ?_ | with_reducible refine st_tr ?_ | with_reducible refine st_fz ?_ | with_reducible refine st_op ?_ | with_reducible refine st_call ?_ | with_reducible refine st_callK ?_ | with_reducible refine st_lst ?_ | with_reducible refine st_tup ?_ | with_reducible refine st_sl ?_ | with_reducible refine st_eif ?_ | with_reducible refine st_and ?_ | with_reducible refine st_or ?_ | with_reducible refine st_not ?_ | with_reducible refine st_neg ?_ | with_reducible refine st_isi ?_ | with_reducible refine st_lc ?_ | with_reducible refine st_dc ?_ | with_reducible refine st_anil ?_ | with_reducible refine st_acons ?_ | with_reducible refine st_ono ?_ | with_reducible refine st_osome ?_ | with_reducible refine st_iseq ?_ | with_reducible refine st_irg1 ?_ | with_reducible refine st_izp ?_ | with_reducible refine sd_addI ?_ | with_reducible refine sd_subI ?_ | with_reducible refine sd_lenL ?_ | with_reducible refine sd_lenT ?_ | with_reducible refine sd_list ?_ | with_reducible refine sd_tuple ?_ | with_reducible refine sd_lt ?_ | with_reducible refine sd_le ?_ | with_reducible refine sd_gt ?_ | with_reducible refine sd_ge ?_ | with_reducible refine sd_eqI ?_ | with_reducible refine sd_neI ?_ | with_reducible refine sd_eqS ?_ | with_reducible refine sd_neS ?_ | with_reducible refine sd_slL ?_ | with_reducible refine sd_slT ?_ | with_reducible refine sd_int ?_ | with_reducible refine st_app (by with_unfolding_all rfl) ?_ | with_reducible refine st_clr (by with_unfolding_all rfl) ?_ | with_reducible refine st_retO (by with_unfolding_all rfl) ?_ | with_reducible refine st_retV (by with_unfolding_all rfl) ?_ | with_reducible refine st_aug (by with_unfolding_all rfl) ?_ | with_reducible refine And.intro (by with_unfolding_all rfl) ?_ | with_reducible refine Exists.intro _ (And.intro (by with_unfolding_all rfl) ?_) | with_reducible refine And.intro (le_size (by with_unfolding_all rfl)) ?_ | with_reducible refine st_frz (by with_unfolding_all rfl) ?_ | with_reducible refine st_ms ?_))
            refine ss_addS (by show cs.length + 1 ≤ 100000; omega) ?_
            exact fin _ (by decide)
          | false =>
            refine iteF ?_
            (repeat (first | with_reducible refine st_nx ?_ | with_reducible refine st_rt ?_ | with_reducible refine st_bk ?_ | with_reducible refine st_ct ?_ | with_reducible refine st_bind1 ?_ | with_reducible refine st_v (by with_unfolding_all rfl) ?_ | with_reducible refine st_seq ?_ | with_reducible refine st_skip ?_ | with_reducible refine st_asg ?_ | with_reducible refine st_ret ?_ | with_reducible refine st_if ?_ | with_reducible refine st_for ?_ | with_reducible refine st_par2 ?_ | with_reducible refine st_par3 ?_ | with_reducible refine st_asgT ?_ | with_reducible refine st_drop ?_ | with_reducible refine st_brk ?_ | with_reducible refine st_cnt ?_ | with_reducible refine st_tE ?_ | with_reducible refine st_tCmp ?_ | with_reducible refine st_tNt ?_ | with_reducible refine st_tAn ?_ | with_reducible refine st_tO ?_ | with_reducible refine st_tT ?_ | with_reducible refine st_c ?_ | with_reducible refine st_tr ?_ | with_reducible refine st_fz ?_ | with_reducible refine st_op ?_ | with_reducible refine st_call ?_ | with_reducible refine st_callK ?_ | with_reducible refine st_lst ?_ | with_reducible refine st_tup ?_ | with_reducible refine st_sl ?_ | with_reducible refine st_eif ?_ | with_reducible refine st_and ?_ | with_reducible refine st_or ?_ | with_reducible refine st_not ?_ | with_reducible refine st_neg ?_ | with_reducible refine st_isi ?_ | with_reducible refine st_lc ?_ | with_reducible refine st_dc ?_ | with_reducible refine st_anil ?_ | with_reducible refine st_acons ?_ | with_reducible refine st_ono ?_ | with_reducible refine st_osome ?_ | with_reducible refine st_iseq ?_ | with_reducible refine st_irg1 ?_ | with_reducible refine st_izp ?_ | with_reducible refine sd_addI ?_ | with_reducible refine sd_subI ?_ | with_reducible refine sd_lenL ?_ | with_reducible refine sd_lenT ?_ | with_reducible refine sd_list ?_ | with_reducible refine sd_tuple ?_ | with_reducible refine sd_lt ?_ | with_reducible refine sd_le ?_ | with_reducible refine sd_gt ?_ | with_reducible refine sd_ge ?_ | with_reducible refine sd_eqI ?_ | with_reducible refine sd_neI ?_ | with_reducible refine sd_eqS ?_ | with_reducible refine sd_neS ?_ | with_reducible refine sd_slL ?_ | with_reducible refine sd_slT ?_ | with_reducible refine sd_int ?_ | with_reducible refine st_app (by with_unfolding_all rfl) ?_ | with_reducible refine st_clr (by with_unfolding_all rfl) ?_ | with_reducible refine st_retO (by with_unfolding_all rfl) ?_ | with_reducible refine st_retV (by with_unfolding_all rfl) ?_ | with_reducible refine st_aug (by with_unfolding_all rfl) ?_ | with_reducible refine And.intro (by with_unfolding_all rfl) ?_ | with_reducible refine Exists.intro _ (And.intro (by with_unfolding_all rfl) ?_) | with_reducible refine And.intro (le_size (by with_unfolding_all rfl)) ?_ | with_reducible refine st_frz (by with_unfolding_all rfl) ?_ | with_reducible refine st_ms ?_))
            refine ss_add (by simp; omega) ?_
            exact fin [] (by decide)
        · intro N8 hN8
          (repeat (first | with_reducible refine ss_ix (by assumption) (by assumption) ?_ | with_reducible refine ss_len (by assumption) ?_ | with_reducible refine ss_in ?_ | with_reducible refine ss_nin ?_ | with_reducible refine ss_eq ?_ | with_reducible refine ss_ne ?_ | with_reducible refine ss_mid (by assumption) ?_ | with_reducible refine ss_to (by assumption) ?_ | with_reducible refine ss_from (by assumption) ?_ | with_reducible refine ss_is ?_ | with_reducible refine ss_isnt ?_ | with_reducible refine ss_aug ?_ | with_reducible refine st_nx ?_ | with_reducible refine st_rt ?_ | with_reducible refine st_bk ?_ | with_reducible refine st_ct ?_ | with_reducible refine st_bind1 ?_ | with_reducible refine st_v (by with_unfolding_all rfl) ?_ | with_reducible refine st_seq ?_ | with_reducible refine st_skip ?_ | with_reducible refine st_asg ?_ | with_reducible refine st_ret ?_ | with_reducible refine st_if ?_ | with_reducible refine st_for ?_ | with_reducible refine st_par2 ?_ | with_reducible refine st_par3 ?_ | with_reducible refine st_asgT ?_ | with_reducible refine st_drop ?_ | with_reducible refine st_brk ?_ | with_reducible refine st_cnt ?_ | with_reducible refine st_tE ?_ | with_reducible refine st_tCmp ?_ | with_reducible refine st_tNt ?_ | with_reducible refine st_tAn ?_ | with_reducible refine st_tO ?_ | with_reducible refine st_tT ?_ | with_reducible refine st_c ?_ | with_reducible refine st_tr ?_ | with_reducible refine st_fz ?_ | with_reducible refine st_op ?_ | with_reducible refine st_call ?_ | with_reducible refine st_callK ?_ | with_reducible refine st_lst ?_ | with_reducible refine st_tup ?_ | with_reducible refine st_sl ?_ | with_reducible refine st_eif ?_ | with_reducible refine st_and ?_ | with_reducible refine st_or ?_ | with_reducible refine st_not ?_ | with_reducible refine st_neg ?_ | with_reducible refine st_isi ?_ | with_reducible refine st_lc ?_ | with_reducible refine st_dc ?_ | with_reducible refine st_anil ?_ | with_reducible refine st_acons ?_ | with_reducible refine st_ono ?_ | with_reducible refine st_osome ?_ | with_reducible refine st_iseq ?_ | with_reducible refine st_irg1 ?_ | with_reducible refine st_izp ?_ | with_reducible refine sd_addI ?_ | with_reducible refine sd_subI ?_ | with_reducible refine sd_lenL ?_ | with_reducible refine sd_lenT ?_ | with_reducible refine sd_list ?_ | with_reducible refine sd_tuple ?_ | with_reducible refine sd_lt ?_ | with_reducible refine sd_le ?_ | with_reducible refine sd_gt ?_ | with_reducible refine sd_ge ?_ | with_reducible refine sd_eqI ?_ | with_reducible refine sd_neI ?_ | with_reducible refine sd_eqS ?_ | with_reducible refine sd_neS ?_ | with_reducible refine sd_slL ?_ | with_reducible refine sd_slT ?_ | with_reducible refine sd_int ?_ | with_reducible refine st_app (by with_unfolding_all rfl) ?_ | with_reducible refine st_clr (by with_unfolding_all rfl) ?_ | with_reducible refine st_retO (by with_unfolding_all rfl) ?_ | with_reducible refine st_retV (by with_unfolding_all rfl) ?_ | with_reducible refine st_aug (by with_unfolding_all rfl) ?_ | with_reducible refine And.intro (by with_unfolding_all rfl) ?_ | with_reducible refine Exists.intro _ (And.intro (by with_unfolding_all rfl) ?_) | with_reducible refine And.intro (le_size (by with_unfolding_all rfl)) ?_ | with_reducible refine st_frz (by with_unfolding_all rfl) ?_ | with_reducible refine st_ms ?_))
          by_cases h0 : cs = []
          · rw [decide_eq_true h0]
            refine iteF ?_
            exact hN8 _ ⟨_, _, _, _, _, _, _, _, _, _, _, rfl⟩
          · rw [decide_eq_false h0]
            refine iteT ?_
            (repeat (first | with_reducible refine ss_ix (by assumption) (by assumption) ?_ | with_reducible refine ss_len (by assumption) ?_ | with_reducible refine ss_in ?_ | with_reducible refine ss_nin ?_ | with_reducible refine ss_eq ?_ | with_reducible refine ss_ne ?_ | with_reducible refine ss_mid (by assumption) ?_ | with_reducible refine ss_to (by assumption) ?_ | with_reducible refine ss_from (by assumption) ?_ | with_reducible refine ss_is ?_ | with_reducible refine ss_isnt ?_ | with_reducible refine ss_aug ?_ | with_reducible refine st_nx ?_ | with_reducible refine st_rt ?_ | with_reducible refine st_bk ?_ | with_reducible refine st_ct ?_ | with_reducible refine st_bind1 ?_ | with_reducible refine st_v (by with_unfolding_all rfl) ?_ | with_reducible refine st_seq ?_ | with_reducible refine st_skip ?_ | with_reducible refine st_asg ?_ | with_reducible refine st_ret ?_ | with_reducible refine st_if ?_ | with_reducible refine st_for ?_ | with_reducible refine st_par2 ?_ | with_reducible refine st_par3 ?_ | with_reducible refine st_asgT ?_ | with_reducible refine st_drop ?_ | with_reducible refine st_brk ?_ | with_reducible refine st_cnt ?_ | with_reducible refine st_tE ?_ | with_reducible refine st_tCmp ?_ | with_reducible refine st_tNt ?_ | with_reducible refine st_tAn ?_ | with_reducible refine st_tO ?_ | with_reducible refine st_tT ?_ | with_reducible refine st_c ?_ | with_reducible refine st_tr ?_ | with_reducible refine st_fz ?_ | with_reducible refine st_op ?_ | with_reducible refine st_call ?_ | with_reducible refine st_callK ?_ | with_reducible refine st_lst ?_ | with_reducible refine st_tup ?_ | with_reducible refine st_sl ?_ | with_reducible refine st_eif ?_ | with_reducible refine st_and ?_ | with_reducible refine st_or ?_ | with_reducible refine st_not ?_ | with_reducible refine st_neg ?_ | with_reducible refine st_isi ?_ | with_reducible refine st_lc ?_ | with_reducible refine st_dc ?_ | with_reducible refine st_anil ?_ | with_reducible refine st_acons ?_ | with_reducible refine st_ono ?_ | with_reducible refine st_osome ?_ | with_reducible refine st_iseq ?_ | with_reducible refine st_irg1 ?_ | with_reducible refine st_izp ?_ | with_reducible refine sd_addI ?_ | with_reducible refine sd_subI ?_ | with_reducible refine sd_lenL ?_ | with_reducible refine sd_lenT ?_ | with_reducible refine sd_list ?_ | with_reducible refine sd_tuple ?_ | with_reducible refine sd_lt ?_ | with_reducible refine sd_le ?_ | with_reducible refine sd_gt ?_ | with_reducible refine sd_ge ?_ | with_reducible refine sd_eqI ?_ | with_reducible refine sd_neI ?_ | with_reducible refine sd_eqS ?_ | with_reducible refine sd_neS ?_ | with_reducible refine sd_slL ?_ | with_reducible refine sd_slT ?_ | with_reducible refine sd_int ?_ | with_reducible refine st_app (by with_unfolding_all rfl) ?_ | with_reducible refine st_clr (by with_unfolding_all rfl) ?_ | with_reducible refine st_retO (by with_unfolding_all rfl) ?_ | with_reducible refine st_retV (by with_unfolding_all rfl) ?_ | with_reducible refine st_aug (by with_unfolding_all rfl) ?_ | with_reducible refine And.intro (by with_unfolding_all rfl) ?_ | with_reducible refine Exists.intro _ (And.intro (by with_unfolding_all rfl) ?_) | with_reducible refine And.intro (le_size (by with_unfolding_all rfl)) ?_ | with_reducible refine st_frz (by with_unfolding_all rfl) ?_ | with_reducible refine st_ms ?_))
            refine ⟨by rw [tx_len]; exact size5 hcs, ?_⟩
            (repeat (first | with_reducible refine ss_ix (by assumption) (by assumption) ?_ | with_reducible refine ss_len (by assumption) ?_ | with_reducible refine ss_in ?_ | with_reducible refine ss_nin ?_ | with_reducible refine ss_eq ?_ | with_reducible refine ss_ne ?_ | with_reducible refine ss_mid (by assumption) ?_ | with_reducible refine ss_to (by assumption) ?_ | with_reducible refine ss_from (by assumption) ?_ | with_reducible refine ss_is ?_ | with_reducible refine ss_isnt ?_ | with_reducible refine ss_aug ?_ | with_reducible refine st_nx ?_ | with_reducible refine st_rt ?_ | with_reducible refine st_bk ?_ | with_reducible refine st_ct ?_ | with_reducible refine st_bind1 ?_ | with_reducible refine st_v (by with_unfolding_all rfl) ?_ | with_reducible refine st_seq ?_ | with_reducible refine st_skip ?_ | with_reducible refine st_asg ?_ | with_reducible refine st_ret ?_ | with_reducible refine st_if ?_ | with_reducible refine st_for ?_ | with_reducible refine st_par2 ?_ | with_reducible refine st_par3 ?_ | with_reducible refine st_asgT ?_ | with_reducible refine st_drop ?_ | with_reducible refine st_brk ?_ | with_reducible refine st_cnt ?_ | with_reducible refine st_tE ?_ | with_reducible refine st_tCmp ?_ | with_reducible refine st_tNt ?_ | with_reducible refine st_tAn ?_ | with_reducible refine st_tO ?_ | with_reducible refine st_tT ?_ | with_reducible refine st_c ?_ | with_reducible refine st_tr ?_ | with_reducible refine st_fz ?_ | with_reducible refine st_op ?_ | with_reducible refine st_call ?_ | with_reducible refine st_callK ?_ | with_reducible refine st_lst ?_ | with_reducible refine st_tup ?_ | with_reducible refine st_sl ?_ | with_reducible refine st_eif ?_ | with_reducible refine st_and ?_ | with_reducible refine st_or ?_ | with_reducible refine st_not ?_ | with_reducible refine st_neg ?_ | with_reducible refine st_isi ?_ | with_reducible refine st_lc ?_ | with_reducible refine st_dc ?_ | with_reducible refine st_anil ?_ | with_reducible refine st_acons ?_ | with_reducible refine st_ono ?_ | with_reducible refine st_osome ?_ | with_reducible refine st_iseq ?_ | with_reducible refine st_irg1 ?_ | with_reducible refine st_izp ?_ | with_reducible refine sd_addI ?_ | with_reducible refine sd_subI ?_ | with_reducible refine sd_lenL ?_ | with_reducible refine sd_lenT ?_ | with_reducible refine sd_list ?_ | with_reducible refine sd_tuple ?_ | with_reducible refine sd_lt ?_ | with_reducible refine sd_le ?_ | with_reducible refine sd_gt ?_ | with_reducible refine sd_ge ?_ | with_reducible refine sd_eqI ?_ | with_reducible refine sd_neI ?_ | with_reducible refine sd_eqS ?_ | with_reducible refine sd_neS ?_ | with_reducible refine sd_slL ?_ | with_reducible refine sd_slT ?_ | with_reducible refine sd_int ?_ | with_reducible refine st_app (by with_unfolding_all rfl) ?_ | with_reducible refine st_clr (by with_unfolding_all rfl) ?_ | with_reducible refine st_retO (by with_unfolding_all rfl) ?_ | with_reducible refine st_retV (by with_unfolding_all rfl) ?_ | with_reducible refine st_aug (by with_unfolding_all rfl) ?_ | with_reducible refine And.intro (by with_unfolding_all rfl) ?_ | with_reducible refine Exists.intro _ (And.intro (by with_unfolding_all rfl) ?_) | with_reducible refine And.intro (le_size (by with_unfolding_all rfl)) ?_ | with_reducible refine st_frz (by with_unfolding_all rfl) ?_ | with_reducible refine st_ms ?_))
            refine ss_inS ?_
            (repeat (first | with_reducible refine ss_ix (by assumption) (by assumption) ?_ | with_reducible refine ss_len (by assumption) ?_ | with_reducible refine ss_in ?_ | with_reducible refine ss_nin ?_ | with_reducible refine ss_eq ?_ | with_reducible refine ss_ne ?_ | with_reducible refine ss_mid (by assumption) ?_ | with_reducible refine ss_to (by assumption) ?_ | with_reducible refine ss_from (by assumption) ?_ | with_reducible refine ss_is ?_ | with_reducible refine ss_isnt ?_ | with_reducible refine ss_aug ?_ | with_reducible refine st_nx ?_ | with_reducible refine st_rt ?_ | with_reducible refine st_bk ?_ | with_reducible refine st_ct ?_ | with_reducible refine st_bind1 ?_ | with_reducible refine st_v (by with_unfolding_all rfl) ?_ | with_reducible refine st_seq ?_ | with_reducible refine st_skip ?_ | with_reducible refine st_asg ?_ | with_reducible refine st_ret ?_ | with_reducible refine st_if ?_ | with_reducible refine st_for ?_ | with_reducible refine st_par2 ?_ | with_reducible refine st_par3 ?_ | with_reducible refine st_asgT ?_ | with_reducible refine st_drop ?_ | with_reducible refine st_brk ?_ | with_reducible refine st_cnt ?_ | with_reducible refine st_tE ?_ | with_reducible refine st_tCmp ?_ | with_reducible refine st_tNt ?_ | with_reducible refine st_tAn ?_ | with_reducible refine st_tO ?_ | with_reducible refine st_tT ?_ | with_reducible refine st_c ?_ | with_reducible refine st_tr ?_ | with_reducible refine st_fz ?_ | with_reducible refine st_op ?_ | with_reducible refine st_call ?_ | with_reducible refine st_callK ?_ | with_reducible refine st_lst ?_ | with_reducible refine st_tup ?_ | with_reducible refine st_sl ?_ | with_reducible refine st_eif ?_ | with_reducible refine st_and ?_ | with_reducible refine st_or ?_ | with_reducible refine st_not ?_ | with_reducible refine st_neg ?_ | with_reducible refine st_isi ?_ | with_reducible refine st_lc ?_ | with_reducible refine st_dc ?_ | with_reducible refine st_anil ?_ | with_reducible refine st_acons ?_ | with_reducible refine st_ono ?_ | with_reducible refine st_osome ?_ | with_reducible refine st_iseq ?_ | with_reducible refine st_irg1 ?_ | with_reducible refine st_izp ?_ | with_reducible refine sd_addI ?_ | with_reducible refine sd_subI ?_ | with_reducible refine sd_lenL ?_ | with_reducible refine sd_lenT ?_ | with_reducible refine sd_list ?_ | with_reducible refine sd_tuple ?_ | with_reducible refine sd_lt ?_ | with_reducible refine sd_le ?_ | with_reducible refine sd_gt ?_ | with_reducible refine sd_ge ?_ | with_reducible refine sd_eqI ?_ | with_reducible refine sd_neI ?_ | with_reducible refine sd_eqS ?_ | with_reducible refine sd_neS ?_ | with_reducible refine sd_slL ?_ | with_reducible refine sd_slT ?_ | with_reducible refine sd_int ?_ | with_reducible refine st_app (by with_unfolding_all rfl) ?_ | with_reducible refine st_clr (by with_unfolding_all rfl) ?_ | with_reducible refine st_retO (by with_unfolding_all rfl) ?_ | with_reducible refine st_retV (by with_unfolding_all rfl) ?_ | with_reducible refine st_aug (by with_unfolding_all rfl) ?_ | with_reducible refine And.intro (by with_unfolding_all rfl) ?_ | with_reducible refine Exists.intro _ (And.intro (by with_unfolding_all rfl) ?_) | with_reducible refine And.intro (le_size (by with_unfolding_all rfl)) ?_ | with_reducible refine st_frz (by with_unfolding_all rfl) ?_ | with_reducible refine st_ms ?_))
            generalize inTxt _ _ = b
            cases b with
            | true =>
              refine iteT ?_
              (repeat (first | with_reducible refine ss_ix (by assumption) (by assumption) ?_ | with_reducible refine ss_len (by assumption) ?_ | with_reducible refine ss_in ?_ | with_reducible refine ss_nin ?_ | with_reducible refine ss_eq ?_ | with_reducible refine ss_ne ?_ | with_reducible refine ss_mid (by assumption) ?_ | with_reducible refine ss_to (by assumption) ?_ | with_reducible refine ss_from (by assumption) ?_ | with_reducible refine ss_is ?_ | with_reducible refine ss_isnt ?_ | with_reducible refine ss_aug ?_ | with_reducible refine st_nx ?_ | with_reducible refine st_rt ?_ | with_reducible refine st_bk ?_ | with_reducible refine st_ct ?_ | with_reducible refine st_bind1 ?_ | with_reducible refine st_v (by with_unfolding_all rfl) ?_ | with_reducible refine st_seq ?_ | with_reducible refine st_skip ?_ | with_reducible refine st_asg ?_ | with_reducible refine st_ret ?_ | with_reducible refine st_if ?_ | with_reducible refine st_for ?_ | with_reducible refine st_par2 ?_ | with_reducible refine st_par3 ?_ | with_reducible refine st_asgT ?_ | with_reducible refine st_drop ?_ | with_reducible refine st_brk ?_ | with_reducible refine st_cnt ?_ | with_reducible refine st_tE ?_ | with_reducible refine st_tCmp ?_ | with_reducible refine st_tNt ?_ | with_reducible refine st_tAn ?_ | with_reducible refine st_tO ?_ | with_reducible refine st_tT ?_ | with_reducible refine st_c ?_ | with_reducible refine st_tr ?_ | with_reducible refine st_fz ?_ | with_reducible refine st_op ?_ | with_reducible refine st_call ?_ | with_reducible refine st_callK ?_ | with_reducible refine st_lst ?_ | with_reducible refine st_tup ?_ | with_reducible refine st_sl ?_ | with_reducible refine st_eif ?_ | with_reducible refine st_and ?_ | with_reducible refine st_or ?_ | with_reducible refine st_not ?_ | with_reducible refine st_neg ?_ | with_reducible refine st_isi ?_ | with_reducible refine st_lc ?_ | with_reducible refine st_dc ?_ | with_reducible refine st_anil ?_ | with_reducible refine st_acons ?_ | with_reducible refine st_ono ?_ | with_reducible refine st_osome ?_ | with_reducible refine st_iseq ?_ | with_reducible refine st_irg1 ?_ | with_reducible refine st_izp ?_ | with_reducible refine sd_addI ?_ | with_reducible refine sd_subI ?_ | with_reducible refine sd_lenL ?_ | with_reducible refine sd_lenT ?_ | with_reducible refine sd_list ?_ | with_reducible refine sd_tuple ?_ | with_reducible refine sd_lt ?_ | with_reducible refine sd_le ?_ | with_reducible refine sd_gt ?_ | with_reducible refine sd_ge ?_ | with_reducible refine sd_eqI ?_ | with_reducible refine sd_neI ?_ | with_reducible refine sd_eqS ?_ | with_reducible refine sd_neS ?_ | with_reducible refine sd_slL ?_ | with_reducible refine sd_slT ?_ | with_reducible refine sd_int ?_ | with_reducible refine st_app (by with_unfolding_all rfl) ?_ | with_reducible refine st_clr (by with_unfolding_all rfl) ?_ | with_reducible refine st_retO (by with_unfolding_all rfl) ?_ | with_reducible refine st_retV (by with_unfolding_all rfl) ?_ | with_reducible refine st_aug (by with_unfolding_all rfl) ?_ | with_reducible refine And.intro (by with_unfolding_all rfl) ?_ | with_reducible refine Exists.intro _ (And.intro (by with_unfolding_all rfl) ?_) | with_reducible refine And.intro (le_size (by with_unfolding_all rfl)) ?_ | with_reducible refine st_frz (by with_unfolding_all rfl) ?_ | with_reducible refine st_ms ?_))
              refine ⟨by rw [tx_len]; exact size5 (by omega), ?_⟩
              (repeat (first | with_reducible refine ss_ix (by assumption) (by assumption) ?_ | with_reducible refine ss_len (by assumption) ?_ | with_reducible refine ss_in ?_ | with_reducible refine ss_nin ?_ | with_reducible refine ss_eq ?_ | with_reducible refine ss_ne ?_ | with_reducible refine ss_mid (by assumption) ?_ | with_reducible refine ss_to (by assumption) ?_ | with_reducible refine ss_from (by assumption) ?_ | with_reducible refine ss_is ?_ | with_reducible refine ss_isnt ?_ | with_reducible refine ss_aug ?_ | with_reducible refine st_nx ?_ | with_reducible refine st_rt ?_ | with_reducible refine st_bk ?_ | with_reducible refine st_ct ?_ | with_reducible refine st_bind1 ?_ | with_reducible refine st_v (by with_unfolding_all rfl) ?_ | with_reducible refine st_seq ?_ | with_reducible refine st_skip ?_ | with_reducible refine st_asg ?_ | with_reducible refine st_ret ?_ | with_reducible refine st_if ?_ | with_reducible refine st_for ?_ | with_reducible refine st_par2 ?_ | with_reducible refine st_par3 ?_ | with_reducible refine st_asgT ?_ | with_reducible refine st_drop ?_ | with_reducible refine st_brk ?_ | with_reducible refine st_cnt ?_ | with_reducible refine st_tE ?_ | with_reducible refine st_tCmp ?_ | with_reducible refine st_tNt ?_ | with_reducible refine st_tAn ?_ | with_reducible refine st_tO ?_ | with_reducible refine st_tT ?_ | with_reducible refine st_c ?_ | with_reducible refine st_tr ?_ | with_reducible refine st_fz ?_ | with_reducible refine st_op ?_ | with_reducible refine st_call ?_ | with_reducible refine st_callK ?_ | with_reducible refine st_lst ?_ | with_reducible refine st_tup ?_ | with_reducible refine st_sl ?_ | with_reducible refine st_eif ?_ | with_reducible refine st_and ?_ | with_reducible refine st_or ?_ | with_reducible refine st_not ?_ | with_reducible refine st_neg ?_ | with_reducible refine st_isi ?_ | with_reducible refine st_lc ?_ | with_reducible refine st_dc ?_ | with_reducible refine st_anil ?_ | with_reducible refine st_acons ?_ | with_reducible refine st_ono ?_ | with_reducible refine st_osome ?_ | with_reducible refine st_iseq ?_ | with_reducible refine st_irg1 ?_ | with_reducible refine st_izp ?_ | with_reducible refine sd_addI ?_ | with_reducible refine sd_subI ?_ | with_reducible refine sd_lenL ?_ | with_reducible refine sd_lenT ?_ | with_reducible refine sd_list ?_ | with_reducible refine sd_tuple ?_ | with_reducible refine sd_lt ?_ | with_reducible refine sd_le ?_ | with_reducible refine sd_gt ?_ | with_reducible refine sd_ge ?_ | with_reducible refine sd_eqI ?_ | with_reducible refine sd_neI ?_ | with_reducible refine sd_eqS ?_ | with_reducible refine sd_neS ?_ | with_reducible refine sd_slL ?_ | with_reducible refine sd_slT ?_ | with_reducible refine sd_int ?_ | with_reducible refine st_app (by with_unfolding_all rfl) ?_ | with_reducible refine st_clr (by with_unfolding_all rfl) ?_ | with_reducible refine st_retO (by with_unfolding_all rfl) ?_ | with_reducible refine st_retV (by with_unfolding_all rfl) ?_ | with_reducible refine st_aug (by with_unfolding_all rfl) ?_ | with_reducible refine And.intro (by with_unfolding_all rfl) ?_ | with_reducible refine Exists.intro _ (And.intro (by with_unfolding_all rfl) ?_) | with_reducible refine And.intro (le_size (by with_unfolding_all rfl)) ?_ | with_reducible refine st_frz (by with_unfolding_all rfl) ?_ | with_reducible refine st_ms ?_))
              refine ss_inS ?_
              (repeat (first | with_reducible refine ss_ix (by assumption) (by assumption) ?_ | with_reducible refine ss_len (by assumption) ?_ | with_reducible refine ss_in ?_ | with_reducible refine ss_nin ?_ | with_reducible refine ss_eq ?_ | with_reducible refine ss_ne ?_ | with_reducible refine ss_mid (by assumption) ?_ | with_reducible refine ss_to (by assumption) ?_ | with_reducible refine ss_from (by assumption) ?_ | with_reducible refine ss_is ?_ | with_reducible refine ss_isnt ?_ | with_reducible refine ss_aug ?_ | with_reducible refine st_nx ?_ | with_reducible refine st_rt ?_ | with_reducible refine st_bk ?_ | with_reducible refine st_ct ?_ | with_reducible refine st_bind1 ?_ | with_reducible refine st_v (by with_unfolding_all rfl) ?_ | with_reducible refine st_seq ?_ | with_reducible refine st_skip ?_ | with_reducible refine st_asg ?_ | with_reducible refine st_ret ?_ | with_reducible refine st_if ?_ | with_reducible refine st_for ?_ | with_reducible refine st_par2 ?_ | with_reducible refine st_par3 ?_ | with_reducible refine st_asgT ?_ | with_reducible refine st_drop ?_ | with_reducible refine st_brk ?_ | with_reducible refine st_cnt ?_ | with_reducible refine st_tE ?_ | with_reducible refine st_tCmp ?_ | with_reducible refine st_tNt ?_ | with_reducible refine st_tAn ?_ | with_reducible refine st_tO ?_ | with_reducible refine st_tT ?_ | with_reducible refine st_c ?_ | with_reducible refine st_tr ?_ | with_reducible refine st_fz ?_ | with_reducible refine st_op ?_ | with_reducible refine st_call ?_ | with_reducible refine st_callK ?_ | with_reducible refine st_lst ?_ | with_reducible refine st_tup ?_ | with_reducible refine st_sl ?_ | with_reducible refine st_eif ?_ | with_reducible refine st_and ?_ | with_reducible refine st_or ?_ | with_reducible refine st_not ?_ | with_reducible refine st_neg ?_ | with_reducible refine st_isi ?_ | with_reducible refine st_lc ?_ | with_reducible refine st_dc ?_ | with_reducible refine st_anil ?_ | with_reducible refine st_acons ?_ | with_reducible refine st_ono ?_ | with_reducible refine st_osome ?_ | with_reducible refine st_iseq ?_ | with_reducible refine st_irg1 ?_ | with_reducible refine st_izp ?_ | with_reducible refine sd_addI ?_ | with_reducible refine sd_subI ?_ | with_reducible refine sd_lenL ?_ | with_reducible refine sd_lenT ?_ | with_reducible refine sd_list ?_ | with_reducible refine sd_tuple ?_ | with_reducible refine sd_lt ?_ | with_reducible refine sd_le ?_ | with_reducible refine sd_gt ?_ | with_reducible refine sd_ge ?_ | with_reducible refine sd_eqI ?_ | with_reducible refine sd_neI ?_ | with_reducible refine sd_eqS ?_ | with_reducible refine sd_neS ?_ | with_reducible refine sd_slL ?_ | with_reducible refine sd_slT ?_ | with_reducible refine sd_int ?_ | with_reducible refine st_app (by with_unfolding_all rfl) ?_ | with_reducible refine st_clr (by with_unfolding_all rfl) ?_ | with_reducible refine st_retO (by with_unfolding_all rfl) ?_ | with_reducible refine st_retV (by with_unfolding_all rfl) ?_ | with_reducible refine st_aug (by with_unfolding_all rfl) ?_ | with_reducible refine And.intro (by with_unfolding_all rfl) ?_ | with_reducible refine Exists.intro _ (And.intro (by with_unfolding_all rfl) ?_) | with_reducible refine And.intro (le_size (by with_unfolding_all rfl)) ?_ | with_reducible refine st_frz (by with_unfolding_all rfl) ?_ | with_reducible refine st_ms ?_))
              exact hN8 _ ⟨_, _, _, _, _, _, _, _, _, _, _, rfl⟩
            | false =>
              refine iteF ?_
              (repeat (first | with_reducible refine ss_ix (by assumption) (by assumption) ?_ | with_reducible refine ss_len (by assumption) ?_ | with_reducible refine ss_in ?_ | with_reducible refine ss_nin ?_ | with_reducible refine ss_eq ?_ | with_reducible refine ss_ne ?_ | with_reducible refine ss_mid (by assumption) ?_ | with_reducible refine ss_to (by assumption) ?_ | with_reducible refine ss_from (by assumption) ?_ | with_reducible refine ss_is ?_ | with_reducible refine ss_isnt ?_ | with_reducible refine ss_aug ?_ | with_reducible refine st_nx ?_ | with_reducible refine st_rt ?_ | with_reducible refine st_bk ?_ | with_reducible refine st_ct ?_ | with_reducible refine st_bind1 ?_ | with_reducible refine st_v (by with_unfolding_all rfl) ?_ | with_reducible refine st_seq ?_ | with_reducible refine st_skip ?_ | with_reducible refine st_asg ?_ | with_reducible refine st_ret ?_ | with_reducible refine st_if ?_ | with_reducible refine st_for ?_ | with_reducible refine st_par2 ?_ | with_reducible refine st_par3 ?_ | with_reducible refine st_asgT ?_ | with_reducible refine st_drop ?_ | with_reducible refine st_brk ?_ | with_reducible refine st_cnt ?_ | with_reducible refine st_tE ?_ | with_reducible refine st_tCmp ?_ | with_reducible refine st_tNt ?_ | with_reducible refine st_tAn ?_ | with_reducible refine st_tO ?_ | with_reducible refine st_tT ?_ | with_reducible refine st_c ?_ | with_reducible refine st_tr ?_ | with_reducible refine st_fz ?_ | with_reducible refine st_op ?_ | with_reducible refine st_call ?_ | with_reducible refine st_callK ?_ | with_reducible refine st_lst ?_ | with_reducible refine st_tup ?_ | with_reducible refine st_sl ?_ | with_reducible refine st_eif ?_ | with_reducible refine st_and ?_ | with_reducible refine st_or ?_ | with_reducible refine st_not ?_ | with_reducible refine st_neg ?_ | with_reducible refine st_isi ?_ | with_reducible refine st_lc ?_ | with_reducible refine st_dc ?_ | with_reducible refine st_anil ?_ | with_reducible refine st_acons ?_ | with_reducible refine st_ono ?_ | with_reducible refine st_osome ?_ | with_reducible refine st_iseq ?_ | with_reducible refine st_irg1 ?_ | with_reducible refine st_izp ?_ | with_reducible refine sd_addI ?_ | with_reducible refine sd_subI ?_ | with_reducible refine sd_lenL ?_ | with_reducible refine sd_lenT ?_ | with_reducible refine sd_list ?_ | with_reducible refine sd_tuple ?_ | with_reducible refine sd_lt ?_ | with_reducible refine sd_le ?_ | with_reducible refine sd_gt ?_ | with_reducible refine sd_ge ?_ | with_reducible refine sd_eqI ?_ | with_reducible refine sd_neI ?_ | with_reducible refine sd_eqS ?_ | with_reducible refine sd_neS ?_ | with_reducible refine sd_slL ?_ | with_reducible refine sd_slT ?_ | with_reducible refine sd_int ?_ | with_reducible refine st_app (by with_unfolding_all rfl) ?_ | with_reducible refine st_clr (by with_unfolding_all rfl) ?_ | with_reducible refine st_retO (by with_unfolding_all rfl) ?_ | with_reducible refine st_retV (by with_unfolding_all rfl) ?_ | with_reducible refine st_aug (by with_unfolding_all rfl) ?_ | with_reducible refine And.intro (by with_unfolding_all rfl) ?_ | with_reducible refine Exists.intro _ (And.intro (by with_unfolding_all rfl) ?_) | with_reducible refine And.intro (le_size (by with_unfolding_all rfl)) ?_ | with_reducible refine st_frz (by with_unfolding_all rfl) ?_ | with_reducible refine st_ms ?_))
              exact hN8 _ ⟨_, _, _, _, _, _, _, _, _, _, _, rfl⟩
      · intro N7 hN7
        (repeat (first | with_reducible refine st_nx ?_ | with_reducible refine st_rt ?_ | with_reducible refine st_bk ?_ | with_reducible refine st_ct ?_ | with_reducible refine st_bind1 ?_ | with_reducible refine st_v (by with_unfolding_all rfl) ?_ | with_reducible refine st_seq ?_ | with_reducible refine st_skip ?_ | with_reducible refine st_asg ?_ | with_reducible refine st_ret ?_ | with_reducible refine st_if ?_ | with_reducible refine st_for ?_ | with_reducible refine st_par2 ?_ | with_reducible refine st_par3 ?_ | with_reducible refine st_asgT ?_ | with_reducible refine st_drop ?_ | with_reducible refine st_brk ?_ | with_reducible refine st_cnt ?_ | with_reducible refine st_tE ?_ | with_reducible refine st_tCmp ?_ | with_reducible refine st_tNt ?_ | with_reducible refine st_tAn ?_ | with_reducible refine st_tO ?_ | with_reducible refine st_tT ?_ | with_reducible refine st_c ?_ | with_reducible refine st_tr ?_ | with_reducible refine st_fz ?_ | with_reducible refine st_op ?_ | with_reducible refine st_call ?_ | with_reducible refine st_callK ?_ | with_reducible refine st_lst ?_ | with_reducible refine st_tup ?_ | with_reducible refine st_sl ?_ | with_reducible refine st_eif ?_ | with_reducible refine st_and ?_ | with_reducible refine st_or ?_ | with_reducible refine st_not ?_ | with_reducible refine st_neg ?_ | with_reducible refine st_isi ?_ | with_reducible refine st_lc ?_ | with_reducible refine st_dc ?_ | with_reducible refine st_anil ?_ | with_reducible refine st_acons ?_ | with_reducible refine st_ono ?_ | with_reducible refine st_osome ?_ | with_reducible refine st_iseq ?_ | with_reducible refine st_irg1 ?_ | with_reducible refine st_izp ?_ | with_reducible refine sd_addI ?_ | with_reducible refine sd_subI ?_ | with_reducible refine sd_lenL ?_ | with_reducible refine sd_lenT ?_ | with_reducible refine sd_list ?_ | with_reducible refine sd_tuple ?_ | with_reducible refine sd_lt ?_ | with_reducible refine sd_le ?_ | with_reducible refine sd_gt ?_ | with_reducible refine sd_ge ?_ | with_reducible refine sd_eqI ?_ | with_reducible refine sd_neI ?_ | with_reducible refine sd_eqS ?_ | with_reducible refine sd_neS ?_ | with_reducible refine sd_slL ?_ | with_reducible refine sd_slT ?_ | with_reducible refine sd_int ?_ | with_reducible refine st_app (by with_unfolding_all rfl) ?_ | with_reducible refine st_clr (by with_unfolding_all rfl) ?_ | with_reducible refine st_retO (by with_unfolding_all rfl) ?_ | with_reducible refine st_retV (by with_unfolding_all rfl) ?_ | with_reducible refine st_aug (by with_unfolding_all rfl) ?_ | with_reducible refine And.intro (by with_unfolding_all rfl) ?_ | with_reducible refine Exists.intro _ (And.intro (by with_unfolding_all rfl) ?_) | with_reducible refine And.intro (le_size (by with_unfolding_all rfl)) ?_ | with_reducible refine st_frz (by with_unfolding_all rfl) ?_ | with_reducible refine st_ms ?_))
        refine hdraw (by decide) (by decide) fun k4 hk4 => ?_
        (repeat (first | with_reducible refine st_nx ?_ | with_reducible refine st_rt ?_ | with_reducible refine st_bk ?_ | with_reducible refine st_ct ?_ | with_reducible refine st_bind1 ?_ | with_reducible refine st_v (by with_unfolding_all rfl) ?_ | with_reducible refine st_seq ?_ | with_reducible refine st_skip ?_ | with_reducible refine st_asg ?_ | with_reducible refine st_ret ?_ | with_reducible refine st_if ?_ | with_reducible refine st_for ?_ | with_reducible refine st_par2 ?_ | with_reducible refine st_par3 ?_ | with_reducible refine st_asgT ?_ | with_reducible refine st_drop ?_ | with_reducible refine st_brk ?_ | with_reducible refine st_cnt ?_ | with_reducible refine st_tE ?_ | with_reducible refine st_tCmp ?_ | with_reducible refine st_tNt ?_ | with_reducible refine st_tAn ?_ | with_reducible refine st_tO ?_ | with_reducible refine st_tT ?_ | with_reducible refine st_c ?_ | with_reducible refine st_tr ?_ | with_reducible refine st_fz ?_ | with_reducible refine st_op ?_ | with_reducible refine st_call ?_ | with_reducible refine st_callK ?_ | with_reducible refine st_lst ?_ | with_reducible refine st_tup ?_ | with_reducible refine st_sl ?_ | with_reducible refine st_eif ?_ | with_reducible refine st_and ?_ | with_reducible refine st_or ?_ | with_reducible refine st_not ?_ | with_reducible refine st_neg ?_ | with_reducible refine st_isi ?_ | with_reducible refine st_lc ?_ | with_reducible refine st_dc ?_ | with_reducible refine st_anil ?_ | with_reducible refine st_acons ?_ | with_reducible refine st_ono ?_ | with_reducible refine st_osome ?_ | with_reducible refine st_iseq ?_ | with_reducible refine st_irg1 ?_ | with_reducible refine st_izp ?_ | with_reducible refine sd_addI ?_ | with_reducible refine sd_subI ?_ | with_reducible refine sd_lenL ?_ | with_reducible refine sd_lenT ?_ | with_reducible refine sd_list ?_ | with_reducible refine sd_tuple ?_ | with_reducible refine sd_lt ?_ | with_reducible refine sd_le ?_ | with_reducible refine sd_gt ?_ | with_reducible refine sd_ge ?_ | with_reducible refine sd_eqI ?_ | with_reducible refine sd_neI ?_ | with_reducible refine sd_eqS ?_ | with_reducible refine sd_neS ?_ | with_reducible refine sd_slL ?_ | with_reducible refine sd_slT ?_ | with_reducible refine sd_int ?_ | with_reducible refine st_app (by with_unfolding_all rfl) ?_ | with_reducible refine st_clr (by with_unfolding_all rfl) ?_ | with_reducible refine st_retO (by with_unfolding_all rfl) ?_ | with_reducible refine st_retV (by with_unfolding_all rfl) ?_ | with_reducible refine st_aug (by with_unfolding_all rfl) ?_ | with_reducible refine And.intro (by with_unfolding_all rfl) ?_ | with_reducible refine Exists.intro _ (And.intro (by with_unfolding_all rfl) ?_) | with_reducible refine And.intro (le_size (by with_unfolding_all rfl)) ?_ | with_reducible refine st_frz (by with_unfolding_all rfl) ?_ | with_reducible refine st_ms ?_))
        generalize ((k4 : Int) == 0) = b
        cases b with
        | true =>
          refine iteT ?_
          (repeat (first | with_reducible refine st_nx ?_ | with_reducible refine st_rt ?_ | with_reducible refine st_bk ?_ | with_reducible refine st_ct ?_ | with_reducible refine st_bind1 ?_ | with_reducible refine st_v (by with_unfolding_all rfl) ?_ | with_reducible refine st_seq ?_ | with_reducible refine st_skip ?_ | with_reducible refine st_asg ?_ | with_reducible refine st_ret ?_ | with_reducible refine st_if ?_ | with_reducible refine st_for ?_ | with_reducible refine st_par2 ?_ | with_reducible refine st_par3 ?_ | with_reducible refine st_asgT ?_ | with_reducible refine st_drop ?_ | with_reducible refine st_brk ?_ | with_reducible refine st_cnt ?_ | with_reducible refine st_tE ?_ | with_reducible refine st_tCmp ?_ | with_reducible refine st_tNt ?_ | with_reducible refine st_tAn ?_ | with_reducible refine st_tO ?_ | with_reducible refine st_tT ?_ | with_reducible refine st_c ?_ | with_reducible refine st_tr ?_ | with_reducible refine st_fz ?_ | with_reducible refine st_op ?_ | with_reducible refine st_call ?_ | with_reducible refine st_callK ?_ | with_reducible refine st_lst ?_ | with_reducible refine st_tup ?_ | with_reducible refine st_sl ?_ | with_reducible refine st_eif ?_ | with_reducible refine st_and ?_ | with_reducible refine st_or ?_ | with_reducible refine st_not ?_ | with_reducible refine st_neg ?_ | with_reducible refine st_isi ?_ | with_reducible refine st_lc ?_ | with_reducible refine st_dc ?_ | with_reducible refine st_anil ?_ | with_reducible refine st_acons ?_ | with_reducible refine st_ono ?_ | with_reducible refine st_osome ?_ | with_reducible refine st_iseq ?_ | with_reducible refine st_irg1 ?_ | with_reducible refine st_izp ?_ | with_reducible refine sd_addI ?_ | with_reducible refine sd_subI ?_ | with_reducible refine sd_lenL ?_ | with_reducible refine sd_lenT ?_ | with_reducible refine sd_list ?_ | with_reducible refine sd_tuple ?_ | with_reducible refine sd_lt ?_ | with_reducible refine sd_le ?_ | with_reducible refine sd_gt ?_ | with_reducible refine sd_ge ?_ | with_reducible refine sd_eqI ?_ | with_reducible refine sd_neI ?_ | with_reducible refine sd_eqS ?_ | with_reducible refine sd_neS ?_ | with_reducible refine sd_slL ?_ | with_reducible refine sd_slT ?_ | with_reducible refine sd_int ?_ | with_reducible refine st_app (by with_unfolding_all rfl) ?_ | with_reducible refine st_clr (by with_unfolding_all rfl) ?_ | with_reducible refine st_retO (by with_unfolding_all rfl) ?_ | with_reducible refine st_retV (by with_unfolding_all rfl) ?_ | with_reducible refine st_aug (by with_unfolding_all rfl) ?_ | with_reducible refine And.intro (by with_unfolding_all rfl) ?_ | with_reducible refine Exists.intro _ (And.intro (by with_unfolding_all rfl) ?_) | with_reducible refine And.intro (le_size (by with_unfolding_all rfl)) ?_ | with_reducible refine st_frz (by with_unfolding_all rfl) ?_ | with_reducible refine st_ms ?_))
          refine ss_addS (by show w.length + 7 ≤ 100000; omega) ?_
          (repeat (first | with_reducible refine st_nx ?_ | with_reducible refine st_rt ?_ | with_reducible refine st_bk ?_ | with_reducible refine st_ct ?_ | with_reducible refine st_bind1 ?_ | with_reducible refine st_v (by with_unfolding_all rfl) ?_ | with_reducible refine st_seq ?_ | with_reducible refine st_skip ?_ | with_reducible refine st_asg ?_ | with_reducible refine st_ret ?_ | with_reducible refine st_if ?_ | with_reducible refine st_for ?_ | with_reducible refine st_par2 ?_ | with_reducible refine st_par3 ?_ | with_reducible refine st_asgT ?_ | with_reducible refine st_drop ?_ | with_reducible refine st_brk ?_ | with_reducible refine st_cnt ?_ | with_reducible refine st_tE ?_ | with_reducible refine st_tCmp ?_ | with_reducible refine st_tNt ?_ | with_reducible refine st_tAn ?_ | with_reducible refine st_tO ?_ | with_reducible refine st_tT ?_ | with_reducible refine st_c ?_ | with_reducible refine st_tr ?_ | with_reducible refine st_fz ?_ | with_reducible refine st_op ?_ | with_reducible refine st_call ?_ | with_reducible refine st_callK ?_ | with_reducible refine st_lst ?_ | with_reducible refine st_tup ?_ | with_reducible refine st_sl ?_ | with_reducible refine st_eif ?_ | with_reducible refine st_and ?_ | with_reducible refine st_or ?_ | with_reducible refine st_not ?_ | with_reducible refine st_neg ?_ | with_reducible refine st_isi ?_ | with_reducible refine st_lc ?_ | with_reducible refine st_dc ?_ | with_reducible refine st_anil ?_ | with_reducible refine st_acons ?_ | with_reducible refine st_ono ?_ | with_reducible refine st_osome ?_ | with_reducible refine st_iseq ?_ | with_reducible refine st_irg1 ?_ | with_reducible refine st_izp ?_ | with_reducible refine sd_addI ?_ | with_reducible refine sd_subI ?_ | with_reducible refine sd_lenL ?_ | with_reducible refine sd_lenT ?_ | with_reducible refine sd_list ?_ | with_reducible refine sd_tuple ?_ | with_reducible refine sd_lt ?_ | with_reducible refine sd_le ?_ | with_reducible refine sd_gt ?_ | with_reducible refine sd_ge ?_ | with_reducible refine sd_eqI ?_ | with_reducible refine sd_neI ?_ | with_reducible refine sd_eqS ?_ | with_reducible refine sd_neS ?_ | with_reducible refine sd_slL ?_ | with_reducible refine sd_slT ?_ | with_reducible refine sd_int ?_ | with_reducible refine st_app (by with_unfolding_all rfl) ?_ | with_reducible refine st_clr (by with_unfolding_all rfl) ?_ | with_reducible refine st_retO (by with_unfolding_all rfl) ?_ | with_reducible refine st_retV (by with_unfolding_all rfl) ?_ | with_reducible refine st_aug (by with_unfolding_all rfl) ?_ | with_reducible refine And.intro (by with_unfolding_all rfl) ?_ | with_reducible refine Exists.intro _ (And.intro (by with_unfolding_all rfl) ?_) | with_reducible refine And.intro (le_size (by with_unfolding_all rfl)) ?_ | with_reducible refine st_frz (by with_unfolding_all rfl) ?_ | with_reducible refine st_ms ?_))
          refine ss_addL (by show 1 + (TL.numL k2).length ≤ 100000; omega) ?_
          (repeat (first | with_reducible refine st_nx ?_ | with_reducible refine st_rt ?_ | with_reducible refine st_bk ?_ | with_reducible refine st_ct ?_ | with_reducible refine st_bind1 ?_ | with_reducible refine st_v (by with_unfolding_all rfl) ?_ | with_reducible refine st_seq ?_ | with_reducible refine st_skip ?_ | with_reducible refine st_asg ?_ | with_reducible refine st_ret ?_ | with_reducible refine st_if ?_ | with_reducible refine st_for ?_ | with_reducible refine st_par2 ?_ | with_reducible refine st_par3 ?_ | with_reducible refine st_asgT ?_ | with_reducible refine st_drop ?_ | with_reducible refine st_brk ?_ | with_reducible refine st_cnt ?_ | with_reducible refine st_tE ?_ | with_reducible refine st_tCmp ?_ | with_reducible refine st_tNt ?_ | with_reducible refine st_tAn ?_ | with_reducible refine st_tO ?_ | with_reducible refine st_tT ?_ | with_reducible refine st_c ?_ | with_reducible refine st_tr ?_ | with_reducible refine st_fz ?_ | with_reducible refine st_op ?_ | with_reducible refine st_call ?_ | with_reducible refine st_callK ?_ | with_reducible refine st_lst ?_ | with_reducible refine st_tup ?_ | with_reducible refine st_sl ?_ | with_reducible refine st_eif ?_ | with_reducible refine st_and ?_ | with_reducible refine st_or ?_ | with_reducible refine st_not ?_ | with_reducible refine st_neg ?_ | with_reducible refine st_isi ?_ | with_reducible refine st_lc ?_ | with_reducible refine st_dc ?_ | with_reducible refine st_anil ?_ | with_reducible refine st_acons ?_ | with_reducible refine st_ono ?_ | with_reducible refine st_osome ?_ | with_reducible refine st_iseq ?_ | with_reducible refine st_irg1 ?_ | with_reducible refine st_izp ?_ | with_reducible refine sd_addI ?_ | with_reducible refine sd_subI ?_ | with_reducible refine sd_lenL ?_ | with_reducible refine sd_lenT ?_ | with_reducible refine sd_list ?_ | with_reducible refine sd_tuple ?_ | with_reducible refine sd_lt ?_ | with_reducible refine sd_le ?_ | with_reducible refine sd_gt ?_ | with_reducible refine sd_ge ?_ | with_reducible refine sd_eqI ?_ | with_reducible refine sd_neI ?_ | with_reducible refine sd_eqS ?_ | with_reducible refine sd_neS ?_ | with_reducible refine sd_slL ?_ | with_reducible refine sd_slT ?_ | with_reducible refine sd_int ?_ | with_reducible refine st_app (by with_unfolding_all rfl) ?_ | with_reducible refine st_clr (by with_unfolding_all rfl) ?_ | with_reducible refine st_retO (by with_unfolding_all rfl) ?_ | with_reducible refine st_retV (by with_unfolding_all rfl) ?_ | with_reducible refine st_aug (by with_unfolding_all rfl) ?_ | with_reducible refine And.intro (by with_unfolding_all rfl) ?_ | with_reducible refine Exists.intro _ (And.intro (by with_unfolding_all rfl) ?_) | with_reducible refine And.intro (le_size (by with_unfolding_all rfl)) ?_ | with_reducible refine st_frz (by with_unfolding_all rfl) ?_ | with_reducible refine st_ms ?_))
          refine hof (by show 12 ≤ 1000000; decide) (by simp) fun d hd => ?_
          have hd : SD 20 d := by
            simp only [List.mem_cons, List.not_mem_nil, or_false] at hd
            rcases hd with h | h | h | h | h | h | h | h | h | h | h | h <;> rw [h]
            · exact ⟨_, rfl, by rw [List.length_append]; show w.length + 7 ≤ 20; omega⟩
            · exact ⟨_, rfl, by rw [List.length_append]; show 1 + (TL.numL k2).length ≤ 20; omega⟩
            all_goals exact sd_lit (by decide)
          obtain ⟨p', rfl, hp'⟩ := hd
          (repeat (first | with_reducible refine st_nx ?_ | with_reducible refine st_rt ?_ | with_reducible refine st_bk ?_ | with_reducible refine st_ct ?_ | with_reducible refine st_bind1 ?_ | with_reducible refine st_v (by with_unfolding_all rfl) ?_ | with_reducible refine st_seq ?_ | with_reducible refine st_skip ?_ | with_reducible refine st_asg ?_ | with_reducible refine st_ret ?_ | with_reducible refine st_if ?_ | with_reducible refine st_for ?_ | with_reducible refine st_par2 ?_ | with_reducible refine st_par3 ?_ | with_reducible refine st_asgT ?_ | with_reducible refine st_drop ?_ | with_reducible refine st_brk ?_ | with_reducible refine st_cnt ?_ | with_reducible refine st_tE ?_ | with_reducible refine st_tCmp ?_ | with_reducible refine st_tNt ?_ | with_reducible refine st_tAn ?_ | with_reducible refine st_tO ?_ | with_reducible refine st_tT ?_ | with_reducible refine st_c ?_ | with_reducible refine st_tr ?_ | with_reducible refine st_fz ?_ | with_reducible refine st_op ?_ | with_reducible refine st_call ?_ | with_reducible refine st_callK ?_ | with_reducible refine st_lst ?_ | with_reducible refine st_tup ?_ | with_reducible refine st_sl ?_ | with_reducible refine st_eif ?_ | with_reducible refine st_and ?_ | with_reducible refine st_or ?_ | with_reducible refine st_not ?_ | with_reducible refine st_neg ?_ | with_reducible refine st_isi ?_ | with_reducible refine st_lc ?_ | with_reducible refine st_dc ?_ | with_reducible refine st_anil ?_ | with_reducible refine st_acons ?_ | with_reducible refine st_ono ?_ | with_reducible refine st_osome ?_ | with_reducible refine st_iseq ?_ | with_reducible refine st_irg1 ?_ | with_reducible refine st_izp ?_ | with_reducible refine sd_addI ?_ | with_reducible refine sd_subI ?_ | with_reducible refine sd_lenL ?_ | with_reducible refine sd_lenT ?_ | with_reducible refine sd_list ?_ | with_reducible refine sd_tuple ?_ | with_reducible refine sd_lt ?_ | with_reducible refine sd_le ?_ | with_reducible refine sd_gt ?_ | with_reducible refine sd_ge ?_ | with_reducible refine sd_eqI ?_ | with_reducible refine sd_neI ?_ | with_reducible refine sd_eqS ?_ | with_reducible refine sd_neS ?_ | with_reducible refine sd_slL ?_ | with_reducible refine sd_slT ?_ | with_reducible refine sd_int ?_ | with_reducible refine st_app (by with_unfolding_all rfl) ?_ | with_reducible refine st_clr (by with_unfolding_all rfl) ?_ | with_reducible refine st_retO (by with_unfolding_all rfl) ?_ | with_reducible refine st_retV (by with_unfolding_all rfl) ?_ | with_reducible refine st_aug (by with_unfolding_all rfl) ?_ | with_reducible refine And.intro (by with_unfolding_all rfl) ?_ | with_reducible refine Exists.intro _ (And.intro (by with_unfolding_all rfl) ?_) | with_reducible refine And.intro (le_size (by with_unfolding_all rfl)) ?_ | with_reducible refine st_frz (by with_unfolding_all rfl) ?_ | with_reducible refine st_ms ?_))
          exact hN7 _ ⟨p', _, _, _, _, _, _, _, _, _, _, _, hp', rfl⟩
        | false =>
          refine iteF ?_
          (repeat (first | with_reducible refine st_nx ?_ | with_reducible refine st_rt ?_ | with_reducible refine st_bk ?_ | with_reducible refine st_ct ?_ | with_reducible refine st_bind1 ?_ | with_reducible refine st_v (by with_unfolding_all rfl) ?_ | with_reducible refine st_seq ?_ | with_reducible refine st_skip ?_ | with_reducible refine st_asg ?_ | with_reducible refine st_ret ?_ | with_reducible refine st_if ?_ | with_reducible refine st_for ?_ | with_reducible refine st_par2 ?_ | with_reducible refine st_par3 ?_ | with_reducible refine st_asgT ?_ | with_reducible refine st_drop ?_ | with_reducible refine st_brk ?_ | with_reducible refine st_cnt ?_ | with_reducible refine st_tE ?_ | with_reducible refine st_tCmp ?_ | with_reducible refine st_tNt ?_ | with_reducible refine st_tAn ?_ | with_reducible refine st_tO ?_ | with_reducible refine st_tT ?_ | with_reducible refine st_c ?_ | with_reducible refine st_tr ?_ | with_reducible refine st_fz ?_ | with_reducible refine st_op ?_ | with_reducible refine st_call ?_ | with_reducible refine st_callK ?_ | with_reducible refine st_lst ?_ | with_reducible refine st_tup ?_ | with_reducible refine st_sl ?_ | with_reducible refine st_eif ?_ | with_reducible refine st_and ?_ | with_reducible refine st_or ?_ | with_reducible refine st_not ?_ | with_reducible refine st_neg ?_ | with_reducible refine st_isi ?_ | with_reducible refine st_lc ?_ | with_reducible refine st_dc ?_ | with_reducible refine st_anil ?_ | with_reducible refine st_acons ?_ | with_reducible refine st_ono ?_ | with_reducible refine st_osome ?_ | with_reducible refine st_iseq ?_ | with_reducible refine st_irg1 ?_ | with_reducible refine st_izp ?_ | with_reducible refine sd_addI ?_ | with_reducible refine sd_subI ?_ | with_reducible refine sd_lenL ?_ | with_reducible refine sd_lenT ?_ | with_reducible refine sd_list ?_ | with_reducible refine sd_tuple ?_ | with_reducible refine sd_lt ?_ | with_reducible refine sd_le ?_ | with_reducible refine sd_gt ?_ | with_reducible refine sd_ge ?_ | with_reducible refine sd_eqI ?_ | with_reducible refine sd_neI ?_ | with_reducible refine sd_eqS ?_ | with_reducible refine sd_neS ?_ | with_reducible refine sd_slL ?_ | with_reducible refine sd_slT ?_ | with_reducible refine sd_int ?_ | with_reducible refine st_app (by with_unfolding_all rfl) ?_ | with_reducible refine st_clr (by with_unfolding_all rfl) ?_ | with_reducible refine st_retO (by with_unfolding_all rfl) ?_ | with_reducible refine st_retV (by with_unfolding_all rfl) ?_ | with_reducible refine st_aug (by with_unfolding_all rfl) ?_ | with_reducible refine And.intro (by with_unfolding_all rfl) ?_ | with_reducible refine Exists.intro _ (And.intro (by with_unfolding_all rfl) ?_) | with_reducible refine And.intro (le_size (by with_unfolding_all rfl)) ?_ | with_reducible refine st_frz (by with_unfolding_all rfl) ?_ | with_reducible refine st_ms ?_))
          exact hN7 _ ⟨p, _, _, _, _, _, _, _, _, _, _, _, hp, rfl⟩
    · rintro _ ⟨cs, s2, s4, s5, s6, s7, s8, s9, s10, s11, s12, s13, s14, hl, rfl⟩
      rw [rng_len] at hl
      have hcs : cs.length ≤ 90000 := by omega
      have hcs' : cs.length ≤ 100000 := by omega
      (repeat (first | with_reducible refine ss_ix (by assumption) (by assumption) ?_ | with_reducible refine ss_len (by assumption) ?_ | with_reducible refine ss_in ?_ | with_reducible refine ss_nin ?_ | with_reducible refine ss_eq ?_ | with_reducible refine ss_ne ?_ | with_reducible refine ss_mid (by assumption) ?_ | with_reducible refine ss_to (by assumption) ?_ | with_reducible refine ss_from (by assumption) ?_ | with_reducible refine ss_is ?_ | with_reducible refine ss_isnt ?_ | with_reducible refine ss_aug ?_ | with_reducible refine st_nx ?_ | with_reducible refine st_rt ?_ | with_reducible refine st_bk ?_ | with_reducible refine st_ct ?_ | with_reducible refine st_bind1 ?_ | with_reducible refine st_v (by with_unfolding_all rfl) ?_ | with_reducible refine st_seq ?_ | with_reducible refine st_skip ?_ | with_reducible refine st_asg ?_ | with_reducible refine st_ret ?_ | with_reducible refine st_if ?_ | with_reducible refine st_for ?_ | with_reducible refine st_par2 ?_ | with_reducible refine st_par3 ?_ | with_reducible refine st_asgT ?_ | with_reducible refine st_drop ?_ | with_reducible refine st_brk ?_ | with_reducible refine st_cnt ?_ | with_reducible refine st_tE ?_ | with_reducible refine st_tCmp ?_ | with_reducible refine st_tNt ?_ | with_reducible refine st_tAn ?_ | with_reducible refine st_tO ?_ | with_reducible refine st_tT ?_ | with_reducible refine st_c ?_ | with_reducible refine st_tr ?_ | with_reducible refine st_fz ?_ | with_reducible refine st_op ?_ | with_reducible refine st_call ?_ | with_reducible refine st_callK ?_ | with_reducible refine st_lst ?_ | with_reducible refine st_tup ?_ | with_reducible refine st_sl ?_ | with_reducible refine st_eif ?_ | with_reducible refine st_and ?_ | with_reducible refine st_or ?_ | with_reducible refine st_not ?_ | with_reducible refine st_neg ?_ | with_reducible refine st_isi ?_ | with_reducible refine st_lc ?_ | with_reducible refine st_dc ?_ | with_reducible refine st_anil ?_ | with_reducible refine st_acons ?_ | with_reducible refine st_ono ?_ | with_reducible refine st_osome ?_ | with_reducible refine st_iseq ?_ | with_reducible refine st_irg1 ?_ | with_reducible refine st_izp ?_ | with_reducible refine sd_addI ?_ | with_reducible refine sd_subI ?_ | with_reducible refine sd_lenL ?_ | with_reducible refine sd_lenT ?_ | with_reducible refine sd_list ?_ | with_reducible refine sd_tuple ?_ | with_reducible refine sd_lt ?_ | with_reducible refine sd_le ?_ | with_reducible refine sd_gt ?_ | with_reducible refine sd_ge ?_ | with_reducible refine sd_eqI ?_ | with_reducible refine sd_neI ?_ | with_reducible refine sd_eqS ?_ | with_reducible refine sd_neS ?_ | with_reducible refine sd_slL ?_ | with_reducible refine sd_slT ?_ | with_reducible refine sd_int ?_ | with_reducible refine st_app (by with_unfolding_all rfl) ?_ | with_reducible refine st_clr (by with_unfolding_all rfl) ?_ | with_reducible refine st_retO (by with_unfolding_all rfl) ?_ | with_reducible refine st_retV (by with_unfolding_all rfl) ?_ | with_reducible refine st_aug (by with_unfolding_all rfl) ?_ | with_reducible refine And.intro (by with_unfolding_all rfl) ?_ | with_reducible refine Exists.intro _ (And.intro (by with_unfolding_all rfl) ?_) | with_reducible refine And.intro (le_size (by with_unfolding_all rfl)) ?_ | with_reducible refine st_frz (by with_unfolding_all rfl) ?_ | with_reducible refine st_ms ?_))
      refine hltok hcs' ?_
      (repeat (first | with_reducible refine ss_ix (by assumption) (by assumption) ?_ | with_reducible refine ss_len (by assumption) ?_ | with_reducible refine ss_in ?_ | with_reducible refine ss_nin ?_ | with_reducible refine ss_eq ?_ | with_reducible refine ss_ne ?_ | with_reducible refine ss_mid (by assumption) ?_ | with_reducible refine ss_to (by assumption) ?_ | with_reducible refine ss_from (by assumption) ?_ | with_reducible refine ss_is ?_ | with_reducible refine ss_isnt ?_ | with_reducible refine ss_aug ?_ | with_reducible refine st_nx ?_ | with_reducible refine st_rt ?_ | with_reducible refine st_bk ?_ | with_reducible refine st_ct ?_ | with_reducible refine st_bind1 ?_ | with_reducible refine st_v (by with_unfolding_all rfl) ?_ | with_reducible refine st_seq ?_ | with_reducible refine st_skip ?_ | with_reducible refine st_asg ?_ | with_reducible refine st_ret ?_ | with_reducible refine st_if ?_ | with_reducible refine st_for ?_ | with_reducible refine st_par2 ?_ | with_reducible refine st_par3 ?_ | with_reducible refine st_asgT ?_ | with_reducible refine st_drop ?_ | with_reducible refine st_brk ?_ | with_reducible refine st_cnt ?_ | with_reducible refine st_tE ?_ | with_reducible refine st_tCmp ?_ | with_reducible refine st_tNt ?_ | with_reducible refine st_tAn ?_ | with_reducible refine st_tO ?_ | with_reducible refine st_tT ?_ | with_reducible refine st_c ?_ | with_reducible refine st_tr ?_ | with_reducible refine st_fz ?_ | with_reducible refine st_op ?_ | with_reducible refine st_call ?_ | with_reducible refine st_callK ?_ | with_reducible refine st_lst ?_ | with_reducible refine st_tup ?_ | with_reducible refine st_sl ?_ | with_reducible refine st_eif ?_ | with_reducible refine st_and ?_ | with_reducible refine st_or ?_ | with_reducible refine st_not ?_ | with_reducible refine st_neg ?_ | with_reducible refine st_isi ?_ | with_reducible refine st_lc ?_ | with_reducible refine st_dc ?_ | with_reducible refine st_anil ?_ | with_reducible refine st_acons ?_ | with_reducible refine st_ono ?_ | with_reducible refine st_osome ?_ | with_reducible refine st_iseq ?_ | with_reducible refine st_irg1 ?_ | with_reducible refine st_izp ?_ | with_reducible refine sd_addI ?_ | with_reducible refine sd_subI ?_ | with_reducible refine sd_lenL ?_ | with_reducible refine sd_lenT ?_ | with_reducible refine sd_list ?_ | with_reducible refine sd_tuple ?_ | with_reducible refine sd_lt ?_ | with_reducible refine sd_le ?_ | with_reducible refine sd_gt ?_ | with_reducible refine sd_ge ?_ | with_reducible refine sd_eqI ?_ | with_reducible refine sd_neI ?_ | with_reducible refine sd_eqS ?_ | with_reducible refine sd_neS ?_ | with_reducible refine sd_slL ?_ | with_reducible refine sd_slT ?_ | with_reducible refine sd_int ?_ | with_reducible refine st_app (by with_unfolding_all rfl) ?_ | with_reducible refine st_clr (by with_unfolding_all rfl) ?_ | with_reducible refine st_retO (by with_unfolding_all rfl) ?_ | with_reducible refine st_retV (by with_unfolding_all rfl) ?_ | with_reducible refine st_aug (by with_unfolding_all rfl) ?_ | with_reducible refine And.intro (by with_unfolding_all rfl) ?_ | with_reducible refine Exists.intro _ (And.intro (by with_unfolding_all rfl) ?_) | with_reducible refine And.intro (le_size (by with_unfolding_all rfl)) ?_ | with_reducible refine st_frz (by with_unfolding_all rfl) ?_ | with_reducible refine st_ms ?_))
      refine ⟨by decide, by decide, ?_⟩
      refine forL_all (fun δ => ∃ s2 s4 s5 s6 s7 s8 s10 s11 s12 s13 s14, δ = [.no, .val .bag, s2, .val (.str (tx cs)), s4, s5, s6, s7, s8, .val (.lst (toks cs)), s10, s11, s12, s13, s14]) _ ?_ ?_ ⟨_, _, _, _, _, _, _, _, _, _, _, rfl⟩
      · rintro _ _ N2 - ⟨s2, s4, s5, s6, s7, s8, s10, s11, s12, s13, s14, rfl⟩ hN2
        (repeat (first | with_reducible refine ss_ix (by assumption) (by assumption) ?_ | with_reducible refine ss_len (by assumption) ?_ | with_reducible refine ss_in ?_ | with_reducible refine ss_nin ?_ | with_reducible refine ss_eq ?_ | with_reducible refine ss_ne ?_ | with_reducible refine ss_mid (by assumption) ?_ | with_reducible refine ss_to (by assumption) ?_ | with_reducible refine ss_from (by assumption) ?_ | with_reducible refine ss_is ?_ | with_reducible refine ss_isnt ?_ | with_reducible refine ss_aug ?_ | with_reducible refine st_nx ?_ | with_reducible refine st_rt ?_ | with_reducible refine st_bk ?_ | with_reducible refine st_ct ?_ | with_reducible refine st_bind1 ?_ | with_reducible refine st_v (by with_unfolding_all rfl) ?_ | with_reducible refine st_seq ?_ | with_reducible refine st_skip ?_ | with_reducible refine st_asg ?_ | with_reducible refine st_ret ?_ | with_reducible refine st_if ?_ | with_reducible refine st_for ?_ | with_reducible refine st_par2 ?_ | with_reducible refine st_par3 ?_ | with_reducible refine st_asgT ?_ | with_reducible refine st_drop ?_ | with_reducible refine st_brk ?_ | with_reducible refine st_cnt ?_ | with_reducible refine st_tE ?_ | with_reducible refine st_tCmp ?_ | with_reducible refine st_tNt ?_ | with_reducible refine st_tAn ?_ | with_reducible refine st_tO ?_ | with_reducible refine st_tT ?_ | with_reducible refine st_c ?_ | with_reducible refine st_tr ?_ | with_reducible refine st_fz ?_ | with_reducible refine st_op ?_ | with_reducible refine st_call ?_ | with_reducible refine st_callK ?_ | with_reducible refine st_lst ?_ | with_reducible refine st_tup ?_ | with_reducible refine st_sl ?_ | with_reducible refine st_eif ?_ | with_reducible refine st_and ?_ | with_reducible refine st_or ?_ | with_reducible refine st_not ?_ | with_reducible refine st_neg ?_ | with_reducible refine st_isi ?_ | with_reducible refine st_lc ?_ | with_reducible refine st_dc ?_ | with_reducible refine st_anil ?_ | with_reducible refine st_acons ?_ | with_reducible refine st_ono ?_ | with_reducible refine st_osome ?_ | with_reducible refine st_iseq ?_ | with_reducible refine st_irg1 ?_ | with_reducible refine st_izp ?_ | with_reducible refine sd_addI ?_ | with_reducible refine sd_subI ?_ | with_reducible refine sd_lenL ?_ | with_reducible refine sd_lenT ?_ | with_reducible refine sd_list ?_ | with_reducible refine sd_tuple ?_ | with_reducible refine sd_lt ?_ | with_reducible refine sd_le ?_ | with_reducible refine sd_gt ?_ | with_reducible refine sd_ge ?_ | with_reducible refine sd_eqI ?_ | with_reducible refine sd_neI ?_ | with_reducible refine sd_eqS ?_ | with_reducible refine sd_neS ?_ | with_reducible refine sd_slL ?_ | with_reducible refine sd_slT ?_ | with_reducible refine sd_int ?_ | with_reducible refine st_app (by with_unfolding_all rfl) ?_ | with_reducible refine st_clr (by with_unfolding_all rfl) ?_ | with_reducible refine st_retO (by with_unfolding_all rfl) ?_ | with_reducible refine st_retV (by with_unfolding_all rfl) ?_ | with_reducible refine st_aug (by with_unfolding_all rfl) ?_ | with_reducible refine And.intro (by with_unfolding_all rfl) ?_ | with_reducible refine Exists.intro _ (And.intro (by with_unfolding_all rfl) ?_) | with_reducible refine And.intro (le_size (by with_unfolding_all rfl)) ?_ | with_reducible refine st_frz (by with_unfolding_all rfl) ?_ | with_reducible refine st_ms ?_))
        refine htok hcs' ?_
        (repeat (first | with_reducible refine ss_ix (by assumption) (by assumption) ?_ | with_reducible refine ss_len (by assumption) ?_ | with_reducible refine ss_in ?_ | with_reducible refine ss_nin ?_ | with_reducible refine ss_eq ?_ | with_reducible refine ss_ne ?_ | with_reducible refine ss_mid (by assumption) ?_ | with_reducible refine ss_to (by assumption) ?_ | with_reducible refine ss_from (by assumption) ?_ | with_reducible refine ss_is ?_ | with_reducible refine ss_isnt ?_ | with_reducible refine ss_aug ?_ | with_reducible refine st_nx ?_ | with_reducible refine st_rt ?_ | with_reducible refine st_bk ?_ | with_reducible refine st_ct ?_ | with_reducible refine st_bind1 ?_ | with_reducible refine st_v (by with_unfolding_all rfl) ?_ | with_reducible refine st_seq ?_ | with_reducible refine st_skip ?_ | with_reducible refine st_asg ?_ | with_reducible refine st_ret ?_ | with_reducible refine st_if ?_ | with_reducible refine st_for ?_ | with_reducible refine st_par2 ?_ | with_reducible refine st_par3 ?_ | with_reducible refine st_asgT ?_ | with_reducible refine st_drop ?_ | with_reducible refine st_brk ?_ | with_reducible refine st_cnt ?_ | with_reducible refine st_tE ?_ | with_reducible refine st_tCmp ?_ | with_reducible refine st_tNt ?_ | with_reducible refine st_tAn ?_ | with_reducible refine st_tO ?_ | with_reducible refine st_tT ?_ | with_reducible refine st_c ?_ | with_reducible refine st_tr ?_ | with_reducible refine st_fz ?_ | with_reducible refine st_op ?_ | with_reducible refine st_call ?_ | with_reducible refine st_callK ?_ | with_reducible refine st_lst ?_ | with_reducible refine st_tup ?_ | with_reducible refine st_sl ?_ | with_reducible refine st_eif ?_ | with_reducible refine st_and ?_ | with_reducible refine st_or ?_ | with_reducible refine st_not ?_ | with_reducible refine st_neg ?_ | with_reducible refine st_isi ?_ | with_reducible refine st_lc ?_ | with_reducible refine st_dc ?_ | with_reducible refine st_anil ?_ | with_reducible refine st_acons ?_ | with_reducible refine st_ono ?_ | with_reducible refine st_osome ?_ | with_reducible refine st_iseq ?_ | with_reducible refine st_irg1 ?_ | with_reducible refine st_izp ?_ | with_reducible refine sd_addI ?_ | with_reducible refine sd_subI ?_ | with_reducible refine sd_lenL ?_ | with_reducible refine sd_lenT ?_ | with_reducible refine sd_list ?_ | with_reducible refine sd_tuple ?_ | with_reducible refine sd_lt ?_ | with_reducible refine sd_le ?_ | with_reducible refine sd_gt ?_ | with_reducible refine sd_ge ?_ | with_reducible refine sd_eqI ?_ | with_reducible refine sd_neI ?_ | with_reducible refine sd_eqS ?_ | with_reducible refine sd_neS ?_ | with_reducible refine sd_slL ?_ | with_reducible refine sd_slT ?_ | with_reducible refine sd_int ?_ | with_reducible refine st_app (by with_unfolding_all rfl) ?_ | with_reducible refine st_clr (by with_unfolding_all rfl) ?_ | with_reducible refine st_retO (by with_unfolding_all rfl) ?_ | with_reducible refine st_retV (by with_unfolding_all rfl) ?_ | with_reducible refine st_aug (by with_unfolding_all rfl) ?_ | with_reducible refine And.intro (by with_unfolding_all rfl) ?_ | with_reducible refine Exists.intro _ (And.intro (by with_unfolding_all rfl) ?_) | with_reducible refine And.intro (le_size (by with_unfolding_all rfl)) ?_ | with_reducible refine st_frz (by with_unfolding_all rfl) ?_ | with_reducible refine st_ms ?_))
        refine htok hcs' ?_
        (repeat (first | with_reducible refine ss_ix (by assumption) (by assumption) ?_ | with_reducible refine ss_len (by assumption) ?_ | with_reducible refine ss_in ?_ | with_reducible refine ss_nin ?_ | with_reducible refine ss_eq ?_ | with_reducible refine ss_ne ?_ | with_reducible refine ss_mid (by assumption) ?_ | with_reducible refine ss_to (by assumption) ?_ | with_reducible refine ss_from (by assumption) ?_ | with_reducible refine ss_is ?_ | with_reducible refine ss_isnt ?_ | with_reducible refine ss_aug ?_ | with_reducible refine st_nx ?_ | with_reducible refine st_rt ?_ | with_reducible refine st_bk ?_ | with_reducible refine st_ct ?_ | with_reducible refine st_bind1 ?_ | with_reducible refine st_v (by with_unfolding_all rfl) ?_ | with_reducible refine st_seq ?_ | with_reducible refine st_skip ?_ | with_reducible refine st_asg ?_ | with_reducible refine st_ret ?_ | with_reducible refine st_if ?_ | with_reducible refine st_for ?_ | with_reducible refine st_par2 ?_ | with_reducible refine st_par3 ?_ | with_reducible refine st_asgT ?_ | with_reducible refine st_drop ?_ | with_reducible refine st_brk ?_ | with_reducible refine st_cnt ?_ | with_reducible refine st_tE ?_ | with_reducible refine st_tCmp ?_ | with_reducible refine st_tNt ?_ | with_reducible refine st_tAn ?_ | with_reducible refine st_tO ?_ | with_reducible refine st_tT ?_ | with_reducible refine st_c ?_ | with_reducible refine st_tr ?_ | with_reducible refine st_fz ?_ | with_reducible refine st_op ?_ | with_reducible refine st_call ?_ | with_reducible refine st_callK ?_ | with_reducible refine st_lst ?_ | with_reducible refine st_tup ?_ | with_reducible refine st_sl ?_ | with_reducible refine st_eif ?_ | with_reducible refine st_and ?_ | with_reducible refine st_or ?_ | with_reducible refine st_not ?_ | with_reducible refine st_neg ?_ | with_reducible refine st_isi ?_ | with_reducible refine st_lc ?_ | with_reducible refine st_dc ?_ | with_reducible refine st_anil ?_ | with_reducible refine st_acons ?_ | with_reducible refine st_ono ?_ | with_reducible refine st_osome ?_ | with_reducible refine st_iseq ?_ | with_reducible refine st_irg1 ?_ | with_reducible refine st_izp ?_ | with_reducible refine sd_addI ?_ | with_reducible refine sd_subI ?_ | with_reducible refine sd_lenL ?_ | with_reducible refine sd_lenT ?_ | with_reducible refine sd_list ?_ | with_reducible refine sd_tuple ?_ | with_reducible refine sd_lt ?_ | with_reducible refine sd_le ?_ | with_reducible refine sd_gt ?_ | with_reducible refine sd_ge ?_ | with_reducible refine sd_eqI ?_ | with_reducible refine sd_neI ?_ | with_reducible refine sd_eqS ?_ | with_reducible refine sd_neS ?_ | with_reducible refine sd_slL ?_ | with_reducible refine sd_slT ?_ | with_reducible refine sd_int ?_ | with_reducible refine st_app (by with_unfolding_all rfl) ?_ | with_reducible refine st_clr (by with_unfolding_all rfl) ?_ | with_reducible refine st_retO (by with_unfolding_all rfl) ?_ | with_reducible refine st_retV (by with_unfolding_all rfl) ?_ | with_reducible refine st_aug (by with_unfolding_all rfl) ?_ | with_reducible refine And.intro (by with_unfolding_all rfl) ?_ | with_reducible refine Exists.intro _ (And.intro (by with_unfolding_all rfl) ?_) | with_reducible refine And.intro (le_size (by with_unfolding_all rfl)) ?_ | with_reducible refine st_frz (by with_unfolding_all rfl) ?_ | with_reducible refine st_ms ?_))
        refine hsame (.lst [.lst (toks cs), .lst (toks cs)]) (pair_plain (toks_plain cs (by omega))) ?_
        (repeat (first | with_reducible refine ss_ix (by assumption) (by assumption) ?_ | with_reducible refine ss_len (by assumption) ?_ | with_reducible refine ss_in ?_ | with_reducible refine ss_nin ?_ | with_reducible refine ss_eq ?_ | with_reducible refine ss_ne ?_ | with_reducible refine ss_mid (by assumption) ?_ | with_reducible refine ss_to (by assumption) ?_ | with_reducible refine ss_from (by assumption) ?_ | with_reducible refine ss_is ?_ | with_reducible refine ss_isnt ?_ | with_reducible refine ss_aug ?_ | with_reducible refine st_nx ?_ | with_reducible refine st_rt ?_ | with_reducible refine st_bk ?_ | with_reducible refine st_ct ?_ | with_reducible refine st_bind1 ?_ | with_reducible refine st_v (by with_unfolding_all rfl) ?_ | with_reducible refine st_seq ?_ | with_reducible refine st_skip ?_ | with_reducible refine st_asg ?_ | with_reducible refine st_ret ?_ | with_reducible refine st_if ?_ | with_reducible refine st_for ?_ | with_reducible refine st_par2 ?_ | with_reducible refine st_par3 ?_ | with_reducible refine st_asgT ?_ | with_reducible refine st_drop ?_ | with_reducible refine st_brk ?_ | with_reducible refine st_cnt ?_ | with_reducible refine st_tE ?_ | with_reducible refine st_tCmp ?_ | with_reducible refine st_tNt ?_ | with_reducible refine st_tAn ?_ | with_reducible refine st_tO ?_ | with_reducible refine st_tT ?_ | with_reducible refine st_c ?_ | with_reducible refine st_tr ?_ | with_reducible refine st_fz ?_ | with_reducible refine st_op ?_ | with_reducible refine st_call ?_ | with_reducible refine st_callK ?_ | with_reducible refine st_lst ?_ | with_reducible refine st_tup ?_ | with_reducible refine st_sl ?_ | with_reducible refine st_eif ?_ | with_reducible refine st_and ?_ | with_reducible refine st_or ?_ | with_reducible refine st_not ?_ | with_reducible refine st_neg ?_ | with_reducible refine st_isi ?_ | with_reducible refine st_lc ?_ | with_reducible refine st_dc ?_ | with_reducible refine st_anil ?_ | with_reducible refine st_acons ?_ | with_reducible refine st_ono ?_ | with_reducible refine st_osome ?_ | with_reducible refine st_iseq ?_ | with_reducible refine st_irg1 ?_ | with_reducible refine st_izp ?_ | with_reducible refine sd_addI ?_ | with_reducible refine sd_subI ?_ | with_reducible refine sd_lenL ?_ | with_reducible refine sd_lenT ?_ | with_reducible refine sd_list ?_ | with_reducible refine sd_tuple ?_ | with_reducible refine sd_lt ?_ | with_reducible refine sd_le ?_ | with_reducible refine sd_gt ?_ | with_reducible refine sd_ge ?_ | with_reducible refine sd_eqI ?_ | with_reducible refine sd_neI ?_ | with_reducible refine sd_eqS ?_ | with_reducible refine sd_neS ?_ | with_reducible refine sd_slL ?_ | with_reducible refine sd_slT ?_ | with_reducible refine sd_int ?_ | with_reducible refine st_app (by with_unfolding_all rfl) ?_ | with_reducible refine st_clr (by with_unfolding_all rfl) ?_ | with_reducible refine st_retO (by with_unfolding_all rfl) ?_ | with_reducible refine st_retV (by with_unfolding_all rfl) ?_ | with_reducible refine st_aug (by with_unfolding_all rfl) ?_ | with_reducible refine And.intro (by with_unfolding_all rfl) ?_ | with_reducible refine Exists.intro _ (And.intro (by with_unfolding_all rfl) ?_) | with_reducible refine And.intro (le_size (by with_unfolding_all rfl)) ?_ | with_reducible refine st_frz (by with_unfolding_all rfl) ?_ | with_reducible refine st_ms ?_))
        refine iteF ?_
        (repeat (first | with_reducible refine ss_ix (by assumption) (by assumption) ?_ | with_reducible refine ss_len (by assumption) ?_ | with_reducible refine ss_in ?_ | with_reducible refine ss_nin ?_ | with_reducible refine ss_eq ?_ | with_reducible refine ss_ne ?_ | with_reducible refine ss_mid (by assumption) ?_ | with_reducible refine ss_to (by assumption) ?_ | with_reducible refine ss_from (by assumption) ?_ | with_reducible refine ss_is ?_ | with_reducible refine ss_isnt ?_ | with_reducible refine ss_aug ?_ | with_reducible refine st_nx ?_ | with_reducible refine st_rt ?_ | with_reducible refine st_bk ?_ | with_reducible refine st_ct ?_ | with_reducible refine st_bind1 ?_ | with_reducible refine st_v (by with_unfolding_all rfl) ?_ | with_reducible refine st_seq ?_ | with_reducible refine st_skip ?_ | with_reducible refine st_asg ?_ | with_reducible refine st_ret ?_ | with_reducible refine st_if ?_ | with_reducible refine st_for ?_ | with_reducible refine st_par2 ?_ | with_reducible refine st_par3 ?_ | with_reducible refine st_asgT ?_ | with_reducible refine st_drop ?_ | with_reducible refine st_brk ?_ | with_reducible refine st_cnt ?_ | with_reducible refine st_tE ?_ | with_reducible refine st_tCmp ?_ | with_reducible refine st_tNt ?_ | with_reducible refine st_tAn ?_ | with_reducible refine st_tO ?_ | with_reducible refine st_tT ?_ | with_reducible refine st_c ?_ | with_reducible refine st_tr ?_ | with_reducible refine st_fz ?_ | with_reducible refine st_op ?_ | with_reducible refine st_call ?_ | with_reducible refine st_callK ?_ | with_reducible refine st_lst ?_ | with_reducible refine st_tup ?_ | with_reducible refine st_sl ?_ | with_reducible refine st_eif ?_ | with_reducible refine st_and ?_ | with_reducible refine st_or ?_ | with_reducible refine st_not ?_ | with_reducible refine st_neg ?_ | with_reducible refine st_isi ?_ | with_reducible refine st_lc ?_ | with_reducible refine st_dc ?_ | with_reducible refine st_anil ?_ | with_reducible refine st_acons ?_ | with_reducible refine st_ono ?_ | with_reducible refine st_osome ?_ | with_reducible refine st_iseq ?_ | with_reducible refine st_irg1 ?_ | with_reducible refine st_izp ?_ | with_reducible refine sd_addI ?_ | with_reducible refine sd_subI ?_ | with_reducible refine sd_lenL ?_ | with_reducible refine sd_lenT ?_ | with_reducible refine sd_list ?_ | with_reducible refine sd_tuple ?_ | with_reducible refine sd_lt ?_ | with_reducible refine sd_le ?_ | with_reducible refine sd_gt ?_ | with_reducible refine sd_ge ?_ | with_reducible refine sd_eqI ?_ | with_reducible refine sd_neI ?_ | with_reducible refine sd_eqS ?_ | with_reducible refine sd_neS ?_ | with_reducible refine sd_slL ?_ | with_reducible refine sd_slT ?_ | with_reducible refine sd_int ?_ | with_reducible refine st_app (by with_unfolding_all rfl) ?_ | with_reducible refine st_clr (by with_unfolding_all rfl) ?_ | with_reducible refine st_retO (by with_unfolding_all rfl) ?_ | with_reducible refine st_retV (by with_unfolding_all rfl) ?_ | with_reducible refine st_aug (by with_unfolding_all rfl) ?_ | with_reducible refine And.intro (by with_unfolding_all rfl) ?_ | with_reducible refine Exists.intro _ (And.intro (by with_unfolding_all rfl) ?_) | with_reducible refine And.intro (le_size (by with_unfolding_all rfl)) ?_ | with_reducible refine st_frz (by with_unfolding_all rfl) ?_ | with_reducible refine st_ms ?_))
        exact hN2 _ ⟨_, _, _, _, _, _, _, _, _, _, _, rfl⟩
      · rintro _ ⟨s2, s4, s5, s6, s7, s8, s10, s11, s12, s13, s14, rfl⟩
        (repeat (first | with_reducible refine ss_ix (by assumption) (by assumption) ?_ | with_reducible refine ss_len (by assumption) ?_ | with_reducible refine ss_in ?_ | with_reducible refine ss_nin ?_ | with_reducible refine ss_eq ?_ | with_reducible refine ss_ne ?_ | with_reducible refine ss_mid (by assumption) ?_ | with_reducible refine ss_to (by assumption) ?_ | with_reducible refine ss_from (by assumption) ?_ | with_reducible refine ss_is ?_ | with_reducible refine ss_isnt ?_ | with_reducible refine ss_aug ?_ | with_reducible refine st_nx ?_ | with_reducible refine st_rt ?_ | with_reducible refine st_bk ?_ | with_reducible refine st_ct ?_ | with_reducible refine st_bind1 ?_ | with_reducible refine st_v (by with_unfolding_all rfl) ?_ | with_reducible refine st_seq ?_ | with_reducible refine st_skip ?_ | with_reducible refine st_asg ?_ | with_reducible refine st_ret ?_ | with_reducible refine st_if ?_ | with_reducible refine st_for ?_ | with_reducible refine st_par2 ?_ | with_reducible refine st_par3 ?_ | with_reducible refine st_asgT ?_ | with_reducible refine st_drop ?_ | with_reducible refine st_brk ?_ | with_reducible refine st_cnt ?_ | with_reducible refine st_tE ?_ | with_reducible refine st_tCmp ?_ | with_reducible refine st_tNt ?_ | with_reducible refine st_tAn ?_ | with_reducible refine st_tO ?_ | with_reducible refine st_tT ?_ | with_reducible refine st_c ?_ | with_reducible refine st_tr ?_ | with_reducible refine st_fz ?_ | with_reducible refine st_op ?_ | with_reducible refine st_call ?_ | with_reducible refine st_callK ?_ | with_reducible refine st_lst ?_ | with_reducible refine st_tup ?_ | with_reducible refine st_sl ?_ | with_reducible refine st_eif ?_ | with_reducible refine st_and ?_ | with_reducible refine st_or ?_ | with_reducible refine st_not ?_ | with_reducible refine st_neg ?_ | with_reducible refine st_isi ?_ | with_reducible refine st_lc ?_ | with_reducible refine st_dc ?_ | with_reducible refine st_anil ?_ | with_reducible refine st_acons ?_ | with_reducible refine st_ono ?_ | with_reducible refine st_osome ?_ | with_reducible refine st_iseq ?_ | with_reducible refine st_irg1 ?_ | with_reducible refine st_izp ?_ | with_reducible refine sd_addI ?_ | with_reducible refine sd_subI ?_ | with_reducible refine sd_lenL ?_ | with_reducible refine sd_lenT ?_ | with_reducible refine sd_list ?_ | with_reducible refine sd_tuple ?_ | with_reducible refine sd_lt ?_ | with_reducible refine sd_le ?_ | with_reducible refine sd_gt ?_ | with_reducible refine sd_ge ?_ | with_reducible refine sd_eqI ?_ | with_reducible refine sd_neI ?_ | with_reducible refine sd_eqS ?_ | with_reducible refine sd_neS ?_ | with_reducible refine sd_slL ?_ | with_reducible refine sd_slT ?_ | with_reducible refine sd_int ?_ | with_reducible refine st_app (by with_unfolding_all rfl) ?_ | with_reducible refine st_clr (by with_unfolding_all rfl) ?_ | with_reducible refine st_retO (by with_unfolding_all rfl) ?_ | with_reducible refine st_retV (by with_unfolding_all rfl) ?_ | with_reducible refine st_aug (by with_unfolding_all rfl) ?_ | with_reducible refine And.intro (by with_unfolding_all rfl) ?_ | with_reducible refine Exists.intro _ (And.intro (by with_unfolding_all rfl) ?_) | with_reducible refine And.intro (le_size (by with_unfolding_all rfl)) ?_ | with_reducible refine st_frz (by with_unfolding_all rfl) ?_ | with_reducible refine st_ms ?_))
        refine hdraw (by omega) (by omega) fun k5 hk5 => ?_
        (repeat (first | with_reducible refine ss_ix (by assumption) (by assumption) ?_ | with_reducible refine ss_len (by assumption) ?_ | with_reducible refine ss_in ?_ | with_reducible refine ss_nin ?_ | with_reducible refine ss_eq ?_ | with_reducible refine ss_ne ?_ | with_reducible refine ss_mid (by assumption) ?_ | with_reducible refine ss_to (by assumption) ?_ | with_reducible refine ss_from (by assumption) ?_ | with_reducible refine ss_is ?_ | with_reducible refine ss_isnt ?_ | with_reducible refine ss_aug ?_ | with_reducible refine st_nx ?_ | with_reducible refine st_rt ?_ | with_reducible refine st_bk ?_ | with_reducible refine st_ct ?_ | with_reducible refine st_bind1 ?_ | with_reducible refine st_v (by with_unfolding_all rfl) ?_ | with_reducible refine st_seq ?_ | with_reducible refine st_skip ?_ | with_reducible refine st_asg ?_ | with_reducible refine st_ret ?_ | with_reducible refine st_if ?_ | with_reducible refine st_for ?_ | with_reducible refine st_par2 ?_ | with_reducible refine st_par3 ?_ | with_reducible refine st_asgT ?_ | with_reducible refine st_drop ?_ | with_reducible refine st_brk ?_ | with_reducible refine st_cnt ?_ | with_reducible refine st_tE ?_ | with_reducible refine st_tCmp ?_ | with_reducible refine st_tNt ?_ | with_reducible refine st_tAn ?_ | with_reducible refine st_tO ?_ | with_reducible refine st_tT ?_ | with_reducible refine st_c ?_ | with_reducible refine st_tr ?_ | with_reducible refine st_fz ?_ | with_reducible refine st_op ?_ | with_reducible refine st_call ?_ | with_reducible refine st_callK ?_ | with_reducible refine st_lst ?_ | with_reducible refine st_tup ?_ | with_reducible refine st_sl ?_ | with_reducible refine st_eif ?_ | with_reducible refine st_and ?_ | with_reducible refine st_or ?_ | with_reducible refine st_not ?_ | with_reducible refine st_neg ?_ | with_reducible refine st_isi ?_ | with_reducible refine st_lc ?_ | with_reducible refine st_dc ?_ | with_reducible refine st_anil ?_ | with_reducible refine st_acons ?_ | with_reducible refine st_ono ?_ | with_reducible refine st_osome ?_ | with_reducible refine st_iseq ?_ | with_reducible refine st_irg1 ?_ | with_reducible refine st_izp ?_ | with_reducible refine sd_addI ?_ | with_reducible refine sd_subI ?_ | with_reducible refine sd_lenL ?_ | with_reducible refine sd_lenT ?_ | with_reducible refine sd_list ?_ | with_reducible refine sd_tuple ?_ | with_reducible refine sd_lt ?_ | with_reducible refine sd_le ?_ | with_reducible refine sd_gt ?_ | with_reducible refine sd_ge ?_ | with_reducible refine sd_eqI ?_ | with_reducible refine sd_neI ?_ | with_reducible refine sd_eqS ?_ | with_reducible refine sd_neS ?_ | with_reducible refine sd_slL ?_ | with_reducible refine sd_slT ?_ | with_reducible refine sd_int ?_ | with_reducible refine st_app (by with_unfolding_all rfl) ?_ | with_reducible refine st_clr (by with_unfolding_all rfl) ?_ | with_reducible refine st_retO (by with_unfolding_all rfl) ?_ | with_reducible refine st_retV (by with_unfolding_all rfl) ?_ | with_reducible refine st_aug (by with_unfolding_all rfl) ?_ | with_reducible refine And.intro (by with_unfolding_all rfl) ?_ | with_reducible refine Exists.intro _ (And.intro (by with_unfolding_all rfl) ?_) | with_reducible refine And.intro (le_size (by with_unfolding_all rfl)) ?_ | with_reducible refine st_frz (by with_unfolding_all rfl) ?_ | with_reducible refine st_ms ?_))
        refine ss_addL (by show 1 + cs.length ≤ 100000; omega) ?_
        (repeat (first | with_reducible refine ss_ix (by assumption) (by assumption) ?_ | with_reducible refine ss_len (by assumption) ?_ | with_reducible refine ss_in ?_ | with_reducible refine ss_nin ?_ | with_reducible refine ss_eq ?_ | with_reducible refine ss_ne ?_ | with_reducible refine ss_mid (by assumption) ?_ | with_reducible refine ss_to (by assumption) ?_ | with_reducible refine ss_from (by assumption) ?_ | with_reducible refine ss_is ?_ | with_reducible refine ss_isnt ?_ | with_reducible refine ss_aug ?_ | with_reducible refine st_nx ?_ | with_reducible refine st_rt ?_ | with_reducible refine st_bk ?_ | with_reducible refine st_ct ?_ | with_reducible refine st_bind1 ?_ | with_reducible refine st_v (by with_unfolding_all rfl) ?_ | with_reducible refine st_seq ?_ | with_reducible refine st_skip ?_ | with_reducible refine st_asg ?_ | with_reducible refine st_ret ?_ | with_reducible refine st_if ?_ | with_reducible refine st_for ?_ | with_reducible refine st_par2 ?_ | with_reducible refine st_par3 ?_ | with_reducible refine st_asgT ?_ | with_reducible refine st_drop ?_ | with_reducible refine st_brk ?_ | with_reducible refine st_cnt ?_ | with_reducible refine st_tE ?_ | with_reducible refine st_tCmp ?_ | with_reducible refine st_tNt ?_ | with_reducible refine st_tAn ?_ | with_reducible refine st_tO ?_ | with_reducible refine st_tT ?_ | with_reducible refine st_c ?_ | with_reducible refine st_tr ?_ | with_reducible refine st_fz ?_ | with_reducible refine st_op ?_ | with_reducible refine st_call ?_ | with_reducible refine st_callK ?_ | with_reducible refine st_lst ?_ | with_reducible refine st_tup ?_ | with_reducible refine st_sl ?_ | with_reducible refine st_eif ?_ | with_reducible refine st_and ?_ | with_reducible refine st_or ?_ | with_reducible refine st_not ?_ | with_reducible refine st_neg ?_ | with_reducible refine st_isi ?_ | with_reducible refine st_lc ?_ | with_reducible refine st_dc ?_ | with_reducible refine st_anil ?_ | with_reducible refine st_acons ?_ | with_reducible refine st_ono ?_ | with_reducible refine st_osome ?_ | with_reducible refine st_iseq ?_ | with_reducible refine st_irg1 ?_ | with_reducible refine st_izp ?_ | with_reducible refine sd_addI ?_ | with_reducible refine sd_subI ?_ | with_reducible refine sd_lenL ?_ | with_reducible refine sd_lenT ?_ | with_reducible refine sd_list ?_ | with_reducible refine sd_tuple ?_ | with_reducible refine sd_lt ?_ | with_reducible refine sd_le ?_ | with_reducible refine sd_gt ?_ | with_reducible refine sd_ge ?_ | with_reducible refine sd_eqI ?_ | with_reducible refine sd_neI ?_ | with_reducible refine sd_eqS ?_ | with_reducible refine sd_neS ?_ | with_reducible refine sd_slL ?_ | with_reducible refine sd_slT ?_ | with_reducible refine sd_int ?_ | with_reducible refine st_app (by with_unfolding_all rfl) ?_ | with_reducible refine st_clr (by with_unfolding_all rfl) ?_ | with_reducible refine st_retO (by with_unfolding_all rfl) ?_ | with_reducible refine st_retV (by with_unfolding_all rfl) ?_ | with_reducible refine st_aug (by with_unfolding_all rfl) ?_ | with_reducible refine And.intro (by with_unfolding_all rfl) ?_ | with_reducible refine Exists.intro _ (And.intro (by with_unfolding_all rfl) ?_) | with_reducible refine And.intro (le_size (by with_unfolding_all rfl)) ?_ | with_reducible refine st_frz (by with_unfolding_all rfl) ?_ | with_reducible refine st_ms ?_))
        refine ss_addS (by show cs.length + 2 ≤ 100000; omega) ?_
        (repeat (first | with_reducible refine ss_ix (by assumption) (by assumption) ?_ | with_reducible refine ss_len (by assumption) ?_ | with_reducible refine ss_in ?_ | with_reducible refine ss_nin ?_ | with_reducible refine ss_eq ?_ | with_reducible refine ss_ne ?_ | with_reducible refine ss_mid (by assumption) ?_ | with_reducible refine ss_to (by assumption) ?_ | with_reducible refine ss_from (by assumption) ?_ | with_reducible refine ss_is ?_ | with_reducible refine ss_isnt ?_ | with_reducible refine ss_aug ?_ | with_reducible refine st_nx ?_ | with_reducible refine st_rt ?_ | with_reducible refine st_bk ?_ | with_reducible refine st_ct ?_ | with_reducible refine st_bind1 ?_ | with_reducible refine st_v (by with_unfolding_all rfl) ?_ | with_reducible refine st_seq ?_ | with_reducible refine st_skip ?_ | with_reducible refine st_asg ?_ | with_reducible refine st_ret ?_ | with_reducible refine st_if ?_ | with_reducible refine st_for ?_ | with_reducible refine st_par2 ?_ | with_reducible refine st_par3 ?_ | with_reducible refine st_asgT ?_ | with_reducible refine st_drop ?_ | with_reducible refine st_brk ?_ | with_reducible refine st_cnt ?_ | with_reducible refine st_tE ?_ | with_reducible refine st_tCmp ?_ | with_reducible refine st_tNt ?_ | with_reducible refine st_tAn ?_ | with_reducible refine st_tO ?_ | with_reducible refine st_tT ?_ | with_reducible refine st_c ?_ | with_reducible refine st_tr ?_ | with_reducible refine st_fz ?_ | with_reducible refine st_op ?_ | with_reducible refine st_call ?_ | with_reducible refine st_callK ?_ | with_reducible refine st_lst ?_ | with_reducible refine st_tup ?_ | with_reducible refine st_sl ?_ | with_reducible refine st_eif ?_ | with_reducible refine st_and ?_ | with_reducible refine st_or ?_ | with_reducible refine st_not ?_ | with_reducible refine st_neg ?_ | with_reducible refine st_isi ?_ | with_reducible refine st_lc ?_ | with_reducible refine st_dc ?_ | with_reducible refine st_anil ?_ | with_reducible refine st_acons ?_ | with_reducible refine st_ono ?_ | with_reducible refine st_osome ?_ | with_reducible refine st_iseq ?_ | with_reducible refine st_irg1 ?_ | with_reducible refine st_izp ?_ | with_reducible refine sd_addI ?_ | with_reducible refine sd_subI ?_ | with_reducible refine sd_lenL ?_ | with_reducible refine sd_lenT ?_ | with_reducible refine sd_list ?_ | with_reducible refine sd_tuple ?_ | with_reducible refine sd_lt ?_ | with_reducible refine sd_le ?_ | with_reducible refine sd_gt ?_ | with_reducible refine sd_ge ?_ | with_reducible refine sd_eqI ?_ | with_reducible refine sd_neI ?_ | with_reducible refine sd_eqS ?_ | with_reducible refine sd_neS ?_ | with_reducible refine sd_slL ?_ | with_reducible refine sd_slT ?_ | with_reducible refine sd_int ?_ | with_reducible refine st_app (by with_unfolding_all rfl) ?_ | with_reducible refine st_clr (by with_unfolding_all rfl) ?_ | with_reducible refine st_retO (by with_unfolding_all rfl) ?_ | with_reducible refine st_retV (by with_unfolding_all rfl) ?_ | with_reducible refine st_aug (by with_unfolding_all rfl) ?_ | with_reducible refine And.intro (by with_unfolding_all rfl) ?_ | with_reducible refine Exists.intro _ (And.intro (by with_unfolding_all rfl) ?_) | with_reducible refine And.intro (le_size (by with_unfolding_all rfl)) ?_ | with_reducible refine st_frz (by with_unfolding_all rfl) ?_ | with_reducible refine st_ms ?_))
        refine forL_all (fun δ => ∃ s2 s3 s4 s5 s6 s7 s8 s9 s10 s11 s12 s13 s14, δ = [.no, .val .bag, s2, s3, s4, s5, s6, s7, s8, s9, s10, s11, s12, s13, s14]) _ ?_ ?_ ⟨_, _, _, _, _, _, _, _, _, _, _, _, _, rfl⟩
        · rintro x _ N2 hx ⟨s2, s3, s4, s5, s6, s7, s8, s9, s10, s11, s12, s13, s14, rfl⟩ hN2
          have hx : SD 95000 x := by
            simp only [List.mem_cons, List.not_mem_nil, or_false] at hx
            rcases hx with h | h | h | h <;> rw [h]
            · exact ⟨_, rfl, by rw [List.length_take]; omega⟩
            · exact ⟨_, rfl, by rw [List.length_drop]; omega⟩
            · exact ⟨_, rfl, by rw [List.length_append]; show 1 + cs.length ≤ 95000; omega⟩
            · exact ⟨_, rfl, by rw [List.length_append]; show cs.length + 2 ≤ 95000; omega⟩
          obtain ⟨u, rfl, hu⟩ := hx
          (repeat (first | with_reducible refine ss_ix (by assumption) (by assumption) ?_ | with_reducible refine ss_len (by assumption) ?_ | with_reducible refine ss_in ?_ | with_reducible refine ss_nin ?_ | with_reducible refine ss_eq ?_ | with_reducible refine ss_ne ?_ | with_reducible refine ss_mid (by assumption) ?_ | with_reducible refine ss_to (by assumption) ?_ | with_reducible refine ss_from (by assumption) ?_ | with_reducible refine ss_is ?_ | with_reducible refine ss_isnt ?_ | with_reducible refine ss_aug ?_ | with_reducible refine st_nx ?_ | with_reducible refine st_rt ?_ | with_reducible refine st_bk ?_ | with_reducible refine st_ct ?_ | with_reducible refine st_bind1 ?_ | with_reducible refine st_v (by with_unfolding_all rfl) ?_ | with_reducible refine st_seq ?_ | with_reducible refine st_skip ?_ | with_reducible refine st_asg ?_ | with_reducible refine st_ret ?_ | with_reducible refine st_if ?_ | with_reducible refine st_for ?_ | with_reducible refine st_par2 ?_ | with_reducible refine st_par3 ?_ | with_reducible refine st_asgT ?_ | with_reducible refine st_drop ?_ | with_reducible refine st_brk ?_ | with_reducible refine st_cnt ?_ | with_reducible refine st_tE ?_ | with_reducible refine st_tCmp ?_ | with_reducible refine st_tNt ?_ | with_reducible refine st_tAn ?_ | with_reducible refine st_tO ?_ | with_reducible refine st_tT ?_ | with_reducible refine st_c ?_ | with_reducible refine st_tr ?_ | with_reducible refine st_fz ?_ | with_reducible refine st_op ?_ | with_reducible refine st_call ?_ | with_reducible refine st_callK ?_ | with_reducible refine st_lst ?_ | with_reducible refine st_tup ?_ | with_reducible refine st_sl ?_ | with_reducible refine st_eif ?_ | with_reducible refine st_and ?_ | with_reducible refine st_or ?_ | with_reducible refine st_not ?_ | with_reducible refine st_neg ?_ | with_reducible refine st_isi ?_ | with_reducible refine st_lc ?_ | with_reducible refine st_dc ?_ | with_reducible refine st_anil ?_ | with_reducible refine st_acons ?_ | with_reducible refine st_ono ?_ | with_reducible refine st_osome ?_ | with_reducible refine st_iseq ?_ | with_reducible refine st_irg1 ?_ | with_reducible refine st_izp ?_ | with_reducible refine sd_addI ?_ | with_reducible refine sd_subI ?_ | with_reducible refine sd_lenL ?_ | with_reducible refine sd_lenT ?_ | with_reducible refine sd_list ?_ | with_reducible refine sd_tuple ?_ | with_reducible refine sd_lt ?_ | with_reducible refine sd_le ?_ | with_reducible refine sd_gt ?_ | with_reducible refine sd_ge ?_ | with_reducible refine sd_eqI ?_ | with_reducible refine sd_neI ?_ | with_reducible refine sd_eqS ?_ | with_reducible refine sd_neS ?_ | with_reducible refine sd_slL ?_ | with_reducible refine sd_slT ?_ | with_reducible refine sd_int ?_ | with_reducible refine st_app (by with_unfolding_all rfl) ?_ | with_reducible refine st_clr (by with_unfolding_all rfl) ?_ | with_reducible refine st_retO (by with_unfolding_all rfl) ?_ | with_reducible refine st_retV (by with_unfolding_all rfl) ?_ | with_reducible refine st_aug (by with_unfolding_all rfl) ?_ | with_reducible refine And.intro (by with_unfolding_all rfl) ?_ | with_reducible refine Exists.intro _ (And.intro (by with_unfolding_all rfl) ?_) | with_reducible refine And.intro (le_size (by with_unfolding_all rfl)) ?_ | with_reducible refine st_frz (by with_unfolding_all rfl) ?_ | with_reducible refine st_ms ?_))
          refine htok (by omega) ?_
          (repeat (first | with_reducible refine ss_ix (by assumption) (by assumption) ?_ | with_reducible refine ss_len (by assumption) ?_ | with_reducible refine ss_in ?_ | with_reducible refine ss_nin ?_ | with_reducible refine ss_eq ?_ | with_reducible refine ss_ne ?_ | with_reducible refine ss_mid (by assumption) ?_ | with_reducible refine ss_to (by assumption) ?_ | with_reducible refine ss_from (by assumption) ?_ | with_reducible refine ss_is ?_ | with_reducible refine ss_isnt ?_ | with_reducible refine ss_aug ?_ | with_reducible refine st_nx ?_ | with_reducible refine st_rt ?_ | with_reducible refine st_bk ?_ | with_reducible refine st_ct ?_ | with_reducible refine st_bind1 ?_ | with_reducible refine st_v (by with_unfolding_all rfl) ?_ | with_reducible refine st_seq ?_ | with_reducible refine st_skip ?_ | with_reducible refine st_asg ?_ | with_reducible refine st_ret ?_ | with_reducible refine st_if ?_ | with_reducible refine st_for ?_ | with_reducible refine st_par2 ?_ | with_reducible refine st_par3 ?_ | with_reducible refine st_asgT ?_ | with_reducible refine st_drop ?_ | with_reducible refine st_brk ?_ | with_reducible refine st_cnt ?_ | with_reducible refine st_tE ?_ | with_reducible refine st_tCmp ?_ | with_reducible refine st_tNt ?_ | with_reducible refine st_tAn ?_ | with_reducible refine st_tO ?_ | with_reducible refine st_tT ?_ | with_reducible refine st_c ?_ | with_reducible refine st_tr ?_ | with_reducible refine st_fz ?_ | with_reducible refine st_op ?_ | with_reducible refine st_call ?_ | with_reducible refine st_callK ?_ | with_reducible refine st_lst ?_ | with_reducible refine st_tup ?_ | with_reducible refine st_sl ?_ | with_reducible refine st_eif ?_ | with_reducible refine st_and ?_ | with_reducible refine st_or ?_ | with_reducible refine st_not ?_ | with_reducible refine st_neg ?_ | with_reducible refine st_isi ?_ | with_reducible refine st_lc ?_ | with_reducible refine st_dc ?_ | with_reducible refine st_anil ?_ | with_reducible refine st_acons ?_ | with_reducible refine st_ono ?_ | with_reducible refine st_osome ?_ | with_reducible refine st_iseq ?_ | with_reducible refine st_irg1 ?_ | with_reducible refine st_izp ?_ | with_reducible refine sd_addI ?_ | with_reducible refine sd_subI ?_ | with_reducible refine sd_lenL ?_ | with_reducible refine sd_lenT ?_ | with_reducible refine sd_list ?_ | with_reducible refine sd_tuple ?_ | with_reducible refine sd_lt ?_ | with_reducible refine sd_le ?_ | with_reducible refine sd_gt ?_ | with_reducible refine sd_ge ?_ | with_reducible refine sd_eqI ?_ | with_reducible refine sd_neI ?_ | with_reducible refine sd_eqS ?_ | with_reducible refine sd_neS ?_ | with_reducible refine sd_slL ?_ | with_reducible refine sd_slT ?_ | with_reducible refine sd_int ?_ | with_reducible refine st_app (by with_unfolding_all rfl) ?_ | with_reducible refine st_clr (by with_unfolding_all rfl) ?_ | with_reducible refine st_retO (by with_unfolding_all rfl) ?_ | with_reducible refine st_retV (by with_unfolding_all rfl) ?_ | with_reducible refine st_aug (by with_unfolding_all rfl) ?_ | with_reducible refine And.intro (by with_unfolding_all rfl) ?_ | with_reducible refine Exists.intro _ (And.intro (by with_unfolding_all rfl) ?_) | with_reducible refine And.intro (le_size (by with_unfolding_all rfl)) ?_ | with_reducible refine st_frz (by with_unfolding_all rfl) ?_ | with_reducible refine st_ms ?_))
          refine hltok (by omega) ?_
          (repeat (first | with_reducible refine ss_ix (by assumption) (by assumption) ?_ | with_reducible refine ss_len (by assumption) ?_ | with_reducible refine ss_in ?_ | with_reducible refine ss_nin ?_ | with_reducible refine ss_eq ?_ | with_reducible refine ss_ne ?_ | with_reducible refine ss_mid (by assumption) ?_ | with_reducible refine ss_to (by assumption) ?_ | with_reducible refine ss_from (by assumption) ?_ | with_reducible refine ss_is ?_ | with_reducible refine ss_isnt ?_ | with_reducible refine ss_aug ?_ | with_reducible refine st_nx ?_ | with_reducible refine st_rt ?_ | with_reducible refine st_bk ?_ | with_reducible refine st_ct ?_ | with_reducible refine st_bind1 ?_ | with_reducible refine st_v (by with_unfolding_all rfl) ?_ | with_reducible refine st_seq ?_ | with_reducible refine st_skip ?_ | with_reducible refine st_asg ?_ | with_reducible refine st_ret ?_ | with_reducible refine st_if ?_ | with_reducible refine st_for ?_ | with_reducible refine st_par2 ?_ | with_reducible refine st_par3 ?_ | with_reducible refine st_asgT ?_ | with_reducible refine st_drop ?_ | with_reducible refine st_brk ?_ | with_reducible refine st_cnt ?_ | with_reducible refine st_tE ?_ | with_reducible refine st_tCmp ?_ | with_reducible refine st_tNt ?_ | with_reducible refine st_tAn ?_ | with_reducible refine st_tO ?_ | with_reducible refine st_tT ?_ | with_reducible refine st_c ?_ | with_reducible refine st_tr ?_ | with_reducible refine st_fz ?_ | with_reducible refine st_op ?_ | with_reducible refine st_call ?_ | with_reducible refine st_callK ?_ | with_reducible refine st_lst ?_ | with_reducible refine st_tup ?_ | with_reducible refine st_sl ?_ | with_reducible refine st_eif ?_ | with_reducible refine st_and ?_ | with_reducible refine st_or ?_ | with_reducible refine st_not ?_ | with_reducible refine st_neg ?_ | with_reducible refine st_isi ?_ | with_reducible refine st_lc ?_ | with_reducible refine st_dc ?_ | with_reducible refine st_anil ?_ | with_reducible refine st_acons ?_ | with_reducible refine st_ono ?_ | with_reducible refine st_osome ?_ | with_reducible refine st_iseq ?_ | with_reducible refine st_irg1 ?_ | with_reducible refine st_izp ?_ | with_reducible refine sd_addI ?_ | with_reducible refine sd_subI ?_ | with_reducible refine sd_lenL ?_ | with_reducible refine sd_lenT ?_ | with_reducible refine sd_list ?_ | with_reducible refine sd_tuple ?_ | with_reducible refine sd_lt ?_ | with_reducible refine sd_le ?_ | with_reducible refine sd_gt ?_ | with_reducible refine sd_ge ?_ | with_reducible refine sd_eqI ?_ | with_reducible refine sd_neI ?_ | with_reducible refine sd_eqS ?_ | with_reducible refine sd_neS ?_ | with_reducible refine sd_slL ?_ | with_reducible refine sd_slT ?_ | with_reducible refine sd_int ?_ | with_reducible refine st_app (by with_unfolding_all rfl) ?_ | with_reducible refine st_clr (by with_unfolding_all rfl) ?_ | with_reducible refine st_retO (by with_unfolding_all rfl) ?_ | with_reducible refine st_retV (by with_unfolding_all rfl) ?_ | with_reducible refine st_aug (by with_unfolding_all rfl) ?_ | with_reducible refine And.intro (by with_unfolding_all rfl) ?_ | with_reducible refine Exists.intro _ (And.intro (by with_unfolding_all rfl) ?_) | with_reducible refine And.intro (le_size (by with_unfolding_all rfl)) ?_ | with_reducible refine st_frz (by with_unfolding_all rfl) ?_ | with_reducible refine st_ms ?_))
          refine hsame (.lst (toks u)) (toks_plain u (by omega)) ?_
          (repeat (first | with_reducible refine ss_ix (by assumption) (by assumption) ?_ | with_reducible refine ss_len (by assumption) ?_ | with_reducible refine ss_in ?_ | with_reducible refine ss_nin ?_ | with_reducible refine ss_eq ?_ | with_reducible refine ss_ne ?_ | with_reducible refine ss_mid (by assumption) ?_ | with_reducible refine ss_to (by assumption) ?_ | with_reducible refine ss_from (by assumption) ?_ | with_reducible refine ss_is ?_ | with_reducible refine ss_isnt ?_ | with_reducible refine ss_aug ?_ | with_reducible refine st_nx ?_ | with_reducible refine st_rt ?_ | with_reducible refine st_bk ?_ | with_reducible refine st_ct ?_ | with_reducible refine st_bind1 ?_ | with_reducible refine st_v (by with_unfolding_all rfl) ?_ | with_reducible refine st_seq ?_ | with_reducible refine st_skip ?_ | with_reducible refine st_asg ?_ | with_reducible refine st_ret ?_ | with_reducible refine st_if ?_ | with_reducible refine st_for ?_ | with_reducible refine st_par2 ?_ | with_reducible refine st_par3 ?_ | with_reducible refine st_asgT ?_ | with_reducible refine st_drop ?_ | with_reducible refine st_brk ?_ | with_reducible refine st_cnt ?_ | with_reducible refine st_tE ?_ | with_reducible refine st_tCmp ?_ | with_reducible refine st_tNt ?_ | with_reducible refine st_tAn ?_ | with_reducible refine st_tO ?_ | with_reducible refine st_tT ?_ | with_reducible refine st_c ?_ | with_reducible refine st_tr ?_ | with_reducible refine st_fz ?_ | with_reducible refine st_op ?_ | with_reducible refine st_call ?_ | with_reducible refine st_callK ?_ | with_reducible refine st_lst ?_ | with_reducible refine st_tup ?_ | with_reducible refine st_sl ?_ | with_reducible refine st_eif ?_ | with_reducible refine st_and ?_ | with_reducible refine st_or ?_ | with_reducible refine st_not ?_ | with_reducible refine st_neg ?_ | with_reducible refine st_isi ?_ | with_reducible refine st_lc ?_ | with_reducible refine st_dc ?_ | with_reducible refine st_anil ?_ | with_reducible refine st_acons ?_ | with_reducible refine st_ono ?_ | with_reducible refine st_osome ?_ | with_reducible refine st_iseq ?_ | with_reducible refine st_irg1 ?_ | with_reducible refine st_izp ?_ | with_reducible refine sd_addI ?_ | with_reducible refine sd_subI ?_ | with_reducible refine sd_lenL ?_ | with_reducible refine sd_lenT ?_ | with_reducible refine sd_list ?_ | with_reducible refine sd_tuple ?_ | with_reducible refine sd_lt ?_ | with_reducible refine sd_le ?_ | with_reducible refine sd_gt ?_ | with_reducible refine sd_ge ?_ | with_reducible refine sd_eqI ?_ | with_reducible refine sd_neI ?_ | with_reducible refine sd_eqS ?_ | with_reducible refine sd_neS ?_ | with_reducible refine sd_slL ?_ | with_reducible refine sd_slT ?_ | with_reducible refine sd_int ?_ | with_reducible refine st_app (by with_unfolding_all rfl) ?_ | with_reducible refine st_clr (by with_unfolding_all rfl) ?_ | with_reducible refine st_retO (by with_unfolding_all rfl) ?_ | with_reducible refine st_retV (by with_unfolding_all rfl) ?_ | with_reducible refine st_aug (by with_unfolding_all rfl) ?_ | with_reducible refine And.intro (by with_unfolding_all rfl) ?_ | with_reducible refine Exists.intro _ (And.intro (by with_unfolding_all rfl) ?_) | with_reducible refine And.intro (le_size (by with_unfolding_all rfl)) ?_ | with_reducible refine st_frz (by with_unfolding_all rfl) ?_ | with_reducible refine st_ms ?_))
          refine iteF ?_
          (repeat (first | with_reducible refine ss_ix (by assumption) (by assumption) ?_ | with_reducible refine ss_len (by assumption) ?_ | with_reducible refine ss_in ?_ | with_reducible refine ss_nin ?_ | with_reducible refine ss_eq ?_ | with_reducible refine ss_ne ?_ | with_reducible refine ss_mid (by assumption) ?_ | with_reducible refine ss_to (by assumption) ?_ | with_reducible refine ss_from (by assumption) ?_ | with_reducible refine ss_is ?_ | with_reducible refine ss_isnt ?_ | with_reducible refine ss_aug ?_ | with_reducible refine st_nx ?_ | with_reducible refine st_rt ?_ | with_reducible refine st_bk ?_ | with_reducible refine st_ct ?_ | with_reducible refine st_bind1 ?_ | with_reducible refine st_v (by with_unfolding_all rfl) ?_ | with_reducible refine st_seq ?_ | with_reducible refine st_skip ?_ | with_reducible refine st_asg ?_ | with_reducible refine st_ret ?_ | with_reducible refine st_if ?_ | with_reducible refine st_for ?_ | with_reducible refine st_par2 ?_ | with_reducible refine st_par3 ?_ | with_reducible refine st_asgT ?_ | with_reducible refine st_drop ?_ | with_reducible refine st_brk ?_ | with_reducible refine st_cnt ?_ | with_reducible refine st_tE ?_ | with_reducible refine st_tCmp ?_ | with_reducible refine st_tNt ?_ | with_reducible refine st_tAn ?_ | with_reducible refine st_tO ?_ | with_reducible refine st_tT ?_ | with_reducible refine st_c ?_ | with_reducible refine st_tr ?_ | with_reducible refine st_fz ?_ | with_reducible refine st_op ?_ | with_reducible refine st_call ?_ | with_reducible refine st_callK ?_ | with_reducible refine st_lst ?_ | with_reducible refine st_tup ?_ | with_reducible refine st_sl ?_ | with_reducible refine st_eif ?_ | with_reducible refine st_and ?_ | with_reducible refine st_or ?_ | with_reducible refine st_not ?_ | with_reducible refine st_neg ?_ | with_reducible refine st_isi ?_ | with_reducible refine st_lc ?_ | with_reducible refine st_dc ?_ | with_reducible refine st_anil ?_ | with_reducible refine st_acons ?_ | with_reducible refine st_ono ?_ | with_reducible refine st_osome ?_ | with_reducible refine st_iseq ?_ | with_reducible refine st_irg1 ?_ | with_reducible refine st_izp ?_ | with_reducible refine sd_addI ?_ | with_reducible refine sd_subI ?_ | with_reducible refine sd_lenL ?_ | with_reducible refine sd_lenT ?_ | with_reducible refine sd_list ?_ | with_reducible refine sd_tuple ?_ | with_reducible refine sd_lt ?_ | with_reducible refine sd_le ?_ | with_reducible refine sd_gt ?_ | with_reducible refine sd_ge ?_ | with_reducible refine sd_eqI ?_ | with_reducible refine sd_neI ?_ | with_reducible refine sd_eqS ?_ | with_reducible refine sd_neS ?_ | with_reducible refine sd_slL ?_ | with_reducible refine sd_slT ?_ | with_reducible refine sd_int ?_ | with_reducible refine st_app (by with_unfolding_all rfl) ?_ | with_reducible refine st_clr (by with_unfolding_all rfl) ?_ | with_reducible refine st_retO (by with_unfolding_all rfl) ?_ | with_reducible refine st_retV (by with_unfolding_all rfl) ?_ | with_reducible refine st_aug (by with_unfolding_all rfl) ?_ | with_reducible refine And.intro (by with_unfolding_all rfl) ?_ | with_reducible refine Exists.intro _ (And.intro (by with_unfolding_all rfl) ?_) | with_reducible refine And.intro (le_size (by with_unfolding_all rfl)) ?_ | with_reducible refine st_frz (by with_unfolding_all rfl) ?_ | with_reducible refine st_ms ?_))
          exact hN2 _ ⟨_, _, _, _, _, _, _, _, _, _, _, _, _, rfl⟩
        · rintro _ ⟨s2, s3, s4, s5, s6, s7, s8, s9, s10, s11, s12, s13, s14, rfl⟩
          (repeat (first | with_reducible refine ss_ix (by assumption) (by assumption) ?_ | with_reducible refine ss_len (by assumption) ?_ | with_reducible refine ss_in ?_ | with_reducible refine ss_nin ?_ | with_reducible refine ss_eq ?_ | with_reducible refine ss_ne ?_ | with_reducible refine ss_mid (by assumption) ?_ | with_reducible refine ss_to (by assumption) ?_ | with_reducible refine ss_from (by assumption) ?_ | with_reducible refine ss_is ?_ | with_reducible refine ss_isnt ?_ | with_reducible refine ss_aug ?_ | with_reducible refine st_nx ?_ | with_reducible refine st_rt ?_ | with_reducible refine st_bk ?_ | with_reducible refine st_ct ?_ | with_reducible refine st_bind1 ?_ | with_reducible refine st_v (by with_unfolding_all rfl) ?_ | with_reducible refine st_seq ?_ | with_reducible refine st_skip ?_ | with_reducible refine st_asg ?_ | with_reducible refine st_ret ?_ | with_reducible refine st_if ?_ | with_reducible refine st_for ?_ | with_reducible refine st_par2 ?_ | with_reducible refine st_par3 ?_ | with_reducible refine st_asgT ?_ | with_reducible refine st_drop ?_ | with_reducible refine st_brk ?_ | with_reducible refine st_cnt ?_ | with_reducible refine st_tE ?_ | with_reducible refine st_tCmp ?_ | with_reducible refine st_tNt ?_ | with_reducible refine st_tAn ?_ | with_reducible refine st_tO ?_ | with_reducible refine st_tT ?_ | with_reducible refine st_c ?_ | with_reducible refine st_tr ?_ | with_reducible refine st_fz ?_ | with_reducible refine st_op ?_ | with_reducible refine st_call ?_ | with_reducible refine st_callK ?_ | with_reducible refine st_lst ?_ | with_reducible refine st_tup ?_ | with_reducible refine st_sl ?_ | with_reducible refine st_eif ?_ | with_reducible refine st_and ?_ | with_reducible refine st_or ?_ | with_reducible refine st_not ?_ | with_reducible refine st_neg ?_ | with_reducible refine st_isi ?_ | with_reducible refine st_lc ?_ | with_reducible refine st_dc ?_ | with_reducible refine st_anil ?_ | with_reducible refine st_acons ?_ | with_reducible refine st_ono ?_ | with_reducible refine st_osome ?_ | with_reducible refine st_iseq ?_ | with_reducible refine st_irg1 ?_ | with_reducible refine st_izp ?_ | with_reducible refine sd_addI ?_ | with_reducible refine sd_subI ?_ | with_reducible refine sd_lenL ?_ | with_reducible refine sd_lenT ?_ | with_reducible refine sd_list ?_ | with_reducible refine sd_tuple ?_ | with_reducible refine sd_lt ?_ | with_reducible refine sd_le ?_ | with_reducible refine sd_gt ?_ | with_reducible refine sd_ge ?_ | with_reducible refine sd_eqI ?_ | with_reducible refine sd_neI ?_ | with_reducible refine sd_eqS ?_ | with_reducible refine sd_neS ?_ | with_reducible refine sd_slL ?_ | with_reducible refine sd_slT ?_ | with_reducible refine sd_int ?_ | with_reducible refine st_app (by with_unfolding_all rfl) ?_ | with_reducible refine st_clr (by with_unfolding_all rfl) ?_ | with_reducible refine st_retO (by with_unfolding_all rfl) ?_ | with_reducible refine st_retV (by with_unfolding_all rfl) ?_ | with_reducible refine st_aug (by with_unfolding_all rfl) ?_ | with_reducible refine And.intro (by with_unfolding_all rfl) ?_ | with_reducible refine Exists.intro _ (And.intro (by with_unfolding_all rfl) ?_) | with_reducible refine And.intro (le_size (by with_unfolding_all rfl)) ?_ | with_reducible refine st_frz (by with_unfolding_all rfl) ?_ | with_reducible refine st_ms ?_))
          exact hN _ ⟨_, _, _, _, _, _, _, _, _, _, _, _, _, rfl⟩
  · rintro _ ⟨s2, s3, s4, s5, s6, s7, s8, s9, s10, s11, s12, s13, s14, rfl⟩
    have htokS : ∀ {s : Str} {Q : Rz → Prop}, s.cps.toList.length ≤ 100000 → Q (.new (toks s.cps.toList)) → S_tok [.str s] Q := by
      intro s Q h q
      rw [tx_of s]
      exact htok h q
    (repeat (first | with_reducible refine st_nx ?_ | with_reducible refine st_rt ?_ | with_reducible refine st_bk ?_ | with_reducible refine st_ct ?_ | with_reducible refine st_bind1 ?_ | with_reducible refine st_v (by with_unfolding_all rfl) ?_ | with_reducible refine st_seq ?_ | with_reducible refine st_skip ?_ | with_reducible refine st_asg ?_ | with_reducible refine st_ret ?_ | with_reducible refine st_if ?_ | with_reducible refine st_for ?_ | with_reducible refine st_par2 ?_ | with_reducible refine st_par3 ?_ | with_reducible refine st_asgT ?_ | with_reducible refine st_drop ?_ | with_reducible refine st_brk ?_ | with_reducible refine st_cnt ?_ | with_reducible refine st_tE ?_ | with_reducible refine st_tCmp ?_ | with_reducible refine st_tNt ?_ | with_reducible refine st_tAn ?_ | with_reducible refine st_tO ?_ | with_reducible refine st_tT ?_ | with_reducible refine st_c ?_ | with_reducible refine st_tr ?_ | with_reducible refine st_fz ?_ | with_reducible refine st_op ?_ | with_reducible refine st_call ?_ | with_reducible refine st_callK ?_ | with_reducible refine st_lst ?_ | with_reducible refine st_tup ?_ | with_reducible refine st_sl ?_ | with_reducible refine st_eif ?_ | with_reducible refine st_and ?_ | with_reducible refine st_or ?_ | with_reducible refine st_not ?_ | with_reducible refine st_neg ?_ | with_reducible refine st_isi ?_ | with_reducible refine st_lc ?_ | with_reducible refine st_dc ?_ | with_reducible refine st_anil ?_ | with_reducible refine st_acons ?_ | with_reducible refine st_ono ?_ | with_reducible refine st_osome ?_ | with_reducible refine st_iseq ?_ | with_reducible refine st_irg1 ?_ | with_reducible refine st_izp ?_ | with_reducible refine sd_addI ?_ | with_reducible refine sd_subI ?_ | with_reducible refine sd_lenL ?_ | with_reducible refine sd_lenT ?_ | with_reducible refine sd_list ?_ | with_reducible refine sd_tuple ?_ | with_reducible refine sd_lt ?_ | with_reducible refine sd_le ?_ | with_reducible refine sd_gt ?_ | with_reducible refine sd_ge ?_ | with_reducible refine sd_eqI ?_ | with_reducible refine sd_neI ?_ | with_reducible refine sd_eqS ?_ | with_reducible refine sd_neS ?_ | with_reducible refine sd_slL ?_ | with_reducible refine sd_slT ?_ | with_reducible refine sd_int ?_ | with_reducible refine st_app (by with_unfolding_all rfl) ?_ | with_reducible refine st_clr (by with_unfolding_all rfl) ?_ | with_reducible refine st_retO (by with_unfolding_all rfl) ?_ | with_reducible refine st_retV (by with_unfolding_all rfl) ?_ | with_reducible refine st_aug (by with_unfolding_all rfl) ?_ | with_reducible refine And.intro (by with_unfolding_all rfl) ?_ | with_reducible refine Exists.intro _ (And.intro (by with_unfolding_all rfl) ?_) | with_reducible refine And.intro (le_size (by with_unfolding_all rfl)) ?_ | with_reducible refine st_frz (by with_unfolding_all rfl) ?_ | with_reducible refine st_ms ?_))
    refine htokS (by decide) ?_
    rw [T1]
    (repeat (first | with_reducible refine st_nx ?_ | with_reducible refine st_rt ?_ | with_reducible refine st_bk ?_ | with_reducible refine st_ct ?_ | with_reducible refine st_bind1 ?_ | with_reducible refine st_v (by with_unfolding_all rfl) ?_ | with_reducible refine st_seq ?_ | with_reducible refine st_skip ?_ | with_reducible refine st_asg ?_ | with_reducible refine st_ret ?_ | with_reducible refine st_if ?_ | with_reducible refine st_for ?_ | with_reducible refine st_par2 ?_ | with_reducible refine st_par3 ?_ | with_reducible refine st_asgT ?_ | with_reducible refine st_drop ?_ | with_reducible refine st_brk ?_ | with_reducible refine st_cnt ?_ | with_reducible refine st_tE ?_ | with_reducible refine st_tCmp ?_ | with_reducible refine st_tNt ?_ | with_reducible refine st_tAn ?_ | with_reducible refine st_tO ?_ | with_reducible refine st_tT ?_ | with_reducible refine st_c ?_ | with_reducible refine st_tr ?_ | with_reducible refine st_fz ?_ | with_reducible refine st_op ?_ | with_reducible refine st_call ?_ | with_reducible refine st_callK ?_ | with_reducible refine st_lst ?_ | with_reducible refine st_tup ?_ | with_reducible refine st_sl ?_ | with_reducible refine st_eif ?_ | with_reducible refine st_and ?_ | with_reducible refine st_or ?_ | with_reducible refine st_not ?_ | with_reducible refine st_neg ?_ | with_reducible refine st_isi ?_ | with_reducible refine st_lc ?_ | with_reducible refine st_dc ?_ | with_reducible refine st_anil ?_ | with_reducible refine st_acons ?_ | with_reducible refine st_ono ?_ | with_reducible refine st_osome ?_ | with_reducible refine st_iseq ?_ | with_reducible refine st_irg1 ?_ | with_reducible refine st_izp ?_ | with_reducible refine sd_addI ?_ | with_reducible refine sd_subI ?_ | with_reducible refine sd_lenL ?_ | with_reducible refine sd_lenT ?_ | with_reducible refine sd_list ?_ | with_reducible refine sd_tuple ?_ | with_reducible refine sd_lt ?_ | with_reducible refine sd_le ?_ | with_reducible refine sd_gt ?_ | with_reducible refine sd_ge ?_ | with_reducible refine sd_eqI ?_ | with_reducible refine sd_neI ?_ | with_reducible refine sd_eqS ?_ | with_reducible refine sd_neS ?_ | with_reducible refine sd_slL ?_ | with_reducible refine sd_slT ?_ | with_reducible refine sd_int ?_ | with_reducible refine st_app (by with_unfolding_all rfl) ?_ | with_reducible refine st_clr (by with_unfolding_all rfl) ?_ | with_reducible refine st_retO (by with_unfolding_all rfl) ?_ | with_reducible refine st_retV (by with_unfolding_all rfl) ?_ | with_reducible refine st_aug (by with_unfolding_all rfl) ?_ | with_reducible refine And.intro (by with_unfolding_all rfl) ?_ | with_reducible refine Exists.intro _ (And.intro (by with_unfolding_all rfl) ?_) | with_reducible refine And.intro (le_size (by with_unfolding_all rfl)) ?_ | with_reducible refine st_frz (by with_unfolding_all rfl) ?_ | with_reducible refine st_ms ?_))
    refine htokS (by decide) ?_
    rw [T2]
    (repeat (first | with_reducible refine st_nx ?_ | with_reducible refine st_rt ?_ | with_reducible refine st_bk ?_ | with_reducible refine st_ct ?_ | with_reducible refine st_bind1 ?_ | with_reducible refine st_v (by with_unfolding_all rfl) ?_ | with_reducible refine st_seq ?_ | with_reducible refine st_skip ?_ | with_reducible refine st_asg ?_ | with_reducible refine st_ret ?_ | with_reducible refine st_if ?_ | with_reducible refine st_for ?_ | with_reducible refine st_par2 ?_ | with_reducible refine st_par3 ?_ | with_reducible refine st_asgT ?_ | with_reducible refine st_drop ?_ | with_reducible refine st_brk ?_ | with_reducible refine st_cnt ?_ | with_reducible refine st_tE ?_ | with_reducible refine st_tCmp ?_ | with_reducible refine st_tNt ?_ | with_reducible refine st_tAn ?_ | with_reducible refine st_tO ?_ | with_reducible refine st_tT ?_ | with_reducible refine st_c ?_ | with_reducible refine st_tr ?_ | with_reducible refine st_fz ?_ | with_reducible refine st_op ?_ | with_reducible refine st_call ?_ | with_reducible refine st_callK ?_ | with_reducible refine st_lst ?_ | with_reducible refine st_tup ?_ | with_reducible refine st_sl ?_ | with_reducible refine st_eif ?_ | with_reducible refine st_and ?_ | with_reducible refine st_or ?_ | with_reducible refine st_not ?_ | with_reducible refine st_neg ?_ | with_reducible refine st_isi ?_ | with_reducible refine st_lc ?_ | with_reducible refine st_dc ?_ | with_reducible refine st_anil ?_ | with_reducible refine st_acons ?_ | with_reducible refine st_ono ?_ | with_reducible refine st_osome ?_ | with_reducible refine st_iseq ?_ | with_reducible refine st_irg1 ?_ | with_reducible refine st_izp ?_ | with_reducible refine sd_addI ?_ | with_reducible refine sd_subI ?_ | with_reducible refine sd_lenL ?_ | with_reducible refine sd_lenT ?_ | with_reducible refine sd_list ?_ | with_reducible refine sd_tuple ?_ | with_reducible refine sd_lt ?_ | with_reducible refine sd_le ?_ | with_reducible refine sd_gt ?_ | with_reducible refine sd_ge ?_ | with_reducible refine sd_eqI ?_ | with_reducible refine sd_neI ?_ | with_reducible refine sd_eqS ?_ | with_reducible refine sd_neS ?_ | with_reducible refine sd_slL ?_ | with_reducible refine sd_slT ?_ | with_reducible refine sd_int ?_ | with_reducible refine st_app (by with_unfolding_all rfl) ?_ | with_reducible refine st_clr (by with_unfolding_all rfl) ?_ | with_reducible refine st_retO (by with_unfolding_all rfl) ?_ | with_reducible refine st_retV (by with_unfolding_all rfl) ?_ | with_reducible refine st_aug (by with_unfolding_all rfl) ?_ | with_reducible refine And.intro (by with_unfolding_all rfl) ?_ | with_reducible refine Exists.intro _ (And.intro (by with_unfolding_all rfl) ?_) | with_reducible refine And.intro (le_size (by with_unfolding_all rfl)) ?_ | with_reducible refine st_frz (by with_unfolding_all rfl) ?_ | with_reducible refine st_ms ?_))
    refine htokS (by decide) ?_
    rw [T3]
    (repeat (first | with_reducible refine st_nx ?_ | with_reducible refine st_rt ?_ | with_reducible refine st_bk ?_ | with_reducible refine st_ct ?_ | with_reducible refine st_bind1 ?_ | with_reducible refine st_v (by with_unfolding_all rfl) ?_ | with_reducible refine st_seq ?_ | with_reducible refine st_skip ?_ | with_reducible refine st_asg ?_ | with_reducible refine st_ret ?_ | with_reducible refine st_if ?_ | with_reducible refine st_for ?_ | with_reducible refine st_par2 ?_ | with_reducible refine st_par3 ?_ | with_reducible refine st_asgT ?_ | with_reducible refine st_drop ?_ | with_reducible refine st_brk ?_ | with_reducible refine st_cnt ?_ | with_reducible refine st_tE ?_ | with_reducible refine st_tCmp ?_ | with_reducible refine st_tNt ?_ | with_reducible refine st_tAn ?_ | with_reducible refine st_tO ?_ | with_reducible refine st_tT ?_ | with_reducible refine st_c ?_ | with_reducible refine st_tr ?_ | with_reducible refine st_fz ?_ | with_reducible refine st_op ?_ | with_reducible refine st_call ?_ | with_reducible refine st_callK ?_ | with_reducible refine st_lst ?_ | with_reducible refine st_tup ?_ | with_reducible refine st_sl ?_ | with_reducible refine st_eif ?_ | with_reducible refine st_and ?_ | with_reducible refine st_or ?_ | with_reducible refine st_not ?_ | with_reducible refine st_neg ?_ | with_reducible refine st_isi ?_ | with_reducible refine st_lc ?_ | with_reducible refine st_dc ?_ | with_reducible refine st_anil ?_ | with_reducible refine st_acons ?_ | with_reducible refine st_ono ?_ | with_reducible refine st_osome ?_ | with_reducible refine st_iseq ?_ | with_reducible refine st_irg1 ?_ | with_reducible refine st_izp ?_ | with_reducible refine sd_addI ?_ | with_reducible refine sd_subI ?_ | with_reducible refine sd_lenL ?_ | with_reducible refine sd_lenT ?_ | with_reducible refine sd_list ?_ | with_reducible refine sd_tuple ?_ | with_reducible refine sd_lt ?_ | with_reducible refine sd_le ?_ | with_reducible refine sd_gt ?_ | with_reducible refine sd_ge ?_ | with_reducible refine sd_eqI ?_ | with_reducible refine sd_neI ?_ | with_reducible refine sd_eqS ?_ | with_reducible refine sd_neS ?_ | with_reducible refine sd_slL ?_ | with_reducible refine sd_slT ?_ | with_reducible refine sd_int ?_ | with_reducible refine st_app (by with_unfolding_all rfl) ?_ | with_reducible refine st_clr (by with_unfolding_all rfl) ?_ | with_reducible refine st_retO (by with_unfolding_all rfl) ?_ | with_reducible refine st_retV (by with_unfolding_all rfl) ?_ | with_reducible refine st_aug (by with_unfolding_all rfl) ?_ | with_reducible refine And.intro (by with_unfolding_all rfl) ?_ | with_reducible refine Exists.intro _ (And.intro (by with_unfolding_all rfl) ?_) | with_reducible refine And.intro (le_size (by with_unfolding_all rfl)) ?_ | with_reducible refine st_frz (by with_unfolding_all rfl) ?_ | with_reducible refine st_ms ?_))
    refine htokS (by decide) ?_
    rw [T4]
    (repeat (first | with_reducible refine st_nx ?_ | with_reducible refine st_rt ?_ | with_reducible refine st_bk ?_ | with_reducible refine st_ct ?_ | with_reducible refine st_bind1 ?_ | with_reducible refine st_v (by with_unfolding_all rfl) ?_ | with_reducible refine st_seq ?_ | with_reducible refine st_skip ?_ | with_reducible refine st_asg ?_ | with_reducible refine st_ret ?_ | with_reducible refine st_if ?_ | with_reducible refine st_for ?_ | with_reducible refine st_par2 ?_ | with_reducible refine st_par3 ?_ | with_reducible refine st_asgT ?_ | with_reducible refine st_drop ?_ | with_reducible refine st_brk ?_ | with_reducible refine st_cnt ?_ | with_reducible refine st_tE ?_ | with_reducible refine st_tCmp ?_ | with_reducible refine st_tNt ?_ | with_reducible refine st_tAn ?_ | with_reducible refine st_tO ?_ | with_reducible refine st_tT ?_ | with_reducible refine st_c ?_ | with_reducible refine st_tr ?_ | with_reducible refine st_fz ?_ | with_reducible refine st_op ?_ | with_reducible refine st_call ?_ | with_reducible refine st_callK ?_ | with_reducible refine st_lst ?_ | with_reducible refine st_tup ?_ | with_reducible refine st_sl ?_ | with_reducible refine st_eif ?_ | with_reducible refine st_and ?_ | with_reducible refine st_or ?_ | with_reducible refine st_not ?_ | with_reducible refine st_neg ?_ | with_reducible refine st_isi ?_ | with_reducible refine st_lc ?_ | with_reducible refine st_dc ?_ | with_reducible refine st_anil ?_ | with_reducible refine st_acons ?_ | with_reducible refine st_ono ?_ | with_reducible refine st_osome ?_ | with_reducible refine st_iseq ?_ | with_reducible refine st_irg1 ?_ | with_reducible refine st_izp ?_ | with_reducible refine sd_addI ?_ | with_reducible refine sd_subI ?_ | with_reducible refine sd_lenL ?_ | with_reducible refine sd_lenT ?_ | with_reducible refine sd_list ?_ | with_reducible refine sd_tuple ?_ | with_reducible refine sd_lt ?_ | with_reducible refine sd_le ?_ | with_reducible refine sd_gt ?_ | with_reducible refine sd_ge ?_ | with_reducible refine sd_eqI ?_ | with_reducible refine sd_neI ?_ | with_reducible refine sd_eqS ?_ | with_reducible refine sd_neS ?_ | with_reducible refine sd_slL ?_ | with_reducible refine sd_slT ?_ | with_reducible refine sd_int ?_ | with_reducible refine st_app (by with_unfolding_all rfl) ?_ | with_reducible refine st_clr (by with_unfolding_all rfl) ?_ | with_reducible refine st_retO (by with_unfolding_all rfl) ?_ | with_reducible refine st_retV (by with_unfolding_all rfl) ?_ | with_reducible refine st_aug (by with_unfolding_all rfl) ?_ | with_reducible refine And.intro (by with_unfolding_all rfl) ?_ | with_reducible refine Exists.intro _ (And.intro (by with_unfolding_all rfl) ?_) | with_reducible refine And.intro (le_size (by with_unfolding_all rfl)) ?_ | with_reducible refine st_frz (by with_unfolding_all rfl) ?_ | with_reducible refine st_ms ?_))
    refine htokS (by decide) ?_
    rw [T5]
    (repeat (first | with_reducible refine st_nx ?_ | with_reducible refine st_rt ?_ | with_reducible refine st_bk ?_ | with_reducible refine st_ct ?_ | with_reducible refine st_bind1 ?_ | with_reducible refine st_v (by with_unfolding_all rfl) ?_ | with_reducible refine st_seq ?_ | with_reducible refine st_skip ?_ | with_reducible refine st_asg ?_ | with_reducible refine st_ret ?_ | with_reducible refine st_if ?_ | with_reducible refine st_for ?_ | with_reducible refine st_par2 ?_ | with_reducible refine st_par3 ?_ | with_reducible refine st_asgT ?_ | with_reducible refine st_drop ?_ | with_reducible refine st_brk ?_ | with_reducible refine st_cnt ?_ | with_reducible refine st_tE ?_ | with_reducible refine st_tCmp ?_ | with_reducible refine st_tNt ?_ | with_reducible refine st_tAn ?_ | with_reducible refine st_tO ?_ | with_reducible refine st_tT ?_ | with_reducible refine st_c ?_ | with_reducible refine st_tr ?_ | with_reducible refine st_fz ?_ | with_reducible refine st_op ?_ | with_reducible refine st_call ?_ | with_reducible refine st_callK ?_ | with_reducible refine st_lst ?_ | with_reducible refine st_tup ?_ | with_reducible refine st_sl ?_ | with_reducible refine st_eif ?_ | with_reducible refine st_and ?_ | with_reducible refine st_or ?_ | with_reducible refine st_not ?_ | with_reducible refine st_neg ?_ | with_reducible refine st_isi ?_ | with_reducible refine st_lc ?_ | with_reducible refine st_dc ?_ | with_reducible refine st_anil ?_ | with_reducible refine st_acons ?_ | with_reducible refine st_ono ?_ | with_reducible refine st_osome ?_ | with_reducible refine st_iseq ?_ | with_reducible refine st_irg1 ?_ | with_reducible refine st_izp ?_ | with_reducible refine sd_addI ?_ | with_reducible refine sd_subI ?_ | with_reducible refine sd_lenL ?_ | with_reducible refine sd_lenT ?_ | with_reducible refine sd_list ?_ | with_reducible refine sd_tuple ?_ | with_reducible refine sd_lt ?_ | with_reducible refine sd_le ?_ | with_reducible refine sd_gt ?_ | with_reducible refine sd_ge ?_ | with_reducible refine sd_eqI ?_ | with_reducible refine sd_neI ?_ | with_reducible refine sd_eqS ?_ | with_reducible refine sd_neS ?_ | with_reducible refine sd_slL ?_ | with_reducible refine sd_slT ?_ | with_reducible refine sd_int ?_ | with_reducible refine st_app (by with_unfolding_all rfl) ?_ | with_reducible refine st_clr (by with_unfolding_all rfl) ?_ | with_reducible refine st_retO (by with_unfolding_all rfl) ?_ | with_reducible refine st_retV (by with_unfolding_all rfl) ?_ | with_reducible refine st_aug (by with_unfolding_all rfl) ?_ | with_reducible refine And.intro (by with_unfolding_all rfl) ?_ | with_reducible refine Exists.intro _ (And.intro (by with_unfolding_all rfl) ?_) | with_reducible refine And.intro (le_size (by with_unfolding_all rfl)) ?_ | with_reducible refine st_frz (by with_unfolding_all rfl) ?_ | with_reducible refine st_ms ?_))
    refine htokS (by decide) ?_
    rw [T6]
    (repeat (first | with_reducible refine st_nx ?_ | with_reducible refine st_rt ?_ | with_reducible refine st_bk ?_ | with_reducible refine st_ct ?_ | with_reducible refine st_bind1 ?_ | with_reducible refine st_v (by with_unfolding_all rfl) ?_ | with_reducible refine st_seq ?_ | with_reducible refine st_skip ?_ | with_reducible refine st_asg ?_ | with_reducible refine st_ret ?_ | with_reducible refine st_if ?_ | with_reducible refine st_for ?_ | with_reducible refine st_par2 ?_ | with_reducible refine st_par3 ?_ | with_reducible refine st_asgT ?_ | with_reducible refine st_drop ?_ | with_reducible refine st_brk ?_ | with_reducible refine st_cnt ?_ | with_reducible refine st_tE ?_ | with_reducible refine st_tCmp ?_ | with_reducible refine st_tNt ?_ | with_reducible refine st_tAn ?_ | with_reducible refine st_tO ?_ | with_reducible refine st_tT ?_ | with_reducible refine st_c ?_ | with_reducible refine st_tr ?_ | with_reducible refine st_fz ?_ | with_reducible refine st_op ?_ | with_reducible refine st_call ?_ | with_reducible refine st_callK ?_ | with_reducible refine st_lst ?_ | with_reducible refine st_tup ?_ | with_reducible refine st_sl ?_ | with_reducible refine st_eif ?_ | with_reducible refine st_and ?_ | with_reducible refine st_or ?_ | with_reducible refine st_not ?_ | with_reducible refine st_neg ?_ | with_reducible refine st_isi ?_ | with_reducible refine st_lc ?_ | with_reducible refine st_dc ?_ | with_reducible refine st_anil ?_ | with_reducible refine st_acons ?_ | with_reducible refine st_ono ?_ | with_reducible refine st_osome ?_ | with_reducible refine st_iseq ?_ | with_reducible refine st_irg1 ?_ | with_reducible refine st_izp ?_ | with_reducible refine sd_addI ?_ | with_reducible refine sd_subI ?_ | with_reducible refine sd_lenL ?_ | with_reducible refine sd_lenT ?_ | with_reducible refine sd_list ?_ | with_reducible refine sd_tuple ?_ | with_reducible refine sd_lt ?_ | with_reducible refine sd_le ?_ | with_reducible refine sd_gt ?_ | with_reducible refine sd_ge ?_ | with_reducible refine sd_eqI ?_ | with_reducible refine sd_neI ?_ | with_reducible refine sd_eqS ?_ | with_reducible refine sd_neS ?_ | with_reducible refine sd_slL ?_ | with_reducible refine sd_slT ?_ | with_reducible refine sd_int ?_ | with_reducible refine st_app (by with_unfolding_all rfl) ?_ | with_reducible refine st_clr (by with_unfolding_all rfl) ?_ | with_reducible refine st_retO (by with_unfolding_all rfl) ?_ | with_reducible refine st_retV (by with_unfolding_all rfl) ?_ | with_reducible refine st_aug (by with_unfolding_all rfl) ?_ | with_reducible refine And.intro (by with_unfolding_all rfl) ?_ | with_reducible refine Exists.intro _ (And.intro (by with_unfolding_all rfl) ?_) | with_reducible refine And.intro (le_size (by with_unfolding_all rfl)) ?_ | with_reducible refine st_frz (by with_unfolding_all rfl) ?_ | with_reducible refine st_ms ?_))
    refine htokS (by decide) ?_
    rw [T7]
    (repeat (first | with_reducible refine st_nx ?_ | with_reducible refine st_rt ?_ | with_reducible refine st_bk ?_ | with_reducible refine st_ct ?_ | with_reducible refine st_bind1 ?_ | with_reducible refine st_v (by with_unfolding_all rfl) ?_ | with_reducible refine st_seq ?_ | with_reducible refine st_skip ?_ | with_reducible refine st_asg ?_ | with_reducible refine st_ret ?_ | with_reducible refine st_if ?_ | with_reducible refine st_for ?_ | with_reducible refine st_par2 ?_ | with_reducible refine st_par3 ?_ | with_reducible refine st_asgT ?_ | with_reducible refine st_drop ?_ | with_reducible refine st_brk ?_ | with_reducible refine st_cnt ?_ | with_reducible refine st_tE ?_ | with_reducible refine st_tCmp ?_ | with_reducible refine st_tNt ?_ | with_reducible refine st_tAn ?_ | with_reducible refine st_tO ?_ | with_reducible refine st_tT ?_ | with_reducible refine st_c ?_ | with_reducible refine st_tr ?_ | with_reducible refine st_fz ?_ | with_reducible refine st_op ?_ | with_reducible refine st_call ?_ | with_reducible refine st_callK ?_ | with_reducible refine st_lst ?_ | with_reducible refine st_tup ?_ | with_reducible refine st_sl ?_ | with_reducible refine st_eif ?_ | with_reducible refine st_and ?_ | with_reducible refine st_or ?_ | with_reducible refine st_not ?_ | with_reducible refine st_neg ?_ | with_reducible refine st_isi ?_ | with_reducible refine st_lc ?_ | with_reducible refine st_dc ?_ | with_reducible refine st_anil ?_ | with_reducible refine st_acons ?_ | with_reducible refine st_ono ?_ | with_reducible refine st_osome ?_ | with_reducible refine st_iseq ?_ | with_reducible refine st_irg1 ?_ | with_reducible refine st_izp ?_ | with_reducible refine sd_addI ?_ | with_reducible refine sd_subI ?_ | with_reducible refine sd_lenL ?_ | with_reducible refine sd_lenT ?_ | with_reducible refine sd_list ?_ | with_reducible refine sd_tuple ?_ | with_reducible refine sd_lt ?_ | with_reducible refine sd_le ?_ | with_reducible refine sd_gt ?_ | with_reducible refine sd_ge ?_ | with_reducible refine sd_eqI ?_ | with_reducible refine sd_neI ?_ | with_reducible refine sd_eqS ?_ | with_reducible refine sd_neS ?_ | with_reducible refine sd_slL ?_ | with_reducible refine sd_slT ?_ | with_reducible refine sd_int ?_ | with_reducible refine st_app (by with_unfolding_all rfl) ?_ | with_reducible refine st_clr (by with_unfolding_all rfl) ?_ | with_reducible refine st_retO (by with_unfolding_all rfl) ?_ | with_reducible refine st_retV (by with_unfolding_all rfl) ?_ | with_reducible refine st_aug (by with_unfolding_all rfl) ?_ | with_reducible refine And.intro (by with_unfolding_all rfl) ?_ | with_reducible refine Exists.intro _ (And.intro (by with_unfolding_all rfl) ?_) | with_reducible refine And.intro (le_size (by with_unfolding_all rfl)) ?_ | with_reducible refine st_frz (by with_unfolding_all rfl) ?_ | with_reducible refine st_ms ?_))
    have lp : ∀ {m : Nat} (ds : List D), ds.length ≤ 1000 → (∀ d ∈ ds, plainN (m + 1) d) → plainN (m + 2) (.lst ds) := fun ds h1 h2 => ⟨size5 (by omega), h2⟩
    refine hsame (.lst [.lst [.tup [.int 0, .str "end", .str ""]], .lst [.tup [.int 2, .str "end", .str ""]], .lst [.tup [.int 0, .str "word", .str "ab"], .tup [.int 2, .str "number", .str "1"], .tup [.int 3, .str "end", .str ""]], .lst [.tup [.int 0, .str "number", .str "1"], .tup [.int 1, .str "word", .str "ab"], .tup [.int 3, .str "end", .str ""]], .lst [.tup [.int 0, .str "word", .str "a"], .tup [.int 3, .str "sign", .str "<"], .tup [.int 4, .str "sign", .str "{"], .tup [.int 5, .str "end", .str ""]], .lst [.tup [.int 0, .str "bad word", .str ""]], .lst [.tup [.int 0, .str "bad number", .str ""]]]) ?_ ?_
    · rw [← T1, ← T2, ← T3, ← T4, ← T5, ← T6, ← T7]
      refine ⟨by show 7 ≤ sizeLine; decide, fun x hx => ?_⟩
      simp only [List.mem_cons, List.not_mem_nil, or_false] at hx
      rcases hx with h | h | h | h | h | h | h <;> rw [h] <;> exact toks_plain _ (by decide)
    (repeat (first | with_reducible refine st_nx ?_ | with_reducible refine st_rt ?_ | with_reducible refine st_bk ?_ | with_reducible refine st_ct ?_ | with_reducible refine st_bind1 ?_ | with_reducible refine st_v (by with_unfolding_all rfl) ?_ | with_reducible refine st_seq ?_ | with_reducible refine st_skip ?_ | with_reducible refine st_asg ?_ | with_reducible refine st_ret ?_ | with_reducible refine st_if ?_ | with_reducible refine st_for ?_ | with_reducible refine st_par2 ?_ | with_reducible refine st_par3 ?_ | with_reducible refine st_asgT ?_ | with_reducible refine st_drop ?_ | with_reducible refine st_brk ?_ | with_reducible refine st_cnt ?_ | with_reducible refine st_tE ?_ | with_reducible refine st_tCmp ?_ | with_reducible refine st_tNt ?_ | with_reducible refine st_tAn ?_ | with_reducible refine st_tO ?_ | with_reducible refine st_tT ?_ | with_reducible refine st_c ?_ | with_reducible refine st_tr ?_ | with_reducible refine st_fz ?_ | with_reducible refine st_op ?_ | with_reducible refine st_call ?_ | with_reducible refine st_callK ?_ | with_reducible refine st_lst ?_ | with_reducible refine st_tup ?_ | with_reducible refine st_sl ?_ | with_reducible refine st_eif ?_ | with_reducible refine st_and ?_ | with_reducible refine st_or ?_ | with_reducible refine st_not ?_ | with_reducible refine st_neg ?_ | with_reducible refine st_isi ?_ | with_reducible refine st_lc ?_ | with_reducible refine st_dc ?_ | with_reducible refine st_anil ?_ | with_reducible refine st_acons ?_ | with_reducible refine st_ono ?_ | with_reducible refine st_osome ?_ | with_reducible refine st_iseq ?_ | with_reducible refine st_irg1 ?_ | with_reducible refine st_izp ?_ | with_reducible refine sd_addI ?_ | with_reducible refine sd_subI ?_ | with_reducible refine sd_lenL ?_ | with_reducible refine sd_lenT ?_ | with_reducible refine sd_list ?_ | with_reducible refine sd_tuple ?_ | with_reducible refine sd_lt ?_ | with_reducible refine sd_le ?_ | with_reducible refine sd_gt ?_ | with_reducible refine sd_ge ?_ | with_reducible refine sd_eqI ?_ | with_reducible refine sd_neI ?_ | with_reducible refine sd_eqS ?_ | with_reducible refine sd_neS ?_ | with_reducible refine sd_slL ?_ | with_reducible refine sd_slT ?_ | with_reducible refine sd_int ?_ | with_reducible refine st_app (by with_unfolding_all rfl) ?_ | with_reducible refine st_clr (by with_unfolding_all rfl) ?_ | with_reducible refine st_retO (by with_unfolding_all rfl) ?_ | with_reducible refine st_retV (by with_unfolding_all rfl) ?_ | with_reducible refine st_aug (by with_unfolding_all rfl) ?_ | with_reducible refine And.intro (by with_unfolding_all rfl) ?_ | with_reducible refine Exists.intro _ (And.intro (by with_unfolding_all rfl) ?_) | with_reducible refine And.intro (le_size (by with_unfolding_all rfl)) ?_ | with_reducible refine st_frz (by with_unfolding_all rfl) ?_ | with_reducible refine st_ms ?_))
    rfl
end
theorem kw_ok {Q : Rz → Prop} (q : Q (.new [.str "let", .str "set", .str "out", .str "read", .str "do", .str "def", .str "if", .str "else", .str "repeat", .str "block"])) : S__law_keywords [] Q := by
  refine st_body rfl ?_
  unfold b__law_keywords
  (repeat (first | with_reducible refine st_nx ?_ | with_reducible refine st_rt ?_ | with_reducible refine st_bk ?_ | with_reducible refine st_ct ?_ | with_reducible refine st_bind1 ?_ | with_reducible refine st_v (by with_unfolding_all rfl) ?_ | with_reducible refine st_seq ?_ | with_reducible refine st_skip ?_ | with_reducible refine st_asg ?_ | with_reducible refine st_ret ?_ | with_reducible refine st_if ?_ | with_reducible refine st_for ?_ | with_reducible refine st_par2 ?_ | with_reducible refine st_par3 ?_ | with_reducible refine st_asgT ?_ | with_reducible refine st_drop ?_ | with_reducible refine st_brk ?_ | with_reducible refine st_cnt ?_ | with_reducible refine st_tE ?_ | with_reducible refine st_tCmp ?_ | with_reducible refine st_tNt ?_ | with_reducible refine st_tAn ?_ | with_reducible refine st_tO ?_ | with_reducible refine st_tT ?_ | with_reducible refine st_c ?_ | with_reducible refine st_tr ?_ | with_reducible refine st_fz ?_ | with_reducible refine st_op ?_ | with_reducible refine st_call ?_ | with_reducible refine st_callK ?_ | with_reducible refine st_lst ?_ | with_reducible refine st_tup ?_ | with_reducible refine st_sl ?_ | with_reducible refine st_eif ?_ | with_reducible refine st_and ?_ | with_reducible refine st_or ?_ | with_reducible refine st_not ?_ | with_reducible refine st_neg ?_ | with_reducible refine st_isi ?_ | with_reducible refine st_lc ?_ | with_reducible refine st_dc ?_ | with_reducible refine st_anil ?_ | with_reducible refine st_acons ?_ | with_reducible refine st_ono ?_ | with_reducible refine st_osome ?_ | with_reducible refine st_iseq ?_ | with_reducible refine st_irg1 ?_ | with_reducible refine st_izp ?_ | with_reducible refine sd_addI ?_ | with_reducible refine sd_subI ?_ | with_reducible refine sd_lenL ?_ | with_reducible refine sd_lenT ?_ | with_reducible refine sd_list ?_ | with_reducible refine sd_tuple ?_ | with_reducible refine sd_lt ?_ | with_reducible refine sd_le ?_ | with_reducible refine sd_gt ?_ | with_reducible refine sd_ge ?_ | with_reducible refine sd_eqI ?_ | with_reducible refine sd_neI ?_ | with_reducible refine sd_eqS ?_ | with_reducible refine sd_neS ?_ | with_reducible refine sd_slL ?_ | with_reducible refine sd_slT ?_ | with_reducible refine sd_int ?_ | with_reducible refine st_app (by with_unfolding_all rfl) ?_ | with_reducible refine st_clr (by with_unfolding_all rfl) ?_ | with_reducible refine st_retO (by with_unfolding_all rfl) ?_ | with_reducible refine st_retV (by with_unfolding_all rfl) ?_ | with_reducible refine st_aug (by with_unfolding_all rfl) ?_ | with_reducible refine And.intro (by with_unfolding_all rfl) ?_ | with_reducible refine Exists.intro _ (And.intro (by with_unfolding_all rfl) ?_) | with_reducible refine And.intro (le_size (by with_unfolding_all rfl)) ?_ | with_reducible refine st_frz (by with_unfolding_all rfl) ?_ | with_reducible refine st_ms ?_))
  exact q
theorem law_holds : lawS 15 (b_law S__law_same S__law_tokens S__law_draw S_tokens_of S__law_of S__law_letters S__law_keywords) :=
  law_core (fun h0 h1 q => draw_ok h0 h1 q) (fun h0 h1 q => of_lst h0 h1 q) (fun h0 h1 q => of_str h0 h1 fun c _ => q c) (fun d _ h q => same_ok (Sr := Sr__law_same) rfl (fun n => rfl) 8 d h _ q)
    (fun q => letters_ok q) (fun q => kw_ok q) rfl (fun d hd => by
      simp only [List.mem_cons, List.not_mem_nil, or_false] at hd
      rcases hd with h | h | h | h | h | h | h | h | h | h <;> rw [h] <;> exact sd_lit (by decide))
    (fun h q => tokens_of_ok h q) (fun h q => law_tokens_ok h q)
end Law

namespace Law
open PySem PySem.Spec PyProof.Rows L2 DI
def top (i : Nat) : Stmt := PySem.Challenge.pw_piercednames_k12_tokens_of_lines.main.body.getD i (.Pass ⟨0, 0, 0, 0⟩)
structure Txt (K : PySem.W.Frag) (mg : Str → Option Value) : Prop where
  b_all : mg "all" = none
  b_bool : mg "bool" = none
  b_dict : mg "dict" = none
  b_int : mg "int" = none
  b_len : mg "len" = none
  b_list : mg "list" = none
  b_range : mg "range" = none
  b_str : mg "str" = none
  b_tuple : mg "tuple" = none
  b_zip : mg "zip" = none
  isinstance : mg "isinstance" = none
  k_LETTERS : ∃ t, mg "LETTERS" = some (.str "abcdefghijklmnopqrstuvwxyz" t)
  k_DIGITS : ∃ t, mg "DIGITS" = some (.str "0123456789" t)
  k_MOST_LETTERS : ∃ t, mg "MOST_LETTERS" = some (.int 6 t)
  k_MOST_DIGITS : ∃ t, mg "MOST_DIGITS" = some (.int 6 t)
  k_SIGNS : ∃ t, mg "SIGNS" = some (.str "=+-*<(),{}" t)
theorem q_LETTERS {X : Cx} {pos : Pos} (T : Txt X.K X.mg) (hg : Gl X "LETTERS" := by rfl) : QE X (.Name "LETTERS" pos) (eC c_LETTERS) := by
  obtain ⟨t, h⟩ := T.k_LETTERS
  exact q_glob (v := .str "abcdefghijklmnopqrstuvwxyz") h ⟨t, rfl⟩ (.str _) (fun _ _ => .str _) hg
theorem q_DIGITS {X : Cx} {pos : Pos} (T : Txt X.K X.mg) (hg : Gl X "DIGITS" := by rfl) : QE X (.Name "DIGITS" pos) (eC c_DIGITS) := by
  obtain ⟨t, h⟩ := T.k_DIGITS
  exact q_glob (v := .str "0123456789") h ⟨t, rfl⟩ (.str _) (fun _ _ => .str _) hg
theorem q_MOST_LETTERS {X : Cx} {pos : Pos} (T : Txt X.K X.mg) (hg : Gl X "MOST_LETTERS" := by rfl) : QE X (.Name "MOST_LETTERS" pos) (eC c_MOST_LETTERS) := by
  obtain ⟨t, h⟩ := T.k_MOST_LETTERS
  exact q_glob (v := .int 6) h ⟨t, rfl⟩ (.int _) (fun _ _ => .int _) hg
theorem q_MOST_DIGITS {X : Cx} {pos : Pos} (T : Txt X.K X.mg) (hg : Gl X "MOST_DIGITS" := by rfl) : QE X (.Name "MOST_DIGITS" pos) (eC c_MOST_DIGITS) := by
  obtain ⟨t, h⟩ := T.k_MOST_DIGITS
  exact q_glob (v := .int 6) h ⟨t, rfl⟩ (.int _) (fun _ _ => .int _) hg
theorem q_SIGNS {X : Cx} {pos : Pos} (T : Txt X.K X.mg) (hg : Gl X "SIGNS" := by rfl) : QE X (.Name "SIGNS" pos) (eC c_SIGNS) := by
  obtain ⟨t, h⟩ := T.k_SIGNS
  exact q_glob (v := .str "=+-*<(),{}") h ⟨t, rfl⟩ (.str _) (fun _ _ => .str _) hg
abbrev s_is_plain : Stmt := top 5
abbrev N_is_plain : List Str := ["digits", "digit"]
theorem sc_is_plain : FnScope N_is_plain ["digits"] (defScope s_is_plain) := ⟨rfl, rfl, rfl, by decide +kernel, rfl, by decide +kernel, by decide +kernel⟩
abbrev s_read_numeral : Stmt := top 6
abbrev N_read_numeral : List Str := ["text"]
theorem sc_read_numeral : FnScope N_read_numeral ["text"] (defScope s_read_numeral) := ⟨rfl, rfl, rfl, by decide +kernel, rfl, by decide +kernel, by decide +kernel⟩
abbrev s_run_end : Stmt := top 9
abbrev N_run_end : List Str := ["line", "at", "signs"]
theorem sc_run_end : FnScope N_run_end ["line", "at", "signs"] (defScope s_run_end) := ⟨rfl, rfl, rfl, by decide +kernel, rfl, by decide +kernel, by decide +kernel⟩
abbrev s_tokens_of : Stmt := top 10
abbrev N_tokens_of : List Str := ["line", "tokens", "at", "start", "sign"]
theorem sc_tokens_of : FnScope N_tokens_of ["line"] (defScope s_tokens_of) := ⟨rfl, rfl, rfl, by decide +kernel, rfl, by decide +kernel, by decide +kernel⟩
abbrev s__law_bag : Stmt := top 12
abbrev N__law_bag : List Str := ["_law_script", "_law_mixed", "_law_cell"]
theorem sc__law_bag : FnScope N__law_bag ["_law_script"] (defScope s__law_bag) := ⟨rfl, rfl, rfl, by decide +kernel, rfl, by decide +kernel, by decide +kernel⟩
abbrev s__law_draw : Stmt := top 13
abbrev N__law_draw : List Str := ["_law_bag_here", "_law_many", "_law_cell", "_law_digit", "_law_seed"]
theorem sc__law_draw : FnScope N__law_draw ["_law_bag_here", "_law_many"] (defScope s__law_draw) := ⟨rfl, rfl, rfl, by decide +kernel, rfl, by decide +kernel, by decide +kernel⟩
abbrev s__law_of : Stmt := top 14
abbrev N__law_of : List Str := ["_law_bag_here", "_law_some"]
theorem sc__law_of : FnScope N__law_of ["_law_bag_here", "_law_some"] (defScope s__law_of) := ⟨rfl, rfl, rfl, by decide +kernel, rfl, by decide +kernel, by decide +kernel⟩
abbrev s__law_same : Stmt := top 15
abbrev N__law_same : List Str := ["_law_found", "_law_due", "_law_key", "_law_one", "_law_two"]
theorem sc__law_same : FnScope N__law_same ["_law_found", "_law_due"] (defScope s__law_same) := ⟨rfl, rfl, rfl, by decide +kernel, rfl, by decide +kernel, by decide +kernel⟩
abbrev s__law_keywords : Stmt := top 16
abbrev N__law_keywords : List Str := []
theorem sc__law_keywords : FnScope N__law_keywords [] (defScope s__law_keywords) := ⟨rfl, rfl, rfl, by decide +kernel, rfl, by decide +kernel, by decide +kernel⟩
abbrev s__law_letters : Stmt := top 17
abbrev N__law_letters : List Str := []
theorem sc__law_letters : FnScope N__law_letters [] (defScope s__law_letters) := ⟨rfl, rfl, rfl, by decide +kernel, rfl, by decide +kernel, by decide +kernel⟩
abbrev s__law_is_digit : Stmt := top 18
abbrev N__law_is_digit : List Str := ["_law_sign"]
theorem sc__law_is_digit : FnScope N__law_is_digit ["_law_sign"] (defScope s__law_is_digit) := ⟨rfl, rfl, rfl, by decide +kernel, rfl, by decide +kernel, by decide +kernel⟩
abbrev s__law_tokens : Stmt := top 19
abbrev N__law_tokens : List Str := ["_law_line_z", "_law_found", "_law_at", "_law_sign", "_law_end", "_law_signs", "_law_word"]
theorem sc__law_tokens : FnScope N__law_tokens ["_law_line_z"] (defScope s__law_tokens) := ⟨rfl, rfl, rfl, by decide +kernel, rfl, by decide +kernel, by decide +kernel⟩
abbrev s_law : Stmt := top 20
abbrev N_law : List Str := ["_law_script", "_law_bag_here", "_law_turn", "_law_line_z", "_law_k", "_law_word", "_law_digits", "_law_part", "_law_near", "_law_due", "_law_again", "_law_told", "_law_at", "_law_late", "_law_j"]
theorem sc_law : FnScope N_law ["_law_script"] (defScope s_law) := ⟨rfl, rfl, rfl, by decide +kernel, rfl, by decide +kernel, by decide +kernel⟩
section
variable {P : Program} {w : World} {K : PySem.W.Frag} {mg : Str → Option Value} {base : Heap}
theorem ok_is_plain {f : Addr} {fd : FuncData} (F : Fun K "is_plain" "is_plain" s_is_plain f fd) (T : Txt K mg)  : FnOk P w K mg base CX0 1 f fd ["digits"] (SpD K 1 S_is_plain) :=
  fn_data (k := 0) (g := b_is_plain ) F sc_is_plain (by decide) fun cdv A outer s H E hr => q_scons (q_sif (q_w (q_wor (q_tcmp (op_eqH hr) (q_var 0) (q_str)) (q_wor1 (q_tnot (q_t (q_tr (q_callB (call_allL rfl) T.b_all bt_all (q_cons (q_lc (own := [("digit", 1)]) (t := (.one 1)) sc_is_plain.nd (q_seq (q_var 0)) (blkOk_by (N := N_is_plain) (sc := defScope s_is_plain) (by decide +kernel)) (fun _ _ _ _ _ => q_name (i := 1) sc_is_plain.nd) (fun _ _ _ _ _ => q_tr (q_cmp (op_inH hr) (q_var 1) (q_DIGITS T)))) (q_nil))))))))) (q_sone (q_ret (q_bl))) (q_snil))
      (q_sone (q_ret (q_or (q_tr (q_cmp (op_eqH hr) (q_var 0) (q_str))) (q_one (q_tr (q_cmp (op_neH hr) (q_ix (q_var 0) (q_int)) (q_str)))))))
theorem ok_read_numeral {f : Addr} {fd : FuncData} (F : Fun K "read_numeral" "read_numeral" s_read_numeral f fd) (T : Txt K mg) (D_is_plain : Def P w K mg base "is_plain" ["digits"] 1 S_is_plain) : FnOk P w K mg base CX0 2 f fd ["text"] (SpD K 1 S_read_numeral) :=
  fn_data (k := 1) (g := b_read_numeral S_is_plain) F sc_read_numeral (by decide) fun cdv A outer s H E hr => q_scons (q_sif (q_w (q_wor (q_tnot (q_t (q_isi (q_var 0) T.isinstance T.b_str bt_str ot_str))) (q_wor (q_tcmp op_gtL (q_tr (q_callB call_lenL T.b_len bt_len (q_cons (q_var 0) (q_nil)))) (q_MOST_DIGITS T)) (q_wor1 (q_tnot (q_t (q_callD D_is_plain hr (q_cons (q_var 0) (q_nil))))))))) (q_sone (q_ret (q_non))) (q_snil))
      (q_sone (q_ret (q_tr (q_callTy call_intL T.b_int bt_int (q_cons (q_var 0) (q_nil))))))
theorem ok_run_end {f : Addr} {fd : FuncData} (F : Fun K "run_end" "run_end" s_run_end f fd) (T : Txt K mg)  : FnOk P w K mg base CX0 1 f fd ["line", "at", "signs"] (SpD K 3 S_run_end) :=
  fn_data (k := 0) (g := b_run_end ) F sc_run_end (by decide) fun cdv A outer s H E hr => q_scons (q_swh (q_w (q_wand (q_tcmp op_ltL (q_var 1) (q_tr (q_callB call_lenL T.b_len bt_len (q_cons (q_var 0) (q_nil))))) (q_wand1 (q_tcmp (op_inH hr) (q_ix (q_var 0) (q_var 1)) (q_var 2))))) (q_sone (q_aug 1 sc_run_end.nd (q_int))))
      (q_sone (q_ret (q_var 1)))
theorem ok_tokens_of {f : Addr} {fd : FuncData} (F : Fun K "tokens_of" "tokens_of" s_tokens_of f fd) (T : Txt K mg) (D_run_end : Def P w K mg base "run_end" ["line", "at", "signs"] 1 S_run_end) (D_read_numeral : Def P w K mg base "read_numeral" ["text"] 2 S_read_numeral) : FnOk P w K mg base CX0 3 f fd ["line"] (SpD K 1 S_tokens_of) :=
  fn_data (k := 2) (g := b_tokens_of S_run_end S_read_numeral) F sc_tokens_of (by decide) fun cdv A outer s H E hr => q_scons (q_par2 1 2 sc_tokens_of.nd (q_lst (q_nil)) (q_int) rfl)
      (q_scons (q_swh (q_tcmp op_ltL (q_var 2) (q_tr (q_callB call_lenL T.b_len bt_len (q_cons (q_var 0) (q_nil))))) (q_scons (q_par2 3 4 sc_tokens_of.nd (q_var 2) (q_fz (q_ix (q_var 0) (q_var 2))) rfl)
      (q_sone (q_sif (q_tcmp (op_eqH hr) (q_var 4) (q_str)) (q_sone (q_aug 2 sc_tokens_of.nd (q_int))) (q_sone (q_sif (q_tcmp (op_inH hr) (q_var 4) (q_LETTERS T)) (q_scons (q_asg (i := 2) sc_tokens_of.nd (q_fz (q_callD D_run_end hr (q_cons (q_var 0) (q_cons (q_var 2) (q_cons (q_LETTERS T) (q_nil)))))))
      (q_scons (q_sif (q_tcmp op_gtL (q_op op_subL (q_var 2) (q_var 3)) (q_MOST_LETTERS T)) (q_frz 1 (q_sone (q_ret (q_op op_addL (q_var 1) (q_lst (q_cons (q_tup (q_cons (q_var 3) (q_cons (q_str) (q_cons (q_str) (q_nil))))) (q_nil))))))) (q_snil))
      (q_sone (q_app 1 (q_tup (q_cons (q_var 3) (q_cons (q_str) (q_cons (q_sl (q_var 0) (q_some (q_var 3)) (q_some (q_var 2))) (q_nil))))))))) (q_sone (q_sif (q_tcmp (op_inH hr) (q_var 4) (q_DIGITS T)) (q_scons (q_asg (i := 2) sc_tokens_of.nd (q_fz (q_callD D_run_end hr (q_cons (q_var 0) (q_cons (q_var 2) (q_cons (q_DIGITS T) (q_nil)))))))
      (q_scons (q_sif (q_tcmp op_isL (q_callD D_read_numeral hr (q_cons (q_sl (q_var 0) (q_some (q_var 3)) (q_some (q_var 2))) (q_nil))) (q_non)) (q_frz 1 (q_sone (q_ret (q_op op_addL (q_var 1) (q_lst (q_cons (q_tup (q_cons (q_var 3) (q_cons (q_str) (q_cons (q_str) (q_nil))))) (q_nil))))))) (q_snil))
      (q_sone (q_app 1 (q_tup (q_cons (q_var 3) (q_cons (q_str) (q_cons (q_sl (q_var 0) (q_some (q_var 3)) (q_some (q_var 2))) (q_nil))))))))) (q_sone (q_sif (q_tcmp (op_inH hr) (q_var 4) (q_SIGNS T)) (q_scons (q_aug 2 sc_tokens_of.nd (q_int))
      (q_sone (q_app 1 (q_tup (q_cons (q_var 3) (q_cons (q_str) (q_cons (q_var 4) (q_nil)))))))) (q_frz 1 (q_sone (q_ret (q_op op_addL (q_var 1) (q_lst (q_cons (q_tup (q_cons (q_var 3) (q_cons (q_str) (q_cons (q_str) (q_nil))))) (q_nil)))))))))))))))))
      (q_frz 1 (q_sone (q_ret (q_op op_addL (q_var 1) (q_lst (q_cons (q_tup (q_cons (q_tr (q_callB call_lenL T.b_len bt_len (q_cons (q_var 0) (q_nil)))) (q_cons (q_str) (q_cons (q_str) (q_nil))))) (q_nil))))))))
theorem ok__law_bag {f : Addr} {fd : FuncData} (F : Fun K "_law_bag" "_law_bag" s__law_bag f fd) (T : Txt K mg) : FnOk P w K mg base CX0 1 f fd ["_law_script"] (spBag K) := by
  refine F.ok sc__law_bag (fun vs H Q E h => ?_) fun cdv A outer s H vs Q E hr h => ⟨_, pss_cons (ps_set (i := 1) sc__law_bag.nd rfl (Or.inl rfl) pe_int) (pss_cons (ps_for PassesOwn.never rfl (pi_list (pe_slice sl_list (pv 0) po_none (po_some pe_int))) (pg_name (i := 2) sc__law_bag.nd rfl (Or.inl rfl)) (pss_one (ps_set (i := 1) sc__law_bag.nd rfl (Or.inl rfl) (pe_op op_mod (pe_callTy call_int1 (by rfl) T.b_int bt_int (pa_cons (pe_op op_add (pe_op op_add (pe_op op_mul (pv 1) pe_int) (pe_op op_mod (pe_callTy call_int1 (by rfl) T.b_int bt_int (pa_cons (pv 2) pa_nil)) pe_int)) pe_int) pa_nil)) pe_int)))) (pss_one (ps_ret (pe_lst (pa_cons (pe_callTy call_list_of (by rfl) T.b_list bt_list (pa_cons (pe_slice sl_list (pv 0) po_none (po_some pe_int)) pa_nil)) (pa_cons pe_int (pa_cons pe_int (pa_cons (pv 1) (pa_cons pe_int pa_nil))))))))), bag_read h⟩
  obtain ⟨a, ns, rfl, _⟩ := h
  rfl
theorem ok__law_draw {f : Addr} {fd : FuncData} (F : Fun K "_law_draw" "_law_draw" s__law_draw f fd) (T : Txt K mg) : FnOk P w K mg base CX0 1 f fd ["_law_bag_here", "_law_many"] (SpD K 2 drawS) := by
  refine F.ok sc__law_draw (fun vs H Q E h => ?_) fun cdv A outer s H vs Q E hr h => ⟨_, pss_cons (ps_asg (pe_op op_add (pe_ix ix_list (pv 0) pe_int (fun _ _ => rfl)) pe_int) (pg_sub (pv 0) pe_int set_list)) (pss_cons (ps_if (PW.pt (pw_and (pt_cmpR op_eq (pe_ix ix_list (pv 0) pe_int (fun _ _ => rfl)) pe_int (nomark _)) (pw_and1 (pt_cmpR op_lt (pe_ix ix_list (pv 0) pe_int (fun _ _ => rfl)) (pe_callB call_len_seq (by rfl) T.b_len bt_len (pa_cons (pe_ix ix_list (pv 0) pe_int (fun _ _ => rfl)) pa_nil)) (nomark _))))) (pss_cons (ps_set (i := 2) sc__law_draw.nd rfl (Or.inl rfl) (pe_ix ix_list (pe_ix ix_list (pv 0) pe_int (fun _ _ => rfl)) (pe_ix ix_list (pv 0) pe_int (fun _ _ => rfl)) (fun _ _ => rfl))) (pss_cons (ps_asg (pe_op op_add (pe_ix ix_list (pv 0) pe_int (fun _ _ => rfl)) pe_int) (pg_sub (pv 0) pe_int set_list)) (pss_cons (ps_if (pt_cmpR op_ge (pv 2) (pe_op op_pow pe_int pe_int) (nomark _)) (pss_one (ps_asg (pv 2) (pg_sub (pv 0) pe_int set_list))) pss_nil) (pss_one (ps_asg (pe_op op_mod (pe_callTy call_int1 (by rfl) T.b_int bt_int (pa_cons (pe_op op_add (pe_op op_add (pe_op op_mul (pe_ix ix_list (pv 0) pe_int (fun _ _ => rfl)) pe_int) (pe_op op_mul (pe_op op_mod (pe_callTy call_int1 (by rfl) T.b_int bt_int (pa_cons (pv 2) pa_nil)) pe_int) pe_int)) pe_int) pa_nil)) pe_int) (pg_sub (pv 0) pe_int set_list)))))) pss_nil) (pss_cons (ps_if (pt_cmpR op_gt (pe_ix ix_list (pv 0) pe_int (fun _ _ => rfl)) pe_int (nomark _)) (pss_cons (ps_set (i := 3) sc__law_draw.nd rfl (Or.inl rfl) (pe_op op_mod (pe_callTy call_int1 (by rfl) T.b_int bt_int (pa_cons (pe_ix ix_list (pv 0) pe_int (fun _ _ => rfl)) pa_nil)) (pv 1))) (pss_cons (ps_asg (pe_op op_fdivW (pe_callTy call_int1 (by rfl) T.b_int bt_int (pa_cons (pe_ix ix_list (pv 0) pe_int (fun _ _ => rfl)) pa_nil)) (pv 1)) (pg_sub (pv 0) pe_int set_list)) (pss_one (ps_ret (pv 3))))) pss_nil) (pss_cons (ps_set (i := 4) sc__law_draw.nd rfl (Or.inl rfl) (pe_ix ix_list (pv 0) pe_int (fun _ _ => rfl))) (pss_cons (ps_asg (pe_op op_mod (pe_callTy call_int1 (by rfl) T.b_int bt_int (pa_cons (pe_op op_add (pe_op op_add (pe_op op_add (pe_op op_pow (pv 4) pe_int) (pe_op op_mul (pv 4) pe_int)) (pe_op op_mul (pe_ix ix_list (pv 0) pe_int (fun _ _ => rfl)) pe_int)) pe_int) pa_nil)) pe_int) (pg_sub (pv 0) pe_int set_list)) (pss_one (ps_ret (pe_op op_mod (pe_callTy call_int1 (by rfl) T.b_int bt_int (pa_cons (pe_op op_add (pe_op op_fdivW (pe_ix ix_list (pv 0) pe_int (fun _ _ => rfl)) pe_int) (pe_op op_mul (pe_op op_mod (pe_callTy call_int1 (by rfl) T.b_int bt_int (pa_cons (pe_ix ix_list (pv 0) pe_int (fun _ _ => rfl)) pa_nil)) pe_int) pe_int)) pa_nil)) (pv 1)))))))), draw_read h⟩
  obtain ⟨B, P0, ds, Qd, _, _, h3, h4, _⟩ := h
  rw [h3.length, h4]
  rfl
theorem ok__law_of {f : Addr} {fd : FuncData} (F : Fun K "_law_of" "_law_of" s__law_of f fd) (T : Txt K mg) (D__law_draw : Def P w K mg base "_law_draw" ["_law_bag_here", "_law_many"] 1 S__law_draw) : FnOk P w K mg base CX0 2 f fd ["_law_bag_here", "_law_some"] (SpD K 2 S__law_of) :=
  fn_data (k := 1) (g := b__law_of S__law_draw) F sc__law_of (by decide) fun cdv A outer s H E hr => q_sone (q_ret (q_ix (q_var 1) (q_callD D__law_draw hr (q_cons (q_var 0) (q_cons (q_tr (q_callB call_lenL T.b_len bt_len (q_cons (q_var 1) (q_nil)))) (q_nil))))))
theorem okr__law_same {f : Addr} {fd : FuncData} (F : Fun K "_law_same" "_law_same" s__law_same f fd) (T : Txt K mg) (mf : mg "_law_same" = some (.ref f)) (bf : Binds K fd ["_law_found", "_law_due"] [])  : ∀ n : Nat, FnOk P w K mg base CX0 (1 + n) f fd ["_law_found", "_law_due"] (SpD K 2 (Sr__law_same n))
  | 0 => ⟨fun vs H Q E h => by obtain ⟨_, _, _, _, _, _, _, _, z, _⟩ := h; exact z.elim, fun A outer s H args us vs Q E hr he hb hv hs => by obtain ⟨_, _, _, _, _, _, _, _, z, _⟩ := hs; exact z.elim⟩
  | n + 1 => by
    have ih := okr__law_same F T mf bf  n
    have D__law_same : Def P w K mg base "_law_same" ["_law_found", "_law_due"] (1 + n) (Sr__law_same n) := ⟨fun ds Q h => by cases n with | zero => exact h.elim | succ m => exact h.1, f, fd, ih, mf, F.kp, bf⟩
    exact fn_data (k := 1 + n) (g := b__law_same (Sr__law_same n)) F sc__law_same (by decide) fun cdv A outer s H E hr => q_scons (q_sif (q_t (q_isi (q_var 1) T.isinstance T.b_dict bt_dict ot_dict)) (q_ssnever) (q_snil))
      (q_scons (q_sif (q_t (q_isi2 (q_var 1) T.isinstance T.b_list bt_list ot_list T.b_tuple bt_tuple ot_tuple)) (q_scons (q_sif (q_w (q_wor (q_tcmp (op_neH hr) (q_isi (q_var 0) T.isinstance T.b_list bt_list ot_list) (q_isi (q_var 1) T.isinstance T.b_list bt_list ot_list)) (q_wor1 (q_tcmp (op_neH hr) (q_isi (q_var 0) T.isinstance T.b_tuple bt_tuple ot_tuple) (q_isi (q_var 1) T.isinstance T.b_tuple bt_tuple ot_tuple))))) (q_sone (q_ret (q_bl))) (q_snil))
      (q_sone (q_ret (q_and (q_tr (q_cmp (op_eqH hr) (q_tr (q_callB call_lenL T.b_len bt_len (q_cons (q_var 0) (q_nil)))) (q_tr (q_callB call_lenL T.b_len bt_len (q_cons (q_var 1) (q_nil)))))) (q_one (q_tr (q_callB (call_allL rfl) T.b_all bt_all (q_cons (q_lc (own := [("_law_one", 3), ("_law_two", 4)]) (t := (.tup [3, 4])) sc__law_same.nd (q_zp (q_var 0) (q_var 1) T.b_zip) (blkOk_by (N := N__law_same) (sc := defScope s__law_same) (by decide +kernel)) (fun _ _ _ _ _ => q_gtup (q_gcons (q_name (i := 3) sc__law_same.nd) (q_gcons (q_name (i := 4) sc__law_same.nd) (q_gnil)))) (fun _ _ _ _ _ => q_tr (q_callD D__law_same hr (q_cons (q_var 3) (q_cons (q_var 4) (q_nil)))))) (q_nil))))))))) (q_snil))
      (q_scons (q_sif (q_w (q_wor (q_tcmp op_isL (q_var 1) (q_non)) (q_wor1 (q_tcmp op_isL (q_var 0) (q_non))))) (q_sone (q_ret (q_and (q_tr (q_cmp op_isL (q_var 1) (q_non))) (q_one (q_tr (q_cmp op_isL (q_var 0) (q_non))))))) (q_snil))
      (q_scons (q_sif (q_w (q_wor (q_tcmp (op_neH hr) (q_isi (q_var 0) T.isinstance T.b_bool bt_bool ot_bool) (q_isi (q_var 1) T.isinstance T.b_bool bt_bool ot_bool)) (q_wor1 (q_tcmp (op_neH hr) (q_isi (q_var 0) T.isinstance T.b_int bt_int ot_int) (q_isi (q_var 1) T.isinstance T.b_int bt_int ot_int))))) (q_sone (q_ret (q_bl))) (q_snil))
      (q_sone (q_ret (q_and (q_tr (q_cmp (op_eqH hr) (q_isi (q_var 0) T.isinstance T.b_str bt_str ot_str) (q_isi (q_var 1) T.isinstance T.b_str bt_str ot_str))) (q_one (q_tr (q_cmp (op_eqH hr) (q_var 0) (q_var 1))))))))))
theorem ok__law_keywords {f : Addr} {fd : FuncData} (F : Fun K "_law_keywords" "_law_keywords" s__law_keywords f fd) (T : Txt K mg)  : FnOk P w K mg base CX0 1 f fd [] (SpD K 0 S__law_keywords) :=
  fn_data (k := 0) (g := b__law_keywords ) F sc__law_keywords (by decide) fun cdv A outer s H E hr => q_sone (q_ret (q_lst (q_cons (q_str) (q_cons (q_str) (q_cons (q_str) (q_cons (q_str) (q_cons (q_str) (q_cons (q_str) (q_cons (q_str) (q_cons (q_str) (q_cons (q_str) (q_cons (q_str) (q_nil)))))))))))))
theorem ok__law_letters {f : Addr} {fd : FuncData} (F : Fun K "_law_letters" "_law_letters" s__law_letters f fd) (T : Txt K mg)  : FnOk P w K mg base CX0 1 f fd [] (SpD K 0 S__law_letters) :=
  fn_data (k := 0) (g := b__law_letters ) F sc__law_letters (by decide) fun cdv A outer s H E hr => q_sone (q_ret (q_str))
theorem ok__law_is_digit {f : Addr} {fd : FuncData} (F : Fun K "_law_is_digit" "_law_is_digit" s__law_is_digit f fd) (T : Txt K mg)  : FnOk P w K mg base CX0 1 f fd ["_law_sign"] (SpD K 1 S__law_is_digit) :=
  fn_data (k := 0) (g := b__law_is_digit ) F sc__law_is_digit (by decide) fun cdv A outer s H E hr => q_sone (q_ret (q_tr (q_cmp (op_inH hr) (q_var 0) (q_str))))
theorem ok__law_tokens {f : Addr} {fd : FuncData} (F : Fun K "_law_tokens" "_law_tokens" s__law_tokens f fd) (T : Txt K mg) (D__law_letters : Def P w K mg base "_law_letters" [] 1 S__law_letters) (D__law_is_digit : Def P w K mg base "_law_is_digit" ["_law_sign"] 1 S__law_is_digit) : FnOk P w K mg base CX0 2 f fd ["_law_line_z"] (SpD K 1 S__law_tokens) :=
  fn_data (k := 1) (g := b__law_tokens S__law_letters S__law_is_digit) F sc__law_tokens (by decide) fun cdv A outer s H E hr => q_scons (q_par2 1 2 sc__law_tokens.nd (q_lst (q_nil)) (q_int) rfl)
      (q_scons (q_swh (q_tcmp op_ltL (q_var 2) (q_tr (q_callB call_lenL T.b_len bt_len (q_cons (q_var 0) (q_nil))))) (q_scons (q_par2 3 4 sc__law_tokens.nd (q_fz (q_ix (q_var 0) (q_var 2))) (q_fz (q_op op_addL (q_var 2) (q_int))) rfl)
      (q_scons (q_sif (q_tcmp (op_eqH hr) (q_var 3) (q_str)) (q_scons (q_asg (i := 2) sc__law_tokens.nd (q_fz (q_op op_addL (q_var 2) (q_int))))
      (q_sone (q_cnt))) (q_snil))
      (q_scons (q_asg (i := 5) sc__law_tokens.nd (q_fz (q_if (q_tcmp (op_inH hr) (q_var 3) (q_callD0 D__law_letters hr)) (q_callD0 D__law_letters hr) (q_if (q_t (q_callD D__law_is_digit hr (q_cons (q_var 3) (q_nil)))) (q_str) (q_str)))))
      (q_scons (q_sif (q_w (q_wand (q_tcmp (op_eqH hr) (q_var 5) (q_str)) (q_wand1 (q_tcmp (op_notInH hr) (q_var 3) (q_str))))) (q_frz 1 (q_sone (q_ret (q_op op_addL (q_var 1) (q_lst (q_cons (q_tup (q_cons (q_var 2) (q_cons (q_str) (q_cons (q_str) (q_nil))))) (q_nil))))))) (q_snil))
      (q_scons (q_swh (q_w (q_wand (q_tcmp (op_neH hr) (q_var 5) (q_str)) (q_wand (q_tcmp op_ltL (q_var 4) (q_tr (q_callB call_lenL T.b_len bt_len (q_cons (q_var 0) (q_nil))))) (q_wand1 (q_tcmp (op_inH hr) (q_ix (q_var 0) (q_var 4)) (q_var 5)))))) (q_sone (q_asg (i := 4) sc__law_tokens.nd (q_fz (q_op op_addL (q_var 4) (q_int))))))
      (q_scons (q_asg (i := 6) sc__law_tokens.nd (q_fz (q_sl (q_var 0) (q_some (q_var 2)) (q_some (q_var 4)))))
      (q_scons (q_sif (q_w (q_wand (q_tcmp (op_eqH hr) (q_var 5) (q_str)) (q_wand1 (q_w (q_wor (q_tcmp op_gtL (q_tr (q_callB call_lenL T.b_len bt_len (q_cons (q_var 6) (q_nil)))) (q_int)) (q_wor1 (q_w (q_wand (q_tcmp op_gtL (q_tr (q_callB call_lenL T.b_len bt_len (q_cons (q_var 6) (q_nil)))) (q_int)) (q_wand1 (q_tcmp (op_eqH hr) (q_ix (q_var 6) (q_int)) (q_str))))))))))) (q_frz 1 (q_sone (q_ret (q_op op_addL (q_var 1) (q_lst (q_cons (q_tup (q_cons (q_var 2) (q_cons (q_str) (q_cons (q_str) (q_nil))))) (q_nil))))))) (q_snil))
      (q_scons (q_sif (q_w (q_wand (q_tcmp (op_eqH hr) (q_var 5) (q_callD0 D__law_letters hr)) (q_wand1 (q_tcmp op_gtL (q_tr (q_callB call_lenL T.b_len bt_len (q_cons (q_var 6) (q_nil)))) (q_int))))) (q_frz 1 (q_sone (q_ret (q_op op_addL (q_var 1) (q_lst (q_cons (q_tup (q_cons (q_var 2) (q_cons (q_str) (q_cons (q_str) (q_nil))))) (q_nil))))))) (q_snil))
      (q_scons (q_app 1 (q_tup (q_cons (q_var 2) (q_cons (q_if (q_tcmp (op_eqH hr) (q_var 5) (q_str)) (q_str) (q_if (q_tcmp (op_eqH hr) (q_var 5) (q_str)) (q_str) (q_str))) (q_cons (q_var 6) (q_nil))))))
      (q_sone (q_asg (i := 2) sc__law_tokens.nd (q_var 4)))))))))))))
      (q_frz 1 (q_sone (q_ret (q_op op_addL (q_var 1) (q_lst (q_cons (q_tup (q_cons (q_tr (q_callB call_lenL T.b_len bt_len (q_cons (q_var 0) (q_nil)))) (q_cons (q_str) (q_cons (q_str) (q_nil))))) (q_nil))))))))
theorem ok_law {f : Addr} {fd : FuncData} (F : Fun K "law" "law" s_law f fd) (T : Txt K mg) {fb : Addr} {fdb : FuncData} (GB : FnOk P w K mg base CX0 1 fb fdb ["_law_script"] (spBag K)) (mB : mg "_law_bag" = some (.ref fb)) (kB : PySem.W.keepIn K (.ref fb) = true) (bB : Binds K fdb ["_law_script"] []) (D__law_same : Def P w K mg base "_law_same" ["_law_found", "_law_due"] 9 S__law_same) (D__law_tokens : Def P w K mg base "_law_tokens" ["_law_line_z"] 2 S__law_tokens) (D__law_draw : Def P w K mg base "_law_draw" ["_law_bag_here", "_law_many"] 1 S__law_draw) (D_tokens_of : Def P w K mg base "tokens_of" ["line"] 3 S_tokens_of) (D__law_of : Def P w K mg base "_law_of" ["_law_bag_here", "_law_some"] 2 S__law_of) (D__law_letters : Def P w K mg base "_law_letters" [] 1 S__law_letters) (D__law_keywords : Def P w K mg base "_law_keywords" [] 1 S__law_keywords) (K_tokens_of_0 : DefK P w K mg base "tokens_of" ["line"] 3 S_tokens_of 0 ["line"] [0]) (hL : lawS 15 (b_law S__law_same S__law_tokens S__law_draw S_tokens_of S__law_of S__law_letters S__law_keywords)) : FnOk P w K mg base CX0 10 f fd ["_law_script"] (spLaw K) := by
  refine F.ok (k := 9) sc_law (fun vs H Q E h => ?_) fun cdv A outer s H vs Q E hr h => ⟨_, pss_cons (ps_set (i := 1) sc_law.nd rfl (Or.inr rfl) (pe_call GB (hr.mono (by omega)) (by rfl) mB kB bB .nil pass0 (pa_cons (pv 0) pa_nil))) (QSs.pss (f := b_law S__law_same S__law_tokens S__law_draw S_tokens_of S__law_of S__law_letters S__law_keywords) (q_scons (q_sfor (q_rg1 (q_int) T.b_range) (q_name (i := 2) sc_law.nd) (q_scons (q_asg (i := 3) sc_law.nd (q_str))
      (q_scons (q_sfor (q_rg1 (q_callD D__law_draw hr (q_cons (q_var 1) (q_cons (q_int) (q_nil)))) T.b_range) (q_name (i := 4) sc_law.nd) (q_scons (q_asg (i := 5) sc_law.nd (q_tr (q_join (q_str) (q_lc (own := [("_law_j", 14)]) (t := (.one 14)) sc_law.nd (q_rg1 (q_op op_addL (q_int) (q_callD D__law_draw hr (q_cons (q_var 1) (q_cons (q_int) (q_nil))))) T.b_range) (blkOk_by (N := N_law) (sc := defScope s_law) (by decide +kernel)) (fun _ _ _ _ _ => q_name (i := 14) sc_law.nd) (fun _ _ _ _ _ => q_callD D__law_of hr (q_cons (q_var 1) (q_cons (q_callD0 D__law_letters hr) (q_nil))))))))
      (q_scons (q_asg (i := 6) sc_law.nd (q_tr (q_callTy call_strL T.b_str bt_str (q_cons (q_callD D__law_draw hr (q_cons (q_var 1) (q_cons (q_callD D__law_of hr (q_cons (q_var 1) (q_cons (q_lst (q_cons (q_int) (q_cons (q_int) (q_cons (q_int) (q_nil))))) (q_nil)))) (q_nil)))) (q_nil)))))
      (q_scons (q_asg (i := 7) sc_law.nd (q_fz (q_callD D__law_of hr (q_cons (q_var 1) (q_cons (q_lst (q_cons (q_var 5) (q_cons (q_var 6) (q_cons (q_var 5) (q_cons (q_var 6) (q_cons (q_callD D__law_of hr (q_cons (q_var 1) (q_cons (q_str) (q_nil)))) (q_cons (q_callD D__law_of hr (q_cons (q_var 1) (q_cons (q_str) (q_nil)))) (q_cons (q_str) (q_cons (q_str) (q_cons (q_callD D__law_of hr (q_cons (q_var 1) (q_cons (q_callD0 D__law_keywords hr) (q_nil)))) (q_nil))))))))))) (q_nil))))))
      (q_scons (q_sif (q_tcmp (op_eqH hr) (q_callD D__law_draw hr (q_cons (q_var 1) (q_cons (q_int) (q_nil)))) (q_int)) (q_sone (q_asg (i := 7) sc_law.nd (q_fz (q_callD D__law_of hr (q_cons (q_var 1) (q_cons (q_lst (q_cons (q_op op_addL (q_var 5) (q_str)) (q_cons (q_op op_addL (q_str) (q_var 6)) (q_cons (q_str) (q_cons (q_str) (q_cons (q_str) (q_cons (q_str) (q_cons (q_str) (q_cons (q_str) (q_cons (q_str) (q_cons (q_str) (q_cons (q_str) (q_cons (q_str) (q_nil)))))))))))))) (q_nil))))))) (q_snil))
      (q_scons (q_asg (i := 8) sc_law.nd (q_and (q_tr (q_cmp (op_neH hr) (q_var 3) (q_str))) (q_and (q_tr (q_cmp (op_inH hr) (q_sl (q_var 3) (q_some (q_op op_subL (q_tr (q_callB call_lenL T.b_len bt_len (q_cons (q_var 3) (q_nil)))) (q_int))) (q_no)) (q_str))) (q_one (q_tr (q_cmp (op_inH hr) (q_sl (q_var 7) (q_no) (q_some (q_int))) (q_str)))))))
      (q_sone (q_asg (i := 3) sc_law.nd (q_fz (q_op op_addL (q_op op_addL (q_op op_addL (q_var 3) (q_if (q_t (q_var 8)) (q_str) (q_str))) (q_var 7)) (q_callD D__law_of hr (q_cons (q_var 1) (q_cons (q_lst (q_cons (q_str) (q_cons (q_str) (q_cons (q_str) (q_nil))))) (q_nil))))))))))))))
      (q_scons (q_asg (i := 9) sc_law.nd (q_fz (q_callD D__law_tokens hr (q_cons (q_var 3) (q_nil)))))
      (q_scons (q_sfor (q_rg1 (q_int) T.b_range) (q_name (i := 10) sc_law.nd) (q_scons (q_asg (i := 11) sc_law.nd (q_callD D_tokens_of hr (q_cons (q_var 3) (q_nil))))
      (q_scons (q_sif (q_tnot (q_t (q_tr (q_callD D__law_same hr (q_cons (q_lst (q_cons (q_var 11) (q_cons (q_callK0 K_tokens_of_0 hr (q_kcons (q_var 3) (q_knil))) (q_nil)))) (q_cons (q_lst (q_cons (q_var 9) (q_cons (q_var 9) (q_nil)))) (q_nil))))))) (q_sone (q_ret (q_bl))) (q_snil))
      (q_sone (q_clr 11)))))
      (q_scons (q_asg (i := 12) sc_law.nd (q_fz (q_callD D__law_draw hr (q_cons (q_var 1) (q_cons (q_op op_addL (q_tr (q_callB call_lenL T.b_len bt_len (q_cons (q_var 3) (q_nil)))) (q_int)) (q_nil))))))
      (q_sone (q_sfor (q_seq (q_lst (q_cons (q_sl (q_var 3) (q_no) (q_some (q_var 12))) (q_cons (q_sl (q_var 3) (q_some (q_var 12)) (q_no)) (q_cons (q_op op_addL (q_str) (q_var 3)) (q_cons (q_op op_addL (q_var 3) (q_str)) (q_nil))))))) (q_name (i := 13) sc_law.nd) (q_sone (q_sif (q_tnot (q_t (q_tr (q_callD D__law_same hr (q_cons (q_callD D_tokens_of hr (q_cons (q_var 13) (q_nil))) (q_cons (q_callD D__law_tokens hr (q_cons (q_var 13) (q_nil))) (q_nil))))))) (q_sone (q_ret (q_bl))) (q_snil)))))))))))
      (q_scons (q_asg (i := 11) sc_law.nd (q_lst (q_cons (q_callD D_tokens_of hr (q_cons (q_str) (q_nil))) (q_cons (q_callD D_tokens_of hr (q_cons (q_str) (q_nil))) (q_cons (q_callD D_tokens_of hr (q_cons (q_str) (q_nil))) (q_cons (q_callD D_tokens_of hr (q_cons (q_str) (q_nil))) (q_cons (q_callD D_tokens_of hr (q_cons (q_str) (q_nil))) (q_cons (q_callD D_tokens_of hr (q_cons (q_str) (q_nil))) (q_cons (q_callD D_tokens_of hr (q_cons (q_str) (q_nil))) (q_nil))))))))))
      (q_scons (q_asg (i := 9) sc_law.nd (q_fz (q_lst (q_cons (q_lst (q_cons (q_tup (q_cons (q_int) (q_cons (q_str) (q_cons (q_str) (q_nil))))) (q_nil))) (q_cons (q_lst (q_cons (q_tup (q_cons (q_int) (q_cons (q_str) (q_cons (q_str) (q_nil))))) (q_nil))) (q_cons (q_lst (q_cons (q_tup (q_cons (q_int) (q_cons (q_str) (q_cons (q_str) (q_nil))))) (q_cons (q_tup (q_cons (q_int) (q_cons (q_str) (q_cons (q_str) (q_nil))))) (q_cons (q_tup (q_cons (q_int) (q_cons (q_str) (q_cons (q_str) (q_nil))))) (q_nil))))) (q_cons (q_lst (q_cons (q_tup (q_cons (q_int) (q_cons (q_str) (q_cons (q_str) (q_nil))))) (q_cons (q_tup (q_cons (q_int) (q_cons (q_str) (q_cons (q_str) (q_nil))))) (q_cons (q_tup (q_cons (q_int) (q_cons (q_str) (q_cons (q_str) (q_nil))))) (q_nil))))) (q_cons (q_lst (q_cons (q_tup (q_cons (q_int) (q_cons (q_str) (q_cons (q_str) (q_nil))))) (q_cons (q_tup (q_cons (q_int) (q_cons (q_str) (q_cons (q_str) (q_nil))))) (q_cons (q_tup (q_cons (q_int) (q_cons (q_str) (q_cons (q_str) (q_nil))))) (q_cons (q_tup (q_cons (q_int) (q_cons (q_str) (q_cons (q_str) (q_nil))))) (q_nil)))))) (q_cons (q_lst (q_cons (q_tup (q_cons (q_int) (q_cons (q_str) (q_cons (q_str) (q_nil))))) (q_nil))) (q_cons (q_lst (q_cons (q_tup (q_cons (q_int) (q_cons (q_str) (q_cons (q_str) (q_nil))))) (q_nil))) (q_nil)))))))))))
      (q_sone (q_ret (q_tr (q_callD D__law_same hr (q_cons (q_var 11) (q_cons (q_var 9) (q_nil))))))))))), law_read hL (by decide) h⟩
  obtain ⟨a, ns, rfl, _⟩ := h
  rfl
end
end Law

namespace Law
open PySem PySem.Spec PyProof.Rows L2 DI
theorem all_mk {l : PySem.W.OpenLaw} {w : World} {K : PySem.W.Frag} {h : Heap} {mg : Str → Option Value} {fa : Addr} (X : K.In h) (G : h.Ns mainGlobals mg) (hfa : mg "law" = some (.ref fa)) (hL : lawS 15 (b_law S__law_same S__law_tokens S__law_draw S_tokens_of S__law_of S__law_letters S__law_keywords))
    {f0 : Addr} {od0 an0 : Option Addr} {sl0 : Array (Option Value)} {oc0 kV0 dc0 pm0 cd0 ct0 : Value}
    {f1 : Addr} {od1 an1 : Option Addr} {sl1 : Array (Option Value)} {oc1 kV1 dc1 pm1 cd1 ct1 : Value}
    {f2 : Addr} {od2 an2 : Option Addr} {sl2 : Array (Option Value)} {oc2 kV2 dc2 pm2 cd2 ct2 : Value}
    {f3 : Addr} {od3 an3 : Option Addr} {sl3 : Array (Option Value)} {oc3 kV3 dc3 pm3 cd3 ct3 : Value}
    {f4 : Addr} {od4 an4 : Option Addr} {sl4 : Array (Option Value)} {oc4 kV4 dc4 pm4 cd4 ct4 : Value}
    {f5 : Addr} {od5 an5 : Option Addr} {sl5 : Array (Option Value)} {oc5 kV5 dc5 pm5 cd5 ct5 : Value}
    {f6 : Addr} {od6 an6 : Option Addr} {sl6 : Array (Option Value)} {oc6 kV6 dc6 pm6 cd6 ct6 : Value}
    {f7 : Addr} {od7 an7 : Option Addr} {sl7 : Array (Option Value)} {oc7 kV7 dc7 pm7 cd7 ct7 : Value}
    {f8 : Addr} {od8 an8 : Option Addr} {sl8 : Array (Option Value)} {oc8 kV8 dc8 pm8 cd8 ct8 : Value}
    {f9 : Addr} {od9 an9 : Option Addr} {sl9 : Array (Option Value)} {oc9 kV9 dc9 pm9 cd9 ct9 : Value}
    {f10 : Addr} {od10 an10 : Option Addr} {sl10 : Array (Option Value)} {oc10 kV10 dc10 pm10 cd10 ct10 : Value}
    {f11 : Addr} {od11 an11 : Option Addr} {sl11 : Array (Option Value)} {oc11 kV11 dc11 pm11 cd11 ct11 : Value}
    {f12 : Addr} {od12 an12 : Option Addr} {sl12 : Array (Option Value)} {oc12 kV12 dc12 pm12 cd12 ct12 : Value}
    {t_LETTERS : Tok}
    {t_DIGITS : Tok}
    {t_MOST_LETTERS : Tok}
    {t_MOST_DIGITS : Tok}
    {t_SIGNS : Tok}
    (a0 : PySem.W.nsIn K mainGlobals "is_plain" = some (some (.ref f0)))
    (l0 : K.lookup f0 = some ⟨oc0, od0, .func (PySem.W.fnOf "is_plain" "is_plain" (defArgs s_is_plain) (defBody s_is_plain) (defScope s_is_plain) .none kV0 dc0 pm0 an0 cd0 ct0), sl0⟩)
    (c0 : PySem.W.codeIn K cd0 "is_plain" = true)
    (k0 : PySem.W.keepIn K (.ref f0) = true)
    (a1 : PySem.W.nsIn K mainGlobals "read_numeral" = some (some (.ref f1)))
    (l1 : K.lookup f1 = some ⟨oc1, od1, .func (PySem.W.fnOf "read_numeral" "read_numeral" (defArgs s_read_numeral) (defBody s_read_numeral) (defScope s_read_numeral) .none kV1 dc1 pm1 an1 cd1 ct1), sl1⟩)
    (c1 : PySem.W.codeIn K cd1 "read_numeral" = true)
    (k1 : PySem.W.keepIn K (.ref f1) = true)
    (a2 : PySem.W.nsIn K mainGlobals "run_end" = some (some (.ref f2)))
    (l2 : K.lookup f2 = some ⟨oc2, od2, .func (PySem.W.fnOf "run_end" "run_end" (defArgs s_run_end) (defBody s_run_end) (defScope s_run_end) .none kV2 dc2 pm2 an2 cd2 ct2), sl2⟩)
    (c2 : PySem.W.codeIn K cd2 "run_end" = true)
    (k2 : PySem.W.keepIn K (.ref f2) = true)
    (a3 : PySem.W.nsIn K mainGlobals "tokens_of" = some (some (.ref f3)))
    (l3 : K.lookup f3 = some ⟨oc3, od3, .func (PySem.W.fnOf "tokens_of" "tokens_of" (defArgs s_tokens_of) (defBody s_tokens_of) (defScope s_tokens_of) .none kV3 dc3 pm3 an3 cd3 ct3), sl3⟩)
    (c3 : PySem.W.codeIn K cd3 "tokens_of" = true)
    (k3 : PySem.W.keepIn K (.ref f3) = true)
    (a4 : PySem.W.nsIn K mainGlobals "_law_bag" = some (some (.ref f4)))
    (l4 : K.lookup f4 = some ⟨oc4, od4, .func (PySem.W.fnOf "_law_bag" "_law_bag" (defArgs s__law_bag) (defBody s__law_bag) (defScope s__law_bag) .none kV4 dc4 pm4 an4 cd4 ct4), sl4⟩)
    (c4 : PySem.W.codeIn K cd4 "_law_bag" = true)
    (k4 : PySem.W.keepIn K (.ref f4) = true)
    (a5 : PySem.W.nsIn K mainGlobals "_law_draw" = some (some (.ref f5)))
    (l5 : K.lookup f5 = some ⟨oc5, od5, .func (PySem.W.fnOf "_law_draw" "_law_draw" (defArgs s__law_draw) (defBody s__law_draw) (defScope s__law_draw) .none kV5 dc5 pm5 an5 cd5 ct5), sl5⟩)
    (c5 : PySem.W.codeIn K cd5 "_law_draw" = true)
    (k5 : PySem.W.keepIn K (.ref f5) = true)
    (a6 : PySem.W.nsIn K mainGlobals "_law_of" = some (some (.ref f6)))
    (l6 : K.lookup f6 = some ⟨oc6, od6, .func (PySem.W.fnOf "_law_of" "_law_of" (defArgs s__law_of) (defBody s__law_of) (defScope s__law_of) .none kV6 dc6 pm6 an6 cd6 ct6), sl6⟩)
    (c6 : PySem.W.codeIn K cd6 "_law_of" = true)
    (k6 : PySem.W.keepIn K (.ref f6) = true)
    (a7 : PySem.W.nsIn K mainGlobals "_law_same" = some (some (.ref f7)))
    (l7 : K.lookup f7 = some ⟨oc7, od7, .func (PySem.W.fnOf "_law_same" "_law_same" (defArgs s__law_same) (defBody s__law_same) (defScope s__law_same) .none kV7 dc7 pm7 an7 cd7 ct7), sl7⟩)
    (c7 : PySem.W.codeIn K cd7 "_law_same" = true)
    (k7 : PySem.W.keepIn K (.ref f7) = true)
    (a8 : PySem.W.nsIn K mainGlobals "_law_keywords" = some (some (.ref f8)))
    (l8 : K.lookup f8 = some ⟨oc8, od8, .func (PySem.W.fnOf "_law_keywords" "_law_keywords" (defArgs s__law_keywords) (defBody s__law_keywords) (defScope s__law_keywords) .none kV8 dc8 pm8 an8 cd8 ct8), sl8⟩)
    (c8 : PySem.W.codeIn K cd8 "_law_keywords" = true)
    (k8 : PySem.W.keepIn K (.ref f8) = true)
    (a9 : PySem.W.nsIn K mainGlobals "_law_letters" = some (some (.ref f9)))
    (l9 : K.lookup f9 = some ⟨oc9, od9, .func (PySem.W.fnOf "_law_letters" "_law_letters" (defArgs s__law_letters) (defBody s__law_letters) (defScope s__law_letters) .none kV9 dc9 pm9 an9 cd9 ct9), sl9⟩)
    (c9 : PySem.W.codeIn K cd9 "_law_letters" = true)
    (k9 : PySem.W.keepIn K (.ref f9) = true)
    (a10 : PySem.W.nsIn K mainGlobals "_law_is_digit" = some (some (.ref f10)))
    (l10 : K.lookup f10 = some ⟨oc10, od10, .func (PySem.W.fnOf "_law_is_digit" "_law_is_digit" (defArgs s__law_is_digit) (defBody s__law_is_digit) (defScope s__law_is_digit) .none kV10 dc10 pm10 an10 cd10 ct10), sl10⟩)
    (c10 : PySem.W.codeIn K cd10 "_law_is_digit" = true)
    (k10 : PySem.W.keepIn K (.ref f10) = true)
    (a11 : PySem.W.nsIn K mainGlobals "_law_tokens" = some (some (.ref f11)))
    (l11 : K.lookup f11 = some ⟨oc11, od11, .func (PySem.W.fnOf "_law_tokens" "_law_tokens" (defArgs s__law_tokens) (defBody s__law_tokens) (defScope s__law_tokens) .none kV11 dc11 pm11 an11 cd11 ct11), sl11⟩)
    (c11 : PySem.W.codeIn K cd11 "_law_tokens" = true)
    (k11 : PySem.W.keepIn K (.ref f11) = true)
    (a12 : PySem.W.nsIn K mainGlobals "law" = some (some (.ref f12)))
    (l12 : K.lookup f12 = some ⟨oc12, od12, .func (PySem.W.fnOf "law" "law" (defArgs s_law) (defBody s_law) (defScope s_law) .none kV12 dc12 pm12 an12 cd12 ct12), sl12⟩)
    (c12 : PySem.W.codeIn K cd12 "law" = true)
    (k12 : PySem.W.keepIn K (.ref f12) = true)
    (z_all : PySem.W.nsIn K mainGlobals "all" = some none)
    (z_bool : PySem.W.nsIn K mainGlobals "bool" = some none)
    (z_dict : PySem.W.nsIn K mainGlobals "dict" = some none)
    (z_int : PySem.W.nsIn K mainGlobals "int" = some none)
    (z_isinstance : PySem.W.nsIn K mainGlobals "isinstance" = some none)
    (z_len : PySem.W.nsIn K mainGlobals "len" = some none)
    (z_list : PySem.W.nsIn K mainGlobals "list" = some none)
    (z_range : PySem.W.nsIn K mainGlobals "range" = some none)
    (z_str : PySem.W.nsIn K mainGlobals "str" = some none)
    (z_tuple : PySem.W.nsIn K mainGlobals "tuple" = some none)
    (z_zip : PySem.W.nsIn K mainGlobals "zip" = some none)
    (v_LETTERS : PySem.W.nsIn K mainGlobals "LETTERS" = some (some (.str "abcdefghijklmnopqrstuvwxyz" t_LETTERS)))
    (v_DIGITS : PySem.W.nsIn K mainGlobals "DIGITS" = some (some (.str "0123456789" t_DIGITS)))
    (v_MOST_LETTERS : PySem.W.nsIn K mainGlobals "MOST_LETTERS" = some (some (.int 6 t_MOST_LETTERS)))
    (v_MOST_DIGITS : PySem.W.nsIn K mainGlobals "MOST_DIGITS" = some (some (.int 6 t_MOST_DIGITS)))
    (v_SIGNS : PySem.W.nsIn K mainGlobals "SIGNS" = some (some (.str "=+-*<(),{}" t_SIGNS))) :
    ∃ fd : FuncData, (∀ (s : Shared) (v : Value), BindsTo s fd ⟨[v], []⟩ [("_law_script", v)]) ∧ ∀ base : Heap, K.In base → base.Ns mainGlobals mg → FnOk l.prog w K mg base CX0 10 fa fd ["_law_script"] (spLaw K) := by
  have e := hfa.symm.trans (PySem.W.mg_of X G a12)
  cases e
  have T : Txt K mg := { b_all := PySem.W.mg_none_of X G z_all, b_bool := PySem.W.mg_none_of X G z_bool, b_dict := PySem.W.mg_none_of X G z_dict, b_int := PySem.W.mg_none_of X G z_int, isinstance := PySem.W.mg_none_of X G z_isinstance, b_len := PySem.W.mg_none_of X G z_len, b_list := PySem.W.mg_none_of X G z_list, b_range := PySem.W.mg_none_of X G z_range, b_str := PySem.W.mg_none_of X G z_str, b_tuple := PySem.W.mg_none_of X G z_tuple, b_zip := PySem.W.mg_none_of X G z_zip, k_LETTERS := ⟨_, PySem.W.mg_of X G v_LETTERS⟩, k_DIGITS := ⟨_, PySem.W.mg_of X G v_DIGITS⟩, k_MOST_LETTERS := ⟨_, PySem.W.mg_of X G v_MOST_LETTERS⟩, k_MOST_DIGITS := ⟨_, PySem.W.mg_of X G v_MOST_DIGITS⟩, k_SIGNS := ⟨_, PySem.W.mg_of X G v_SIGNS⟩ }
  have F0 := fun_mk (st := s_is_plain) l0 c0 k0
  have b0 := F0.binds (ps := ["digits"]) fun _ _ _ _ _ _ us hl => match us, hl with | [_], _ => rfl
  have F1 := fun_mk (st := s_read_numeral) l1 c1 k1
  have b1 := F1.binds (ps := ["text"]) fun _ _ _ _ _ _ us hl => match us, hl with | [_], _ => rfl
  have F2 := fun_mk (st := s_run_end) l2 c2 k2
  have b2 := F2.binds (ps := ["line", "at", "signs"]) fun _ _ _ _ _ _ us hl => match us, hl with | [_, _, _], _ => rfl
  have F3 := fun_mk (st := s_tokens_of) l3 c3 k3
  have b3 := F3.binds (ps := ["line"]) fun _ _ _ _ _ _ us hl => match us, hl with | [_], _ => rfl
  have F4 := fun_mk (st := s__law_bag) l4 c4 k4
  have b4 := F4.binds (ps := ["_law_script"]) fun _ _ _ _ _ _ us hl => match us, hl with | [_], _ => rfl
  have F5 := fun_mk (st := s__law_draw) l5 c5 k5
  have b5 := F5.binds (ps := ["_law_bag_here", "_law_many"]) fun _ _ _ _ _ _ us hl => match us, hl with | [_, _], _ => rfl
  have F6 := fun_mk (st := s__law_of) l6 c6 k6
  have b6 := F6.binds (ps := ["_law_bag_here", "_law_some"]) fun _ _ _ _ _ _ us hl => match us, hl with | [_, _], _ => rfl
  have F7 := fun_mk (st := s__law_same) l7 c7 k7
  have b7 := F7.binds (ps := ["_law_found", "_law_due"]) fun _ _ _ _ _ _ us hl => match us, hl with | [_, _], _ => rfl
  have F8 := fun_mk (st := s__law_keywords) l8 c8 k8
  have b8 := F8.binds (ps := []) fun _ _ _ _ _ _ us hl => match us, hl with | [], _ => rfl
  have F9 := fun_mk (st := s__law_letters) l9 c9 k9
  have b9 := F9.binds (ps := []) fun _ _ _ _ _ _ us hl => match us, hl with | [], _ => rfl
  have F10 := fun_mk (st := s__law_is_digit) l10 c10 k10
  have b10 := F10.binds (ps := ["_law_sign"]) fun _ _ _ _ _ _ us hl => match us, hl with | [_], _ => rfl
  have F11 := fun_mk (st := s__law_tokens) l11 c11 k11
  have b11 := F11.binds (ps := ["_law_line_z"]) fun _ _ _ _ _ _ us hl => match us, hl with | [_], _ => rfl
  have F12 := fun_mk (st := s_law) l12 c12 k12
  have kb0 : KBn K _ ["line"] 0 ["line"] (fun us ws => perm [0] (us ++ ws)) (fun vs zs => perm [0] (vs ++ zs)) := ⟨fun s us ws _ h1 h2 => (match us, ws, h1, h2 with | [], [_], _, _ => .of_eq rfl : BindsTo s (PySem.W.fnOf "tokens_of" "tokens_of" (defArgs s_tokens_of) (defBody s_tokens_of) (defScope s_tokens_of) .none kV3 dc3 pm3 an3 cd3 ct3) ⟨us, List.zip ["line"] ws⟩ (List.zip ["line"] (perm [0] (us ++ ws)))), fun r1 r2 => perm_vals (r1.append r2)⟩
  refine ⟨PySem.W.fnOf "law" "law" (defArgs s_law) (defBody s_law) (defScope s_law) .none kV12 dc12 pm12 an12 cd12 ct12, fun s v => .of_eq rfl, fun base _ _ => ?_⟩
  have D_is_plain : Def l.prog w K mg base "is_plain" ["digits"] 1 S_is_plain := ⟨fun ds Q h => h.1, _, _, ok_is_plain F0 T , PySem.W.mg_of X G a0, F0.kp, b0⟩
  have D_run_end : Def l.prog w K mg base "run_end" ["line", "at", "signs"] 1 S_run_end := ⟨fun ds Q h => h.1, _, _, ok_run_end F2 T , PySem.W.mg_of X G a2, F2.kp, b2⟩
  have GB : FnOk l.prog w K mg base CX0 1 f4 _ ["_law_script"] (spBag K) := ok__law_bag F4 T
  have D__law_draw : Def l.prog w K mg base "_law_draw" ["_law_bag_here", "_law_many"] 1 drawS := ⟨fun ds Q ⟨_, e, _⟩ => by rw [e]; rfl, _, _, ok__law_draw F5 T, PySem.W.mg_of X G a5, F5.kp, b5⟩
  have D__law_keywords : Def l.prog w K mg base "_law_keywords" [] 1 S__law_keywords := ⟨fun ds Q h => h.1, _, _, ok__law_keywords F8 T , PySem.W.mg_of X G a8, F8.kp, b8⟩
  have D__law_letters : Def l.prog w K mg base "_law_letters" [] 1 S__law_letters := ⟨fun ds Q h => h.1, _, _, ok__law_letters F9 T , PySem.W.mg_of X G a9, F9.kp, b9⟩
  have D__law_is_digit : Def l.prog w K mg base "_law_is_digit" ["_law_sign"] 1 S__law_is_digit := ⟨fun ds Q h => h.1, _, _, ok__law_is_digit F10 T , PySem.W.mg_of X G a10, F10.kp, b10⟩
  have D_read_numeral : Def l.prog w K mg base "read_numeral" ["text"] 2 S_read_numeral := ⟨fun ds Q h => h.1, _, _, ok_read_numeral F1 T D_is_plain, PySem.W.mg_of X G a1, F1.kp, b1⟩
  have D__law_of : Def l.prog w K mg base "_law_of" ["_law_bag_here", "_law_some"] 2 S__law_of := ⟨fun ds Q h => h.1, _, _, ok__law_of F6 T D__law_draw, PySem.W.mg_of X G a6, F6.kp, b6⟩
  have D__law_tokens : Def l.prog w K mg base "_law_tokens" ["_law_line_z"] 2 S__law_tokens := ⟨fun ds Q h => h.1, _, _, ok__law_tokens F11 T D__law_letters D__law_is_digit, PySem.W.mg_of X G a11, F11.kp, b11⟩
  have D_tokens_of : Def l.prog w K mg base "tokens_of" ["line"] 3 S_tokens_of := ⟨fun ds Q h => h.1, _, _, ok_tokens_of F3 T D_run_end D_read_numeral, PySem.W.mg_of X G a3, F3.kp, b3⟩
  have K_tokens_of_0 : DefK l.prog w K mg base "tokens_of" ["line"] 3 S_tokens_of 0 ["line"] [0] := ⟨fun ds Q h => h.1, _, _, ok_tokens_of F3 T D_run_end D_read_numeral, PySem.W.mg_of X G a3, F3.kp, kb0⟩
  have D__law_same : Def l.prog w K mg base "_law_same" ["_law_found", "_law_due"] 9 S__law_same := ⟨fun ds Q h => h.1, _, _, okr__law_same F7 T (PySem.W.mg_of X G a7) b7  8, PySem.W.mg_of X G a7, F7.kp, b7⟩
  exact ok_law F12 T GB (PySem.W.mg_of X G a4) F4.kp b4 D__law_same D__law_tokens D__law_draw D_tokens_of D__law_of D__law_letters D__law_keywords K_tokens_of_0 hL
end Law
open PySem PySem.W PyProof.Rows in
set_option maxRecDepth 100000 in
set_option maxHeartbeats 0 in
theorem PySem.Challenge.cw_piercednames_k12_tokens_of_lines_holds : PySem.Challenge.rw_piercednames_k12_tokens_of_lines.Holds := by
  w_on; o_law; k_head; (case hw => w_witness2)
  k_fill
  refine L2.walk_of (l := PySem.Challenge.rw_piercednames_k12_tokens_of_lines) (n := 63) (k := 10) (x := "_law_script") (CX := fun _ => L2.CX0) (sp := fun w => DI.spLaw _) rfl (by decide) rfl ⟨rfl, by decide, by decide⟩ (fun w h Y => PySem.W.kIn_of Y) ?F (fun _ _ a ns hl _ hS => ⟨a, ns, rfl, hS, hl, fun _ => rfl⟩) (fun _ _ _ _ _ h => h)
  case F =>
    intro w mg fa h KX G hmg
    refine' Law.all_mk KX G hmg Law.law_holds ?a0 ?l0 ?c0 ?k0 ?a1 ?l1 ?c1 ?k1 ?a2 ?l2 ?c2 ?k2 ?a3 ?l3 ?c3 ?k3 ?a4 ?l4 ?c4 ?k4 ?a5 ?l5 ?c5 ?k5 ?a6 ?l6 ?c6 ?k6 ?a7 ?l7 ?c7 ?k7 ?a8 ?l8 ?c8 ?k8 ?a9 ?l9 ?c9 ?k9 ?a10 ?l10 ?c10 ?k10 ?a11 ?l11 ?c11 ?k11 ?a12 ?l12 ?c12 ?k12 ?z_all ?z_bool ?z_dict ?z_int ?z_isinstance ?z_len ?z_list ?z_range ?z_str ?z_tuple ?z_zip ?v_LETTERS ?v_DIGITS ?v_MOST_LETTERS ?v_MOST_DIGITS ?v_SIGNS
    (case a0 => k_is)
    (case l0 => k_is)
    (case c0 => k_is)
    (case k0 => k_is)
    (case a1 => k_is)
    (case l1 => k_is)
    (case c1 => k_is)
    (case k1 => k_is)
    (case a2 => k_is)
    (case l2 => k_is)
    (case c2 => k_is)
    (case k2 => k_is)
    (case a3 => k_is)
    (case l3 => k_is)
    (case c3 => k_is)
    (case k3 => k_is)
    (case a4 => k_is)
    (case l4 => k_is)
    (case c4 => k_is)
    (case k4 => k_is)
    (case a5 => k_is)
    (case l5 => k_is)
    (case c5 => k_is)
    (case k5 => k_is)
    (case a6 => k_is)
    (case l6 => k_is)
    (case c6 => k_is)
    (case k6 => k_is)
    (case a7 => k_is)
    (case l7 => k_is)
    (case c7 => k_is)
    (case k7 => k_is)
    (case a8 => k_is)
    (case l8 => k_is)
    (case c8 => k_is)
    (case k8 => k_is)
    (case a9 => k_is)
    (case l9 => k_is)
    (case c9 => k_is)
    (case k9 => k_is)
    (case a10 => k_is)
    (case l10 => k_is)
    (case c10 => k_is)
    (case k10 => k_is)
    (case a11 => k_is)
    (case l11 => k_is)
    (case c11 => k_is)
    (case k11 => k_is)
    (case a12 => k_is)
    (case l12 => k_is)
    (case c12 => k_is)
    (case k12 => k_is)
    (case z_all => k_is)
    (case z_bool => k_is)
    (case z_dict => k_is)
    (case z_int => k_is)
    (case z_isinstance => k_is)
    (case z_len => k_is)
    (case z_list => k_is)
    (case z_range => k_is)
    (case z_str => k_is)
    (case z_tuple => k_is)
    (case z_zip => k_is)
    (case v_LETTERS => k_is)
    (case v_DIGITS => k_is)
    (case v_MOST_LETTERS => k_is)
    (case v_MOST_DIGITS => k_is)
    (case v_SIGNS => k_is)
