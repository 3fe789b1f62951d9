import PyProof.Rows.All
import Wide.All
import OpenK.AllK
import Wide.FinOn
import HandS.ForMost
import HandS.Flow
import HandS.IsInst
import HandS.Defaults
import HandS.DictComp
import HandS.Zip
import HandS.Walk
import HandS.Deep
import HandS.TupAny
import HandS.Wide
import HandS.Conv
import HandS.TupLen
import HandS.RaiseMore
import HandS.Style
import KE.SortKeyed
import KE.DataCmp
import KE.DataFind
import KE.SortData
import PySem.Challenge.RW_piercednames_k03_positions_between
set_option Elab.async false
set_option linter.all false
set_option maxRecDepth 100000
set_option autoImplicit false
set_option pp.maxSteps 800
set_option pp.maxSteps 1500
set_option maxHeartbeats 8000000
/-! HI: data with shared cells over the hand layer; every reading lifted to a transformer over data and a list of cells. -/
namespace HI
open PySem L2

def tx (l : List Nat) : Str := ⟨l.toArray⟩
theorem tx_inj {a b : List Nat} (h : tx a = tx b) : a = b := by
  unfold tx at h
  injection h with h
  exact List.toArray_inj h
theorem tx_of (z : Str) : z = tx z.cps.toList := by
  cases z with
  | mk c => show (⟨c⟩ : Str) = ⟨c.toList.toArray⟩; simp
theorem tx_cps (a : List Nat) : (tx a).cps.toList = a := by simp [tx]
theorem tx_len (a : List Nat) : (tx a).length = a.length := by
  show a.toArray.size = a.length
  simp
theorem tx_app (a b : List Nat) : tx a ++ tx b = tx (a ++ b) := by
  show (⟨(a.toArray ++ b.toArray)⟩ : Str) = ⟨(a ++ b).toArray⟩
  rw [List.append_toArray]
/-- signs that may stand in a text -/
def vS (cs : List Nat) : Prop := ∀ c ∈ cs, c < 0x110000

/-- data; cell n: the n-th shared thing -/
inductive D where
  | non | bl (b : Bool) | int (i : Int) | str (cs : List Nat)
  | tup (xs : List D) | wtup (xs : List D) | lst (xs : List D) | dct (t : Bool) (kvs : List (D × D))
  | obj (c : List Nat) (fs : List (List Nat × D))
  | cell (n : Nat) | bag (b : Addr)
  /-- what a cell holds while a loop walks it -/
  | lck (d : D)

def keyD : D → Option Key
  | .int i => some (.inl i)
  | .str x => some (.inr (tx x))
  | _ => none
def keysD : List D → Option (List Key)
  | [] => some []
  | x :: xs => match keyD x, keysD xs with
    | some k, some ks => some (k :: ks)
    | _, _ => none
def tkD : D → Option (List Key)
  | .tup xs => keysD xs
  | _ => none

def vK1 : D → Prop
  | .str cs => vS cs
  | _ => True
/-- a key whose texts are good -/
def vK : D → Prop
  | .str cs => vS cs
  | .tup xs => ∀ x ∈ xs, vK1 x
  | _ => True
/-- a dict that a loop walks is as it was -/
def unl : HO → HO
  | .frz _ (.dK k) => .dK k
  | .frz _ (.dT k) => .dT k
  | o => o
/-- what is protected stands in the heap -/
def Shs (P H : Hp) : Prop := ∀ a o, P a = some o → ∃ o', H a = some o' ∧ unl o' = o

mutual
/-- the value v stands for the data d: C the cells' places, P what is protected -/
inductive Dp (K : PySem.W.Frag) (C : List Addr) (P : Hp) : V → D → Prop
  | non : Dp K C P .non .non
  | bl (b : Bool) : Dp K C P (.bl b) (.bl b)
  | int (i : Int) : Dp K C P (.int i) (.int i)
  | str (cs : List Nat) : vS cs → Dp K C P (.str (tx cs)) (.str cs)
  | tup {a : Addr} {xs : List V} {ds : List D} : P a = some (.tup xs) → DpA K C P xs ds → Dp K C P (.ref a) (.tup ds)
  | wtup {a : Addr} {xs : List V} {ds : List D} : SqT K (fun _ => none) a xs → DpA K C P xs ds → Dp K C P (.ref a) (.wtup ds)
  | con {a : Addr} {o : HO} {d : D} : P a = some o → HoD K C P o d → Dp K C P (.ref a) d
  | cell {a : Addr} {n : Nat} : C[n]? = some a → Dp K C P (.ref a) (.cell n)
inductive DpA (K : PySem.W.Frag) (C : List Addr) (P : Hp) : List V → List D → Prop
  | nil : DpA K C P [] []
  | cons {v : V} {vs : List V} {d : D} {ds : List D} : Dp K C P v d → DpA K C P vs ds → DpA K C P (v :: vs) (d :: ds)
/-- what a container holds -/
inductive HoD (K : PySem.W.Frag) (C : List Addr) (P : Hp) : HO → D → Prop
  | lst {xs : List V} {ds : List D} : DpA K C P xs ds → HoD K C P (.lst xs) (.lst ds)
  | dK {kvs : List (Key × V)} {kds : List (D × D)} : kds.map (fun p => keyD p.1) = kvs.map (fun q => some q.1) → (∀ p ∈ kds, vK p.1) → DpA K C P (kvs.map (·.2)) (kds.map (·.2)) → HoD K C P (.dK kvs) (.dct false kds)
  | dT {kvs : List (List Key × V)} {kds : List (D × D)} : kds.map (fun p => tkD p.1) = kvs.map (fun q => some q.1) → (∀ p ∈ kds, vK p.1) → DpA K C P (kvs.map (·.2)) (kds.map (·.2)) → HoD K C P (.dT kvs) (.dct true kds)
end

def Pre (C C' : List Addr) : Prop := ∃ t, C' = C ++ t
theorem Pre.refl (C : List Addr) : Pre C C := ⟨[], (List.append_nil C).symm⟩
theorem Pre.trans {A B C : List Addr} (h : Pre A B) (g : Pre B C) : Pre A C := by
  obtain ⟨t, rfl⟩ := h
  obtain ⟨u, rfl⟩ := g
  exact ⟨t ++ u, List.append_assoc _ _ _⟩
theorem Pre.at {C C' : List Addr} {n : Nat} {a : Addr} (h : Pre C C') (e : C[n]? = some a) : C'[n]? = some a := by
  obtain ⟨t, rfl⟩ := h
  have hn : n < C.length := (List.getElem?_eq_some_iff.mp e).1
  rw [List.getElem?_append_left hn]
  exact e
theorem Pre.mem {C C' : List Addr} {a : Addr} (h : Pre C C') (e : a ∈ C) : a ∈ C' := by
  obtain ⟨t, rfl⟩ := h
  exact List.mem_append_left _ e

theorem same_new {H : Hp} {p : Addr} {o : HO} (h : H p = none) : Same H (upd H p o) := fun a u e => by
  rw [upd_ne (ne_of_none e h)]
  exact e
theorem same_rd {H H' : Hp} {a : Addr} {u : HO} (e : Same H H') (h : Rd H a u) : Rd H' a u := by
  rcases h with h | ⟨o, h⟩
  · exact Or.inl (e a _ h)
  · exact Or.inr ⟨o, e a _ h⟩
theorem same_t {K : PySem.W.Frag} {H H' : Hp} {a : Addr} {xs : List V} (e : Same H H') (h : SqT K H a xs) : SqT K H' a xs := by
  rcases h with h | h
  · exact Or.inl (same_rd e h)
  · exact Or.inr h

mutual
theorem Dp.mono {K : PySem.W.Frag} {C C' : List Addr} {P P' : Hp} (c : Pre C C') (e : Same P P') : ∀ {v : V} {d : D}, Dp K C P v d → Dp K C' P' v d
  | _, _, .non => .non
  | _, _, .bl b => .bl b
  | _, _, .int i => .int i
  | _, _, .str x h => .str x h
  | _, _, .tup h a => .tup (e _ _ h) (DpA.mono c e a)
  | _, _, .wtup h a => .wtup h (DpA.mono c e a)
  | _, _, .con h a => .con (e _ _ h) (HoD.mono c e a)
  | _, _, .cell h => .cell (c.at h)
theorem DpA.mono {K : PySem.W.Frag} {C C' : List Addr} {P P' : Hp} (c : Pre C C') (e : Same P P') : ∀ {vs : List V} {ds : List D}, DpA K C P vs ds → DpA K C' P' vs ds
  | _, _, .nil => .nil
  | _, _, .cons h t => .cons (Dp.mono c e h) (DpA.mono c e t)
theorem HoD.mono {K : PySem.W.Frag} {C C' : List Addr} {P P' : Hp} (c : Pre C C') (e : Same P P') : ∀ {o : HO} {d : D}, HoD K C P o d → HoD K C' P' o d
  | _, _, .lst a => .lst (DpA.mono c e a)
  | _, _, .dK k q a => .dK k q (DpA.mono c e a)
  | _, _, .dT k q a => .dT k q (DpA.mono c e a)
end

section
variable {K : PySem.W.Frag} {C : List Addr} {P : Hp}
theorem DpA.length : ∀ {vs : List V} {ds : List D}, DpA K C P vs ds → vs.length = ds.length
  | _, _, .nil => rfl
  | _, _, .cons _ t => by rw [List.length_cons, List.length_cons, DpA.length t]
theorem DpA.append : ∀ {vs ws : List V} {ds es : List D}, DpA K C P vs ds → DpA K C P ws es → DpA K C P (vs ++ ws) (ds ++ es)
  | _, _, _, _, .nil, s => s
  | _, _, _, _, .cons h t, s => .cons h (DpA.append t s)
theorem DpA.one {v : V} {d : D} (h : Dp K C P v d) : DpA K C P [v] [d] := .cons h .nil
theorem DpA.get : ∀ {vs : List V} {ds : List D} {i : Nat} {d : D}, DpA K C P vs ds → ds[i]? = some d → ∃ v, vs[i]? = some v ∧ Dp K C P v d
  | _, _, _, _, .nil, e => by simp at e
  | _, _, 0, _, .cons h _, e => by simp at e; subst e; exact ⟨_, rfl, h⟩
  | _, _, i + 1, d, .cons _ t, e => by
    obtain ⟨v, h1, h2⟩ := DpA.get (i := i) (d := d) t (by simpa using e)
    exact ⟨v, by simpa using h1, h2⟩
theorem DpA.get' : ∀ {vs : List V} {ds : List D} {i : Nat} {v : V}, DpA K C P vs ds → vs[i]? = some v → ∃ d, ds[i]? = some d ∧ Dp K C P v d
  | _, _, _, _, .nil, e => by simp at e
  | _, _, 0, _, .cons h _, e => by simp at e; subst e; exact ⟨_, rfl, h⟩
  | _, _, i + 1, v, .cons _ t, e => by
    obtain ⟨d, h1, h2⟩ := DpA.get' (i := i) (v := v) t (by simpa using e)
    exact ⟨d, by simpa using h1, h2⟩
theorem DpA.take : ∀ {vs : List V} {ds : List D} (n : Nat), DpA K C P vs ds → DpA K C P (vs.take n) (ds.take n)
  | _, _, 0, _ => .nil
  | _, _, _ + 1, .nil => .nil
  | _, _, n + 1, .cons h t => .cons h (DpA.take n t)
theorem DpA.drop : ∀ {vs : List V} {ds : List D} (n : Nat), DpA K C P vs ds → DpA K C P (vs.drop n) (ds.drop n)
  | _, _, 0, h => h
  | _, _, _ + 1, .nil => .nil
  | _, _, n + 1, .cons _ t => DpA.drop n t
theorem DpA.set {v : V} {d : D} (h : Dp K C P v d) : ∀ {vs : List V} {ds : List D} (i : Nat), DpA K C P vs ds → DpA K C P (vs.set i v) (ds.set i d)
  | _, _, _, .nil => .nil
  | _, _, 0, .cons _ t => .cons h t
  | _, _, i + 1, .cons q t => .cons q (DpA.set h i t)
theorem DpA.replicate {vs : List V} {ds : List D} (h : DpA K C P vs ds) : ∀ n : Nat, DpA K C P (List.replicate n vs).flatten (List.replicate n ds).flatten
  | 0 => .nil
  | n + 1 => by
    rw [List.replicate_succ, List.replicate_succ, List.flatten_cons, List.flatten_cons]
    exact h.append (DpA.replicate h n)
theorem DpA.one' {vs : List V} {d : D} (z : DpA K C P vs [d]) : ∃ v, vs = [v] ∧ Dp K C P v d := by
  cases z with
  | cons h t => cases t; exact ⟨_, rfl, h⟩
theorem DpA.two' {vs : List V} {d e : D} (z : DpA K C P vs [d, e]) : ∃ v w, vs = [v, w] ∧ Dp K C P v d ∧ Dp K C P w e := by
  cases z with
  | cons h t =>
    obtain ⟨w, rfl, q⟩ := t.one'
    exact ⟨_, _, rfl, h, q⟩
end

theorem HoD.nown {K : PySem.W.Frag} {C : List Addr} {P : Hp} {o : HO} {d : D} (h : HoD K C P o d) : ∀ x, o ≠ .own x := by
  intro x e
  cases h <;> cases e
theorem HoD.unl {K : PySem.W.Frag} {C : List Addr} {P : Hp} {o : HO} {d : D} (h : HoD K C P o d) : unl o = o := by
  cases h <;> rfl
theorem HoD.ntup {K : PySem.W.Frag} {C : List Addr} {P : Hp} {o : HO} {d : D} (h : HoD K C P o d) : ∀ x, o ≠ .tup x := by
  intro x e
  cases h <;> cases e
theorem unl_ntup {o : HO} (h : ∀ x, unl o ≠ .tup x) : ∀ x, o ≠ .tup x := fun x e => h x (by subst e; rfl)
theorem unl_own {o : HO} {x : Addr} (h : o = .own x) : unl o = .own x := by subst h; rfl
theorem unl_nown {o : HO} (h : ∀ x, unl o ≠ .own x) : ∀ x, o ≠ .own x := fun x e => h x (unl_own e)
theorem unl_unl (o : HO) : unl (unl o) = unl o := by
  cases o with
  | frz od u => cases u <;> rfl
  | _ => rfl
theorem unl_lst {o : HO} {xs : List V} (h : unl o = .lst xs) : o = .lst xs := by
  cases o with
  | frz od u => cases u <;> cases h
  | lst ys => exact h
  | _ => cases h
theorem unl_tup {o : HO} {xs : List V} (h : unl o = .tup xs) : o = .tup xs := by
  cases o with
  | frz od u => cases u <;> cases h
  | tup ys => exact h
  | _ => cases h
theorem Shs.free {P H : Hp} (e : Shs P H) {l : Addr} (h : H l = none) : P l = none := by
  cases q : P l with
  | none => rfl
  | some o =>
    obtain ⟨o', h1, _⟩ := e l o q
    rw [h] at h1
    cases h1
theorem Shs.lst {P H : Hp} (e : Shs P H) {l : Addr} {xs : List V} (h : P l = some (.lst xs)) : H l = some (.lst xs) := by
  obtain ⟨o', h1, h2⟩ := e l _ h
  rw [h1, unl_lst h2]
theorem Shs.tup {P H : Hp} (e : Shs P H) {l : Addr} {xs : List V} (h : P l = some (.tup xs)) : H l = some (.tup xs) := by
  obtain ⟨o', h1, h2⟩ := e l _ h
  rw [h1, unl_tup h2]
theorem Shs.pp {P P' H : Hp} (p : Same P P') (e : Shs P' H) : Shs P H := fun a o h => e a o (p a o h)
theorem Shs.hh {P H H' : Hp} (e : Shs P H) (h : Same H H') : Shs P H' := fun a o q => by
  obtain ⟨o', h1, h2⟩ := e a o q
  exact ⟨o', h a _ h1, h2⟩
theorem rd_unl {H : Hp} {a : Addr} {o : HO} {u : HO} (h : H a = some o) (e : unl o = u) : Rd H a u := by
  cases o with
  | frz od x => cases x <;> first | (subst e; exact .inl h) | (subst e; exact .inr ⟨_, h⟩)
  | _ => subst e; exact .inl h

/-- the world of data: the cells' places, what they hold, what is protected, the heap -/
structure Wd where
  C : List Addr
  M : List D
  P : Hp
  H : Hp
/-- what is fixed -/
structure Gx where
  K : PySem.W.Frag
  mg : Str → Option Value
abbrev gx (X : Cx) : Gx := ⟨X.K, X.mg⟩

def Cont (G : Gx) (w : Wd) (a : Addr) (d : D) : Prop := ∃ o, w.H a = some o ∧ HoD G.K w.C w.P o d
/-- a dict that is being walked -/
def Lckd (G : Gx) (w : Wd) (a : Addr) (d : D) : Prop := ∃ od o, w.H a = some (.frz od o) ∧ unl (.frz od o) = o ∧ HoD G.K w.C w.P o d
/-- an instance -/
def Inst (G : Gx) (w : Wd) (a : Addr) (c : List Nat) (fs : List (List Nat × D)) : Prop :=
  ∃ (A dx : Addr) (vs : List (Str × V)), G.mg (tx c) = some (.ref A) ∧ w.H a = some (.ins A dx vs) ∧ w.H dx = some (.own a) ∧ w.P dx = none ∧ vs.map (·.1) = fs.map (fun p => tx p.1) ∧ DpA G.K w.C w.P (vs.map (·.2)) (fs.map (·.2))
/-- the source of the drawn numbers: cells, how many were taken, the rest of a great one, a mixed number, how many draws -/
def Bago (G : Gx) (w : Wd) (a b : Addr) : Prop := ∃ (cells : List Int) (t r m n : Int), w.P b = some (.lst (cells.map V.int)) ∧ w.H a = some (.lst [.ref b, .int t, .int r, .int m, .int n]) ∧ 0 ≤ t ∧ 0 ≤ r ∧ 0 ≤ m ∧ m < 2147483648
def CellOk (G : Gx) (w : Wd) (a : Addr) : D → Prop
  | .lst ds => Cont G w a (.lst ds)
  | .dct t kvs => Cont G w a (.dct t kvs)
  | .obj c fs => Inst G w a c fs
  | .bag b => Bago G w a b
  | .lck d => Lckd G w a d
  | _ => False
structure WOk (G : Gx) (w : Wd) : Prop where
  ex : Shs w.P w.H
  nown : ∀ a x, w.P a ≠ some (.own x)
  len : w.C.length = w.M.length
  nd : w.C.Nodup
  cell : ∀ (n : Nat) (a : Addr) (d : D), w.C[n]? = some a → w.M[n]? = some d → w.P a = none ∧ CellOk G w a d

theorem CellOk.there {G : Gx} {w : Wd} {a : Addr} {d : D} (h : CellOk G w a d) : ∃ o, w.H a = some o := by
  cases d with
  | lst ds => obtain ⟨o, h, _⟩ := h; exact ⟨o, h⟩
  | dct ds => obtain ⟨o, h, _⟩ := h; exact ⟨o, h⟩
  | obj c fs => obtain ⟨_, _, _, _, h, _⟩ := h; exact ⟨_, h⟩
  | bag => obtain ⟨_, _, _, _, _, _, h, _⟩ := h; exact ⟨_, h⟩
  | lck d => obtain ⟨_, _, h, _⟩ := h; exact ⟨_, h⟩
  | _ => exact h.elim
theorem WOk.at {G : Gx} {w : Wd} (o : WOk G w) {n : Nat} {a : Addr} (e : w.C[n]? = some a) : ∃ d, w.M[n]? = some d ∧ w.P a = none ∧ CellOk G w a d := by
  have hn : n < w.C.length := (List.getElem?_eq_some_iff.mp e).1
  have hm : n < w.M.length := by rw [← o.len]; exact hn
  exact ⟨w.M[n], List.getElem?_eq_getElem hm, o.cell n a _ e (List.getElem?_eq_getElem hm)⟩
theorem WOk.place {G : Gx} {w : Wd} (o : WOk G w) {n : Nat} {d : D} (e : w.M[n]? = some d) : ∃ a, w.C[n]? = some a ∧ w.P a = none ∧ CellOk G w a d := by
  have hm : n < w.M.length := (List.getElem?_eq_some_iff.mp e).1
  have hn : n < w.C.length := by rw [o.len]; exact hm
  exact ⟨w.C[n], List.getElem?_eq_getElem hn, o.cell n _ d (List.getElem?_eq_getElem hn) e⟩
theorem WOk.mem {G : Gx} {w : Wd} (o : WOk G w) {a : Addr} (e : a ∈ w.C) : w.P a = none ∧ ∃ h, w.H a = some h := by
  obtain ⟨n, e⟩ := List.mem_iff_getElem?.mp e
  obtain ⟨d, h1, h2, h3⟩ := o.at e
  exact ⟨h2, h3.there⟩
theorem at_inj {C : List Addr} (h : C.Nodup) {n m : Nat} {a : Addr} (e : C[n]? = some a) (f : C[m]? = some a) : n = m := by
  have hn : n < C.length := (List.getElem?_eq_some_iff.mp e).1
  exact (List.getElem?_inj hn h).mp (e.trans f.symm)

/-- from w to w': all is kept but the cells; rw = false: those too (but the source) -/
structure Gr (G : Gx) (rw : Bool) (w w' : Wd) : Prop where
  ok : WOk G w'
  pp : Same w.P w'.P
  cc : Pre w.C w'.C
  hh : ∀ a o, w.H a = some o → a ∉ w.C → w'.H a = some o
  off : ∀ a o, w.H a = some o → (∀ xs, o ≠ .tup xs) → w.P a = none → w'.P a = none
  fr : ∀ a, a ∈ w'.C → a ∉ w.C → w.H a = none
  ro : rw = false → w'.C = w.C ∧ w'.M = w.M ∧ ∀ (n : Nat) (a : Addr), w.C[n]? = some a → (∀ b, w.M[n]? ≠ some (.bag b)) → w'.H a = w.H a

theorem Gr.refl {G : Gx} {rw : Bool} {w : Wd} (o : WOk G w) : Gr G rw w w := ⟨o, Same.refl _, Pre.refl _, fun _ _ h _ => h, fun _ _ _ _ h => h, fun _ h n => absurd h n, fun _ => ⟨rfl, rfl, fun _ _ _ _ => rfl⟩⟩
theorem Gr.kept {G : Gx} {rw : Bool} {w w' : Wd} (g : Gr G rw w w') {a : Addr} (h : w.H a ≠ none) : w'.H a ≠ none := by
  intro z
  by_cases hc : a ∈ w.C
  · obtain ⟨_, o, e⟩ := g.ok.mem (g.cc.mem hc)
    rw [e] at z
    cases z
  · cases e : w.H a with
    | none => exact h e
    | some o =>
      rw [g.hh a o e hc] at z
      cases z
theorem Gr.fresh {G : Gx} {rw : Bool} {w w' : Wd} (g : Gr G rw w w') {a : Addr} (h : w'.H a = none) : w.H a = none := by
  cases e : w.H a with
  | none => rfl
  | some o => exact absurd h (g.kept (by rw [e]; exact Option.some_ne_none _))
/-- what is no cell before is none behind, if it was there -/
theorem Gr.noc {G : Gx} {rw : Bool} {w w' : Wd} (g : Gr G rw w w') {a : Addr} (h : w.H a ≠ none) (n : a ∉ w.C) : a ∉ w'.C := fun z => h (g.fr a z n)
theorem Gr.trans {G : Gx} {rw : Bool} {w w1 w2 : Wd} (g : Gr G rw w w1) (k : Gr G rw w1 w2) : Gr G rw w w2 :=
  ⟨k.ok, g.pp.trans k.pp, g.cc.trans k.cc, fun a o h n => k.hh a o (g.hh a o h n) (g.noc (by rw [h]; exact Option.some_ne_none _) n), fun a o h nt z => by
      by_cases hc : a ∈ w.C
      · exact (k.ok.mem (k.cc.mem (g.cc.mem hc))).1
      · exact k.off a o (g.hh a o h hc) nt (g.off a o h nt z),
    fun a h n => by
      by_cases h1 : a ∈ w1.C
      · exact g.fr a h1 n
      · exact g.fresh (k.fr a h h1),
    fun e => by
      obtain ⟨a1, a2, a3⟩ := g.ro e
      obtain ⟨b1, b2, b3⟩ := k.ro e
      refine ⟨b1.trans a1, b2.trans a2, fun n a h1 h2 => ?_⟩
      rw [b3 n a (by rw [a1]; exact h1) (by rw [a2]; exact h2), a3 n a h1 h2]⟩
theorem Gr.weak {G : Gx} {rw : Bool} {w w' : Wd} (g : Gr G false w w') : Gr G rw w w' := ⟨g.ok, g.pp, g.cc, g.hh, g.off, g.fr, fun _ => g.ro rfl⟩
theorem Gr.wk {G : Gx} {rw r2 : Bool} {w w' : Wd} (g : Gr G rw w w') (h : rw = true → r2 = true) : Gr G r2 w w' := ⟨g.ok, g.pp, g.cc, g.hh, g.off, g.fr, fun e => g.ro (by cases rw with | false => rfl | true => rw [h rfl] at e; exact e)⟩
section
variable {G : Gx} {rw : Bool} {w w' : Wd}
theorem Gr.dp (g : Gr G rw w w') {v : V} {d : D} (z : Dp G.K w.C w.P v d) : Dp G.K w'.C w'.P v d := z.mono g.cc g.pp
theorem Gr.dpa (g : Gr G rw w w') {v : List V} {d : List D} (z : DpA G.K w.C w.P v d) : DpA G.K w'.C w'.P v d := z.mono g.cc g.pp
theorem Gr.hod (g : Gr G rw w w') {v : HO} {d : D} (z : HoD G.K w.C w.P v d) : HoD G.K w'.C w'.P v d := z.mono g.cc g.pp
end

/-- a cell's content under more protection, elsewhere unchanged -/
theorem CellOk.keep {G : Gx} {w w' : Wd} {a : Addr} {d : D} (h : CellOk G w a d) (c : Pre w.C w'.C) (p : Same w.P w'.P) (q : ∀ b o, w.H b = some o → (b = a ∨ o = .own a) → w'.H b = some o) (pd : ∀ b, w.H b = some (.own a) → w.P b = none → w'.P b = none) : CellOk G w' a d := by
  cases d with
  | lst ds => obtain ⟨o, h1, h2⟩ := h; exact ⟨o, q a o h1 (.inl rfl), h2.mono c p⟩
  | dct ds => obtain ⟨o, h1, h2⟩ := h; exact ⟨o, q a o h1 (.inl rfl), h2.mono c p⟩
  | obj cl fs =>
    obtain ⟨A, dx, vs, h1, h2, h3, h4, h5, h6⟩ := h
    exact ⟨A, dx, vs, h1, q a _ h2 (.inl rfl), q dx _ h3 (.inr rfl), pd dx h3 h4, h5, h6.mono c p⟩
  | bag =>
    obtain ⟨cells, t, r, m, n, h1, h2, h3⟩ := h
    exact ⟨cells, t, r, m, n, p _ _ h1, q a _ h2 (.inl rfl), h3⟩
  | lck d => obtain ⟨od, o, h1, h2, h3⟩ := h; exact ⟨od, o, q a _ h1 (.inl rfl), h2, h3.mono c p⟩
  | _ => exact h.elim

/-- a new thing, protected at once -/
theorem Gr.new {G : Gx} {w : Wd} {p : Addr} {o : HO} (k : WOk G w) (hp : w.H p = none) (no : ∀ x, o ≠ .own x) (hu : unl o = o) : Gr G false w ⟨w.C, w.M, upd w.P p o, upd w.H p o⟩ := by
  have hP : w.P p = none := k.ex.free hp
  have np : ∀ a ∈ w.C, a ≠ p := fun a ha => by
    obtain ⟨_, h, e⟩ := k.mem ha
    exact ne_of_none e hp
  refine ⟨⟨fun a u h => ?_, fun a x h => ?_, k.len, k.nd, fun n a d e1 e2 => ?_⟩, same_new hP, Pre.refl _, fun a u h _ => ?_, fun a u h _ z => ?_, fun a h n => absurd h n, fun _ => ⟨rfl, rfl, fun n a e _ => ?_⟩⟩
  · by_cases ha : a = p
    · subst ha; dsimp only at h ⊢; rw [upd_same] at h; cases h; exact ⟨o, upd_same, hu⟩
    · dsimp only at h ⊢; rw [upd_ne ha] at h ⊢; exact k.ex _ _ h
  · dsimp only at h
    by_cases ha : a = p
    · subst ha; rw [upd_same] at h; exact no x (Option.some.inj h)
    · rw [upd_ne ha] at h; exact k.nown a x h
  · obtain ⟨h1, h2⟩ := k.cell n a d e1 e2
    refine ⟨?_, h2.keep (Pre.refl _) (same_new hP) (fun b u hb _ => ?_) fun b hb z => ?_⟩
    · show upd w.P p o a = none
      rw [upd_ne (np a (List.mem_of_getElem? e1))]; exact h1
    · show upd w.H p o b = some u
      rw [upd_ne (ne_of_none hb hp)]; exact hb
    · show upd w.P p o b = none
      rw [upd_ne (ne_of_none hb hp)]; exact z
  · show upd w.H p o a = some u
    rw [upd_ne (ne_of_none h hp)]; exact h
  · show upd w.P p o a = none
    rw [upd_ne (ne_of_none h hp)]; exact z
  · show upd w.H p o a = w.H a
    rw [upd_ne (np a (List.mem_of_getElem? e))]
/-- a new thing, not protected -/
theorem Gr.loose {G : Gx} {w : Wd} {p : Addr} {o : HO} (k : WOk G w) (hp : w.H p = none) : Gr G false w ⟨w.C, w.M, w.P, upd w.H p o⟩ := by
  have np : ∀ a ∈ w.C, a ≠ p := fun a ha => by
    obtain ⟨_, h, e⟩ := k.mem ha
    exact ne_of_none e hp
  refine ⟨⟨k.ex.hh (same_new hp), k.nown, k.len, k.nd, fun n a d e1 e2 => ?_⟩, Same.refl _, Pre.refl _, fun a u h _ => ?_, fun a _ _ _ z => z, fun a h n => absurd h n, fun _ => ⟨rfl, rfl, fun n a e _ => ?_⟩⟩
  · obtain ⟨h1, h2⟩ := k.cell n a d e1 e2
    refine ⟨h1, h2.keep (Pre.refl _) (Same.refl _) (fun b u hb _ => ?_) fun b hb z => z⟩
    show upd w.H p o b = some u
    rw [upd_ne (ne_of_none hb hp)]; exact hb
  · show upd w.H p o a = some u
    rw [upd_ne (ne_of_none h hp)]; exact h
  · show upd w.H p o a = w.H a
    rw [upd_ne (np a (List.mem_of_getElem? e))]

/-! ### what an expression gives: a value, or a new container that nobody else knows -/
inductive Rz where
  | val (d : D) | new (d : D)
@[reducible] def Rz.d : Rz → D
  | .val d => d
  | .new d => d
def RzOk (G : Gx) (w w' : Wd) : Rz → V → Prop
  | .val d, v => Dp G.K w'.C w'.P v d
  | .new d, v => ∃ l, v = .ref l ∧ w'.P l = none ∧ w.H l = none ∧ l ∉ w'.C ∧ Cont G w' l d

/-- a loose container is protected from here on -/
theorem Gr.frz {G : Gx} {rw : Bool} {w w1 : Wd} {l : Addr} {o : HO} (g : Gr G rw w w1) (h1 : w1.P l = none) (h2 : w.H l = none) (hc : l ∉ w1.C) (h3 : w1.H l = some o) (no : ∀ x, o ≠ .own x) : Gr G rw w ⟨w1.C, w1.M, upd w1.P l (unl o), w1.H⟩ := by
  have s1 : Same w1.P (upd w1.P l (unl o)) := same_new h1
  have no' : ∀ x, unl o ≠ .own x := fun x e => by
    cases o with
    | frz od u => cases u <;> cases e
    | own y => exact no y rfl
    | _ => cases e
  refine ⟨⟨fun a u h => ?_, fun a x h => ?_, g.ok.len, g.ok.nd, fun n a d e1 e2 => ?_⟩, g.pp.trans s1, g.cc, g.hh, fun a u h nt z => ?_, g.fr, g.ro⟩
  · by_cases ha : a = l
    · subst ha; dsimp only at h ⊢; rw [upd_same] at h; cases h; exact ⟨o, h3, rfl⟩
    · dsimp only at h ⊢; rw [upd_ne ha] at h; exact g.ok.ex _ _ h
  · dsimp only at h
    by_cases ha : a = l
    · subst ha; rw [upd_same] at h; exact no' x (Option.some.inj h)
    · rw [upd_ne ha] at h; exact g.ok.nown a x h
  · obtain ⟨k1, k2⟩ := g.ok.cell n a d e1 e2
    refine ⟨?_, k2.keep (Pre.refl _) s1 (fun b u hb _ => hb) fun b hb z => ?_⟩
    · show upd w1.P l (unl o) a = none
      rw [upd_ne (a := l) (b := a) (fun z => by subst z; exact hc (List.mem_of_getElem? e1))]; exact k1
    · show upd w1.P l (unl o) b = none
      rw [upd_ne fun e => ?_]; exact z
      subst e
      rw [h3] at hb
      exact no _ (Option.some.inj hb)
  · show upd w1.P l (unl o) a = none
    rw [upd_ne (ne_of_none h h2)]; exact g.off a u h nt z
theorem RzOk.frz {G : Gx} {rw : Bool} {w w1 : Wd} {r : Rz} {v : V} (g : Gr G rw w w1) (z : RzOk G w w1 r v) : ∃ P2, Gr G rw w ⟨w1.C, w1.M, P2, w1.H⟩ ∧ Same w1.P P2 ∧ Dp G.K w1.C P2 v r.d := by
  cases r with
  | val d => exact ⟨w1.P, g, Same.refl _, z⟩
  | new d =>
    obtain ⟨l, rfl, h1, h2, hc, o, h3, h4⟩ := z
    have s1 : Same w1.P (upd w1.P l (unl o)) := same_new h1
    exact ⟨upd w1.P l (unl o), g.frz h1 h2 hc h3 h4.nown, s1, .con upd_same (by rw [h4.unl]; exact h4.mono (Pre.refl _) (by rw [h4.unl] at s1; exact s1))⟩
theorem RzOk.back {G : Gx} {rw : Bool} {w w1 w2 : Wd} {r : Rz} {v : V} (g : Gr G rw w w1) (z : RzOk G w1 w2 r v) : RzOk G w w2 r v := by
  cases r with
  | val d => exact z
  | new d =>
    obtain ⟨l, h1, h2, h3, h4⟩ := z
    exact ⟨l, h1, h2, g.fresh h3, h4⟩

/-! ### slots -/
inductive Sl where
  | no | val (d : D) | own (d : D)
abbrev DEnv := List Sl
def Sl.frz : Sl → Sl
  | .own d => .val d
  | s => s
def frzE : DEnv → DEnv
  | [] => []
  | s :: r => s.frz :: frzE r
theorem frzE_map (δ : DEnv) : frzE δ = δ.map Sl.frz := by
  induction δ with
  | nil => rfl
  | cons s r ih => rw [frzE, ih]; rfl
structure Rep (G : Gx) (w : Wd) (σ : L2.St) (δ : DEnv) : Prop where
  ok : WOk G w
  val : ∀ (i : Nat) (d : D), δ[i]? = some (Sl.val d) → ∃ v, σ[i]? = some (some v) ∧ Dp G.K w.C w.P v d
  own : ∀ (i : Nat) (d : D), δ[i]? = some (Sl.own d) → ∃ l, σ[i]? = some (some (V.ref l)) ∧ w.P l = none ∧ l ∉ w.C ∧ Cont G w l d
  sep : ∀ (i j : Nat) (d e : D) (l : Addr), δ[i]? = some (Sl.own d) → δ[j]? = some (Sl.own e) → σ[i]? = some (some (V.ref l)) → σ[j]? = some (some (V.ref l)) → i = j
  len : σ.length = δ.length
theorem Rep.mono {G : Gx} {rw : Bool} {w w' : Wd} {σ : L2.St} {δ : DEnv} (R : Rep G w σ δ) (g : Gr G rw w w') : Rep G w' σ δ := by
  refine ⟨g.ok, fun i d h => ?_, fun i d h => ?_, R.sep, R.len⟩
  · obtain ⟨v, h1, h2⟩ := R.val i d h
    exact ⟨v, h1, g.dp h2⟩
  · obtain ⟨l, h1, h2, h3, o, h4, h5⟩ := R.own i d h
    have hn : w.H l ≠ none := by rw [h4]; exact Option.some_ne_none _
    exact ⟨l, h1, g.off l o h4 h5.ntup h2, g.noc hn h3, o, g.hh l _ h4 h3, g.hod h5⟩

abbrev Mem := List D
abbrev EV := DEnv → Mem → (Rz → Mem → Prop) → Prop
abbrev TV := DEnv → Mem → (Bool → Mem → Prop) → Prop
abbrev AV := DEnv → Mem → (List D → Mem → Prop) → Prop

def lift (G : Gx) (rw : Bool) (f : EV) : TE := fun σ H Q => ∃ w δ Qd, w.H = H ∧ Rep G w σ δ ∧ f δ w.M Qd ∧ ∀ r v w', Qd r w'.M → Gr G rw w w' → RzOk G w w' r v → Q v w'.H
def liftT (G : Gx) (rw : Bool) (f : TV) : TT := fun σ H Q => ∃ w δ Qd, w.H = H ∧ Rep G w σ δ ∧ f δ w.M Qd ∧ ∀ b w', Qd b w'.M → Gr G rw w w' → Q b w'.H
def liftA (G : Gx) (rw : Bool) (f : AV) : TA := fun σ H Q => ∃ w δ Qd, w.H = H ∧ Rep G w σ δ ∧ f δ w.M Qd ∧ ∀ ds vs w', Qd ds w'.M → Gr G rw w w' → DpA G.K w'.C w'.P vs ds → Q vs w'.H

section
variable {G : Gx} {rw : Bool} {w : Wd} {σ : L2.St} {δ : DEnv}
/-- the value frozen -/
theorem lift_d {f : EV} {Q : VK} (R : Rep G w σ δ) (Qd : D → Mem → Prop) (h : f δ w.M fun r M => Qd r.d M) (k : ∀ d v w', Qd d w'.M → Gr G rw w w' → Dp G.K w'.C w'.P v d → Q v w'.H) : lift G rw f σ w.H Q :=
  ⟨w, δ, _, rfl, R, h, fun r v w' q g z => by
    obtain ⟨P2, g2, _, z2⟩ := z.frz g
    exact k _ v ⟨w'.C, w'.M, P2, w'.H⟩ q g2 z2⟩
/-- the whole heap but the cells (and the dicts of instances) as what is protected -/
noncomputable def tot (w : Wd) : Hp := fun a => open Classical in if a ∈ w.C ∨ ∃ x, w.H a = some (.own x) then none else (w.H a).map unl
theorem tot_some {a : Addr} {o : HO} (h : tot w a = some o) : (∃ o', w.H a = some o' ∧ unl o' = o) ∧ ∀ x, w.H a ≠ some (.own x) := by
  unfold tot at h
  by_cases e : a ∈ w.C ∨ ∃ x, w.H a = some (.own x)
  · rw [if_pos e] at h; cases h
  · rw [if_neg e] at h
    refine ⟨?_, fun x z => e (.inr ⟨x, z⟩)⟩
    obtain ⟨o', h1, h2⟩ := Option.map_eq_some_iff.mp h
    exact ⟨o', h1, h2⟩
theorem tot_of {a : Addr} {o : HO} (h : w.H a = some o) (n : a ∉ w.C) (no : ∀ x, o ≠ .own x) : tot w a = some (unl o) := by
  unfold tot
  rw [if_neg]
  · rw [h]; rfl
  · rintro (e | ⟨x, e⟩)
    · exact n e
    · rw [h] at e; exact no x (Option.some.inj e)
theorem tot_none {a : Addr} (h : a ∈ w.C ∨ ∃ x, w.H a = some (.own x)) : tot w a = none := by
  unfold tot
  rw [if_pos h]
theorem Rep.same_tot (R : Rep G w σ δ) : Same w.P (tot w) := fun a o h => by
  obtain ⟨o', h1, h2⟩ := R.ok.ex a o h
  rw [← h2]
  refine tot_of h1 (fun hc => ?_) fun x e => ?_
  · rw [(R.ok.mem hc).1] at h
    cases h
  · rw [unl_own e] at h2
    rw [← h2] at h
    exact R.ok.nown a x h
theorem frz_at {δ : DEnv} {i : Nat} {s : Sl} (h : (frzE δ)[i]? = some s) : ∃ s0 : Sl, δ[i]? = some s0 ∧ s0.frz = s := by
  rw [frzE_map, List.getElem?_map] at h
  cases e : δ[i]? with
  | none => rw [e] at h; cases h
  | some s0 => rw [e] at h; exact ⟨s0, rfl, Option.some.inj h⟩
theorem Rep.tot (R : Rep G w σ δ) : Rep G ⟨w.C, w.M, tot w, w.H⟩ σ (frzE δ) := by
  have pt := R.same_tot
  refine ⟨⟨fun a o h => (tot_some h).1, fun a x h => ?_, R.ok.len, R.ok.nd, fun n a d e1 e2 => ?_⟩, fun i d h => ?_, fun i d h => ?_, fun i j d e l h => ?_, by rw [frzE_map, List.length_map]; exact R.len⟩
  · obtain ⟨⟨o', h1, h2⟩, h3⟩ := tot_some h
    cases o' with
    | frz od u => cases u <;> cases h2
    | own y => exact h3 y h1
    | _ => cases h2
  · obtain ⟨h1, h2⟩ := R.ok.cell n a d e1 e2
    exact ⟨tot_none (.inl (List.mem_of_getElem? e1)), h2.keep (Pre.refl _) pt (fun _ _ h _ => h) fun b hb _ => tot_none (.inr ⟨_, hb⟩)⟩
  · obtain ⟨s0, h1, h2⟩ := frz_at h
    cases s0 with
    | no => cases h2
    | val d0 =>
      cases h2
      obtain ⟨v, h3, h4⟩ := R.val i d h1
      exact ⟨v, h3, h4.mono (Pre.refl _) pt⟩
    | own d0 =>
      cases h2
      obtain ⟨l, h3, h4, h5, o, h6, h7⟩ := R.own i d h1
      exact ⟨.ref l, h3, .con (tot_of h6 h5 h7.nown) (by rw [h7.unl]; exact h7.mono (Pre.refl _) pt)⟩
  · obtain ⟨s0, h1, h2⟩ := frz_at h
    cases s0 <;> cases h2
  · obtain ⟨s0, h1, h2⟩ := frz_at h
    cases s0 <;> cases h2
theorem Gr.drop {w' : Wd} (R : Rep G w σ δ) (g : Gr G false ⟨w.C, w.M, HI.tot w, w.H⟩ w') : Gr G rw w ⟨w.C, w.M, w.P, w'.H⟩ := by
  have pt := R.same_tot
  obtain ⟨c1, c2, c3⟩ := g.ro rfl
  refine ⟨⟨fun a o h => g.ok.ex _ _ (g.pp _ _ (pt _ _ h)), R.ok.nown, R.ok.len, R.ok.nd, fun n a d e1 e2 => ?_⟩, Same.refl _, Pre.refl _, g.hh, fun a _ _ _ z => z, fun a h n => absurd h n, fun _ => ⟨rfl, rfl, c3⟩⟩
  obtain ⟨h1, h2⟩ := R.ok.cell n a d e1 e2
  refine ⟨h1, ?_⟩
  by_cases hb : ∃ b, d = .bag b
  · obtain ⟨b, rfl⟩ := hb
    obtain ⟨cells, t, r, m, k, q1, q2, q3⟩ := h2
    obtain ⟨_, cells', t', r', m', k', p1, p2, p3⟩ := g.ok.cell n a (.bag b) (by rw [c1]; exact e1) (by rw [c2]; exact e2)
    exact ⟨cells, t', r', m', k', q1, p2, p3⟩
  · have e3 : w'.H a = w.H a := c3 n a e1 fun b z => hb ⟨b, Option.some.inj (e2.symm.trans z)⟩
    refine h2.keep (Pre.refl _) (Same.refl _) (fun b o hbo hb2 => ?_) fun b _ z => z
    show w'.H b = some o
    rcases hb2 with e | e
    · subst e; rw [e3]; exact hbo
    · subst e
      refine g.hh b _ hbo fun hc => ?_
      obtain ⟨m, hm⟩ := List.mem_iff_getElem?.mp hc
      obtain ⟨d', _, _, q⟩ := R.ok.at hm
      cases d' with
      | lst ds => obtain ⟨o', q1, q2⟩ := q; rw [hbo] at q1; exact q2.nown _ (Option.some.inj q1).symm
      | dct ds => obtain ⟨o', q1, q2⟩ := q; rw [hbo] at q1; exact q2.nown _ (Option.some.inj q1).symm
      | obj c fs => obtain ⟨_, _, _, _, q1, _⟩ := q; rw [hbo] at q1; cases q1
      | bag => obtain ⟨_, _, _, _, _, _, q1, _⟩ := q; rw [hbo] at q1; cases q1
      | lck d => obtain ⟨_, _, q1, _⟩ := q; rw [hbo] at q1; cases q1
      | _ => exact q.elim
end
def D.scal : D → Bool
  | .non | .bl _ | .int _ | .str _ => true
  | _ => false
theorem Dp.scal {K K' : PySem.W.Frag} {C C' : List Addr} {P P' : Hp} {v : V} {d : D} (h : Dp K C P v d) (e : d.scal = true) : Dp K' C' P' v d := by
  cases h with
  | non => exact .non
  | bl b => exact .bl b
  | int i => exact .int i
  | str x h => exact .str x h
  | con h1 h2 => cases h2 <;> cases e
  | _ => cases e

/-! ### the judgements -/
structure QE (X : Cx) (rw : Bool) (e : Expr) (f : EV) : Prop where
  pe : PE X e (lift (gx X) rw f)
structure QT (X : Cx) (rw : Bool) (e : Expr) (f : TV) : Prop where
  pt : PT X e (liftT (gx X) rw f)
structure QA (X : Cx) (rw : Bool) (es : List Expr) (f : AV) : Prop where
  pa : PA X es (liftA (gx X) rw f)
theorem pe_imp {X : Cx} {e : Expr} {t t' : TE} (h : PE X e t) (i : ∀ σ H Q, t' σ H Q → t σ H Q) : PE X e t' := ⟨fun pins s σ H Q I q => h.run pins s σ H Q I (i σ H Q q)⟩
theorem pt_imp {X : Cx} {e : Expr} {t t' : TT} (h : PT X e t) (i : ∀ σ H Q, t' σ H Q → t σ H Q) : PT X e t' := ⟨fun pins s σ H Q I q => h.run pins s σ H Q I (i σ H Q q)⟩
theorem pa_imp {X : Cx} {e : List Expr} {t t' : TA} (h : PA X e t) (i : ∀ σ H Q, t' σ H Q → t σ H Q) : PA X e t' := ⟨fun pos pins s σ H Q I q => h.run pos pins s σ H Q I (i σ H Q q)⟩
theorem ps_imp {X : Cx} {e : Stmt} {t t' : TS} (h : PS X e t) (i : ∀ D σ H, t' D σ H → t D σ H) : PS X e t' := ⟨fun pins s σ H D I q => h.run pins s σ H D I (i D σ H q)⟩
theorem pss_imp {X : Cx} {e : List Stmt} {t t' : TS} (h : PSs X e t) (i : ∀ D σ H, t' D σ H → t D σ H) : PSs X e t' := ⟨fun pins s σ H D I q => h.run pins s σ H D I (i D σ H q)⟩
end HI

namespace HI
open PySem L2

/-! ### seeing through cells -/
def unK : D → D
  | .lck d => d
  | d => d
def view (M : Mem) : D → D
  | .cell n => match M[n]? with
    | some c => unK c
    | none => .cell n
  | d => d
def szOk (n : Nat) (q : Prop) : Prop := match Nat.ble n 1000000 with
  | true => q
  | false => False
theorem szOk_i {n : Nat} {q : Prop} (h : n ≤ 1000000) (k : q) : szOk n q := by
  unfold szOk
  rw [Nat.ble_eq_true_of_le h]
  exact k
theorem szOk_e {n : Nat} {q : Prop} (h : szOk n q) : n ≤ sizeLine ∧ q := by
  unfold szOk at h
  cases e : Nat.ble n 1000000 with
  | true => rw [e] at h; exact ⟨Nat.le_trans (Nat.le_of_ble_eq_true e) (by decide), h⟩
  | false => rw [e] at h; exact h.elim
def IF (b : Bool) (p q : Prop) : Prop := match b with
  | true => p
  | false => q
theorem IF_ite {b : Bool} {p q : Prop} (h : IF b p q) : if b = true then p else q := by
  cases b with
  | true => exact iteT h
  | false => exact iteF h

section
variable {G : Gx} {w : Wd} {v : V} {d : D}
theorem Dp.int' {K : PySem.W.Frag} {C : List Addr} {P : Hp} {i : Int} (h : Dp K C P v (.int i)) : v = .int i := by cases h with | int => rfl | con _ h => cases h
theorem Dp.str' {K : PySem.W.Frag} {C : List Addr} {P : Hp} {i : List Nat} (h : Dp K C P v (.str i)) : v = .str (tx i) ∧ vS i := by cases h with | str _ h => exact ⟨rfl, h⟩ | con _ h => cases h
theorem Dp.bl' {K : PySem.W.Frag} {C : List Addr} {P : Hp} {i : Bool} (h : Dp K C P v (.bl i)) : v = .bl i := by cases h with | bl => rfl | con _ h => cases h
theorem Dp.non' {K : PySem.W.Frag} {C : List Addr} {P : Hp} (h : Dp K C P v .non) : v = .non := by cases h with | non => rfl | con _ h => cases h
theorem Dp.cell' {K : PySem.W.Frag} {C : List Addr} {P : Hp} {n : Nat} (h : Dp K C P v (.cell n)) : ∃ a, v = .ref a ∧ C[n]? = some a := by cases h with | cell h => exact ⟨_, rfl, h⟩ | con _ h => cases h
theorem Dp.tup' {K : PySem.W.Frag} {C : List Addr} {P : Hp} {ds : List D} (h : Dp K C P v (.tup ds)) : ∃ a xs, v = .ref a ∧ P a = some (.tup xs) ∧ DpA K C P xs ds := by
  cases h with
  | tup h1 h2 => exact ⟨_, _, rfl, h1, h2⟩
  | con _ h => cases h
theorem Dp.wtup' {K : PySem.W.Frag} {C : List Addr} {P : Hp} {ds : List D} (h : Dp K C P v (.wtup ds)) : ∃ a xs, v = .ref a ∧ (∀ H, SqT K H a xs) ∧ DpA K C P xs ds := by
  cases h with
  | wtup h1 h2 => exact ⟨_, _, rfl, fun H => same_t (fun _ _ z => by cases z) h1, h2⟩
  | con _ h => cases h
/-- what a value shows -/
theorem see (o : WOk G w) (z : Dp G.K w.C w.P v d) : (view w.M d = d ∧ ∀ n, d ≠ .cell n) ∨ ∃ n a c, d = .cell n ∧ v = .ref a ∧ w.C[n]? = some a ∧ w.M[n]? = some c ∧ view w.M d = unK c ∧ w.P a = none ∧ CellOk G w a c := by
  cases d with
  | cell n =>
    obtain ⟨a, rfl, h⟩ := z.cell'
    obtain ⟨c, h1, h2, h3⟩ := o.at h
    refine .inr ⟨n, a, c, rfl, rfl, h, h1, ?_, h2, h3⟩
    show (match w.M[n]? with | some c => unK c | none => .cell n) = unK c
    rw [h1]
  | _ => exact .inl ⟨rfl, fun n e => by cases e⟩
/-- a dict that is walked shows a dict alone -/
theorem Lckd.dct {a : Addr} {c : D} (h : Lckd G w a c) : ∃ t kds ho, c = .dct t kds ∧ w.H a = some ho ∧ HoD G.K w.C w.P (unl ho) (.dct t kds) := by
  obtain ⟨od, o, h1, h2, h3⟩ := h
  cases h3 with
  | lst _ => cases h2
  | dK a1 a2 a3 => exact ⟨_, _, _, rfl, h1, .dK a1 a2 a3⟩
  | dT a1 a2 a3 => exact ⟨_, _, _, rfl, h1, .dT a1 a2 a3⟩
/-- what stands in a cell that is not walked, or a dict that is -/
theorem cell_un {a : Addr} {c : D} (h : CellOk G w a c) : (unK c = c ∧ ∀ d, c ≠ .lck d) ∨ ∃ t kds ho, unK c = .dct t kds ∧ w.H a = some ho ∧ HoD G.K w.C w.P (unl ho) (.dct t kds) := by
  cases c with
  | lck d => obtain ⟨t, kds, ho, rfl, h1, h2⟩ := Lckd.dct h; exact .inr ⟨t, kds, ho, rfl, h1, h2⟩
  | _ => exact .inl ⟨rfl, fun d e => by cases e⟩
theorem see_lst {ds : List D} (o : WOk G w) (z : Dp G.K w.C w.P v d) (e : view w.M d = .lst ds) : ∃ a xs, v = .ref a ∧ w.H a = some (.lst xs) ∧ DpA G.K w.C w.P xs ds := by
  rcases see o z with ⟨h, _⟩ | ⟨n, a, c, rfl, rfl, _, _, h, _, q⟩
  · rw [e] at h
    subst h
    cases z with
    | con h1 h2 =>
      cases h2 with
      | lst h2 => exact ⟨_, _, rfl, o.ex.lst h1, h2⟩
  · rw [e] at h
    rcases cell_un q with ⟨h2, _⟩ | ⟨t, kds, ho, h2, _⟩
    · rw [h2] at h
      subst h
      obtain ⟨ho, h1, h2⟩ := q
      cases h2 with
      | lst h2 => exact ⟨_, _, rfl, h1, h2⟩
    · rw [h2] at h; cases h
theorem see_dct {t : Bool} {ds : List (D × D)} (o : WOk G w) (z : Dp G.K w.C w.P v d) (e : view w.M d = .dct t ds) : ∃ a ho, v = .ref a ∧ w.H a = some ho ∧ HoD G.K w.C w.P (unl ho) (.dct t ds) := by
  rcases see o z with ⟨h, _⟩ | ⟨n, a, c, rfl, rfl, _, _, h, _, q⟩
  · rw [e] at h
    subst h
    cases z with
    | con h1 h2 =>
      obtain ⟨o', q1, q2⟩ := o.ex _ _ h1
      exact ⟨_, o', rfl, q1, by rw [q2]; exact h2⟩
  · rw [e] at h
    rcases cell_un q with ⟨h2, _⟩ | ⟨t, kds, ho, h2, h3, h4⟩
    · rw [h2] at h
      subst h
      obtain ⟨ho, h1, h2⟩ := q
      exact ⟨_, ho, rfl, h1, by rw [h2.unl]; exact h2⟩
    · rw [h2] at h
      cases h
      exact ⟨_, ho, rfl, h3, h4⟩
theorem see_obj {c : List Nat} {fs : List (List Nat × D)} (o : WOk G w) (z : Dp G.K w.C w.P v d) (e : view w.M d = .obj c fs) : ∃ n a, d = .cell n ∧ v = .ref a ∧ w.C[n]? = some a ∧ w.M[n]? = some (.obj c fs) ∧ w.P a = none ∧ Inst G w a c fs := by
  rcases see o z with ⟨h, _⟩ | ⟨n, a, c', rfl, rfl, h1, h2, h, h3, q⟩
  · rw [e] at h
    subst h
    cases z with
    | con h1 h2 => cases h2
  · rw [e] at h
    rcases cell_un q with ⟨h4, _⟩ | ⟨t, kds, ho, h4, _⟩
    · rw [h4] at h
      subst h
      exact ⟨n, a, rfl, rfl, h1, h2, h3, q⟩
    · rw [h4] at h; cases h
theorem see_tup {ds : List D} (o : WOk G w) (z : Dp G.K w.C w.P v d) (e : view w.M d = .tup ds) : ∃ a xs, v = .ref a ∧ w.P a = some (.tup xs) ∧ w.H a = some (.tup xs) ∧ DpA G.K w.C w.P xs ds := by
  rcases see o z with ⟨h, _⟩ | ⟨n, a, c, rfl, rfl, _, _, h, _, q⟩
  · rw [e] at h
    subst h
    obtain ⟨a, xs, rfl, h1, h2⟩ := z.tup'
    exact ⟨a, xs, rfl, h1, o.ex.tup h1, h2⟩
  · rw [e] at h
    rcases cell_un q with ⟨h4, _⟩ | ⟨t, kds, ho, h4, _⟩
    · rw [h4] at h
      subst h
      exact q.elim
    · rw [h4] at h; cases h
theorem see_wtup {ds : List D} (o : WOk G w) (z : Dp G.K w.C w.P v d) (e : view w.M d = .wtup ds) : d = .wtup ds ∧ ∃ a xs, v = .ref a ∧ (∀ H, SqT G.K H a xs) ∧ DpA G.K w.C w.P xs ds := by
  rcases see o z with ⟨h, _⟩ | ⟨n, a, c, rfl, rfl, _, _, h, _, q⟩
  · rw [e] at h
    subst h
    exact ⟨rfl, z.wtup'⟩
  · rw [e] at h
    rcases cell_un q with ⟨h4, _⟩ | ⟨t, kds, ho, h4, _⟩
    · rw [h4] at h
      subst h
      exact q.elim
    · rw [h4] at h; cases h
theorem see_scal {c : D} (o : WOk G w) (z : Dp G.K w.C w.P v d) (e : view w.M d = c) (hs : c.scal = true) : d = c ∧ Dp G.K w.C w.P v c := by
  rcases see o z with ⟨h, _⟩ | ⟨n, a, c', rfl, rfl, _, _, h, _, q⟩
  · rw [e] at h
    subst h
    exact ⟨rfl, z⟩
  · rw [e] at h
    rcases cell_un q with ⟨h4, _⟩ | ⟨t, kds, ho, h4, _⟩
    · rw [h4] at h
      subst h
      cases c <;> first | exact q.elim | cases hs
    · rw [h4] at h; subst h; cases hs
theorem see_int {i : Int} (o : WOk G w) (z : Dp G.K w.C w.P v d) (e : view w.M d = .int i) : v = .int i := (see_scal o z e rfl).2.int'
theorem see_str {i : List Nat} (o : WOk G w) (z : Dp G.K w.C w.P v d) (e : view w.M d = .str i) : v = .str (tx i) ∧ vS i := (see_scal o z e rfl).2.str'
theorem see_bl {i : Bool} (o : WOk G w) (z : Dp G.K w.C w.P v d) (e : view w.M d = .bl i) : v = .bl i := (see_scal o z e rfl).2.bl'
theorem see_non (o : WOk G w) (z : Dp G.K w.C w.P v d) (e : view w.M d = .non) : v = .non := (see_scal o z e rfl).2.non'
end

section
variable {X : Cx} {rw : Bool} {e a b : Expr} {es : List Expr} {fa fb f g : EV} {fr : AV} {pos : Pos}
theorem qe_of {t : TE} (h : PE X e t) (i : ∀ w σ δ (Qd : Rz → Mem → Prop) (Q : VK), Rep (gx X) w σ δ → f δ w.M Qd → (∀ r v w', Qd r w'.M → Gr (gx X) rw w w' → RzOk (gx X) w w' r v → Q v w'.H) → t σ w.H Q) : QE X rw e f :=
  ⟨pe_imp h fun σ H Q ⟨w, δ, Qd, e, R, hf, k⟩ => by subst e; exact i w σ δ Qd Q R hf k⟩
/-! ### constants, names -/
def eC (d : D) : EV := fun _ M Q => Q (.val d) M
theorem q_int {i : Int} {j : Nat} : QE X rw (.Constant (.int i) j pos) (eC (.int i)) := qe_of pe_int fun w σ δ Qd Q R h k => k _ (.int i) w h (.refl R.ok) (.int i)
theorem q_bl {i : Bool} {j : Nat} : QE X rw (.Constant (.bool i) j pos) (eC (.bl i)) := qe_of pe_bl fun w σ δ Qd Q R h k => k _ (.bl i) w h (.refl R.ok) (.bl i)
theorem q_non {j : Nat} : QE X rw (.Constant .none j pos) (eC .non) := qe_of pe_non fun w σ δ Qd Q R h k => k _ .non w h (.refl R.ok) .non
theorem q_str {i : Str} {j : Nat} (cs : List Nat) (h : i = tx cs := by decide +kernel) (hv : (cs.all fun c => decide (c < 0x110000)) = true := by decide) : QE X rw (.Constant (.str i) j pos) (eC (.str cs)) :=
  qe_of pe_str fun w σ δ Qd Q R hq k => k _ (.str i) w hq (.refl R.ok) (by
    subst h
    exact .str cs fun c hc => of_decide_eq_true (List.all_eq_true.mp hv c hc))
def eV (i : Nat) : EV := fun δ M Q => match δ[i]? with
  | some (.val d) => Q (.val d) M
  | _ => False
theorem q_var (i : Nat) {x : Str} (hN : X.N[i]? = some x := by rfl) (hv : Vis X.env.scope x := by first | exact Or.inl rfl | exact Or.inr (Or.inl rfl) | exact Or.inr (Or.inr rfl)) (hd : (x == ("__debug__" : Str)) = false := by decide)
    (hcd : (x == ("__classdict__" : Str)) = false := by decide) : QE X rw (.Name x pos) (eV i) := qe_of (pe_var hN hv hd hcd) fun w σ δ Qd Q R h k => by
  unfold eV at h
  cases e : δ[i]? with
  | none => rw [e] at h; exact h.elim
  | some s =>
    rw [e] at h
    cases s with
    | no => exact h.elim
    | own ds => exact h.elim
    | val d =>
      obtain ⟨v, h1, h2⟩ := R.val i d e
      exact ⟨v, h1, k _ v w h (.refl R.ok) h2⟩
/-- a constant of the module -/
theorem q_glob {x : Str} {v : V} {u : Value} {d : D} (hm : X.mg x = some u) (r : RelV v u) (nb : ∀ C P, Dp X.K C P v d) (hg : Gl X x := by rfl) (hdb : (x == ("__debug__" : Str)) = false := by decide) : QE X rw (.Name x pos) (eC d) :=
  qe_of (pe_glob hg hm r hdb) fun w σ δ Qd Q R h k => k _ v w h (.refl R.ok) (nb _ _)

/-! ### transient: the result is a scalar, all own things may be read -/
def scalQ (d : D) (q : Prop) : Prop := match d with
  | .non | .bl _ | .int _ | .str _ => q
  | _ => False
theorem scalQ_e {d : D} {q : Prop} (h : scalQ d q) : d.scal = true ∧ q := by
  cases d <;> first | exact ⟨rfl, h⟩ | exact h.elim
def eTr (f : EV) : EV := fun δ M Q => f (frzE δ) M fun r M' => scalQ r.d (Q (.val r.d) M')
theorem q_tr (h : QE X false e f) : QE X rw e (eTr f) := qe_of h.pe fun w σ δ Qd Q R hf k =>
  lift_d (w := ⟨w.C, w.M, tot w, w.H⟩) R.tot (fun d M => scalQ d (Qd (.val d) M)) hf fun d v w' q g z => by
    obtain ⟨q1, q2⟩ := scalQ_e q
    have e2 : w'.M = w.M := (g.ro rfl).2.1
    rw [e2] at q2
    exact k _ v ⟨w.C, w.M, w.P, w'.H⟩ q2 (Gr.drop R g) (z.scal q1)
def eFz (f : EV) : EV := fun δ M Q => f δ M fun r M' => Q (.val r.d) M'
theorem q_fz (h : QE X rw e f) : QE X rw e (eFz f) := qe_of h.pe fun w σ δ Qd Q R hf k => lift_d R (fun d M => Qd (.val d) M) hf fun d v w' q g z => k _ v w' q g z
theorem lift_fz {G : Gx} {σ : L2.St} {H : Hp} {Q : VK} (h : lift G rw (eFz f) σ H Q) : lift G rw f σ H Q := by
  obtain ⟨w, δ, Qd, e, R, hf, k⟩ := h
  subst e
  exact lift_d R (fun d M => Qd (.val d) M) hf fun d v w' q g z => k _ v w' q g z
def eNever : EV := fun _ _ _ => False
theorem q_enever : QE X rw e eNever := ⟨⟨fun _ _ _ _ _ _ ⟨_, _, _, _, _, hf, _⟩ => hf.elim⟩⟩

/-! ### two-place operations -/
abbrev OpD := Mem → D → D → (Rz → Prop) → Prop
def eOp (g : OpD) (fa fb : EV) : EV := fun δ M Q => fa δ M fun x M1 => fb δ M1 fun y M2 => g M2 x.d y.d fun r => Q r M2
def OpW (X : Cx) (r : R2) (g : OpD) : Prop := ∀ w x y dx dy (Qd : Rz → Prop) (Q : VK), WOk (gx X) w → Dp X.K w.C w.P x dx → Dp X.K w.C w.P y dy → g w.M dx dy Qd →
    (∀ rz v w', Qd rz → Gr (gx X) false w w' → RzOk (gx X) w w' rz v → Q v w'.H) → r x y w.H Q
/-- an operation over data -/
def OpL (X : Cx) (f : Value → Value → Sem Value) (g : OpD) : Prop := ∃ r : R2, OpR X f r ∧ OpW X r g
theorem op_run {go : OpD} {ta tb : EV} {r : R2} (hr : OpW X r go) {w : Wd} {σ : L2.St} {δ : DEnv} {Qd : Rz → Mem → Prop} {Q : VK} (R : Rep (gx X) w σ δ) (h : eOp go ta tb δ w.M Qd) (k : ∀ rz v w', Qd rz w'.M → Gr (gx X) rw w w' → RzOk (gx X) w w' rz v → Q v w'.H) :
    tOp r (lift (gx X) rw ta) (lift (gx X) rw tb) σ w.H Q := by
  refine lift_d R (fun x M1 => tb δ M1 fun y M2 => go M2 x y.d fun r => Qd r M2) h fun dx x w1 q1 g1 z1 => ?_
  refine lift_d (R.mono g1) (fun y M2 => go M2 dx y fun r => Qd r M2) q1 fun dy y w2 q2 g2 z2 => ?_
  have g12 := g1.trans g2
  refine hr w2 x y dx dy _ Q g2.ok (g2.dp z1) z2 q2 fun rz v w3 q3 g3 z3 => ?_
  rw [← (g3.ro rfl).2.1] at q3
  exact k rz v w3 q3 (g12.trans g3.weak) (z3.back g12)
theorem q_op {op : Operator} {go : OpD} (ho : OpL X (binaryOp op) go) (ha : QE X rw a fa) (hb : QE X rw b fb) : QE X rw (.BinOp a op b pos) (eOp go fa fb) := by
  obtain ⟨r, h1, h2⟩ := ho
  exact qe_of (pe_op h1 ha.pe hb.pe) fun w σ δ Qd Q R h k => op_run h2 R h k
theorem q_cmp {op : CmpOp} {go : OpD} (ho : OpL X (compareOp op) go) (ha : QE X rw a fa) (hb : QE X rw b fb) (hm : behindInMarks op b = false := by rfl) : QE X rw (.Compare a [op] [b] pos) (eOp go fa fb) := by
  obtain ⟨r, h1, h2⟩ := ho
  exact qe_of (pe_cmpR h1 ha.pe hb.pe hm) fun w σ δ Qd Q R h k => op_run h2 R h k
theorem q_ixR {r : R2} {go : OpD} (h1 : IxR X r) (h2 : OpW X r go) (ha : QE X rw a fa) (hb : QE X rw b fb) (hs : PlainIx b) : QE X rw (.Subscript a b pos) (eOp go fa fb) :=
  qe_of (pe_ix h1 ha.pe hb.pe hs) fun w σ δ Qd Q R h k => op_run h2 R h k

/-! ### arguments, displays -/
def aNil : AV := fun _ M Q => Q [] M
def aCons (f : EV) (fr : AV) : AV := fun δ M Q => f δ M fun r M1 => fr δ M1 fun ds M2 => Q (r.d :: ds) M2
theorem qa_of {t : TA} (h : PA X es t) (i : ∀ w σ δ (Qd : List D → Mem → Prop) (Q : List V → Hp → Prop), Rep (gx X) w σ δ → fr δ w.M Qd → (∀ ds vs w', Qd ds w'.M → Gr (gx X) rw w w' → DpA X.K w'.C w'.P vs ds → Q vs w'.H) → t σ w.H Q) : QA X rw es fr :=
  ⟨pa_imp h fun σ H Q ⟨w, δ, Qd, e, R, hf, k⟩ => by subst e; exact i w σ δ Qd Q R hf k⟩
theorem q_nil : QA X rw [] aNil := qa_of pa_nil fun w σ δ Qd Q R hf k => k [] [] w hf (.refl R.ok) .nil
theorem cons_run {w : Wd} {σ : L2.St} {δ : DEnv} {Qd : List D → Mem → Prop} {Q : List V → Hp → Prop} (R : Rep (gx X) w σ δ) (hf : aCons f fr δ w.M Qd) (k : ∀ ds vs w', Qd ds w'.M → Gr (gx X) rw w w' → DpA X.K w'.C w'.P vs ds → Q vs w'.H) :
    lift (gx X) rw f σ w.H fun v H1 => liftA (gx X) rw fr σ H1 fun vs H2 => Q (v :: vs) H2 := by
  refine lift_d R (fun x M1 => fr δ M1 fun ds M2 => Qd (x :: ds) M2) hf fun dx x w1 q1 g1 z1 => ?_
  exact ⟨w1, δ, _, rfl, R.mono g1, q1, fun ds vs w2 q2 g2 z2 => k _ _ w2 q2 (g1.trans g2) (.cons (g2.dp z1) z2)⟩
theorem q_cons (ha : QE X rw e f) (hr : QA X rw es fr) (hs : starEach (e :: es) X.env = (false, eval e X.env) :: starEach es X.env := by rfl) : QA X rw (e :: es) (aCons f fr) :=
  qa_of (pa_cons ha.pe hr.pa hs) fun w σ δ Qd Q R hf k => cons_run R hf k
def eLst (fr : AV) : EV := fun δ M Q => fr δ M fun ds M1 => szOk ds.length (Q (.new (.lst ds)) M1)
def eTup (fr : AV) : EV := fun δ M Q => fr δ M fun ds M1 => szOk ds.length (Q (.val (.tup ds)) M1)
theorem notc {G : Gx} {w : Wd} {p : Addr} (o : WOk G w) (hp : w.H p = none) : p ∉ w.C := fun hc => by
  obtain ⟨_, h, e⟩ := o.mem hc
  rw [hp] at e
  cases e
theorem new_ok {G : Gx} {w w1 : Wd} {o : HO} {d : D} {p : Addr} (g : Gr G rw w w1) (hp : w1.H p = none) (z : HoD G.K w1.C w1.P o d) :
    Gr G rw w ⟨w1.C, w1.M, w1.P, upd w1.H p o⟩ ∧ RzOk G w ⟨w1.C, w1.M, w1.P, upd w1.H p o⟩ (.new d) (.ref p) :=
  ⟨g.trans (Gr.loose g.ok hp).weak, p, rfl, g.ok.ex.free hp, g.fresh hp, show p ∉ w1.C from notc g.ok hp, o, upd_same, z⟩
theorem tup_ok {G : Gx} {w w1 : Wd} {vs : List V} {ds : List D} {p : Addr} (g : Gr G rw w w1) (hp : w1.H p = none) (z : DpA G.K w1.C w1.P vs ds) :
    Gr G rw w ⟨w1.C, w1.M, upd w1.P p (.tup vs), upd w1.H p (.tup vs)⟩ ∧ RzOk G w ⟨w1.C, w1.M, upd w1.P p (.tup vs), upd w1.H p (.tup vs)⟩ (.val (.tup ds)) (.ref p) :=
  ⟨g.trans (Gr.new g.ok hp (fun _ h => by cases h) rfl).weak, .tup upd_same (z.mono (Pre.refl _) (same_new (g.ok.ex.free hp)))⟩
theorem q_lst (h : QA X rw es fr) : QE X rw (.List es pos) (eLst fr) := qe_of (pe_lst h.pa) fun w σ δ Qd Q R hf k =>
  ⟨w, δ, _, rfl, R, hf, fun ds vs w1 q g1 z1 => by
    obtain ⟨q1, q2⟩ := szOk_e q
    refine ⟨by rw [z1.length]; exact q1, fun p hp => ?_⟩
    obtain ⟨g2, z2⟩ := new_ok g1 hp (HoD.lst z1)
    exact k _ _ ⟨w1.C, w1.M, _, _⟩ q2 g2 z2⟩
theorem q_tup {n : Nat} (h : QA X rw es fr) : QE X rw (.Tuple es n pos) (eTup fr) := qe_of (pe_tup h.pa) fun w σ δ Qd Q R hf k =>
  ⟨w, δ, _, rfl, R, hf, fun ds vs w1 q g1 z1 => by
    obtain ⟨q1, q2⟩ := szOk_e q
    refine ⟨by rw [z1.length]; exact q1, fun p hp => ?_⟩
    obtain ⟨g2, z2⟩ := tup_ok g1 hp z1
    exact k _ _ ⟨w1.C, w1.M, _, _⟩ q2 g2 z2⟩

/-! ### calls of built-in things -/
abbrev CaD := Mem → List D → (Rz → Prop) → Prop
def eCallB (g : CaD) (fr : AV) : EV := fun δ M Q => fr δ M fun ds M1 => g M1 ds fun r => Q r M1
def CallW (X : Cx) (r : List V → Hp → VK → Prop) (g : CaD) : Prop := ∀ w xs ds (Qd : Rz → Prop) (Q : VK), WOk (gx X) w → DpA X.K w.C w.P xs ds → g w.M ds Qd →
    (∀ rz v w', Qd rz → Gr (gx X) false w w' → RzOk (gx X) w w' rz v → Q v w'.H) → r xs w.H Q
def CallL (X : Cx) (f : Value) (g : CaD) : Prop := ∃ r : List V → Hp → VK → Prop, CallR X f r ∧ CallW X r g
theorem call_run {go : CaD} {r : List V → Hp → VK → Prop} (hr : CallW X r go) {w : Wd} {σ : L2.St} {δ : DEnv} {Qd : Rz → Mem → Prop} {Q : VK} (R : Rep (gx X) w σ δ) (h : eCallB go fr δ w.M Qd) (k : ∀ rz v w', Qd rz w'.M → Gr (gx X) rw w w' → RzOk (gx X) w w' rz v → Q v w'.H) :
    tCB r (liftA (gx X) rw fr) σ w.H Q :=
  ⟨w, δ, _, rfl, R, h, fun ds vs w1 q1 g1 z1 => hr w1 vs ds _ Q g1.ok z1 q1 fun rz v w2 q2 g2 z2 => k rz v w2 (by rw [(g2.ro rfl).2.1]; exact q2) (g1.trans g2.weak) (z2.back g1)⟩
theorem q_callB {x : Str} {id : String} {p : Pos} {go : CaD} (hc : CallL X (.builtin id) go) (hm : X.mg x = none) (hv : bootBuiltins x = some (.builtin id)) (ha : QA X rw (e :: es) fr) (hg : Gl X x := by rfl) (hn : x ≠ "__name__" := by decide) (hdb : (x == ("__debug__" : Str)) = false := by decide)
    (he : starEach (e :: es) X.env = (false, eval e X.env) :: starEach es X.env := by rfl) (hpl : (backTo pos (starEach es X.env)).any (·.1) = false := by rfl) : QE X rw (.Call (.Name x p) (e :: es) [] pos) (eCallB go fr) := by
  obtain ⟨r, h1, h2⟩ := hc
  exact qe_of (pe_callB h1 hg hm hv ha.pa hn hdb he hpl) fun w σ δ Qd Q R h k => call_run h2 R h k
theorem q_callTy {x : Str} {T : String} {p : Pos} {go : CaD} (hc : CallL X (.type T) go) (hm : X.mg x = none) (hv : bootBuiltins x = some (.type T)) (ha : QA X rw (e :: es) fr) (hg : Gl X x := by rfl) (hn : x ≠ "__name__" := by decide) (hdb : (x == ("__debug__" : Str)) = false := by decide)
    (he : starEach (e :: es) X.env = (false, eval e X.env) :: starEach es X.env := by rfl) (hpl : (backTo pos (starEach es X.env)).any (·.1) = false := by rfl) : QE X rw (.Call (.Name x p) (e :: es) [] pos) (eCallB go fr) := by
  obtain ⟨r, h1, h2⟩ := hc
  exact qe_of (pe_callTy h1 hg hm hv ha.pa hn hdb he hpl) fun w σ δ Qd Q R h k => call_run h2 R h k

/-! ### a def of the program, by its promise over data -/
abbrev Spec := List D → Mem → (Rz → Mem → Prop) → Prop
def eCall (S : Spec) (fr : AV) : EV := fun δ M Q => fr δ M fun ds M1 => S ds M1 Q
def SpD (G : Gx) (rw : Bool) (n : Nat) (S : Spec) : Sp := fun vs H Q _ => ∃ w ds Qd, w.H = H ∧ WOk G w ∧ DpA G.K w.C w.P vs ds ∧ ds.length = n ∧ S ds w.M Qd ∧ ∀ rz v w', Qd rz w'.M → Gr G rw w w' → RzOk G w w' rz v → Q v w'.H
/-- a def of the program, as callers need it; r: whether it changes cells -/
structure Def (P : Program) (w : World) (K : PySem.W.Frag) (mg : Str → Option Value) (base : Heap) (g : Str) (ps : List Str) (j : Nat) (r : Bool) (S : Spec) : Prop where
  len : ∀ ds M Q, S ds M Q → ds.length = ps.length
  ex : ∃ (f : Addr) (fd : FuncData), FnOk P w K mg base CX0 j f fd ps (SpD ⟨K, mg⟩ r ps.length S) ∧ mg g = some (.ref f) ∧ PySem.W.keepIn K (.ref f) = true ∧ Binds K fd ps []
theorem rw_imp {r rw : Bool} (h : (!r || rw) = true) : r = true → rw = true := fun e => by subst e; simpa using h
theorem q_callD {x : Str} {p : Pos} {ps : List Str} {S : Spec} {j k : Nat} {r : Bool} (d : Def X.prog X.w X.K X.mg X.base x ps j r S) (hr : Room k X.A) (ha : QA X rw (e :: es) fr) (hw : (!r || rw) = true := by rfl) (hj : j ≤ k := by omega) (hg : Gl X x := by rfl) (hdb : (x == ("__debug__" : Str)) = false := by decide)
    (he : starEach (e :: es) X.env = (false, eval e X.env) :: starEach es X.env := by rfl) (hpl : (backTo pos (starEach es X.env)).any (·.1) = false := by rfl) : QE X rw (.Call (.Name x p) (e :: es) [] pos) (eCall S fr) := by
  obtain ⟨f, fd, F, hm, hk, hb⟩ := d.ex
  refine qe_of (pe_call F (hr.mono hj) hg hm hk hb .nil pass0 ha.pa hdb he hpl) fun w σ δ Qd Q R h k => ?_
  refine ⟨w, δ, _, rfl, R, h, fun ds vs w1 q1 g1 z1 => ?_⟩
  show SpD (gx X) r ps.length S (vs ++ []) w1.H Q E0
  rw [List.append_nil]
  exact ⟨w1, ds, Qd, rfl, g1.ok, z1, d.len _ _ _ q1, q1, fun rz v w2 q2 g2 z2 => k rz v w2 q2 (g1.trans (g2.wk (rw_imp hw))) (z2.back g1)⟩
theorem q_callD0 {x : Str} {p : Pos} {S : Spec} {j k : Nat} {r : Bool} (d : Def X.prog X.w X.K X.mg X.base x [] j r S) (hr : Room k X.A) (hw : (!r || rw) = true := by rfl) (hj : j ≤ k := by omega) (hg : Gl X x := by rfl) (hdb : (x == ("__debug__" : Str)) = false := by decide) : QE X rw (.Call (.Name x p) [] [] pos) (eCall S aNil) := by
  obtain ⟨f, fd, F, hm, hk, hb⟩ := d.ex
  refine qe_of (pe_call0 F (hr.mono hj) hg hm hk hb .nil pass0 hdb) fun w σ δ Qd Q R h k => ?_
  exact ⟨w, [], Qd, rfl, R.ok, .nil, rfl, h, fun rz v w2 q2 g2 z2 => k rz v w2 q2 (g2.wk (rw_imp hw)) z2⟩
end
/-! ### calls by keywords -/
def perm {α : Type} : List Nat → List α → List α
  | [], _ => []
  | i :: is, xs => match xs[i]? with
    | some x => x :: perm is xs
    | none => perm is xs
theorem perm_vals {xs : List V} {us : List Value} (h : Vals xs us) : ∀ is : List Nat, Vals (perm is xs) (perm is us)
  | [] => .nil
  | i :: is => by
    rw [perm, perm]
    cases e : xs[i]? with
    | none => rw [h.none_of e]; exact perm_vals h is
    | some x =>
      obtain ⟨u, h1, h2⟩ := h.get e
      rw [h1]
      exact .cons h2 (perm_vals h is)
theorem perm_dp {K : PySem.W.Frag} {C : List Addr} {P : Hp} {xs : List V} {ds : List D} (h : DpA K C P xs ds) : ∀ is : List Nat, DpA K C P (perm is xs) (perm is ds)
  | [] => .nil
  | i :: is => by
    rw [perm, perm]
    cases e : xs[i]? with
    | none =>
      have : ds[i]? = none := List.getElem?_eq_none (by rw [← h.length]; exact List.getElem?_eq_none_iff.mp e)
      rw [this]
      exact perm_dp h is
    | some x =>
      obtain ⟨u, h1, h2⟩ := h.get' e
      rw [h1]
      exact .cons h2 (perm_dp h is)
/-- n values by place, those named ks by name; is: which one is which -/
structure DefK (P : Program) (w : World) (K : PySem.W.Frag) (mg : Str → Option Value) (base : Heap) (g : Str) (ps : List Str) (j : Nat) (r : Bool) (S : Spec) (n : Nat) (ks : List Str) (is : List Nat) : Prop where
  len : ∀ ds M Q, S ds M Q → ds.length = ps.length
  ex : ∃ (f : Addr) (fd : FuncData), FnOk P w K mg base CX0 j f fd ps (SpD ⟨K, mg⟩ r ps.length S) ∧ mg g = some (.ref f) ∧ PySem.W.keepIn K (.ref f) = true ∧ KBn K fd ps n ks (fun us ws => perm is (us ++ ws)) (fun vs zs => perm is (vs ++ zs))
section
variable {X : Cx} {rw : Bool} {e : Expr} {es : List Expr} {kws : List Keyword} {fr fk : AV} {f : EV} {pos p kpos : Pos} {nm : Option Str}
structure QK (X : Cx) (rw : Bool) (kws : List Keyword) (f : AV) : Prop where
  pk : PK X kws (liftA (gx X) rw f)
theorem qk_of {t : TA} (h : PK X kws t) (i : ∀ w σ δ (Qd : List D → Mem → Prop) (Q : List V → Hp → Prop), Rep (gx X) w σ δ → fr δ w.M Qd → (∀ ds vs w', Qd ds w'.M → Gr (gx X) rw w w' → DpA X.K w'.C w'.P vs ds → Q vs w'.H) → t σ w.H Q) : QK X rw kws fr :=
  ⟨⟨fun pos pins s σ H Q I ⟨w, δ, Qd, e, R, hf, k⟩ => by subst e; exact h.run pos pins s σ w.H Q I (i w σ δ Qd Q R hf k)⟩⟩
theorem q_knil : QK X rw [] aNil := qk_of pk_nil fun w σ δ Qd Q R hf k => k [] [] w hf (.refl R.ok) .nil
theorem q_kcons (ha : QE X rw e f) (hr : QK X rw kws fk) : QK X rw (⟨nm, e, kpos⟩ :: kws) (aCons f fk) :=
  qk_of (pk_cons ha.pe hr.pk) fun w σ δ Qd Q R hf k => cons_run R hf k
/-- f(k = v, ..): no value by place -/
theorem pe_callN0 {CX : CXT} {k : Nat} {fa : Addr} {fd : FuncData} {ps ks : List Str} {sp : Sp} {E : XK} {x : Str} {tk : TA} {g : List Value → List Value → List Value} {gV : List V → List V → List V}
    (F : FnOk X.prog X.w X.K X.mg X.base CX k fa fd ps sp) (hr : Room k X.A) (hg : Gl X x) (hm : X.mg x = some (.ref fa)) (hk : PySem.W.keepIn X.K (.ref fa) = true) (hb : KBn X.K fd ps 0 ks g gV) (hx : Passes CX X E) (hkw : PK X kws tk)
    (hall : (backToKw pos (keywordEach kws X.env)).all (·.1.isSome) = true := by rfl) (hks : (backToKw pos (keywordEach kws X.env)).filterMap (·.1) = ks := by rfl) (hdb : (x == ("__debug__" : Str)) = false := by decide)
    (hpl : ((backTo pos (starEach [] X.env)).any (·.1) || (backToKw pos (keywordEach kws X.env)).any (·.1.isNone)) = false := by rfl) :
    PE X (.Call (.Name x p) [] kws pos) (fun σ H Q => tk σ H fun zs H2 => zs.length = ks.length ∧ sp (gV [] zs) H2 Q E) := by
  refine ⟨fun pins s σ H Q I h => ?_⟩
  refine wpAny_Call_Name_kw (ld_glob I hg hm ?_ hdb)
  refine PySem.W.callWith_KW0 (h₀ := X.base) I.ok.mod.kin hk hall ?_ hpl
  refine thn (hkw.run pos pins s σ H _ I h) fun ws s2 ⟨zs, H2, I2, rz, l2, q2⟩ => ⟨I2.kIn, ?_⟩
  rw [hks]
  exact run_fnN (us := []) (vs := []) F hr hb hx I2 .nil rz rfl l2 q2
def lenQ {α : Type} (xs : List α) (n : Nat) (q : Prop) : Prop := match Nat.beq xs.length n with
  | true => q
  | false => False
theorem lenQ_e {α : Type} {xs : List α} {n : Nat} {q : Prop} (h : lenQ xs n q) : xs.length = n ∧ q := by
  unfold lenQ at h
  cases e : Nat.beq xs.length n with
  | true => rw [e] at h; exact ⟨Nat.eq_of_beq_eq_true e, h⟩
  | false => rw [e] at h; exact h.elim
theorem lenQ_i {α : Type} {xs : List α} {n : Nat} {q : Prop} (h : xs.length = n) (k : q) : lenQ xs n q := by
  subst h
  unfold lenQ
  rw [show Nat.beq xs.length xs.length = true from Nat.beq_refl _]
  exact k
def eCallK (n m : Nat) (is : List Nat) (S : Spec) (fr fk : AV) : EV := fun δ M Q => fr δ M fun us M1 => fk δ M1 fun ws M2 => lenQ us n (lenQ ws m (S (perm is (us ++ ws)) M2 Q))
theorem q_callK0 {x : Str} {ps ks : List Str} {j k m : Nat} {S : Spec} {is : List Nat} {r : Bool} (d : DefK X.prog X.w X.K X.mg X.base x ps j r S 0 ks is) (hr : Room k X.A) (hkw : QK X rw kws fk) (hw : (!r || rw) = true := by rfl) (hl : ks.length = m := by rfl) (hj : j ≤ k := by omega) (hg : Gl X x := by rfl)
    (hall : (backToKw pos (keywordEach kws X.env)).all (·.1.isSome) = true := by rfl) (hks : (backToKw pos (keywordEach kws X.env)).filterMap (·.1) = ks := by rfl) (hdb : (x == ("__debug__" : Str)) = false := by decide)
    (hpl : ((backTo pos (starEach [] X.env)).any (·.1) || (backToKw pos (keywordEach kws X.env)).any (·.1.isNone)) = false := by rfl) : QE X rw (.Call (.Name x p) [] kws pos) (eCallK 0 m is S aNil fk) := by
  subst hl
  obtain ⟨fa, fd, F, h1, h2, h3⟩ := d.ex
  refine qe_of (pe_callN0 F (hr.mono hj) hg h1 h2 h3 pass0 hkw.pk hall hks hdb hpl) fun w σ δ Qd Q R h kk => ?_
  refine ⟨w, δ, _, rfl, R, h, fun ds vs w1 q g1 z1 => ?_⟩
  obtain ⟨_, q⟩ := lenQ_e q
  obtain ⟨q2, q3⟩ := lenQ_e q
  refine ⟨by rw [z1.length]; exact q2, ?_⟩
  exact ⟨w1, perm is ([] ++ ds), Qd, rfl, g1.ok, perm_dp (by simpa using z1) is, d.len _ _ _ q3, q3, fun rz v w2 q4 g2 z2 => kk rz v w2 q4 (g1.trans (g2.wk (rw_imp hw))) (z2.back g1)⟩
theorem q_callK {x : Str} {ps ks : List Str} {j k n m : Nat} {S : Spec} {is : List Nat} {r : Bool} (d : DefK X.prog X.w X.K X.mg X.base x ps j r S n ks is) (hr : Room k X.A) (ha : QA X rw (e :: es) fr) (hkw : QK X rw kws fk) (hw : (!r || rw) = true := by rfl) (hl : ks.length = m := by rfl) (hj : j ≤ k := by omega) (hg : Gl X x := by rfl)
    (hall : (backToKw pos (keywordEach kws X.env)).all (·.1.isSome) = true := by rfl) (hks : (backToKw pos (keywordEach kws X.env)).filterMap (·.1) = ks := by rfl) (hdb : (x == ("__debug__" : Str)) = false := by decide) (he : starEach (e :: es) X.env = (false, eval e X.env) :: starEach es X.env := by rfl)
    (hpl : ((backTo pos (starEach (e :: es) X.env)).any (·.1) || (backToKw pos (keywordEach kws X.env)).any (·.1.isNone)) = false := by rfl) : QE X rw (.Call (.Name x p) (e :: es) kws pos) (eCallK n m is S fr fk) := by
  subst hl
  obtain ⟨fa, fd, F, h1, h2, h3⟩ := d.ex
  refine qe_of (pe_callN F (hr.mono hj) hg h1 h2 h3 pass0 ha.pa hkw.pk hall hks hdb he hpl) fun w σ δ Qd Q R h kk => ?_
  refine ⟨w, δ, _, rfl, R, h, fun us vs w1 q1 g1 z1 => ⟨w1, δ, _, rfl, R.mono g1, q1, fun ws zs w2 q g2 z2 => ?_⟩⟩
  obtain ⟨q2, q⟩ := lenQ_e q
  obtain ⟨q3, q4⟩ := lenQ_e q
  refine ⟨by rw [z1.length]; exact q2, by rw [z2.length]; exact q3, ?_⟩
  have g := g1.trans g2
  exact ⟨w2, perm is (us ++ ws), Qd, rfl, g.ok, perm_dp ((g2.dpa z1).append z2) is, d.len _ _ _ q4, q4, fun rz v w3 q5 g3 z3 => kk rz v w3 q5 (g.trans (g3.wk (rw_imp hw))) (z3.back g)⟩
end
end HI

namespace HI
open PySem L2

/-! ### operations over data -/
def addD : OpD := fun M x y Q => match view M x, view M y with
  | .int i, .int j => Q (.val (.int (i + j)))
  | .str x, .str y => szOk (x.length + y.length) (Q (.val (.str (x ++ y))))
  | .lst x, .lst y => szOk (x.length + y.length) (Q (.new (.lst (x ++ y))))
  | .tup x, .tup y => szOk (x.length + y.length) (Q (.val (.tup (x ++ y))))
  | _, _ => False
def subD : OpD := fun M x y Q => match view M x, view M y with
  | .int i, .int j => Q (.val (.int (i - j)))
  | _, _ => False
def mulD : OpD := fun M x y Q => match view M x, view M y with
  | .int i, .int j => (CMul i j ∨ CMulW i j) ∧ Q (.val (.int (i * j)))
  | .lst x, .int k => (0 ≤ k ∧ k < 1000000 ∧ x.length * k.toNat ≤ 1000000) ∧ Q (.new (.lst (List.replicate k.toNat x).flatten))
  | _, _ => False
def fdivD : OpD := fun M x y Q => match view M x, view M y with
  | .int i, .int j => CDivW i j ∧ Q (.val (.int (i / j)))
  | _, _ => False
def modD : OpD := fun M x y Q => match view M x, view M y with
  | .int i, .int j => 0 < j ∧ Q (.val (.int (i % j)))
  | _, _ => False
def powD : OpD := fun M x y Q => match view M x, view M y with
  | .int i, .int j => CPow i j ∧ Q (.val (.int (i ^ j.toNat)))
  | _, _ => False
def shlD : OpD := fun M x y Q => match view M x, view M y with
  | .int i, .int j => CPow i j ∧ Q (.val (.int (i * 2 ^ j.toNat)))
  | _, _ => False
theorem vS_app {a b : List Nat} (ha : vS a) (hb : vS b) : vS (a ++ b) := fun c h => by
  rcases List.mem_append.mp h with h | h
  · exact ha c h
  · exact hb c h
section
variable {X : Cx}
theorem op_addL : OpL X (binaryOp .Add) addD := by
  refine ⟨_, op_add.or (op_add_str.or (op_cat.or op_catA)), fun w x y dx dy Qd Q o zx zy h k => ?_⟩
  unfold addD at h
  generalize hx : view w.M dx = cx at h
  generalize hy : view w.M dy = cy at h
  cases cx with
  | int i =>
    cases cy with
    | int j => cases see_int o zx hx; cases see_int o zy hy; exact .inl ⟨i, j, rfl, rfl, k _ _ w h (.refl o) (.int _)⟩
    | _ => exact h.elim
  | str i =>
    cases cy with
    | str j =>
      obtain ⟨rfl, v1⟩ := see_str o zx hx
      obtain ⟨rfl, v2⟩ := see_str o zy hy
      obtain ⟨q1, q2⟩ := szOk_e h
      refine .inr (.inl ⟨_, _, rfl, rfl, by rw [tx_len, tx_len]; exact q1, ?_⟩)
      rw [tx_app]
      exact k _ _ w q2 (.refl o) (.str _ (vS_app v1 v2))
    | _ => exact h.elim
  | lst i =>
    cases cy with
    | lst j =>
      obtain ⟨a1, x1, rfl, p1, z1⟩ := see_lst o zx hx
      obtain ⟨a2, x2, rfl, p2, z2⟩ := see_lst o zy hy
      obtain ⟨q1, q2⟩ := szOk_e h
      refine .inr (.inr (.inl ⟨a1, a2, x1, x2, rfl, rfl, p1, p2, by rw [z1.length, z2.length]; exact q1, fun p hp => ?_⟩))
      obtain ⟨g2, w2⟩ := new_ok (Gr.refl o) hp (HoD.lst (z1.append z2))
      exact k _ _ _ q2 g2 w2
    | _ => exact h.elim
  | tup i =>
    cases cy with
    | tup j =>
      obtain ⟨a1, x1, rfl, r1, p1, z1⟩ := see_tup o zx hx
      obtain ⟨a2, x2, rfl, r2, p2, z2⟩ := see_tup o zy hy
      obtain ⟨q1, q2⟩ := szOk_e h
      refine .inr (.inr (.inr ⟨a1, a2, x1, x2, rfl, rfl, .inl (.inl p1), .inl (.inl p2), by rw [z1.length, z2.length]; exact q1, fun q => ?_, fun q1 q2' => ?_, fun q1 q2' p hp => ?_⟩))
      · subst q
        cases z1
        exact k _ _ w q2 (.refl o) (Dp.tup r2 z2)
      · subst q2'
        cases z2
        refine k _ _ w q2 (.refl o) ?_
        rw [List.append_nil]
        exact Dp.tup r1 z1
      · obtain ⟨g2, w2⟩ := tup_ok (Gr.refl o) hp (z1.append z2)
        exact k _ _ _ q2 g2 w2
    | _ => exact h.elim
  | _ => cases cy <;> exact h.elim
/-- an operation of two ints -/
theorem op_ints {fn : Value → Value → Sem Value} {r : R2} {C : Int → Int → Prop} {g : Int → Int → D} {go : OpD} (hr : OpR X fn r) (hgo : ∀ M x y Q, go M x y Q → ∃ i j, view M x = .int i ∧ view M y = .int j ∧ C i j ∧ Q (.val (g i j)))
    (hg : ∀ i j, C i j → ∀ (H : Hp) (Q : VK), (∀ v, (∀ K Cc P, Dp K Cc P v (g i j)) → Q v H) → r (.int i) (.int j) H Q) : OpL X fn go := by
  refine ⟨r, hr, fun w x y dx dy Qd Q o zx zy h k => ?_⟩
  obtain ⟨i, j, hx, hy, hC, q⟩ := hgo _ _ _ _ h
  cases see_int o zx hx
  cases see_int o zy hy
  exact hg i j hC w.H Q fun v hv => k _ v w q (.refl o) (hv _ _ _)
theorem op_subL : OpL X (binaryOp .Sub) subD := op_ints (C := fun _ _ => True) (g := fun i j => .int (i - j)) op_sub (fun M x y Q h => by
  unfold subD at h
  generalize hx : view M x = cx at h
  generalize hy : view M y = cy at h
  cases cx <;> cases cy <;> first | exact h.elim | exact ⟨_, _, rfl, rfl, trivial, h⟩) fun i j _ H Q q => ⟨i, j, rfl, rfl, q _ fun _ _ _ => .int _⟩
theorem op_fdivL : OpL X (binaryOp .FloorDiv) fdivD := op_ints (C := CDivW) (g := fun i j => .int (i / j)) op_fdivW (fun M x y Q h => by
  unfold fdivD at h
  generalize hx : view M x = cx at h
  generalize hy : view M y = cy at h
  cases cx <;> cases cy <;> first | exact h.elim | exact ⟨_, _, rfl, rfl, h.1, h.2⟩) fun i j c H Q q => ⟨i, j, rfl, rfl, c, q _ fun _ _ _ => .int _⟩
theorem op_modL : OpL X (binaryOp .Mod) modD := op_ints (C := fun _ j => 0 < j) (g := fun i j => .int (i % j)) op_mod (fun M x y Q h => by
  unfold modD at h
  generalize hx : view M x = cx at h
  generalize hy : view M y = cy at h
  cases cx <;> cases cy <;> first | exact h.elim | exact ⟨_, _, rfl, rfl, h.1, h.2⟩) fun i j c H Q q => ⟨i, j, rfl, rfl, c, q _ fun _ _ _ => .int _⟩
theorem op_powL : OpL X (binaryOp .Pow) powD := op_ints (C := CPow) (g := fun i j => .int (i ^ j.toNat)) op_pow (fun M x y Q h => by
  unfold powD at h
  generalize hx : view M x = cx at h
  generalize hy : view M y = cy at h
  cases cx <;> cases cy <;> first | exact h.elim | exact ⟨_, _, rfl, rfl, h.1, h.2⟩) fun i j c H Q q => ⟨i, j, rfl, rfl, c, q _ fun _ _ _ => .int _⟩
theorem op_shlL : OpL X (binaryOp .LShift) shlD := op_ints (C := CPow) (g := fun i j => .int (i * 2 ^ j.toNat)) op_shl (fun M x y Q h => by
  unfold shlD at h
  generalize hx : view M x = cx at h
  generalize hy : view M y = cy at h
  cases cx <;> cases cy <;> first | exact h.elim | exact ⟨_, _, rfl, rfl, h.1, h.2⟩) fun i j c H Q q => ⟨i, j, rfl, rfl, c, q _ fun _ _ _ => .int _⟩
theorem op_mulL : OpL X (binaryOp .Mult) mulD := by
  refine ⟨_, op_mul.or (op_mulW.or op_rep), fun w x y dx dy Qd Q o zx zy h k => ?_⟩
  unfold mulD at h
  generalize hx : view w.M dx = cx at h
  generalize hy : view w.M dy = cy at h
  cases cx with
  | int i =>
    cases cy with
    | int j =>
      cases see_int o zx hx; cases see_int o zy hy
      rcases h with ⟨h1 | h1, h2⟩
      · exact .inl ⟨i, j, rfl, rfl, h1, k _ _ w h2 (.refl o) (.int _)⟩
      · exact .inr (.inl ⟨i, j, rfl, rfl, h1, k _ _ w h2 (.refl o) (.int _)⟩)
    | _ => exact h.elim
  | lst i =>
    cases cy with
    | int j =>
      cases see_int o zy hy
      obtain ⟨a1, x1, rfl, p1, z1⟩ := see_lst o zx hx
      obtain ⟨⟨h1, h2, h3⟩, h4⟩ := h
      refine .inr (.inr ⟨a1, j, x1, rfl, rfl, p1, by omega, by omega, by rw [z1.length]; exact Nat.le_trans h3 (by decide), fun p hp => ?_⟩)
      obtain ⟨g2, w2⟩ := new_ok (Gr.refl o) hp (HoD.lst (z1.replicate j.toNat))
      exact k _ _ _ h4 g2 w2
    | _ => exact h.elim
  | _ => cases cy <;> exact h.elim
end

/-! ### == and != -/
def eqN : List Nat → List Nat → Bool
  | [], [] => true
  | a :: x, b :: y => match Nat.beq a b with
    | true => eqN x y
    | false => false
  | _, _ => false
theorem eqN_iff : ∀ a b : List Nat, eqN a b = decide (a = b)
  | [], [] => rfl
  | [], _ :: _ => rfl
  | _ :: _, [] => rfl
  | a :: x, b :: y => by
    rw [eqN]
    cases e : Nat.beq a b with
    | true =>
      have := Nat.eq_of_beq_eq_true e
      subst this
      show eqN x y = _
      rw [eqN_iff x y]
      simp
    | false =>
      have : a ≠ b := fun z => by subst z; rw [show Nat.beq a a = true from Nat.beq_refl a] at e; cases e
      show false = _
      simp [this]
theorem tx_eqN (a b : List Nat) : (tx a == tx b) = eqN a b := by
  rw [eqN_iff, Bool.eq_iff_iff, beq_iff_eq, decide_eq_true_eq]
  exact ⟨tx_inj, fun h => by rw [h]⟩
def eqAll (f : D → D → Bool) : List D → List D → Bool
  | [], [] => true
  | x :: xs, y :: ys => match f x y with
    | true => eqAll f xs ys
    | false => false
  | _, _ => false
def okAll (f : D → Bool) : List D → Bool
  | [] => true
  | x :: xs => match f x with
    | true => okAll f xs
    | false => false
def okF : Nat → Mem → D → Bool
  | 0, _, _ => false
  | n + 1, M, d => match view M d with
    | .non | .bl _ | .int _ | .str _ => true
    | .lst xs | .tup xs | .wtup xs => okAll (okF n M) xs
    | _ => false
def eqF : Nat → Mem → D → D → Bool
  | 0, _, _, _ => false
  | n + 1, M, x, y => match view M x, view M y with
    | .non, .non => true
    | .bl a, .bl b => a == b
    | .bl a, .int b => (if a then 1 else 0) == b
    | .int a, .bl b => a == (if b then 1 else 0)
    | .int a, .int b => a == b
    | .str a, .str b => eqN a b
    | .lst a, .lst b => eqAll (eqF n M) a b
    | .tup a, .tup b => eqAll (eqF n M) a b
    | .wtup a, .tup b => eqAll (eqF n M) a b
    | .tup a, .wtup b => eqAll (eqF n M) a b
    | .wtup a, .wtup b => eqAll (eqF n M) a b
    | _, _ => false
def pyAll (f : D → PyData) : List D → List PyData
  | [] => []
  | x :: xs => f x :: pyAll f xs
def pyF : Nat → Mem → D → PyData
  | 0, _, _ => .none
  | n + 1, M, d => match view M d with
    | .bl b => .bool b
    | .int i => .int i
    | .str x => .str (tx x)
    | .lst xs => .list (pyAll (pyF n M) xs)
    | .tup xs | .wtup xs => .tuple (pyAll (pyF n M) xs)
    | _ => .none
theorem eqAll_py {f : D → D → Bool} {g : D → PyData} {ok : D → Bool} (h : ∀ x y, ok x = true → ok y = true → f x y = PyData.eqv (g x) (g y)) : ∀ xs ys : List D, okAll ok xs = true → okAll ok ys = true → eqAll f xs ys = PyData.eqvAll (pyAll g xs) (pyAll g ys)
  | [], [], _, _ => by rw [pyAll, PyData.eqvAll]; rfl
  | [], y :: ys, _, _ => by rw [pyAll, pyAll, PyData.eqvAll]; rfl
  | x :: xs, [], _, _ => by rw [pyAll, pyAll, PyData.eqvAll]; rfl
  | x :: xs, y :: ys, hx, hy => by
    rw [okAll] at hx hy
    cases ex : ok x with
    | false => rw [ex] at hx; cases hx
    | true =>
      cases ey : ok y with
      | false => rw [ey] at hy; cases hy
      | true =>
        rw [ex] at hx
        rw [ey] at hy
        rw [pyAll, pyAll, PyData.eqvAll, ← h x y ex ey, ← eqAll_py h xs ys hx hy, eqAll]
        cases f x y <;> rfl
theorem eqF_py : ∀ (n : Nat) (M : Mem) (x y : D), okF n M x = true → okF n M y = true → eqF n M x y = PyData.eqv (pyF n M x) (pyF n M y)
  | 0, _, _, _, h, _ => by cases h
  | n + 1, M, x, y, hx, hy => by
    have ih := fun x y => eqF_py n M x y
    unfold okF at hx hy
    unfold eqF pyF
    generalize view M x = cx at hx ⊢
    generalize view M y = cy at hy ⊢
    cases cx <;> first | (cases hx; done) | skip
    all_goals (cases cy <;> first | (cases hy; done) | skip)
    all_goals first
      | (dsimp only; rw [PyData.eqv]; done)
      | (dsimp only; rw [PyData.eqv, tx_eqN]; done)
      | (dsimp only; rw [PyData.eqv]; exact eqAll_py ih _ _ hx hy)
theorem okAll_dp {K : PySem.W.Frag} {C : List Addr} {P H : Hp} {ok : D → Bool} {g : D → PyData} {n : Nat} (h : ∀ v d, Dp K C P v d → ok d = true → L2.Dp K H v (g d) ∧ (g d).canLay0 = true ∧ (g d).depth ≤ n) : ∀ {vs : List V} {ds : List D}, DpA K C P vs ds → okAll ok ds = true → L2.DpAll K H vs (pyAll g ds) ∧ PyData.canLayAll0 (pyAll g ds) = true ∧ PyData.depthAll (pyAll g ds) ≤ n
  | _, _, .nil, _ => ⟨.nil, by rw [pyAll, PyData.canLayAll0], by rw [pyAll, PyData.depthAll]; exact Nat.zero_le _⟩
  | _, _, .cons (v := v) (d := d) z t, hq => by
    rw [okAll] at hq
    cases e : ok d with
    | false => rw [e] at hq; cases hq
    | true =>
      rw [e] at hq
      obtain ⟨h1, h2, h3⟩ := h v d z e
      obtain ⟨k1, k2, k3⟩ := okAll_dp h t hq
      refine ⟨.cons h1 k1, by rw [pyAll, PyData.canLayAll0, h2, k2]; rfl, ?_⟩
      rw [pyAll, PyData.depthAll]
      omega
theorem okF_dp {G : Gx} {w : Wd} (o : WOk G w) : ∀ (n : Nat) (v : V) (d : D), Dp G.K w.C w.P v d → okF n w.M d = true → L2.Dp G.K w.H v (pyF n w.M d) ∧ (pyF n w.M d).canLay0 = true ∧ (pyF n w.M d).depth ≤ n
  | 0, _, _, _, h => by cases h
  | n + 1, v, d, z, h => by
    have ih := fun v d => okF_dp o n v d
    unfold okF at h
    unfold pyF
    generalize hd : view w.M d = c at h ⊢
    cases c with
    | non => cases see_non o z hd; exact ⟨.non, by rw [PyData.canLay0], by rw [PyData.depth]; omega⟩
    | bl b => cases see_bl o z hd; exact ⟨.bl b, by rw [PyData.canLay0], by rw [PyData.depth]; omega⟩
    | int b => cases see_int o z hd; exact ⟨.int b, by rw [PyData.canLay0], by rw [PyData.depth]; omega⟩
    | str b =>
      obtain ⟨rfl, hv⟩ := see_str o z hd
      refine ⟨.str (tx b), ?_, by rw [PyData.depth]; omega⟩
      rw [PyData.canLay0]
      show (tx b).cps.all _ = true
      rw [Array.all_eq_true']
      intro c hc
      have : c ∈ (tx b).cps.toList := by simpa using hc
      rw [tx_cps] at this
      exact decide_eq_true (hv c this)
    | lst xs =>
      obtain ⟨a, vs, rfl, p, za⟩ := see_lst o z hd
      obtain ⟨k1, k2, k3⟩ := okAll_dp ih za h
      exact ⟨.lst (.inl (.inl p)) k1, by rw [PyData.canLay0]; exact k2, by rw [PyData.depth]; omega⟩
    | tup xs =>
      obtain ⟨a, vs, rfl, _, p, za⟩ := see_tup o z hd
      obtain ⟨k1, k2, k3⟩ := okAll_dp ih za h
      exact ⟨.tup (.inl (.inl p)) k1, by rw [PyData.canLay0]; exact k2, by rw [PyData.depth]; omega⟩
    | wtup xs =>
      obtain ⟨a, vs, rfl, p, za⟩ := (see_wtup o z hd).2
      obtain ⟨k1, k2, k3⟩ := okAll_dp ih za h
      exact ⟨.tup (p w.H) k1, by rw [PyData.canLay0]; exact k2, by rw [PyData.depth]; omega⟩
    | _ => cases h
def okQ (b : Bool) (q : Prop) : Prop := match b with
  | true => q
  | false => False
theorem okQ_e {b : Bool} {q : Prop} (h : okQ b q) : b = true ∧ q := by
  cases b with
  | true => exact ⟨rfl, h⟩
  | false => exact h.elim
theorem okQ_i {b : Bool} {q : Prop} (h : b = true) (k : q) : okQ b q := by subst h; exact k
def eqB : OpD := fun M x y Q => okQ (okF 60 M x) (okQ (okF 60 M y) (Q (.val (.bl (eqF 60 M x y)))))
def neB : OpD := fun M x y Q => okQ (okF 60 M x) (okQ (okF 60 M y) (Q (.val (.bl (!eqF 60 M x y)))))
theorem okF_shaped {G : Gx} {w : Wd} (o : WOk G w) {v : V} {d : D} (z : Dp G.K w.C w.P v d) (h : okF 60 w.M d = true) : L2.Dp G.K w.H v (pyF 60 w.M d) ∧ SeqAt.shaped (pyF 60 w.M d) = true := by
  obtain ⟨h1, h2, h3⟩ := okF_dp o 60 v d z h
  refine ⟨h1, ?_⟩
  unfold SeqAt.shaped
  rw [h2, decide_eq_true (show (pyF 60 w.M d).depth ≤ 64 by omega)]
  rfl
section
variable {X : Cx} {k : Nat}
theorem op_eqH (hr : Room k X.A) : OpL X (compareOp .Eq) eqB := by
  refine ⟨_, op_eqD (by have := hr.un; omega), fun w x y dx dy Qd Q o zx zy h kk => ?_⟩
  obtain ⟨h1, h⟩ := okQ_e h
  obtain ⟨h2, h⟩ := okQ_e h
  obtain ⟨a1, a2⟩ := okF_shaped o zx h1
  obtain ⟨b1, b2⟩ := okF_shaped o zy h2
  refine ⟨_, _, a1, b1, a2, b2, ?_⟩
  rw [← eqF_py 60 w.M dx dy h1 h2]
  exact kk _ _ w h (.refl o) (.bl _)
theorem op_neH (hr : Room k X.A) : OpL X (compareOp .NotEq) neB := by
  refine ⟨_, op_neD (by have := hr.un; omega), fun w x y dx dy Qd Q o zx zy h kk => ?_⟩
  obtain ⟨h1, h⟩ := okQ_e h
  obtain ⟨h2, h⟩ := okQ_e h
  obtain ⟨a1, a2⟩ := okF_shaped o zx h1
  obtain ⟨b1, b2⟩ := okF_shaped o zy h2
  refine ⟨_, _, a1, b1, a2, b2, ?_⟩
  rw [← eqF_py 60 w.M dx dy h1 h2]
  exact kk _ _ w h (.refl o) (.bl _)
end

/-! ### order -/
def ltB : OpD := fun M x y Q => match view M x, view M y with
  | .int i, .int j => Q (.val (.bl (decide (i < j))))
  | .str i, .str j => Q (.val (.bl (decide (i < j))))
  | _, _ => False
def leB : OpD := fun M x y Q => match view M x, view M y with
  | .int i, .int j => Q (.val (.bl (decide (i ≤ j))))
  | _, _ => False
def gtB : OpD := fun M x y Q => match view M x, view M y with
  | .int i, .int j => Q (.val (.bl (decide (j < i))))
  | _, _ => False
def geB : OpD := fun M x y Q => match view M x, view M y with
  | .int i, .int j => Q (.val (.bl (decide (j ≤ i))))
  | _, _ => False
section
variable {X : Cx}
theorem op_ltL : OpL X (compareOp .Lt) ltB := by
  refine ⟨_, op_lt.or op_lt_str, fun w x y dx dy Qd Q o zx zy h k => ?_⟩
  unfold ltB at h
  generalize hx : view w.M dx = cx at h
  generalize hy : view w.M dy = cy at h
  cases cx with
  | int i =>
    cases cy with
    | int j => cases see_int o zx hx; cases see_int o zy hy; exact .inl ⟨i, j, rfl, rfl, k _ _ w h (.refl o) (.bl _)⟩
    | _ => exact h.elim
  | str i =>
    cases cy with
    | str j =>
      obtain ⟨rfl, _⟩ := see_str o zx hx
      obtain ⟨rfl, _⟩ := see_str o zy hy
      refine .inr ⟨_, _, rfl, rfl, ?_⟩
      have e : decide ((tx i).cps.toList < (tx j).cps.toList) = decide (i < j) := by rw [tx_cps, tx_cps]
      rw [e]
      exact k _ _ w h (.refl o) (.bl _)
    | _ => exact h.elim
  | _ => cases cy <;> exact h.elim
theorem op_leL : OpL X (compareOp .LtE) leB := op_ints (C := fun _ _ => True) (g := fun i j => .bl (decide (i ≤ j))) op_le (fun M x y Q h => by
  unfold leB at h
  generalize hx : view M x = cx at h
  generalize hy : view M y = cy at h
  cases cx <;> cases cy <;> first | exact h.elim | exact ⟨_, _, rfl, rfl, trivial, h⟩) fun i j _ H Q q => ⟨i, j, rfl, rfl, q _ fun _ _ _ => .bl _⟩
theorem op_gtL : OpL X (compareOp .Gt) gtB := op_ints (C := fun _ _ => True) (g := fun i j => .bl (decide (j < i))) op_gt (fun M x y Q h => by
  unfold gtB at h
  generalize hx : view M x = cx at h
  generalize hy : view M y = cy at h
  cases cx <;> cases cy <;> first | exact h.elim | exact ⟨_, _, rfl, rfl, trivial, h⟩) fun i j _ H Q q => ⟨i, j, rfl, rfl, q _ fun _ _ _ => .bl _⟩
theorem op_geL : OpL X (compareOp .GtE) geB := op_ints (C := fun _ _ => True) (g := fun i j => .bl (decide (j ≤ i))) op_ge (fun M x y Q h => by
  unfold geB at h
  generalize hx : view M x = cx at h
  generalize hy : view M y = cy at h
  cases cx <;> cases cy <;> first | exact h.elim | exact ⟨_, _, rfl, rfl, trivial, h⟩) fun i j _ H Q q => ⟨i, j, rfl, rfl, q _ fun _ _ _ => .bl _⟩
end

/-! ### is None -/
def isNon : D → Bool
  | .non => true
  | _ => false
def isB : OpD := fun _ x y Q => match y with
  | .non => Q (.val (.bl (isNon x)))
  | _ => False
def isntB : OpD := fun _ x y Q => match y with
  | .non => Q (.val (.bl (!isNon x)))
  | _ => False
theorem isNon_V {K : PySem.W.Frag} {C : List Addr} {P : Hp} {v : V} {d : D} (h : Dp K C P v d) : decide (v = .non) = isNon d := by
  cases h with
  | con _ h2 => cases h2 <;> exact decide_eq_false (fun z => by cases z)
  | non => rfl
  | _ => exact decide_eq_false (fun z => by cases z)
theorem op_isL {X : Cx} : OpL X (compareOp .Is) isB := by
  refine ⟨_, op_isN, fun w x y dx dy Qd Q o zx zy h k => ?_⟩
  cases dy with
  | non =>
    cases zy.non'
    refine ⟨rfl, ?_⟩
    rw [isNon_V zx]
    exact k _ _ w h (.refl o) (.bl _)
  | _ => exact h.elim
theorem op_isntL {X : Cx} : OpL X (compareOp .IsNot) isntB := by
  refine ⟨_, op_notN, fun w x y dx dy Qd Q o zx zy h k => ?_⟩
  cases dy with
  | non =>
    cases zy.non'
    refine ⟨rfl, ?_⟩
    rw [isNon_V zx]
    exact k _ _ w h (.refl o) (.bl _)
  | _ => exact h.elim
end HI

namespace HI
open PySem L2

/-! ### keys of dicts -/
def kEq1 : D → D → Bool
  | .int a, .int b => a == b
  | .str a, .str b => eqN a b
  | _, _ => false
def kEqs : List D → List D → Bool
  | [], [] => true
  | x :: xs, y :: ys => match kEq1 x y with
    | true => kEqs xs ys
    | false => false
  | _, _ => false
def kEq : D → D → Bool
  | .tup a, .tup b => kEqs a b
  | x, y => kEq1 x y
def look : List (D × D) → D → Option D
  | [], _ => none
  | (k', v) :: r, k => match kEq k' k with
    | true => some v
    | false => look r k
def hasK : List (D × D) → D → Bool
  | [], _ => false
  | (k', _) :: r, k => match kEq k' k with
    | true => true
    | false => hasK r k
def updD : List (D × D) → D → D → List (D × D)
  | [], _, _ => []
  | (k', v') :: r, k, v => match kEq k' k with
    | true => (k', v) :: updD r k v
    | false => (k', v') :: updD r k v
def putD (kvs : List (D × D)) (k v : D) : List (D × D) := match hasK kvs k with
  | true => updD kvs k v
  | false => kvs ++ [(k, v)]
def dropD : List (D × D) → D → List (D × D)
  | [], _ => []
  | (k', v') :: r, k => match kEq k' k with
    | true => dropD r k
    | false => (k', v') :: dropD r k
/-- a key of a dict of that kind -/
def isKey (t : Bool) (d : D) : Bool := match t with
  | false => match d with
    | .int _ | .str _ => true
    | _ => false
  | true => match d with
    | .tup xs => allK xs
    | _ => false
where allK : List D → Bool
  | [] => true
  | .int _ :: r => allK r
  | .str _ :: r => allK r
  | _ => false
theorem keyD_some {d : D} (h : isKey false d = true) : ∃ k, keyD d = some k := by
  cases d <;> first | exact ⟨_, rfl⟩ | cases h
theorem keysD_some : ∀ {xs : List D}, isKey.allK xs = true → ∃ ks, keysD xs = some ks
  | [], _ => ⟨[], rfl⟩
  | .int i :: r, h => by
    obtain ⟨ks, e⟩ := keysD_some (xs := r) h
    refine ⟨.inl i :: ks, ?_⟩
    rw [keysD, e]
    rfl
  | .str i :: r, h => by
    obtain ⟨ks, e⟩ := keysD_some (xs := r) h
    refine ⟨.inr (tx i) :: ks, ?_⟩
    rw [keysD, e]
    rfl
  | .non :: _, h => by cases h
  | .bl _ :: _, h => by cases h
  | .tup _ :: _, h => by cases h
  | .wtup _ :: _, h => by cases h
  | .lst _ :: _, h => by cases h
  | .dct _ _ :: _, h => by cases h
  | .obj _ _ :: _, h => by cases h
  | .cell _ :: _, h => by cases h
  | .bag _ :: _, h => by cases h
  | .lck _ :: _, h => by cases h
theorem tkD_some {d : D} (h : isKey true d = true) : ∃ k, tkD d = some k := by
  cases d with
  | tup xs => exact keysD_some h
  | _ => cases h
theorem kEq1_key {x y : D} {k l : Key} (hx : keyD x = some k) (hy : keyD y = some l) : kEq1 x y = decide (k = l) := by
  cases x <;> first | (cases hx; done) | skip
  all_goals (cases y <;> first | (cases hy; done) | skip)
  all_goals (cases hx; cases hy)
  · rw [key_ll]; rfl
  · rfl
  · rfl
  · rename_i a b
    show eqN a b = _
    rw [key_rr, ← tx_eqN, Bool.eq_iff_iff, beq_iff_eq, decide_eq_true_eq]
theorem keysD_cons {x : D} {xs : List D} {ks : List Key} (h : keysD (x :: xs) = some ks) : ∃ k r, keyD x = some k ∧ keysD xs = some r ∧ ks = k :: r := by
  rw [keysD] at h
  cases e1 : keyD x with
  | none => rw [e1] at h; cases h
  | some k =>
    cases e2 : keysD xs with
    | none => rw [e1, e2] at h; cases h
    | some r => rw [e1, e2] at h; cases h; exact ⟨k, r, rfl, rfl, rfl⟩
theorem kEqs_key : ∀ {xs ys : List D} {k l : List Key}, keysD xs = some k → keysD ys = some l → kEqs xs ys = decide (k = l)
  | [], [], _, _, h1, h2 => by cases h1; cases h2; rfl
  | [], y :: ys, _, _, h1, h2 => by
    cases h1
    obtain ⟨k, r, _, _, rfl⟩ := keysD_cons h2
    rfl
  | x :: xs, [], _, _, h1, h2 => by
    cases h2
    obtain ⟨k, r, _, _, rfl⟩ := keysD_cons h1
    rfl
  | x :: xs, y :: ys, _, _, h1, h2 => by
    obtain ⟨k, r, a1, a2, rfl⟩ := keysD_cons h1
    obtain ⟨l, q, b1, b2, rfl⟩ := keysD_cons h2
    rw [kEqs, kEq1_key a1 b1, kEqs_key a2 b2]
    by_cases e : k = l
    · subst e; simp
    · simp [e]
theorem kEq_key {x y : D} {k l : Key} (hx : keyD x = some k) (hy : keyD y = some l) : kEq x y = decide (k = l) := by
  rw [← kEq1_key hx hy]
  cases x <;> first | (cases hx; done) | rfl
theorem kEq_tk {x y : D} {k l : List Key} (hx : tkD x = some k) (hy : tkD y = some l) : kEq x y = decide (k = l) := by
  cases x <;> first | (cases hx; done) | skip
  cases y <;> first | (cases hy; done) | skip
  exact kEqs_key hx hy
section
variable {K : PySem.W.Frag} {C : List Addr} {P : Hp}
theorem keyD_V {v : V} {d : D} {k : Key} (h : Dp K C P v d) (e : keyD d = some k) : v = kV k := by
  cases d <;> first | (cases e; done) | skip
  · cases e; exact h.int'
  · cases e; exact h.str'.1
theorem keysD_V : ∀ {vs : List V} {ds : List D} {ks : List Key}, DpA K C P vs ds → keysD ds = some ks → vs = ks.map kV
  | _, _, _, .nil, e => by
    rw [keysD] at e
    cases e
    rfl
  | _, _, ks, .cons h t, e => by
    obtain ⟨k, r, e1, e2, rfl⟩ := keysD_cons e
    rw [keyD_V h e1, keysD_V t e2]
    rfl
theorem Dp.vK1 {v : V} {d : D} (h : Dp K C P v d) : vK1 d := by
  cases d <;> first | exact h.str'.2 | trivial
theorem Dp.vK {v : V} {d : D} (h : Dp K C P v d) : vK d := by
  cases d with
  | str cs => exact h.str'.2
  | tup xs =>
    obtain ⟨a, vs, _, _, z⟩ := h.tup'
    intro x hx
    obtain ⟨i, hi⟩ := List.mem_iff_getElem?.mp hx
    obtain ⟨v, _, q⟩ := z.get hi
    exact q.vK1
  | _ => trivial
/-- a key shows itself -/
theorem key_dp {d : D} {k : Key} (e : keyD d = some k) (h : vK1 d) : Dp K C P (kV k) d := by
  cases d <;> first | (cases e; done) | skip
  · cases e; exact .int _
  · cases e; exact .str _ h
theorem keys_dp : ∀ {ds : List D} {ks : List Key}, keysD ds = some ks → (∀ x ∈ ds, HI.vK1 x) → DpA K C P (ks.map kV) ds
  | [], _, e, _ => by cases e; exact .nil
  | d :: ds, _, e, h => by
    obtain ⟨k, r, e1, e2, rfl⟩ := keysD_cons e
    exact .cons (key_dp e1 (h d List.mem_cons_self)) (keys_dp e2 fun x hx => h x (List.mem_cons_of_mem _ hx))
end
section
variable {κ : Type} [DecidableEq κ] {F : D → Option κ} {K : PySem.W.Frag} {C : List Addr} {P : Hp}
theorem look_rel (hF : ∀ x y k l, F x = some k → F y = some l → kEq x y = decide (k = l)) {d : D} {k : κ} (hd : F d = some k) : ∀ {kvs : List (κ × V)} {kds : List (D × D)}, kds.map (fun p => F p.1) = kvs.map (fun q => some q.1) → DpA K C P (kvs.map (·.2)) (kds.map (·.2)) →
    (valV kvs k = none ∧ look kds d = none) ∨ ∃ v e, valV kvs k = some v ∧ look kds d = some e ∧ Dp K C P v e
  | [], [], _, _ => .inl ⟨rfl, rfl⟩
  | [], _ :: _, h, _ => by cases h
  | _ :: _, [], h, _ => by cases h
  | (k', v) :: kvs, (d', e) :: kds, h, z => by
    rw [List.map_cons, List.map_cons] at h
    injection h with h1 h2
    cases z with
    | cons z1 z2 =>
      have e1 : kEq d' d = decide (k' = k) := hF d' d k' k h1 hd
      unfold valV
      rw [List.find?_cons, look, e1]
      by_cases q : k' = k
      · subst q
        exact .inr ⟨v, e, by simp, by simp, z1⟩
      · have ih := look_rel hF hd h2 z2
        unfold valV at ih
        simpa [q] using ih
theorem has_rel (hF : ∀ x y k l, F x = some k → F y = some l → kEq x y = decide (k = l)) {d : D} {k : κ} (hd : F d = some k) : ∀ {kvs : List (κ × V)} {kds : List (D × D)}, kds.map (fun p => F p.1) = kvs.map (fun q => some q.1) → hasK kds d = kvs.any fun kv => decide (kv.1 = k)
  | [], [], _ => rfl
  | [], _ :: _, h => by cases h
  | _ :: _, [], h => by cases h
  | (k', v) :: kvs, (d', e) :: kds, h => by
    rw [List.map_cons, List.map_cons] at h
    injection h with h1 h2
    rw [hasK, hF d' d k' k h1 hd, List.any_cons, has_rel hF hd h2]
    cases decide (k' = k) <;> rfl
theorem upd_rel (hF : ∀ x y k l, F x = some k → F y = some l → kEq x y = decide (k = l)) {d e : D} {k : κ} {v : V} (hd : F d = some k) (hv : Dp K C P v e) : ∀ {kvs : List (κ × V)} {kds : List (D × D)}, kds.map (fun p => F p.1) = kvs.map (fun q => some q.1) → DpA K C P (kvs.map (·.2)) (kds.map (·.2)) →
    (updD kds d e).map (fun p => F p.1) = (kvs.map fun kv => if kv.1 = k then (kv.1, v) else kv).map (fun q => some q.1) ∧ DpA K C P ((kvs.map fun kv => if kv.1 = k then (kv.1, v) else kv).map (·.2)) ((updD kds d e).map (·.2))
  | [], [], _, _ => ⟨rfl, .nil⟩
  | [], _ :: _, h, _ => by cases h
  | _ :: _, [], h, _ => by cases h
  | (k', v') :: kvs, (d', e') :: kds, h, z => by
    rw [List.map_cons, List.map_cons] at h
    injection h with h1 h2
    cases z with
    | cons z1 z2 =>
      obtain ⟨a1, a2⟩ := upd_rel hF hd hv h2 z2
      rw [updD, hF d' d k' k h1 hd]
      by_cases q : k' = k
      · subst q
        simp only [decide_true, List.map_cons, if_true]
        exact ⟨by rw [a1, h1], .cons hv a2⟩
      · simp only [decide_eq_false q, List.map_cons, if_neg q]
        exact ⟨by rw [a1, h1], .cons z1 a2⟩
theorem upd_mem {d e : D} : ∀ {kds : List (D × D)} {p : D × D}, p ∈ updD kds d e → ∃ q ∈ kds, q.1 = p.1
  | [], _, h => by cases h
  | (d', e') :: kds, p, h => by
    rw [updD] at h
    cases q : kEq d' d with
    | true =>
      rw [q] at h
      rcases List.mem_cons.mp h with h | h
      · subst h; exact ⟨(d', e'), List.mem_cons_self, rfl⟩
      · obtain ⟨q, h1, h2⟩ := upd_mem h
        exact ⟨q, List.mem_cons_of_mem _ h1, h2⟩
    | false =>
      rw [q] at h
      rcases List.mem_cons.mp h with h | h
      · subst h; exact ⟨(d', e'), List.mem_cons_self, rfl⟩
      · obtain ⟨q, h1, h2⟩ := upd_mem h
        exact ⟨q, List.mem_cons_of_mem _ h1, h2⟩
theorem put_rel (hF : ∀ x y k l, F x = some k → F y = some l → kEq x y = decide (k = l)) {d e : D} {k : κ} {v : V} (hd : F d = some k) (hv : Dp K C P v e) {kvs : List (κ × V)} {kds : List (D × D)} (h : kds.map (fun p => F p.1) = kvs.map (fun q => some q.1)) (z : DpA K C P (kvs.map (·.2)) (kds.map (·.2))) :
    (putD kds d e).map (fun p => F p.1) = (putK kvs k v).map (fun q => some q.1) ∧ DpA K C P ((putK kvs k v).map (·.2)) ((putD kds d e).map (·.2)) := by
  unfold putD putK
  rw [has_rel hF hd h]
  cases q : kvs.any fun kv => decide (kv.1 = k) with
  | true => rw [if_pos rfl]; exact upd_rel hF hd hv h z
  | false =>
    rw [if_neg (by decide)]
    dsimp only
    rw [List.map_append, List.map_append, List.map_append, List.map_append, h]
    refine ⟨?_, z.append (.one hv)⟩
    simp [hd]
theorem put_mem {d e : D} {kds : List (D × D)} {p : D × D} (h : p ∈ putD kds d e) : (∃ q ∈ kds, q.1 = p.1) ∨ p.1 = d := by
  unfold putD at h
  cases q : hasK kds d with
  | true => rw [q] at h; exact .inl (upd_mem h)
  | false =>
    rw [q] at h
    rcases List.mem_append.mp h with h | h
    · exact .inl ⟨p, h, rfl⟩
    · rw [List.mem_singleton] at h; subst h; exact .inr rfl
theorem updD_len (d e : D) : ∀ kds : List (D × D), (updD kds d e).length = kds.length
  | [] => rfl
  | (d', e') :: kds => by
    rw [updD]
    cases kEq d' d <;> simp [updD_len d e kds]
end
end HI

namespace HI
open PySem PySem.Spec PyProof.Rows L2

/-! ### dicts, read -/
section
variable {G : Gx} {w : Wd}
/-- what a dict says of a key -/
theorem dget_of {v y : V} {d k : D} {t : Bool} {kds : List (D × D)} (o : WOk G w) (z : Dp G.K w.C w.P v d) (e : view w.M d = .dct t kds) (zy : Dp G.K w.C w.P y k) (hk : isKey t k = true) :
    ∃ a ov, v = .ref a ∧ DGet w.H a y ov ∧ ((ov = none ∧ look kds k = none) ∨ ∃ x e, ov = some x ∧ look kds k = some e ∧ Dp G.K w.C w.P x e) := by
  obtain ⟨a, ho, rfl, h1, h2⟩ := see_dct o z e
  generalize hu : unl ho = u at h2
  cases h2 with
  | dK hks hv hz =>
    obtain ⟨kk, ek⟩ := keyD_some hk
    have ey := keyD_V zy ek
    subst ey
    refine ⟨a, _, rfl, .inl ⟨_, kk, rd_unl h1 hu, rfl, rfl⟩, ?_⟩
    exact look_rel (F := keyD) (fun x y k l => kEq_key) ek hks hz
  | dT hks hv hz =>
    obtain ⟨kk, ek⟩ := tkD_some hk
    cases k with
    | tup xs =>
      obtain ⟨b, vs, rfl, hb, zb⟩ := zy.tup'
      have ev := keysD_V zb ek
      subst ev
      refine ⟨a, _, rfl, .inr ⟨_, kk, b, rd_unl h1 hu, rfl, o.ex.tup hb, rfl⟩, ?_⟩
      exact look_rel (F := tkD) (fun x y k l => kEq_tk) ek hks hz
    | _ => cases ek
end

/-! ### in -/
def inTx (x z : List Nat) : Bool := match x with
  | [c] => memN c z
  | _ => !(Builtin.Str.occurrences (tx z) (tx x) 0 (tx z).length 1).isEmpty
where memN (c : Nat) : List Nat → Bool
  | [] => false
  | a :: r => match Nat.beq a c with
    | true => true
    | false => memN c r
theorem memN_iff (c : Nat) : ∀ l : List Nat, inTx.memN c l = decide (c ∈ l)
  | [] => rfl
  | a :: r => by
    rw [inTx.memN, memN_iff c r]
    cases e : Nat.beq a c with
    | true => have := Nat.eq_of_beq_eq_true e; subst this; simp
    | false =>
      have : a ≠ c := fun z => by subst z; rw [show Nat.beq a a = true from Nat.beq_refl a] at e; cases e
      simp [Ne.symm this]
def anyF (n : Nat) (M : Mem) (x : D) : List D → Bool
  | [] => false
  | y :: r => match eqF n M y x with
    | true => true
    | false => anyF n M x r
def allScal : List D → Bool
  | [] => true
  | x :: xs => match x.scal with
    | true => allScal xs
    | false => false
theorem allScal_cons {x : D} {xs : List D} (h : allScal (x :: xs) = true) : x.scal = true ∧ allScal xs = true := by
  rw [allScal] at h
  cases e : x.scal with
  | true => rw [e] at h; exact ⟨rfl, h⟩
  | false => rw [e] at h; cases h
def xorB (neg b : Bool) : Bool := match neg with
  | true => !b
  | false => b
def inD (neg : Bool) : OpD := fun M x y Q => match view M y with
  | .str z => match x with
    | .str c => Q (.val (.bl (xorB neg (inTx c z))))
    | _ => False
  | .lst ys => okQ (okF 60 M x) (okQ (okAll (okF 59 M) ys) (Q (.val (.bl (xorB neg (anyF 60 M x ys))))))
  | .tup ys => okQ x.scal (okQ (allScal ys) (Q (.val (.bl (xorB neg (anyF 60 M x ys))))))
  | .wtup ys => okQ x.scal (okQ (allScal ys) (Q (.val (.bl (xorB neg (anyF 60 M x ys))))))
  | .dct t kds => okQ (isKey t x) (Q (.val (.bl (xorB neg (match look kds x with | some _ => true | none => false)))))
  | _ => False
theorem eqF_scal {K : PySem.W.Frag} {C : List Addr} {P : Hp} {M : Mem} {v w : V} {d e : D} (h : Dp K C P v d) (g : Dp K C P w e) (hd : d.scal = true) (he : e.scal = true) : eqV v w = eqF 60 M d e := by
  cases d <;> first | (cases hd; done) | skip
  all_goals (cases e <;> first | (cases he; done) | skip)
  all_goals first
    | (cases h.non'; cases g.non'; rfl; done)
    | (cases h.non'; cases g.bl'; rfl; done)
    | (cases h.non'; cases g.int'; rfl; done)
    | (cases h.non'; obtain ⟨rfl, _⟩ := g.str'; rfl; done)
    | (cases h.bl'; cases g.non'; rfl; done)
    | (cases h.bl'; cases g.bl'; rfl; done)
    | (cases h.bl'; cases g.int'; rfl; done)
    | (cases h.bl'; obtain ⟨rfl, _⟩ := g.str'; rfl; done)
    | (cases h.int'; cases g.non'; rfl; done)
    | (cases h.int'; cases g.bl'; rfl; done)
    | (cases h.int'; cases g.int'; rfl; done)
    | (cases h.int'; obtain ⟨rfl, _⟩ := g.str'; rfl; done)
    | (obtain ⟨rfl, _⟩ := h.str'; cases g.non'; rfl; done)
    | (obtain ⟨rfl, _⟩ := h.str'; cases g.bl'; rfl; done)
    | (obtain ⟨rfl, _⟩ := h.str'; cases g.int'; rfl; done)
    | (obtain ⟨rfl, _⟩ := h.str'; obtain ⟨rfl, _⟩ := g.str'; exact tx_eqN _ _)
theorem scal_flat {K : PySem.W.Frag} {C : List Addr} {P : Hp} {v : V} {d : D} (h : Dp K C P v d) (e : d.scal = true) : flatV v = true := by
  cases h <;> first | rfl | (cases e; done) | skip
  rename_i h; cases h <;> cases e
theorem flat_all {K : PySem.W.Frag} {C : List Addr} {P : Hp} : ∀ {vs : List V} {ds : List D}, DpA K C P vs ds → allScal ds = true → vs.all flatV = true
  | _, _, .nil, _ => rfl
  | _, _, .cons h t, q => by
    obtain ⟨q1, q2⟩ := allScal_cons q
    rw [List.all_cons, scal_flat h q1, flat_all t q2]
    rfl
theorem inV_any {K : PySem.W.Frag} {C : List Addr} {P : Hp} {M : Mem} {v : V} {d : D} (z : Dp K C P v d) (hd : d.scal = true) : ∀ {vs : List V} {ds : List D}, DpA K C P vs ds → allScal ds = true → inV v vs = anyF 60 M d ds
  | _, _, .nil, _ => rfl
  | _, _, .cons (d := e) h t, q => by
    have hq := allScal_cons q
    have ih := inV_any (M := M) z hd t hq.2
    unfold inV at ih ⊢
    rw [List.any_cons, ih, eqF_scal (M := M) h z hq.1 hd, anyF]
    cases eqF 60 M e d <;> rfl
theorem any_py {M : Mem} {x : D} (hx : okF 60 M x = true) : ∀ ys : List D, okAll (okF 59 M) ys = true → True := fun _ _ => trivial
section
variable {X : Cx} {k : Nat}
theorem op_inDc (hu : X.A.units + 1 < cLine) : OpR X (compareOp .In) (fun y x H Q => ∃ a ov, x = .ref a ∧ DGet H a y ov ∧ Q (.bl ov.isSome) H) := by
  intro pins s σ H y x v u Q I ry rx h
  obtain ⟨a, ov, rfl, g, q⟩ := h
  obtain rfl : u = Value.ref a := rx
  exact d_in hu I g ry fun s3 I3 => ⟨.bl ov.isSome, H, I3, rfl, q⟩
theorem op_notInDc (hu : X.A.units + 1 < cLine) : OpR X (compareOp .NotIn) (fun y x H Q => ∃ a ov, x = .ref a ∧ DGet H a y ov ∧ Q (.bl (!ov.isSome)) H) := by
  intro pins s σ H y x v u Q I ry rx h
  obtain ⟨a, ov, rfl, g, q⟩ := h
  obtain rfl : u = Value.ref a := rx
  exact d_notIn hu I g ry fun s3 I3 => ⟨.bl (!ov.isSome), H, I3, rfl, q⟩
theorem okF_le : ∀ (n : Nat) (M : Mem) (d : D), okF n M d = true → okF (n + 1) M d = true ∧ pyF (n + 1) M d = pyF n M d
  | 0, _, _, h => by cases h
  | n + 1, M, d, h => by
    have all : ∀ xs : List D, okAll (okF n M) xs = true → okAll (okF (n + 1) M) xs = true ∧ pyAll (pyF (n + 1) M) xs = pyAll (pyF n M) xs := by
      intro xs
      induction xs with
      | nil => intro _; exact ⟨rfl, rfl⟩
      | cons x r ih =>
        intro hx
        rw [okAll] at hx
        cases e : okF n M x with
        | false => rw [e] at hx; cases hx
        | true =>
          rw [e] at hx
          obtain ⟨a1, a2⟩ := okF_le n M x e
          obtain ⟨b1, b2⟩ := ih hx
          exact ⟨by rw [okAll, a1]; exact b1, by rw [pyAll, pyAll, a2, b2]⟩
    unfold okF at h
    rw [okF, pyF, pyF]
    generalize view M d = c at h ⊢
    cases c <;> first | (cases h; done) | exact ⟨rfl, rfl⟩ | (obtain ⟨a1, a2⟩ := all _ h; exact ⟨a1, by dsimp only; rw [a2]⟩)
theorem okAll_le {n : Nat} {M : Mem} : ∀ {xs : List D}, okAll (okF n M) xs = true → okAll (okF (n + 1) M) xs = true ∧ pyAll (pyF (n + 1) M) xs = pyAll (pyF n M) xs
  | [], _ => ⟨rfl, rfl⟩
  | x :: r, hx => by
    rw [okAll] at hx
    cases e : okF n M x with
    | false => rw [e] at hx; cases hx
    | true =>
      rw [e] at hx
      obtain ⟨a1, a2⟩ := okF_le n M x e
      obtain ⟨b1, b2⟩ := okAll_le hx
      exact ⟨by rw [okAll, a1]; exact b1, by rw [pyAll, pyAll, a2, b2]⟩
theorem any_eqv {M : Mem} {x : D} (hx : okF 60 M x = true) : ∀ ys : List D, okAll (okF 60 M) ys = true → ((pyAll (pyF 60 M) ys).any fun z => PyData.eqv z (pyF 60 M x)) = anyF 60 M x ys
  | [], _ => rfl
  | y :: r, h => by
    rw [okAll] at h
    cases e : okF 60 M y with
    | false => rw [e] at h; cases h
    | true =>
      rw [e] at h
      rw [pyAll, List.any_cons, any_eqv hx r h, ← eqF_py 60 M y x e hx, anyF]
      cases eqF 60 M y x <;> rfl
theorem in_run {neg : Bool} {r1 r2 r3 r4 r5 : R2} (h1 : ∀ x y H Q, (∃ c z, x = .str ⟨#[c]⟩ ∧ y = .str z ∧ Q (.bl (xorB neg (decide (c ∈ z.cps.toList)))) H) → r1 x y H Q) (h2 : ∀ x y H Q, (∃ i j : Str, x = .str i ∧ y = .str j ∧ Q (.bl (xorB neg (!(Builtin.Str.occurrences j i 0 j.length 1).isEmpty))) H) → r2 x y H Q)
    (h3 : ∀ x y H (Q : VK), (∃ p xs, y = .ref p ∧ (SqL X.K H p xs ∨ SqT X.K H p xs) ∧ flatV x = true ∧ xs.all flatV = true ∧ Q (.bl (xorB neg (inV x xs))) H) → r3 x y H Q)
    (h4 : ∀ x y H (Q : VK), (∃ d ds, L2.Dp X.K H x d ∧ L2.Dp X.K H y (.list ds) ∧ SeqAt.shaped d = true ∧ SeqAt.shaped (.list ds) = true ∧ Q (.bl (xorB neg (ds.any fun z => PyData.eqv z d))) H) → r4 x y H Q)
    (h5 : ∀ y x H (Q : VK), (∃ a ov, x = .ref a ∧ DGet H a y ov ∧ Q (.bl (xorB neg ov.isSome)) H) → r5 y x H Q) : OpW X (fun x y H Q => r1 x y H Q ∨ r2 x y H Q ∨ r3 x y H Q ∨ r4 x y H Q ∨ r5 x y H Q) (inD neg) := by
  intro w x y dx dy Qd Q o zx zy h k
  have big : ∀ c : Bool, Qd (.val (.bl c)) → Q (.bl c) w.H := fun c q => k _ _ w q (.refl o) (.bl c)
  unfold inD at h
  generalize hy : view w.M dy = cy at h
  cases cy with
  | str z =>
    cases dx with
    | str c =>
      obtain ⟨rfl, _⟩ := zx.str'
      obtain ⟨rfl, _⟩ := see_str o zy hy
      dsimp only at h
      by_cases hc : ∃ a, c = [a]
      · obtain ⟨a, rfl⟩ := hc
        refine .inl (h1 _ _ _ _ ⟨a, tx z, rfl, rfl, ?_⟩)
        have e : inTx [a] z = decide (a ∈ z) := memN_iff a z
        rw [tx_cps, ← e]
        exact big _ h
      · refine .inr (.inl (h2 _ _ _ _ ⟨tx c, tx z, rfl, rfl, ?_⟩))
        have e : inTx c z = !(Builtin.Str.occurrences (tx z) (tx c) 0 (tx z).length 1).isEmpty := by
          cases c with
          | nil => rfl
          | cons a r =>
            cases r with
            | nil => exact absurd ⟨a, rfl⟩ hc
            | cons b s => rfl
        rw [← e]
        exact big _ h
    | _ => exact h.elim
  | lst ys =>
    obtain ⟨q1, h⟩ := okQ_e h
    obtain ⟨q2, h⟩ := okQ_e h
    obtain ⟨a1, a2⟩ := okF_shaped o zx q1
    have q3 := okAll_le q2
    obtain ⟨a, vs, rfl, p, za⟩ := see_lst o zy hy
    obtain ⟨b1, b2, b3⟩ := okAll_dp (okF_dp o 59) za q2
    have q1' : okF 60 w.M dx = true := q1
    refine .inr (.inr (.inr (.inl (h4 _ _ _ _ ⟨_, pyAll (pyF 59 w.M) ys, a1, .lst (.inl (.inl p)) b1, a2, ?_, ?_⟩))))
    · unfold SeqAt.shaped
      rw [PyData.canLay0, b2, PyData.depth, decide_eq_true (by omega)]
      rfl
    · rw [← q3.2, any_eqv q1 ys q3.1]
      exact big _ h
  | tup ys =>
    obtain ⟨q1, h⟩ := okQ_e h
    obtain ⟨q2, h⟩ := okQ_e h
    obtain ⟨a, vs, rfl, _, p, za⟩ := see_tup o zy hy
    refine .inr (.inr (.inl (h3 _ _ _ _ ⟨a, vs, rfl, .inr (.inl (.inl p)), scal_flat zx q1, flat_all za q2, ?_⟩)))
    rw [inV_any (M := w.M) zx q1 za q2]
    exact big _ h
  | wtup ys =>
    obtain ⟨q1, h⟩ := okQ_e h
    obtain ⟨q2, h⟩ := okQ_e h
    obtain ⟨a, vs, rfl, p, za⟩ := (see_wtup o zy hy).2
    refine .inr (.inr (.inl (h3 _ _ _ _ ⟨a, vs, rfl, .inr (p w.H), scal_flat zx q1, flat_all za q2, ?_⟩)))
    rw [inV_any (M := w.M) zx q1 za q2]
    exact big _ h
  | dct t kds =>
    obtain ⟨q1, h⟩ := okQ_e h
    obtain ⟨a, ov, rfl, g, q⟩ := dget_of o zy hy zx q1
    refine .inr (.inr (.inr (.inr (h5 _ _ _ _ ⟨a, ov, rfl, g, ?_⟩))))
    rcases q with ⟨e1, e2⟩ | ⟨v, e, e1, e2, _⟩
    · rw [e1]
      rw [e2] at h
      exact big _ h
    · rw [e1]
      rw [e2] at h
      exact big _ h
  | _ => exact h.elim
theorem op_inH (hr : Room k X.A) : OpL X (compareOp .In) (inD false) := by
  have hu : X.A.units + 65 < cLine := by have := hr.un; omega
  exact ⟨_, op_in_sign.or (op_in_str.or (op_in_seq.or ((op_inD hu).or (op_inDc (by omega))))), in_run (fun _ _ _ _ h => h) (fun _ _ _ _ h => h) (fun _ _ _ _ h => h) (fun _ _ _ _ h => h) (fun _ _ _ _ h => h)⟩
theorem op_notInH (hr : Room k X.A) : OpL X (compareOp .NotIn) (inD true) := by
  have hu : X.A.units + 65 < cLine := by have := hr.un; omega
  exact ⟨_, op_notIn_sign.or (op_notin_str.or (op_notIn_seq.or ((op_notInD hu).or (op_notInDc (by omega))))), in_run (fun _ _ _ _ h => h) (fun _ _ _ _ h => h) (fun _ _ _ _ h => h) (fun _ _ _ _ h => h) (fun _ _ _ _ h => h)⟩
end
end HI

namespace HI
open PySem PySem.Spec PyProof.Rows L2

/-! ### subscripts -/
def nthI {α : Type} (xs : List α) : Int → Option α
  | .ofNat n => xs[n]?
  | .negSucc n => match Nat.ble (n + 1) xs.length with
    | true => xs[xs.length - (n + 1)]?
    | false => none
theorem nthI_at {α : Type} (xs : List α) (i : Int) : nthI xs i = atI xs i := by
  unfold nthI atI ixN
  cases i with
  | ofNat n =>
    dsimp only
    rw [if_pos (by exact Int.natCast_nonneg n)]
    by_cases h : n < xs.length
    · rw [if_pos (by show ((n : Nat) : Int) < _; omega)]
      rfl
    · rw [if_neg (by show ¬ ((n : Nat) : Int) < _; omega), List.getElem?_eq_none (by omega)]
      rfl
  | negSucc n =>
    dsimp only
    rw [if_neg (by omega)]
    cases e : Nat.ble (n + 1) xs.length with
    | true =>
      have := Nat.le_of_ble_eq_true e
      rw [if_pos (by omega)]
      dsimp only [Option.bind]
      rw [show (Int.negSucc n + (xs.length : Int)).toNat = xs.length - (n + 1) by omega]
    | false =>
      have : ¬ (n + 1 ≤ xs.length) := fun h => by rw [Nat.ble_eq_true_of_le h] at e; cases e
      rw [if_neg (by omega)]
      rfl
def someQ {α : Type} (o : Option α) (q : α → Prop) : Prop := match o with
  | some a => q a
  | none => False
theorem someQ_e {α : Type} {o : Option α} {q : α → Prop} (h : someQ o q) : ∃ a, o = some a ∧ q a := by
  cases o with
  | some a => exact ⟨a, rfl, h⟩
  | none => exact h.elim
theorem someQ_i {α : Type} {o : Option α} {a : α} {q : α → Prop} (h : o = some a) (k : q a) : someQ o q := by subst h; exact k
def ixD : OpD := fun M x y Q => match view M x with
  | .lst xs => match y with
    | .int i => someQ (nthI xs i) fun d => Q (.val d)
    | _ => False
  | .tup xs => match y with
    | .int i => someQ (nthI xs i) fun d => Q (.val d)
    | _ => False
  | .wtup xs => match y with
    | .int i => someQ (nthI xs i) fun d => Q (.val d)
    | _ => False
  | .str z => match y with
    | .int i => szOk z.length (someQ (nthI z i) fun c => Q (.val (.str [c])))
    | _ => False
  | .dct t kds => okQ (isKey t y) (someQ (look kds y) fun d => Q (.val d))
  | _ => False
theorem atI_D {K : PySem.W.Frag} {C : List Addr} {P : Hp} {vs : List V} {ds : List D} {i : Int} {d : D} (z : DpA K C P vs ds) (h : nthI ds i = some d) : ∃ v, atI vs i = some v ∧ Dp K C P v d := by
  rw [nthI_at] at h
  unfold atI at h ⊢
  rw [z.length]
  cases e : ixN ds.length i with
  | none => rw [e] at h; cases h
  | some j =>
    rw [e] at h
    exact z.get h
theorem atI_mem {α : Type} {xs : List α} {i : Int} {a : α} (h : nthI xs i = some a) : a ∈ xs := by
  rw [nthI_at] at h
  unfold atI at h
  cases e : ixN xs.length i with
  | none => rw [e] at h; cases h
  | some j => rw [e] at h; exact List.mem_of_getElem? h
section
variable {X : Cx} {rw : Bool} {e a b c : Expr} {es : List Expr} {fa fb fc f : EV} {fr : AV} {pos p p2 : Pos} {k : Nat} {ft fu : TV}
theorem ix_dict (hu : X.A.units + 1 < cLine) : IxR X (fun x y H Q => ∃ a v, x = .ref a ∧ DGet H a y (some v) ∧ Q v H) := by
  intro value slice pins s σ H x y v u Q I rx ry h hs
  obtain ⟨a, d, rfl, g, q⟩ := h
  obtain rfl : v = Value.ref a := rx
  have hT := dict_typeIs I g
  unfold subscriptTail; refine wpAny_bind ?_; rw [getitemInPython_of_ne hT.not_modules]; refine wpAny_bind (wpAny_specialOf hT PySem.F.slot_dict_getitem.lookup ?_)
  have fin : wpAny (model X.prog X.w) X.A (subscripted slice false (.ref a) u) (fun r s₃ => wpAny (model X.prog X.w) X.A (letTemporaryGo value (.ref a) r >>= fun _ => pure r) (EP X pins σ Q) X.xe s₃) X.xe s := by
    rw [hs]
    exact wpAny_operating (wpAny_mono (d_getItem hu I g ry fun w' s3 I3 rw' => (show EP X pins σ Q w' s3 from ⟨d, H, I3, rw', q⟩)) (fun r s₃ h₃ => wpAny_bind (wpAny_letTemporaryGo (wpAny_pure h₃))) fun _ _ x => x)
  first
    | exact wpAny_pure (wpAny_bind fin)
    | exact wpAny_bind (wpAny_pure (wpAny_bind fin))
    | exact wpAny_bind fin
theorem q_ix (hr : Room k X.A) (ha : QE X rw a fa) (hb : QE X rw b fb) (hs : PlainIx b := by exact fun _ _ => rfl) : QE X rw (.Subscript a b pos) (eOp ixD fa fb) := by
  refine q_ixR (ix_seq.or (ix_dict (by have := hr.un; omega))) (fun w x y dx dy Qd Q o zx zy h kk => ?_) ha hb hs
  unfold ixD at h
  generalize hx : view w.M dx = cx at h
  cases cx with
  | lst xs =>
    cases dy with
    | int i =>
      cases zy.int'
      obtain ⟨a1, x1, rfl, p1, z1⟩ := see_lst o zx hx
      obtain ⟨d, h1, h2⟩ := someQ_e h
      obtain ⟨v, h3, h4⟩ := atI_D z1 h1
      exact .inl (.inl ⟨a1, x1, i, v, rfl, rfl, .inl (.inl p1), h3, kk _ _ w h2 (.refl o) h4⟩)
    | _ => exact h.elim
  | tup xs =>
    cases dy with
    | int i =>
      cases zy.int'
      obtain ⟨a1, x1, rfl, _, p1, z1⟩ := see_tup o zx hx
      obtain ⟨d, h1, h2⟩ := someQ_e h
      obtain ⟨v, h3, h4⟩ := atI_D z1 h1
      exact .inl (.inr (.inl ⟨a1, x1, i, v, rfl, rfl, .inl (.inl p1), h3, kk _ _ w h2 (.refl o) h4⟩))
    | _ => exact h.elim
  | wtup xs =>
    cases dy with
    | int i =>
      cases zy.int'
      obtain ⟨a1, x1, rfl, p1, z1⟩ := (see_wtup o zx hx).2
      obtain ⟨d, h1, h2⟩ := someQ_e h
      obtain ⟨v, h3, h4⟩ := atI_D z1 h1
      exact .inl (.inr (.inl ⟨a1, x1, i, v, rfl, rfl, p1 w.H, h3, kk _ _ w h2 (.refl o) h4⟩))
    | _ => exact h.elim
  | str z =>
    cases dy with
    | int i =>
      cases zy.int'
      obtain ⟨rfl, hv⟩ := see_str o zx hx
      obtain ⟨h0, h⟩ := szOk_e h
      obtain ⟨c, h1, h2⟩ := someQ_e h
      refine .inl (.inr (.inr ⟨tx z, i, c, rfl, rfl, by rw [tx_len]; exact h0, by rw [tx_cps, ← nthI_at]; exact h1, kk _ _ w h2 (.refl o) (.str [c] fun q hq => ?_)⟩))
      rw [List.mem_singleton] at hq
      subst hq
      exact hv _ (atI_mem h1)
    | _ => exact h.elim
  | dct t kds =>
    obtain ⟨q1, h⟩ := okQ_e h
    obtain ⟨d, h1, h2⟩ := someQ_e h
    obtain ⟨a, ov, rfl, g, q⟩ := dget_of o zx hx zy q1
    rcases q with ⟨_, e2⟩ | ⟨v, e, e1, e2, z⟩
    · rw [h1] at e2; cases e2
    · rw [h1] at e2
      cases e2
      subst e1
      exact .inr ⟨a, v, rfl, g, kk _ _ w h2 (.refl o) z⟩
  | _ => exact h.elim

/-! ### slices -/
def cutL {α : Type} (xs : List α) (lo hi : Option Int) : List α := (xs.drop (sI xs.length 0 lo)).take (sI xs.length xs.length hi - sI xs.length 0 lo)
where sI (n d : Nat) : Option Int → Nat
  | none => d
  | some (.ofNat k) => Nat.min k n
  | some (.negSucc k) => n - (k + 1)
theorem sI_eq (n d : Nat) (o : Option Int) : cutL.sI n d o = HT.sIx n d o := by
  cases o with
  | none => rw [cutL.sI, HT.sIx_none]
  | some i =>
    cases i with
    | ofNat k =>
      rw [cutL.sI]
      show Nat.min k n = HT.sIx n d (some ((k : Nat) : Int))
      rw [HT.sIx_nat]
    | negSucc k =>
      rw [cutL.sI]
      unfold HT.sIx
      dsimp only
      split <;> omega
theorem cutL_V (xs : List V) (lo hi : Option Int) : cutL xs lo hi = cutV xs lo hi := by
  unfold cutL cutV
  rw [sI_eq, sI_eq]
abbrev OV := DEnv → Mem → (Option Int → Mem → Prop) → Prop
def oNo : OV := fun _ M Q => Q none M
def intQ (d : D) (q : Int → Prop) : Prop := match d with
  | .int i => q i
  | _ => False
theorem intQ_e {d : D} {q : Int → Prop} (h : intQ d q) : ∃ i, d = .int i ∧ q i := by
  cases d <;> first | exact ⟨_, rfl, h⟩ | exact h.elim
def oSome (f : EV) : OV := fun δ M Q => f δ M fun r M1 => intQ r.d fun i => Q (some i) M1
def liftO (G : Gx) (rw : Bool) (f : OV) : TO := fun σ H Q => ∃ w δ Qd, w.H = H ∧ Rep G w σ δ ∧ f δ w.M Qd ∧ ∀ o w', Qd o w'.M → Gr G rw w w' → Q o w'.H
structure QO (X : Cx) (rw : Bool) (e : Option Expr) (f : OV) : Prop where
  po : PO X e (liftO (gx X) rw f)
theorem po_imp {X : Cx} {e : Option Expr} {t t' : TO} (h : PO X e t) (i : ∀ σ H Q, t' σ H Q → t σ H Q) : PO X e t' := ⟨fun pins s σ H Q I q => h.run pins s σ H Q I (i σ H Q q)⟩
theorem q_no : QO X rw none oNo := ⟨po_imp po_none fun σ H Q ⟨w, δ, Qd, e, R, hf, k⟩ => by subst e; exact k none w hf (.refl R.ok)⟩
theorem q_some (h : QE X rw e f) : QO X rw (some e) (oSome f) := ⟨po_imp (po_some h.pe) fun σ H Q ⟨w, δ, Qd, e, R, hf, k⟩ => by
  subst e
  refine lift_d R (fun d M => intQ d fun i => Qd (some i) M) hf fun d v w' q g z => ?_
  obtain ⟨i, rfl, q2⟩ := intQ_e q
  exact ⟨i, z.int', k _ w' q2 g⟩⟩
def slD (M : Mem) (x : D) (lo hi : Option Int) (Q : Rz → Prop) : Prop := match view M x with
  | .lst xs => Q (.new (.lst (cutL xs lo hi)))
  | .tup xs => Q (.val (.tup (cutL xs lo hi)))
  | .str z => szOk z.length (Q (.val (.str (cutL z lo hi))))
  | _ => False
def eSl (fa : EV) (fl fh : OV) : EV := fun δ M Q => fa δ M fun x M1 => fl δ M1 fun lo M2 => fh δ M2 fun hi M3 => slD M3 x.d lo hi fun r => Q r M3
theorem cut_dp {K : PySem.W.Frag} {C : List Addr} {P : Hp} {vs : List V} {ds : List D} (z : DpA K C P vs ds) (lo hi : Option Int) : DpA K C P (cutV vs lo hi) (cutL ds lo hi) := by
  rw [← cutL_V]
  unfold cutL
  rw [z.length]
  exact (z.drop _).take _
theorem cut_mem {α : Type} {xs : List α} {lo hi : Option Int} {a : α} (h : a ∈ cutL xs lo hi) : a ∈ xs := List.mem_of_mem_drop (List.mem_of_mem_take h)
theorem cutS_tx (cs : List Nat) (lo hi : Option Int) : cutS (tx cs) lo hi = tx (cutL cs lo hi) := by
  unfold cutS cutL
  rw [sI_eq, sI_eq, tx_len, tx_cps]
  rfl
theorem q_sl {lo hi : Option Expr} {p2 : Pos} {fl fh : OV} (ha : QE X rw a fa) (hl : QO X rw lo fl) (hh : QO X rw hi fh) : QE X rw (.Subscript a (.Slice lo hi none p2) pos) (eSl fa fl fh) := by
  refine qe_of (pe_slice (sl_list.or (sl_tupA.or sl_str)) ha.pe hl.po hh.po) fun w σ δ Qd Q R h k => ?_
  refine lift_d R (fun x M1 => fl δ M1 fun lo M2 => fh δ M2 fun hi M3 => slD M3 x lo hi fun r => Qd r M3) h fun dx x w1 q1 g1 z1 => ?_
  refine ⟨w1, δ, _, rfl, R.mono g1, q1, fun lo w2 q2 g2 => ⟨w2, δ, _, rfl, (R.mono g1).mono g2, q2, fun hi w3 q3 g3 => ?_⟩⟩
  have g13 := g2.trans g3
  have g := g1.trans g13
  have zx := g13.dp z1
  unfold slD at q3
  generalize hx : view w3.M dx = cx at q3
  cases cx with
  | lst xs =>
    obtain ⟨a1, x1, rfl, p1, u1⟩ := see_lst g.ok zx hx
    refine .inl ⟨a1, x1, rfl, .inl (.inl p1), fun p hp => ?_⟩
    obtain ⟨g4, w4⟩ := new_ok g hp (HoD.lst (cut_dp u1 lo hi))
    exact k _ _ ⟨w3.C, w3.M, _, _⟩ q3 g4 w4
  | tup xs =>
    obtain ⟨a1, x1, rfl, r1, p1, u1⟩ := see_tup g.ok zx hx
    refine .inr (.inl ⟨a1, x1, rfl, .inl (.inl p1), fun hw => ?_, fun hw p hp => ?_⟩)
    · refine k _ _ w3 q3 g ?_
      have e1 : cutL xs lo hi = xs := by
        unfold cutL
        rw [sI_eq, sI_eq, ← u1.length, hw.1, hw.2, List.drop_zero, Nat.sub_zero, u1.length]
        exact List.take_length
      show Dp X.K w3.C w3.P (.ref a1) (.tup (cutL xs lo hi))
      rw [e1]
      exact .tup r1 u1
    · obtain ⟨g4, w4⟩ := tup_ok g hp (cut_dp u1 lo hi)
      exact k _ _ ⟨w3.C, w3.M, _, _⟩ q3 g4 w4
  | str z =>
    obtain ⟨rfl, hv⟩ := see_str g.ok zx hx
    obtain ⟨q4, q5⟩ := szOk_e q3
    refine .inr (.inr ⟨tx z, rfl, by rw [tx_len]; exact q4, ?_⟩)
    rw [cutS_tx]
    exact k _ _ w3 q5 g (.str _ fun c hc => hv c (cut_mem hc))
  | _ => exact q3.elim

/-! ### built-in functions -/
/-- a list of one -/
def oneQ (ds : List D) (q : D → Prop) : Prop := match ds with
  | [d] => q d
  | _ => False
theorem oneQ_e {ds : List D} {q : D → Prop} (h : oneQ ds q) : ∃ d, ds = [d] ∧ q d := by
  match ds, h with
  | [d], h => exact ⟨d, rfl, h⟩
  | [], h => exact h.elim
  | _ :: _ :: _, h => exact h.elim
def lenD : CaD := fun M ds Q => oneQ ds fun d => match view M d with
  | .lst xs => Q (.val (.int xs.length))
  | .tup xs => Q (.val (.int xs.length))
  | .wtup xs => Q (.val (.int xs.length))
  | .str z => szOk z.length (Q (.val (.int z.length)))
  | .dct false kvs => Q (.val (.int kvs.length))
  | .dct true kvs => Q (.val (.int kvs.length))
  | _ => False
theorem call_lenR : CallR X (.builtin "len") (fun xs H Q => ∃ (a : Addr) (n : Nat), xs = [V.ref a] ∧ ((∃ kvs, Rd H a (.dK kvs) ∧ kvs.length = n) ∨ ∃ kvs, Rd H a (.dT kvs) ∧ kvs.length = n) ∧ Q (.int (n : Int)) H) := by
  intro pins s σ H xs us Q I r h
  obtain ⟨a, n, rfl, ha, q⟩ := h
  obtain ⟨u, rfl, ru⟩ := vals1 r
  cases ru
  rcases ha with ⟨kvs, ha, rfl⟩ | ⟨kvs, ha, rfl⟩
  · exact d_len I ha fun t s' I' => ⟨.int kvs.length, H, I', ⟨t, rfl⟩, q⟩
  · obtain ⟨z, hd, ys, rel, dd⟩ := dt_rd I.hok ha
    have hl : kvs.length = ys.length := Paired.length rel
    refine call_len_dictH hd dd (by rw [← hl]; rw [sizeLine_eq] at z; omega) ?_
    rw [← hl]
    exact ⟨.int ((kvs.length : Nat) : Int), H, I.tok _, ⟨_, rfl⟩, q⟩
theorem dct_rd {K : PySem.W.Frag} {C : List Addr} {P H : Hp} {a : Addr} {ho : HO} {t : Bool} {kds : List (D × D)} (h1 : H a = some ho) (h2 : HoD K C P (unl ho) (.dct t kds)) : (∃ kvs, Rd H a (.dK kvs) ∧ kvs.length = kds.length) ∨ ∃ kvs, Rd H a (.dT kvs) ∧ kvs.length = kds.length := by
  generalize hu : unl ho = u at h2
  cases h2 with
  | dK hk _ _ =>
    refine .inl ⟨_, rd_unl h1 hu, ?_⟩
    have := congrArg List.length hk
    rw [List.length_map, List.length_map] at this
    exact this.symm
  | dT hk _ _ =>
    refine .inr ⟨_, rd_unl h1 hu, ?_⟩
    have := congrArg List.length hk
    rw [List.length_map, List.length_map] at this
    exact this.symm
theorem call_lenL : CallL X (.builtin "len") lenD := by
  refine ⟨_, call_len_seq.or (call_len_str.or call_lenR), fun w xs ds Qd Q o z h k => ?_⟩
  unfold lenD at h
  obtain ⟨d, e0, h0⟩ := oneQ_e h
  subst e0
  replace h := h0
  clear h0
  obtain ⟨v, rfl, zv⟩ := z.one'
  generalize hx : view w.M d = cx at h
  cases cx with
  | lst ys =>
    obtain ⟨a1, x1, rfl, p1, w1⟩ := see_lst o zv hx
    refine .inl ⟨a1, x1, rfl, .inl (.inl (.inl p1)), ?_⟩
    rw [w1.length]
    exact k _ _ w h (.refl o) (.int _)
  | tup ys =>
    obtain ⟨a1, x1, rfl, _, p1, w1⟩ := see_tup o zv hx
    refine .inl ⟨a1, x1, rfl, .inr (.inl (.inl p1)), ?_⟩
    rw [w1.length]
    exact k _ _ w h (.refl o) (.int _)
  | wtup ys =>
    obtain ⟨a1, x1, rfl, p1, w1⟩ := (see_wtup o zv hx).2
    refine .inl ⟨a1, x1, rfl, .inr (p1 w.H), ?_⟩
    rw [w1.length]
    exact k _ _ w h (.refl o) (.int _)
  | str y =>
    obtain ⟨rfl, _⟩ := see_str o zv hx
    obtain ⟨h1, h2⟩ := szOk_e h
    refine .inr (.inl ⟨tx y, rfl, by rw [tx_len]; exact h1, ?_⟩)
    rw [tx_len]
    exact k _ _ w h2 (.refl o) (.int _)
  | dct t kvs =>
    obtain ⟨a, ho, rfl, h1, h2⟩ := see_dct o zv hx
    refine .inr (.inr ⟨a, kvs.length, rfl, dct_rd h1 h2, ?_⟩)
    cases t <;> exact k _ _ w h (.refl o) (.int _)
  | _ => exact h.elim
def listD : CaD := fun M ds Q => oneQ ds fun d => match view M d with
  | .lst xs => Q (.new (.lst xs))
  | .tup xs => Q (.new (.lst xs))
  | .wtup xs => Q (.new (.lst xs))
  | .dct t kds => Q (.new (.lst (keysOf kds)))
  | _ => False
where keysOf : List (D × D) → List D
  | [] => []
  | (k, _) :: r => k :: keysOf r
theorem keysOf_map (l : List (D × D)) : listD.keysOf l = l.map (·.1) := by
  induction l with
  | nil => rfl
  | cons p r ih => cases p; rw [listD.keysOf, ih]; rfl
/-- tuples may be protected at any time -/
theorem Gr.ptup {G : Gx} {w : Wd} {b : Addr} {xs : List V} (k : WOk G w) (hb : w.H b = some (.tup xs)) : Gr G false w ⟨w.C, w.M, upd w.P b (.tup xs), w.H⟩ := by
  have hc : b ∉ w.C := fun hc => by
    obtain ⟨n, hn⟩ := List.mem_iff_getElem?.mp hc
    obtain ⟨d, _, _, q⟩ := k.at hn
    cases d with
    | lst ds => obtain ⟨o, q1, q2⟩ := q; rw [hb] at q1; cases q1; exact q2.ntup _ rfl
    | dct t ds => obtain ⟨o, q1, q2⟩ := q; rw [hb] at q1; cases q1; exact q2.ntup _ rfl
    | obj c fs => obtain ⟨_, _, _, _, q1, _⟩ := q; rw [hb] at q1; cases q1
    | bag => obtain ⟨_, _, _, _, _, _, q1, _⟩ := q; rw [hb] at q1; cases q1
    | lck d => obtain ⟨_, _, q1, _⟩ := q; rw [hb] at q1; cases q1
    | _ => exact q.elim
  have s1 : Same w.P (upd w.P b (.tup xs)) := fun a o h => by
    by_cases e : a = b
    · subst e
      obtain ⟨o', q1, q2⟩ := k.ex a o h
      rw [hb] at q1
      cases q1
      rw [upd_same]
      exact congrArg some q2
    · rw [upd_ne e]; exact h
  refine ⟨⟨fun a u h => ?_, fun a x h => ?_, k.len, k.nd, fun n a d e1 e2 => ?_⟩, s1, Pre.refl _, fun a u h _ => h, fun a u h nt z => ?_, fun a h n => absurd h n, fun _ => ⟨rfl, rfl, fun _ _ _ _ => rfl⟩⟩
  · dsimp only at h ⊢
    by_cases e : a = b
    · subst e; rw [upd_same] at h; cases h; exact ⟨_, hb, rfl⟩
    · rw [upd_ne e] at h; exact k.ex _ _ h
  · dsimp only at h
    by_cases e : a = b
    · subst e; rw [upd_same] at h; cases h
    · rw [upd_ne e] at h; exact k.nown _ _ h
  · obtain ⟨h1, h2⟩ := k.cell n a d e1 e2
    refine ⟨?_, h2.keep (Pre.refl _) s1 (fun _ _ h _ => h) fun c hc' z => ?_⟩
    · show upd w.P b (.tup xs) a = none
      rw [upd_ne (a := b) (b := a) (fun z => by subst z; exact hc (List.mem_of_getElem? e1))]; exact h1
    · show upd w.P b (.tup xs) c = none
      rw [upd_ne (a := b) (b := c) (fun z => by subst z; rw [hb] at hc'; cases hc')]; exact z
  · show upd w.P b (.tup xs) a = none
    rw [upd_ne (a := b) (b := a) (fun e => by subst e; rw [hb] at h; exact nt _ (Option.some.inj h).symm)]; exact z
/-- the keys of a dict with tuple keys, protected -/
theorem prot_keys {G : Gx} {kds : List (D × D)} {kvs : List (List Key × V)} : ∀ {w : Wd} (k : WOk G w) {bs : List Addr}, IsKeys w.H kvs bs → kds.map (fun p => tkD p.1) = kvs.map (fun q => some q.1) → (∀ p ∈ kds, vK p.1) → ∃ P2, Gr G false w ⟨w.C, w.M, P2, w.H⟩ ∧ DpA G.K w.C P2 (bs.map V.ref) (kds.map (·.1)) := by
  induction kds generalizing kvs with
  | nil =>
    intro w k bs hb hk _
    cases kvs with
    | nil => cases hb; exact ⟨w.P, .refl k, .nil⟩
    | cons _ _ => cases hk
  | cons p r ih =>
    intro w k bs hb hk hv
    cases kvs with
    | nil => cases hk
    | cons q s =>
      rw [List.map_cons, List.map_cons] at hk
      injection hk with k1 k2
      cases hb with
      | cons h1 h2 =>
        rename_i b bs
        have g1 := Gr.ptup k h1
        obtain ⟨P2, g2, z2⟩ := ih g1.ok (bs := bs) h2 k2 fun p hp => hv p (List.mem_cons_of_mem _ hp)
        refine ⟨P2, g1.trans g2, .cons ?_ z2⟩
        obtain ⟨d, e⟩ := p
        cases d with
        | tup xs => exact .tup (g2.pp _ _ upd_same) (keys_dp k1 (hv _ List.mem_cons_self))
        | _ => cases k1
theorem call_listR (hcalm : X.calm = true) : CallR X (.type "list") (fun xs H Q => ∃ p kvs, xs = [.ref p] ∧ Rd H p (.dK kvs) ∧ ∀ q, H q = none → Q (.ref q) (upd H q (.lst (kvs.map fun kv => kV kv.1)))) := by
  intro pins s σ H xs us Q I r h; obtain ⟨p, kvs, e, hk, q⟩ := h; subst e; obtain ⟨u, eu, rx⟩ := vals1 r; subst eu; obtain rfl : u = Value.ref p := rx
  obtain ⟨z, lo, vs, rk, hd⟩ := (show ObjOk X.prog X.w H s.heap p (.dK kvs) from hk.ok I.hok); obtain ⟨ep, hat⟩ := hd.dictAt; have hl : kvs.length = vs.length := Paired.length rk
  refine PySem.W.kdl_call (PySem.W.kdl_dict (knd := mixKind X.prog X.w) (kvs := vs) (ep := ep) lo) (I.ok.hd hcalm) hat (by rw [← hl]; exact z) fun h' tk acc' c' hkeep hS hacc => ?_
  have v1 : Vals (kvs.map fun kv => kV kv.1) acc'.toList := by
    have el : acc'.toList.length = acc'.size := by simp
    refine vals_of_at (by rw [List.length_map, el, hacc.1, hl]) fun j x w h1 h2 => ?_
    obtain ⟨k, y, hky, hi⟩ := hacc.2 j w (by rw [← Array.getElem?_toList]; exact h2); have e1 : (kvs.map (·.1))[j]? = some k := by rw [KV.keys rk, List.getElem?_map, hky] <;> rfl
    have e3 : (kvs.map fun kv => kV kv.1) = (kvs.map (·.1)).map kV := by rw [List.map_map] <;> rfl
    rw [e3, List.getElem?_map, e1] at h1
    cases h1; exact keyIs_rel hi
  exact ⟨.ref s.heap.objs.size, upd H s.heap.objs.size (.lst (kvs.map fun kv => kV kv.1)), I.laid hkeep (Nat.le_refl _) (show ObjOk X.prog X.w _ _ _ (.lst (kvs.map fun kv => kV kv.1)) from ⟨by rw [List.length_map]; exact z, acc'.toList, c', v1, by rw [Array.toArray_toList]; exact hS⟩), rfl, q _ (I.hok.fresh (Nat.le_refl _))⟩
theorem call_listL (hcalm : X.calm = true) : CallL X (.type "list") listD := by
  refine ⟨_, call_list_of.or ((call_listR hcalm).or (call_list_dT hcalm)), fun w xs ds Qd Q o z h k => ?_⟩
  unfold listD at h
  obtain ⟨d, e0, h0⟩ := oneQ_e h
  subst e0
  replace h := h0
  clear h0
  obtain ⟨v, rfl, zv⟩ := z.one'
  generalize hx : view w.M d = cx at h
  cases cx with
  | lst ys =>
    obtain ⟨a1, x1, rfl, p1, w1⟩ := see_lst o zv hx
    refine .inl ⟨a1, x1, rfl, .inl (.inl (.inl p1)), fun p hp => ?_⟩
    obtain ⟨g2, w2⟩ := new_ok (Gr.refl o) hp (HoD.lst w1)
    exact k _ _ _ h g2 w2
  | tup ys =>
    obtain ⟨a1, x1, rfl, _, p1, w1⟩ := see_tup o zv hx
    refine .inl ⟨a1, x1, rfl, .inr (.inl (.inl p1)), fun p hp => ?_⟩
    obtain ⟨g2, w2⟩ := new_ok (Gr.refl o) hp (HoD.lst w1)
    exact k _ _ _ h g2 w2
  | wtup ys =>
    obtain ⟨a1, x1, rfl, p1, w1⟩ := (see_wtup o zv hx).2
    refine .inl ⟨a1, x1, rfl, .inr (p1 w.H), fun p hp => ?_⟩
    obtain ⟨g2, w2⟩ := new_ok (Gr.refl o) hp (HoD.lst w1)
    exact k _ _ _ h g2 w2
  | dct t kds =>
    obtain ⟨a, ho, rfl, h1, h2⟩ := see_dct o zv hx
    dsimp only at h
    rw [keysOf_map] at h
    generalize hu : unl ho = u at h2
    cases h2 with
    | @dK kvs _ hk hv hz =>
      refine .inr (.inl ⟨a, kvs, rfl, rd_unl h1 hu, fun p hp => ?_⟩)
      have kz : ∀ {kds : List (D × D)} {kvs : List (Key × V)}, kds.map (fun p => keyD p.1) = kvs.map (fun q => some q.1) → (∀ p ∈ kds, vK p.1) → DpA X.K w.C w.P (kvs.map fun kv => kV kv.1) (kds.map (·.1)) := by
        intro kds
        induction kds with
        | nil => intro kvs hk _; cases kvs with | nil => exact .nil | cons _ _ => cases hk
        | cons p r ih =>
          intro kvs hk hv
          cases kvs with
          | nil => cases hk
          | cons q s =>
            rw [List.map_cons, List.map_cons] at hk
            injection hk with k1 k2
            refine .cons (key_dp k1 ?_) (ih k2 fun p hp => hv p (List.mem_cons_of_mem _ hp))
            have := hv p List.mem_cons_self
            obtain ⟨d, e⟩ := p
            cases d <;> first | exact this | trivial
      obtain ⟨g2, w2⟩ := new_ok (Gr.refl o) hp (HoD.lst (kz hk hv))
      exact k _ _ _ h g2 w2
    | @dT kvs _ hk hv hz =>
      refine .inr (.inr ⟨a, kvs, rfl, rd_unl h1 hu, fun p bs hp hb => ?_⟩)
      obtain ⟨P2, g2, z2⟩ := prot_keys o hb hk hv
      obtain ⟨g3, w3⟩ := new_ok (w1 := ⟨w.C, w.M, P2, w.H⟩) g2 hp (HoD.lst z2)
      exact k _ _ _ h g3 w3
  | _ => exact h.elim
end
end HI

namespace HI
open PySem PySem.Spec PyProof.Rows L2
section
variable {X : Cx} {rw : Bool} {e a b c : Expr} {es : List Expr} {fa fb fc f : EV} {fr : AV} {pos p p2 : Pos} {k : Nat} {ft fu : TV}
def tupleD : CaD := fun M ds Q => oneQ ds fun d => match view M d with
  | .lst xs => Q (.val (.tup xs))
  | .tup xs => Q (.val (.tup xs))
  | _ => False
theorem call_tupleL : CallL X (.type "tuple") tupleD := by
  refine ⟨_, call_tuple_of, fun w xs ds Qd Q o z h k => ?_⟩
  unfold tupleD at h
  obtain ⟨d, e0, h0⟩ := oneQ_e h
  subst e0
  obtain ⟨v, rfl, zv⟩ := z.one'
  generalize hx : view w.M d = cx at h0
  cases cx with
  | lst ys =>
    obtain ⟨a1, x1, rfl, p1, w1⟩ := see_lst o zv hx
    refine ⟨a1, x1, rfl, .inl ⟨.inl (.inl p1), fun p hp => ?_⟩⟩
    obtain ⟨g2, w2⟩ := tup_ok (Gr.refl o) hp w1
    exact k _ _ _ h0 g2 w2
  | tup ys =>
    obtain ⟨a1, x1, rfl, r1, p1, w1⟩ := see_tup o zv hx
    exact ⟨a1, x1, rfl, .inr ⟨.inl (.inl p1), k _ _ w h0 (.refl o) (Dp.tup r1 w1)⟩⟩
  | _ => exact h0.elim
def intD : CaD := fun M ds Q => oneQ ds fun d => match d with
  | .int i => Q (.val (.int i))
  | .bl b => Q (.val (.int (match b with | true => 1 | false => 0)))
  | .str x => ∃ n, PySem.intText? (tx x) = some n ∧ x.length ≤ 640 ∧ Q (.val (.int n))
  | _ => False
theorem call_intL : CallL X (.type "int") intD := by
  refine ⟨_, call_int1.or call_int_str, fun w xs ds Qd Q o z h k => ?_⟩
  unfold intD at h
  obtain ⟨d, e0, h0⟩ := oneQ_e h
  subst e0
  obtain ⟨v, rfl, zv⟩ := z.one'
  cases d with
  | int i => cases zv.int'; exact .inl (.inl ⟨i, rfl, k _ _ w h0 (.refl o) (.int _)⟩)
  | bl i =>
    cases zv.bl'
    refine .inl (.inr ⟨i, rfl, ?_⟩)
    cases i <;> exact k _ _ w h0 (.refl o) (.int _)
  | str i =>
    obtain ⟨rfl, _⟩ := zv.str'
    obtain ⟨n, h1, h2, h3⟩ := h0
    exact .inr ⟨tx i, n, rfl, h1, by rw [tx_len]; exact h2, k _ _ w h3 (.refl o) (.int _)⟩
  | _ => exact h0.elim
theorem str_num (n : Nat) : Str.ofString (toString ((n : Nat) : Int)) = tx (TL.numL n) := TL.ext_tl (by rw [TL.tl_num]; simp [TL.tl, tx])
theorem num_vS (n : Nat) : vS (TL.numL n) := fun c hc => by
  have := TL.numL_digits n c hc
  omega
theorem log_num {n : Nat} (h : n < 10 ^ 100) : n.log2 < 1920 := by
  by_cases h0 : n = 0
  · subst h0; decide
  · rw [Nat.log2_lt h0]
    exact Nat.lt_of_lt_of_le h (by decide)
/-- the text of a number from 0 on -/
def numQ (i : Int) (q : List Nat → Prop) : Prop := match i with
  | .ofNat n => n.log2 < 1920 ∧ q (TL.numL n)
  | .negSucc _ => False
theorem numQ_e {i : Int} {q : List Nat → Prop} (h : numQ i q) : ∃ n : Nat, i = (n : Int) ∧ n.log2 < 1920 ∧ q (TL.numL n) := by
  cases i with
  | ofNat n => exact ⟨n, rfl, h.1, h.2⟩
  | negSucc n => exact h.elim
theorem numQ_i {n : Nat} {q : List Nat → Prop} (h : n < 10 ^ 100) (k : q (TL.numL n)) : numQ (n : Int) q := ⟨log_num h, k⟩
def strD : CaD := fun M ds Q => oneQ ds fun d => match d with
  | .int i => numQ i fun cs => Q (.val (.str cs))
  | .str x => Q (.val (.str x))
  | _ => False
theorem call_strL : CallL X (.type "str") strD := by
  refine ⟨_, call_str_int.or SkE.call_str_str, fun w xs ds Qd Q o z h k => ?_⟩
  unfold strD at h
  obtain ⟨d, e0, h0⟩ := oneQ_e h
  subst e0
  obtain ⟨v, rfl, zv⟩ := z.one'
  cases d with
  | int i =>
    cases zv.int'
    obtain ⟨n, rfl, h1, h2⟩ := numQ_e h0
    refine .inl ⟨(n : Int), rfl, by rw [Int.natAbs_natCast]; exact h1, ?_⟩
    rw [str_num]
    exact k _ _ w h2 (.refl o) (.str _ (num_vS n))
  | str x =>
    obtain ⟨rfl, hv⟩ := zv.str'
    exact .inr ⟨tx x, rfl, k _ _ w h0 (.refl o) (.str _ hv)⟩
  | _ => exact h0.elim
def absD : CaD := fun M ds Q => oneQ ds fun d => match d with
  | .int i => Q (.val (.int (if i < 0 then -i else i)))
  | _ => False
theorem call_absL : CallL X (.builtin "abs") absD := by
  refine ⟨_, call_abs, fun w xs ds Qd Q o z h k => ?_⟩
  unfold absD at h
  obtain ⟨d, e0, h0⟩ := oneQ_e h
  subst e0
  obtain ⟨v, rfl, zv⟩ := z.one'
  cases d with
  | int i => cases zv.int'; exact ⟨i, rfl, k _ _ w h0 (.refl o) (.int _)⟩
  | _ => exact h0.elim
def minD : CaD := fun M ds Q => match ds with
  | [.int i, .int j] => Q (.val (.int (if j < i then j else i)))
  | _ => False
theorem call_minL (hc : X.calm = true) : CallL X (.builtin "min") minD := by
  refine ⟨_, call_min2 hc, fun w xs ds Qd Q o z h k => ?_⟩
  match ds, h, z with
  | [.int i, .int j], h, z =>
    obtain ⟨v, u, rfl, zv, zu⟩ := z.two'
    cases zv.int'
    cases zu.int'
    exact ⟨i, j, rfl, k _ _ w h (.refl o) (.int _)⟩
/-- the truths of a list of bools -/
def blsD : List D → Option (List Bool)
  | [] => some []
  | x :: r => match x with
    | .bl b => match blsD r with
      | some bs => some (b :: bs)
      | none => none
    | _ => none
theorem blsD_V {K : PySem.W.Frag} {C : List Addr} {P : Hp} : ∀ {vs : List V} {ds : List D} {bs : List Bool}, DpA K C P vs ds → blsD ds = some bs → vs = bs.map V.bl
  | _, _, _, .nil, h => by rw [blsD] at h; cases h; rfl
  | _, _, _, .cons (d := d) (ds := ds) z t, h => by
    cases d with
    | bl b =>
      have h : (match blsD ds with | some bs => some (b :: bs) | none => none) = some _ := h
      cases e : blsD ds with
      | none => rw [e] at h; cases h
      | some r =>
        rw [e] at h
        cases h
        rw [blsD_V t e]
        cases z.bl'
        rfl
    | _ => cases h
def allB : List Bool → Bool
  | [] => true
  | b :: r => match b with
    | true => allB r
    | false => false
def anyB : List Bool → Bool
  | [] => false
  | b :: r => match b with
    | true => true
    | false => anyB r
theorem allB_eq : ∀ bs : List Bool, bs.all id = allB bs
  | [] => rfl
  | b :: r => by rw [List.all_cons, allB_eq r]; cases b <;> rfl
theorem anyB_eq : ∀ bs : List Bool, bs.any id = anyB bs
  | [] => rfl
  | b :: r => by rw [List.any_cons, anyB_eq r]; cases b <;> rfl
def allD : CaD := fun M ds Q => oneQ ds fun d => match view M d with
  | .lst xs => someQ (blsD xs) fun bs => Q (.val (.bl (allB bs)))
  | _ => False
def anyD : CaD := fun M ds Q => oneQ ds fun d => match view M d with
  | .lst xs => someQ (blsD xs) fun bs => Q (.val (.bl (anyB bs)))
  | _ => False
theorem call_allL (hc : X.calm = true) : CallL X (.builtin "all") allD := by
  refine ⟨_, cr_all hc, fun w xs ds Qd Q o z h k => ?_⟩
  unfold allD at h
  obtain ⟨d, e0, h0⟩ := oneQ_e h
  subst e0
  obtain ⟨v, rfl, zv⟩ := z.one'
  generalize hx : view w.M d = cx at h0
  cases cx with
  | lst ys =>
    obtain ⟨a1, x1, rfl, p1, w1⟩ := see_lst o zv hx
    obtain ⟨bs, h1, h2⟩ := someQ_e h0
    have := blsD_V w1 h1
    subst this
    refine ⟨a1, bs, rfl, .inl (.inl p1), ?_⟩
    rw [allB_eq]
    exact k _ _ w h2 (.refl o) (.bl _)
  | _ => exact h0.elim
theorem call_anyL (hc : X.calm = true) : CallL X (.builtin "any") anyD := by
  refine ⟨_, cr_any hc, fun w xs ds Qd Q o z h k => ?_⟩
  unfold anyD at h
  obtain ⟨d, e0, h0⟩ := oneQ_e h
  subst e0
  obtain ⟨v, rfl, zv⟩ := z.one'
  generalize hx : view w.M d = cx at h0
  cases cx with
  | lst ys =>
    obtain ⟨a1, x1, rfl, p1, w1⟩ := see_lst o zv hx
    obtain ⟨bs, h1, h2⟩ := someQ_e h0
    have := blsD_V w1 h1
    subst this
    refine ⟨a1, bs, rfl, .inl (.inl p1), ?_⟩
    rw [anyB_eq]
    exact k _ _ w h2 (.refl o) (.bl _)
  | _ => exact h0.elim

/-! ### isinstance -/
/-- 0 None, 1 bool, 2 int, 3 str, 4 list, 5 tuple, 6 dict -/
def tyN : Nat → String
  | 0 => "NoneType"
  | 1 => "bool"
  | 2 => "int"
  | 3 => "str"
  | 4 => "list"
  | 5 => "tuple"
  | _ => "dict"
def tyD : D → Option Nat
  | .non => some 0
  | .bl _ => some 1
  | .int _ => some 2
  | .str _ => some 3
  | .lst _ => some 4
  | .tup _ => some 5
  | .wtup _ => some 5
  | .dct false _ => some 6
  | .dct true _ => some 6
  | _ => none
def isiN : Nat → Nat → Bool
  | 1, 2 => true
  | t, u => Nat.beq t u
theorem isiN_ok : ∀ t ≤ 6, ∀ u ≤ 6, kitB (tyN t) (tyN u) = some (isiN t u) := by decide +kernel
theorem tyD_le {d : D} {t : Nat} (h : tyD d = some t) : t ≤ 6 := by
  cases d <;> first | (cases h; decide) | (cases h; done) | skip
  rename_i b _
  cases b <;> (cases h; decide)
/-- a value's type, a dict that is walked too -/
def TyY (K : PySem.W.Frag) (H : Hp) (x : V) (t : Value) : Prop := TyX K H x t ∨ ∃ (a : Addr) (kvs : List (List Key × V)), x = .ref a ∧ Rd H a (.dT kvs) ∧ t = .type "dict"
theorem kitY {pins : List (Addr × Obj)} {σ : L2.St} {H : Hp} {s : Shared} {x : V} {u t : Value} (I : Inv X pins σ H s) (rx : RelV x u) (ty : TyY X.K H x t) : ∃ P : Heap → Prop, PySem.W.KitX X.K u t P ∧ P s.heap ∧ u ≠ .builtin "__main__.__loader__#opaque" := by
  rcases ty with ty | ⟨a, kvs, rfl, hd, rfl⟩
  · exact kit_of I rx ty
  · cases (show u = Value.ref a from rx)
    obtain ⟨_, _, xs, _, o, es, ep, h1, h2, _⟩ := (show ObjOk X.prog X.w H s.heap a (.dT kvs) from hd.ok I.hok)
    exact ⟨_, PySem.W.kitx_dict, ⟨o, h1, h2.1⟩, fun z => nomatch z⟩
theorem call_isY : CallR X (.builtin "isinstance") (fun xs H Q => ∃ (x c : V) (t u : Value) (b : Bool), xs = [x, c] ∧ ClsV c u ∧ TyY X.K H x t ∧ PySem.W.kitOne X.K t u = some b ∧ Q (.bl b) H) := by
  intro pins s σ H xs us Q I r h; obtain ⟨x, c, t, u, b, rfl, k, ty, e, q⟩ := h; obtain ⟨u1, u2, rfl, r1, r2⟩ := vals2 r; have e2 := k.eq r2; subst e2
  obtain ⟨P, Z, p, hx⟩ := kitY I r1 ty; exact PySem.W.kia_one Z I.kIn p e hx fun tk => ⟨.bl b, H, I.tok tk, rfl, q⟩
theorem call_isYT : CallR X (.builtin "isinstance") (fun xs H Q => ∃ (x : V) (tp : Addr) (cs : List V) (t : Value) (us : List Value) (b : Bool), xs = [x, .ref tp] ∧ H tp = some (.tup cs) ∧ Paired ClsV cs us ∧ TyY X.K H x t ∧ PySem.W.kitAny X.K t us = some b ∧ Q (.bl b) H) := by
  intro pins s σ H xs us Q I r h; obtain ⟨x, tp, cs, t, ws, b, rfl, hT, k, ty, e, q⟩ := h; obtain ⟨u1, u2, rfl, r1, r2⟩ := vals2 r; cases (show u2 = Value.ref tp from r2)
  obtain ⟨P, Z, p, hx⟩ := kitY I r1 ty; obtain ⟨_, its, rv, o, h1, h2, n, h3⟩ := (show ObjOk X.prog X.w H s.heap tp (.tup cs) from I.hok tp _ hT); have e3 := ClsV.all k rv
  subst e3; obtain ⟨oc, od, dt, sl⟩ := o; simp only at h2 h3; subst h2 h3
  exact PySem.W.kia_tup Z I.kIn p h1 e hx fun tk => ⟨.bl b, H, I.tok tk, rfl, q⟩
theorem tyX_of {G : Gx} {w : Wd} {v : V} {d : D} {t : Nat} (o : WOk G w) (z : Dp G.K w.C w.P v d) (h : tyD (view w.M d) = some t) : TyY G.K w.H v (.type (tyN t)) := by
  generalize hx : view w.M d = cx at h
  cases cx with
  | non => cases see_non o z hx; cases h; exact .inl (.base .non)
  | bl b => cases see_bl o z hx; cases h; exact .inl (.base (.bl b))
  | int b => cases see_int o z hx; cases h; exact .inl (.base (.int b))
  | str b => obtain ⟨rfl, _⟩ := see_str o z hx; cases h; exact .inl (.base (.str _))
  | lst ys => obtain ⟨a, xs, rfl, p, _⟩ := see_lst o z hx; cases h; exact .inl (.base (.lst p))
  | tup ys => obtain ⟨a, xs, rfl, _, p, _⟩ := see_tup o z hx; cases h; exact .inl (.base (.tup p))
  | wtup ys =>
    cases h
    have e1 := (see_wtup o z hx).1
    subst e1
    cases z with
    | wtup h1 _ =>
      rcases h1 with (h1 | ⟨o, h1⟩) | ⟨o, its, n, h1, h2, _⟩
      · cases h1
      · cases h1
      · exact .inl (.kTuple h1 h2)
    | con _ h => cases h
  | dct b kds =>
    obtain ⟨a, ho, rfl, h1, h2⟩ := see_dct o z hx
    have ht : t = 6 := by cases b <;> (cases h; rfl)
    subst ht
    generalize hu : unl ho = u at h2
    cases h2 with
    | dK _ _ _ =>
      rcases rd_unl h1 hu with q | ⟨od, q⟩
      · exact .inl (.base (.dK q))
      · exact .inl (.fDict q)
    | dT _ _ _ => exact .inr ⟨a, _, rfl, rd_unl h1 hu, rfl⟩
  | _ => cases h
def eIsi (T : Nat) (f : EV) : EV := fun δ M Q => f (frzE δ) M fun r M1 => someQ (tyD (view M1 r.d)) fun t => Q (.val (.bl (isiN t T))) M1
/-- a reading whose own things are read: back to the world ahead -/
theorem rd_run {w : Wd} {σ : L2.St} {δ : DEnv} {Q : VK} (R : Rep (gx X) w σ δ) (Qd : D → Mem → Prop) (h : f (frzE δ) w.M fun r M => Qd r.d M) (k : ∀ d v w', Qd d w.M → w'.M = w.M → WOk (gx X) w' → Dp X.K w'.C w'.P v d → Gr (gx X) rw w ⟨w.C, w.M, w.P, w'.H⟩ → Q v w'.H) : lift (gx X) false f σ w.H Q :=
  lift_d (w := ⟨w.C, w.M, tot w, w.H⟩) R.tot Qd h fun d v w' q g z => by
    have e2 : w'.M = w.M := (g.ro rfl).2.1
    rw [e2] at q
    exact k d v w' q e2 g.ok z (Gr.drop R g)
theorem q_isi {y : Str} (T : Nat) (ha : QE X false a f) (hm : X.mg "isinstance" = none) (hmT : X.mg y = none) (hv : bootBuiltins y = some (.type (tyN T))) (hT : T ≤ 6 := by decide) (hg : Gl X "isinstance" := by rfl) (hgT : Gl X y := by rfl)
    (hn : y ≠ "__name__" := by decide) (hdb : (y == ("__debug__" : Str)) = false := by decide) (hs : starEach [a, .Name y p2] X.env = (false, eval a X.env) :: starEach [.Name y p2] X.env := by rfl) :
    QE X rw (.Call (.Name "isinstance" p) [a, .Name y p2] [] pos) (eIsi T f) := by
  refine qe_of (pe_callB call_isY hg hm (by decide +kernel) (pa_cons ha.pe (pa_cons (pe_bltn (v := .ty (tyN T)) hgT hmT hv rfl hn hdb) pa_nil) hs) (he := hs)) fun w σ δ Qd Q R h k => ?_
  refine rd_run (rw := rw) R (fun d M => someQ (tyD (view M d)) fun t => Qd (.val (.bl (isiN t T))) M) h fun d v w' q e2 o z g => ?_
  obtain ⟨t, q1, q2⟩ := someQ_e q
  rw [← e2] at q1
  exact ⟨v, .ty (tyN T), .type (tyN t), .type (tyN T), isiN t T, rfl, .ty _, tyX_of o z q1, kit_ty (isiN_ok t (tyD_le q1) T hT), k _ _ ⟨w.C, w.M, w.P, w'.H⟩ q2 g (.bl _)⟩
/-- isinstance(x, (S, T)) -/
def eIsi2 (S T : Nat) (f : EV) : EV := fun δ M Q => f (frzE δ) M fun r M1 => someQ (tyD (view M1 r.d)) fun t => Q (.val (.bl (match isiN t S with | true => true | false => isiN t T))) M1
theorem q_isi2 {y z : Str} (S T : Nat) {p3 p4 : Pos} {n : Nat} (ha : QE X false a f) (hm : X.mg "isinstance" = none) (hmS : X.mg y = none) (hvS : bootBuiltins y = some (.type (tyN S))) (hmT : X.mg z = none) (hvT : bootBuiltins z = some (.type (tyN T))) (hS : S ≤ 6 := by decide) (hT : T ≤ 6 := by decide)
    (hg : Gl X "isinstance" := by rfl) (hgS : Gl X y := by rfl) (hgT : Gl X z := by rfl) (hnS : y ≠ "__name__" := by decide) (hdbS : (y == ("__debug__" : Str)) = false := by decide) (hnT : z ≠ "__name__" := by decide) (hdbT : (z == ("__debug__" : Str)) = false := by decide)
    (hs : starEach [a, .Tuple [.Name y p2, .Name z p3] n p4] X.env = (false, eval a X.env) :: starEach [.Tuple [.Name y p2, .Name z p3] n p4] X.env := by rfl) :
    QE X rw (.Call (.Name "isinstance" p) [a, .Tuple [.Name y p2, .Name z p3] n p4] [] pos) (eIsi2 S T f) := by
  refine qe_of (pe_callB call_isYT hg hm (by decide +kernel) (pa_cons ha.pe (pa_cons (pe_tup (pa_cons (pe_bltn (v := .ty (tyN S)) hgS hmS hvS rfl hnS hdbS) (pa_cons (pe_bltn (v := .ty (tyN T)) hgT hmT hvT rfl hnT hdbT) pa_nil))) pa_nil) hs) (he := hs)) fun w σ δ Qd Q R h k => ?_
  refine rd_run (rw := rw) R (fun d M => someQ (tyD (view M d)) fun t => Qd (.val (.bl (match isiN t S with | true => true | false => isiN t T))) M) h fun d v w' q e2 o z g => ?_
  obtain ⟨t, q1, q2⟩ := someQ_e q
  rw [← e2] at q1
  refine ⟨by show 2 ≤ sizeLine; decide, fun q hq => ?_⟩
  have gl := Gr.loose (p := q) (o := .tup [.ty (tyN S), .ty (tyN T)]) o hq
  refine ⟨v, q, [.ty (tyN S), .ty (tyN T)], .type (tyN t), [.type (tyN S), .type (tyN T)], (match isiN t S with | true => true | false => isiN t T), rfl, upd_same, .cons (.ty _) (.cons (.ty _) .nil), tyX_of (w := ⟨w'.C, w'.M, w'.P, upd w'.H q (.tup [.ty (tyN S), .ty (tyN T)])⟩) gl.ok z q1, ?_, ?_⟩
  · refine kitAny_cons (kit_ty (isiN_ok t (tyD_le q1) S hS)) (fun hf => ?_) fun ht => by rw [ht]
    rw [hf]
    exact kitAny_cons (kit_ty (isiN_ok t (tyD_le q1) T hT)) (fun hf => by rw [hf]; exact kitAny_nil) fun ht => ht
  · exact k _ _ ⟨w.C, w.M, w.P, _⟩ q2 (g.trans (Gr.loose g.ok hq).weak) (.bl _)

/-! ### truth, tests -/
def neL {α : Type} : List α → Bool
  | [] => false
  | _ :: _ => true
theorem ne_len {α β : Type} {xs : List α} {ys : List β} (h : xs.length = ys.length) : neL ys = !xs.isEmpty := by
  cases xs <;> cases ys <;> first | rfl | (simp at h)
def tru (M : Mem) (d : D) : Option Bool := match view M d with
  | .non => some false
  | .bl b => some b
  | .int i => some (i != 0)
  | .str y => match Nat.ble y.length 1000000 with
    | true => some (neL y)
    | false => none
  | .lst xs => some (neL xs)
  | .tup xs => some (neL xs)
  | .wtup xs => some (neL xs)
  | _ => none
theorem tru_V {G : Gx} {w : Wd} {v : V} {d : D} {k : Bool} (o : WOk G w) (z : Dp G.K w.C w.P v d) (h : tru w.M d = some k) : TruV G.K v w.H k := by
  unfold tru at h
  generalize hx : view w.M d = cx at h
  cases cx with
  | non => cases see_non o z hx; cases h; rfl
  | bl b => cases see_bl o z hx; cases h; rfl
  | int i => cases see_int o z hx; cases h; rfl
  | str x =>
    obtain ⟨rfl, _⟩ := see_str o z hx
    dsimp only at h
    cases e : Nat.ble x.length 1000000 with
    | true =>
      rw [e] at h
      cases h
      refine ⟨by rw [tx_len]; exact Nat.le_trans (Nat.le_of_ble_eq_true e) (by decide), ?_⟩
      rw [tx_len]
      cases x with
      | nil => rfl
      | cons a r =>
        show true = !decide (((a :: r).length : Int) = 0)
        simp
        omega
    | false => rw [e] at h; cases h
  | lst ys => obtain ⟨a, xs, rfl, p, u⟩ := see_lst o z hx; cases h; exact .inl ⟨_, .inl (.inl p), ne_len u.length⟩
  | tup ys => obtain ⟨a, xs, rfl, _, p, u⟩ := see_tup o z hx; cases h; exact .inr (.inl ⟨_, .inl (.inl p), ne_len u.length⟩)
  | wtup ys => obtain ⟨a, xs, rfl, p, u⟩ := (see_wtup o z hx).2; cases h; exact .inr (.inl ⟨_, p w.H, ne_len u.length⟩)
  | _ => cases h
def tE (f : EV) : TV := fun δ M Q => f (frzE δ) M fun r M1 => someQ (tru M1 r.d) fun k => Q k M1
theorem qt_of {t : TT} (h : PT X e t) (i : ∀ w σ δ (Qd : Bool → Mem → Prop) (Q : Bool → Hp → Prop), Rep (gx X) w σ δ → ft δ w.M Qd → (∀ c w', Qd c w'.M → Gr (gx X) rw w w' → Q c w'.H) → t σ w.H Q) : QT X rw e ft :=
  ⟨pt_imp h fun σ H Q ⟨w, δ, Qd, e, R, hf, k⟩ => by subst e; exact i w σ δ Qd Q R hf k⟩
theorem q_t (ha : QE X false a f) (he : ∀ whole, isTrue a X.env whole = (do let v ← whole; standAt a.pos; holding [v] (truthy v)) := by intro _; rfl) : QT X rw a (tE f) :=
  qt_of (pt_truth ha.pe he) fun w σ δ Qd Q R h k =>
    rd_run (rw := rw) R (fun d M => someQ (tru M d) fun c => Qd c M) h fun d v w' q e2 o z g => by
      obtain ⟨c, q1, q2⟩ := someQ_e q
      rw [← e2] at q1
      exact ⟨c, tru_V o z q1, k c ⟨w.C, w.M, w.P, w'.H⟩ q2 g⟩
/-- a comparison as a test: its value is a bool -/
def blQ (d : D) (q : Bool → Prop) : Prop := match d with
  | .bl b => q b
  | _ => False
theorem blQ_e {d : D} {q : Bool → Prop} (h : blQ d q) : ∃ b, d = .bl b ∧ q b := by
  cases d <;> first | exact ⟨_, rfl, h⟩ | exact h.elim
def tCmp (go : OpD) (fa fb : EV) : TV := fun δ M Q => eOp go fa fb (frzE δ) M fun r M1 => blQ r.d fun k => Q k M1
theorem q_tcmp {op : CmpOp} {go : OpD} (ho : OpL X (compareOp op) go) (ha : QE X false a fa) (hb : QE X false b fb) (hm : behindInMarks op b = false := by rfl) : QT X rw (.Compare a [op] [b] pos) (tCmp go fa fb) := by
  obtain ⟨r, h1, h2⟩ := ho
  refine qt_of (pt_cmpR h1 ha.pe hb.pe hm) fun w σ δ Qd Q R h k => ?_
  refine op_run (w := ⟨w.C, w.M, tot w, w.H⟩) h2 R.tot h fun rz v w' q g z => ?_
  obtain ⟨c, q1, q2⟩ := blQ_e q
  rw [show w'.M = w.M from (g.ro rfl).2.1] at q2
  obtain ⟨P2, g2, _, z2⟩ := z.frz g
  rw [q1] at z2
  exact ⟨c, Dp.bl' z2, k c ⟨w.C, w.M, w.P, w'.H⟩ q2 (Gr.drop R g)⟩
def notB (b : Bool) : Bool := match b with
  | true => false
  | false => true
def tNt (ft : TV) : TV := fun δ M Q => ft δ M fun c M1 => Q (notB c) M1
theorem notB_eq (b : Bool) : notB b = !b := by cases b <;> rfl
theorem q_tnot (ha : QT X rw a ft) : QT X rw (.UnaryOp .Not a pos) (tNt ft) :=
  qt_of (pt_not ha.pt) fun w σ δ Qd Q R h k => ⟨w, δ, _, rfl, R, h, fun c w' q g => by
    have q2 := k (notB c) w' q g
    rw [notB_eq] at q2
    exact q2⟩
structure QW (X : Cx) (rw : Bool) (e : Expr) (f : TV) : Prop where
  pw : PW X e (liftT (gx X) rw f)
theorem pw_imp {t t' : TT} (h : PW X e t) (i : ∀ σ H Q, t' σ H Q → t σ H Q) : PW X e t' := ⟨fun wh pins s σ H Q I q => h.run wh pins s σ H Q I (i σ H Q q)⟩
def tAn (ft fu : TV) : TV := fun δ M Q => ft δ M fun c M1 => IF c (fu δ M1 Q) (Q false M1)
def tO (ft fu : TV) : TV := fun δ M Q => ft δ M fun c M1 => IF c (Q true M1) (fu δ M1 Q)
theorem q_w (h : QW X rw e ft) : QT X rw e ft := ⟨h.pw.pt⟩
theorem q_wand1 (ha : QT X rw a ft) : QW X rw (.BoolOp .And [a] pos) ft := ⟨pw_and1 ha.pt⟩
theorem q_wor1 (ha : QT X rw a ft) : QW X rw (.BoolOp .Or [a] pos) ft := ⟨pw_or1 ha.pt⟩
theorem q_wand {rest : List Expr} (ha : QT X rw a ft) (hb : QW X rw (.BoolOp .And (b :: rest) pos) fu) : QW X rw (.BoolOp .And (a :: b :: rest) pos) (tAn ft fu) :=
  ⟨pw_imp (pw_and ha.pt hb.pw) fun σ H Q ⟨w, δ, Qd, e, R, h, k⟩ => by
    subst e
    refine ⟨w, δ, _, rfl, R, h, fun c w1 q g => ?_⟩
    cases c with
    | true => exact iteT ⟨w1, δ, Qd, rfl, R.mono g, q, fun c2 w2 q2 g2 => k c2 w2 q2 (g.trans g2)⟩
    | false => exact iteF (k false w1 q g)⟩
theorem q_wor {rest : List Expr} (ha : QT X rw a ft) (hb : QW X rw (.BoolOp .Or (b :: rest) pos) fu) : QW X rw (.BoolOp .Or (a :: b :: rest) pos) (tO ft fu) :=
  ⟨pw_imp (pw_or ha.pt hb.pw) fun σ H Q ⟨w, δ, Qd, e, R, h, k⟩ => by
    subst e
    refine ⟨w, δ, _, rfl, R, h, fun c w1 q g => ?_⟩
    cases c with
    | true => exact iteT (k true w1 q g)
    | false => exact iteF ⟨w1, δ, Qd, rfl, R.mono g, q, fun c2 w2 q2 g2 => k c2 w2 q2 (g.trans g2)⟩⟩
/-- a if t else b -/
def eIf (ft : TV) (fa fb : EV) : EV := fun δ M Q => ft δ M fun c M1 => IF c (fa δ M1 Q) (fb δ M1 Q)
theorem q_if (hc : QT X rw c ft) (ha : QE X rw a fa) (hb : QE X rw b fb) : QE X rw (.IfExp c a b pos) (eIf ft fa fb) := by
  refine qe_of (pe_ifExp hc.pt ha.pe hb.pe) fun w σ δ Qd Q R h k => ⟨w, δ, _, rfl, R, h, fun c w1 q g => ?_⟩
  cases c with
  | true => exact iteT ⟨w1, δ, Qd, rfl, R.mono g, q, fun r v w2 q2 g2 z2 => k r v w2 q2 (g.trans g2) (z2.back g)⟩
  | false => exact iteF ⟨w1, δ, Qd, rfl, R.mono g, q, fun r v w2 q2 g2 z2 => k r v w2 q2 (g.trans g2) (z2.back g)⟩
/-- values by truth -/
def eAnd (fa fb : EV) : EV := fun δ M Q => fa δ M fun x M1 => someQ (tru M1 x.d) fun k => IF k (fb δ M1 Q) (Q (.val x.d) M1)
def eOr (fa fb : EV) : EV := fun δ M Q => fa δ M fun x M1 => someQ (tru M1 x.d) fun k => IF k (Q (.val x.d) M1) (fb δ M1 Q)
def eNot (fa : EV) : EV := fun δ M Q => fa (frzE δ) M fun x M1 => someQ (tru M1 x.d) fun k => Q (.val (.bl (notB k))) M1
theorem q_one {op : BoolOp} (ha : QE X rw a fa) : QE X rw (.BoolOp op [a] pos) fa := ⟨pe_one ha.pe⟩
theorem q_and {rest : List Expr} (ha : QE X rw a fa) (hb : QE X rw (.BoolOp .And (b :: rest) pos) fb) : QE X rw (.BoolOp .And (a :: b :: rest) pos) (eAnd fa fb) := by
  refine qe_of (pe_andT ha.pe hb.pe) fun w σ δ Qd Q R h k => ?_
  refine lift_d R (fun d M1 => someQ (tru M1 d) fun c => IF c (fb δ M1 Qd) (Qd (.val d) M1)) h fun d v w1 q g z => ?_
  obtain ⟨c, q1, q2⟩ := someQ_e q
  refine ⟨c, tru_V g.ok z q1, ?_⟩
  cases c with
  | true => exact iteT ⟨w1, δ, Qd, rfl, R.mono g, q2, fun r v w2 q2 g2 z2 => k r v w2 q2 (g.trans g2) (z2.back g)⟩
  | false => exact iteF (k _ v w1 q2 g z)
theorem q_or {rest : List Expr} (ha : QE X rw a fa) (hb : QE X rw (.BoolOp .Or (b :: rest) pos) fb) : QE X rw (.BoolOp .Or (a :: b :: rest) pos) (eOr fa fb) := by
  refine qe_of (pe_orT ha.pe hb.pe) fun w σ δ Qd Q R h k => ?_
  refine lift_d R (fun d M1 => someQ (tru M1 d) fun c => IF c (Qd (.val d) M1) (fb δ M1 Qd)) h fun d v w1 q g z => ?_
  obtain ⟨c, q1, q2⟩ := someQ_e q
  refine ⟨c, tru_V g.ok z q1, ?_⟩
  cases c with
  | true => exact iteT (k _ v w1 q2 g z)
  | false => exact iteF ⟨w1, δ, Qd, rfl, R.mono g, q2, fun r v w2 q2 g2 z2 => k r v w2 q2 (g.trans g2) (z2.back g)⟩
theorem q_not (ha : QE X false a fa) : QE X rw (.UnaryOp .Not a pos) (eNot fa) :=
  qe_of (pe_notT ha.pe) fun w σ δ Qd Q R h k =>
    rd_run (rw := rw) R (fun d M => someQ (tru M d) fun c => Qd (.val (.bl (notB c))) M) h fun d v w' q e2 o z g => by
      obtain ⟨c, q1, q2⟩ := someQ_e q
      rw [← e2] at q1
      refine ⟨c, tru_V o z q1, ?_⟩
      rw [notB_eq] at q2
      exact k _ _ ⟨w.C, w.M, w.P, w'.H⟩ q2 g (.bl _)
def eNeg (fa : EV) : EV := fun δ M Q => fa δ M fun x M1 => intQ x.d fun i => Q (.val (.int (-i))) M1
theorem q_neg (ha : QE X rw a fa) : QE X rw (.UnaryOp .USub a pos) (eNeg fa) :=
  qe_of (pe_un un_neg ha.pe) fun w σ δ Qd Q R h k =>
    lift_d R (fun d M => intQ d fun i => Qd (.val (.int (-i))) M) h fun d v w' q g z => by
      obtain ⟨i, rfl, q2⟩ := intQ_e q
      cases z.int'
      exact ⟨i, rfl, k _ _ w' q2 g (.int _)⟩
/-! ### a < b < c -/
def eCh (g g' : OpD) (fa fb fc : EV) : EV := fun δ M Q => fa δ M fun x M1 => fb δ M1 fun y M2 => g M2 x.d y.d fun r => blQ r.d fun k => IF k (fc δ M2 fun z M3 => g' M3 y.d z.d fun r => Q r M3) (Q (.val (.bl false)) M2)
theorem chain_run {r r' : R2} {g g' : OpD} (h2 : OpW X r g) (h4 : OpW X r' g') {w : Wd} {σ : L2.St} {δ : DEnv} {Qd : Rz → Mem → Prop} {Q : VK} (R : Rep (gx X) w σ δ) (h : eCh g g' fa fb fc δ w.M Qd) (k : ∀ rz v w', Qd rz w'.M → Gr (gx X) rw w w' → RzOk (gx X) w w' rz v → Q v w'.H) :
    tChain r r' (lift (gx X) rw fa) (lift (gx X) rw fb) (lift (gx X) rw fc) σ w.H Q := by
  refine lift_d R (fun x M1 => fb δ M1 fun y M2 => g M2 x y.d fun r => blQ r.d fun k => IF k (fc δ M2 fun z M3 => g' M3 y.d z.d fun r => Qd r M3) (Qd (.val (.bl false)) M2)) h fun dx x w1 q1 g1 z1 => ?_
  refine lift_d (R.mono g1) (fun y M2 => g M2 dx y fun r => blQ r.d fun k => IF k (fc δ M2 fun z M3 => g' M3 y z.d fun r => Qd r M3) (Qd (.val (.bl false)) M2)) q1 fun dy y w2 q2 g2 z2 => ?_
  have g12 := g1.trans g2
  refine h2 w2 x y dx dy _ _ g2.ok (g2.dp z1) z2 q2 fun rz v w3 q3 g3 z3 => ?_
  obtain ⟨P2, g3', _, z3'⟩ := z3.frz g3
  obtain ⟨c, e3, q3⟩ := blQ_e q3
  rw [e3] at z3'
  have g13 := g12.trans g3.weak
  have eM : w3.M = w2.M := (g3.ro rfl).2.1
  refine ⟨c, Dp.bl' z3', ?_⟩
  cases c with
  | true =>
    refine iteT ?_
    have q3 : fc δ w2.M fun z M3 => g' M3 dy z.d fun r => Qd r M3 := q3
    rw [← eM] at q3
    refine lift_d (R.mono g13) (fun z M3 => g' M3 dy z fun r => Qd r M3) q3 fun dz z w4 q4 g4 z4 => ?_
    have g14 := g13.trans g4
    exact h4 w4 y z dy dz _ _ g4.ok (g4.dp (g3.dp z2)) z4 q4 fun rz v w5 q5 g5 z5 => k rz v w5 (by rw [(g5.ro rfl).2.1]; exact q5) (g14.trans g5.weak) (z5.back g14)
  | false =>
    have q3 : Qd (.val (.bl false)) w2.M := q3
    rw [← eM] at q3
    exact iteF (k _ _ w3 q3 g13 (.bl _))
theorem q_chain {op op' : CmpOp} {g g' : OpD} (ho : OpL X (compareOp op) g) (ho' : OpL X (compareOp op') g') (ha : QE X rw a fa) (hb : QE X rw b fb) (hc : QE X rw c fc) (hm : lastMarks [op, op'] [b, c] = false := by with_unfolding_all rfl) : QE X rw (.Compare a [op, op'] [b, c] pos) (eCh g g' fa fb fc) := by
  obtain ⟨r, h1, h2⟩ := ho
  obtain ⟨r', h3, h4⟩ := ho'
  exact qe_of (pe_chain h1 h3 ha.pe hb.pe hc.pe hm) fun w σ δ Qd Q R h k => chain_run h2 h4 R h k
def tCh (g g' : OpD) (fa fb fc : EV) : TV := fun δ M Q => eCh g g' fa fb fc (frzE δ) M fun r M1 => blQ r.d fun k => Q k M1
theorem q_tchain {op op' : CmpOp} {g g' : OpD} (ho : OpL X (compareOp op) g) (ho' : OpL X (compareOp op') g') (ha : QE X false a fa) (hb : QE X false b fb) (hc : QE X false c fc) (hm : lastMarks [op, op'] [b, c] = false := by with_unfolding_all rfl) : QT X rw (.Compare a [op, op'] [b, c] pos) (tCh g g' fa fb fc) := by
  obtain ⟨r, h1, h2⟩ := ho
  obtain ⟨r', h3, h4⟩ := ho'
  refine qt_of (pt_chain h1 h3 ha.pe hb.pe hc.pe hm) fun w σ δ Qd Q R h k => ?_
  refine chain_run (w := ⟨w.C, w.M, tot w, w.H⟩) h2 h4 R.tot h fun rz v w' q g z => ?_
  obtain ⟨c, q1, q2⟩ := blQ_e q
  rw [show w'.M = w.M from (g.ro rfl).2.1] at q2
  obtain ⟨P2, g2, _, z2⟩ := z.frz g
  rw [q1] at z2
  exact ⟨c, Dp.bl' z2, k c ⟨w.C, w.M, w.P, w'.H⟩ q2 (Gr.drop R g)⟩
end
end HI

namespace HI
open PySem PySem.Spec PyProof.Rows L2

/-! ### what is walked: the items, and the cell (with its content) that must stay meanwhile -/
abbrev Gd := Option (Nat × D)
def gOk (g : Gd) (M : Mem) : Prop := match g with
  | none => True
  | some (n, c) => M[n]? = some c
/-- the guard, then q -/
def gQ (g : Gd) (M : Mem) (q : Prop) : Prop := match g with
  | none => q
  | some (n, c) => M[n]? = some c ∧ q
theorem gQ_e {g : Gd} {M : Mem} {q : Prop} (h : gQ g M q) : gOk g M ∧ q := by
  cases g with
  | none => exact ⟨trivial, h⟩
  | some p => exact h
theorem gQ_i {g : Gd} {M : Mem} {q : Prop} (h : gOk g M) (k : q) : gQ g M q := by
  cases g with
  | none => exact k
  | some p => exact ⟨h, k⟩
abbrev IV := DEnv → Mem → (List D → Gd → Mem → Prop) → Prop
structure WalkD (G : Gx) (w0 : Wd) (J : It) (xs : List D) (gd : Gd) : Prop where
  go : ∀ w i, WOk G w → Same w0.P w.P → Pre w0.C w.C → gOk gd w.M → i < xs.length → J.go i w.H ∧ ∀ v H', J.yld i w.H v H' → ∃ w' d, w'.H = H' ∧ xs[i]? = some d ∧ Gr G false w w' ∧ Dp G.K w'.C w'.P v d
  stop : ∀ w, WOk G w → Same w0.P w.P → Pre w0.C w.C → gOk gd w.M → J.stop xs.length w.H
def liftI (G : Gx) (rw : Bool) (f : IV) : TI := fun σ H R => ∃ w δ Qd, w.H = H ∧ Rep G w σ δ ∧ f δ w.M Qd ∧ ∀ xs gd J w', Qd xs gd w'.M → Gr G rw w w' → WalkD G w' J xs gd → R J w'.H
structure QI (X : Cx) (rw : Bool) (tg e : Expr) (f : IV) : Prop where
  pi : PI X tg e (liftI (gx X) rw f)
theorem pi_imp {X : Cx} {tg e : Expr} {t t' : TI} (h : PI X tg e t) (i : ∀ σ H Q, t' σ H Q → t σ H Q) : PI X tg e t' := ⟨fun pins s σ H Q I q => h.run pins s σ H Q I (i σ H Q q)⟩
section
variable {X : Cx} {rw : Bool} {tg e a b : Expr} {f fa fb : EV} {fr : AV} {pos p : Pos}
theorem qi_of {t : TI} {f : IV} (h : PI X tg e t) (i : ∀ w σ δ (Qd : List D → Gd → Mem → Prop) (R : It → Hp → Prop), Rep (gx X) w σ δ → f δ w.M Qd → (∀ xs gd J w', Qd xs gd w'.M → Gr (gx X) rw w w' → WalkD (gx X) w' J xs gd → R J w'.H) → t σ w.H R) : QI X rw tg e f :=
  ⟨pi_imp h fun σ H Q ⟨w, δ, Qd, e, R, hf, k⟩ => by subst e; exact i w σ δ Qd Q R hf k⟩
/-- a list, a tuple or a text, by its value -/
theorem pi_seq {tl : TE} (hl : PE X e tl) : PI X tg e (fun σ H R => tl σ H fun x H1 => (∃ a, x = .ref a ∧ (∃ xs, SqL X.K H1 a xs) ∧ R (Itl X.K a) H1) ∨ (∃ a, x = .ref a ∧ (∃ xs, SqT X.K H1 a xs) ∧ R (Itt X.K a) H1) ∨ (∃ z, x = .str z ∧ R (Its z) H1)) := by
  refine ⟨fun pins s σ H R I h => ?_⟩
  refine thn (hl.run pins s σ H _ I h) fun v s1 ⟨x, H1, I1, r1, q1⟩ => ?_
  rcases q1 with ⟨a, e, ⟨xs, hq⟩, q⟩ | ⟨a, e, ⟨xs, hq⟩, q⟩ | ⟨x, ex, q⟩
  · subst e
    cases r1
    obtain ⟨its, rv, p, hz⟩ := I1.list hq
    refine wpAny_pyIter_list p.isList ?_
    refine ⟨s1.heap.objs.size, [s1.heap.objs.size], _, _, H1, rfl, I1.kept (t' := s1.toks) fun b o e => Heap.get?_push_of_some _ e, turn_list a _, ⟨_, Heap.get?_push_size _ rfl, rfl, rfl⟩, fun b hb => ?_, q⟩
    have e : b = s1.heap.objs.size := by simpa using hb
    subst e
    exact I1.fpOk (Nat.le_refl _) (I1.hok.fresh (Nat.le_refl _))
  · subst e
    cases r1
    obtain ⟨its, rv, p, hz⟩ := I1.tuple hq
    refine wpAny_pyIter_tuple (show s1.heap.IsTuple a its.toArray from p) ?_
    refine ⟨s1.heap.objs.size, [s1.heap.objs.size], _, _, H1, rfl, I1.kept (t' := s1.toks) fun b o e => Heap.get?_push_of_some _ e, turn_tuple a _, ⟨_, Heap.get?_push_size _ rfl, rfl, rfl⟩, fun b hb => ?_, q⟩
    have e : b = s1.heap.objs.size := by simpa using hb
    subst e
    exact I1.fpOk (Nat.le_refl _) (I1.hok.fresh (Nat.le_refl _))
  · subst ex
    obtain ⟨t, rfl⟩ := r1
    cases ha : x.cps.all (· < 128)
    · exact wpAny_pyIter_wide ha (pi_one (tk := s1.toks) I1 _ (turn_str _ x t "str_iterator" (.inr rfl)) ⟨_, Heap.get?_push_size _ rfl, rfl, rfl⟩ q)
    · exact wpAny_pyIter_ascii ha (pi_one (tk := s1.toks) I1 _ (turn_str _ x t "str_ascii_iterator" (.inl rfl)) ⟨_, Heap.get?_push_size _ rfl, rfl, rfl⟩ q)
def chs : List Nat → List D
  | [] => []
  | c :: r => .str [c] :: chs r
theorem chs_map (z : List Nat) : chs z = z.map fun c => .str [c] := by
  induction z with
  | nil => rfl
  | cons c r ih => rw [chs, ih]; rfl
/-- the items of a container, and its guard -/
def seqD (M : Mem) (d : D) : Option (List D × Gd) := match d with
  | .lst xs => some (xs, none)
  | .tup xs => some (xs, none)
  | .wtup xs => some (xs, none)
  | .str z => some (chs z, none)
  | .cell n => match M[n]? with
    | some (.lst xs) => some (xs, some (n, .lst xs))
    | _ => none
  | _ => none
def iSeq (f : EV) : IV := fun δ M Q => f δ M fun r M1 => someQ (seqD M1 r.d) fun p => Q p.1 p.2 M1
theorem walk_at {G : Gx} {w0 : Wd} {J : It} {vs : List V} {ds : List D} {gd : Gd} (hz : ∀ w, WOk G w → Same w0.P w.P → Pre w0.C w.C → gOk gd w.M → ∃ vs, DpA G.K w.C w.P vs ds ∧ (∀ i v, vs[i]? = some v → J.go i w.H) ∧ (∀ i v H', J.yld i w.H v H' → H' = w.H ∧ vs[i]? = some v) ∧ J.stop vs.length w.H) : WalkD G w0 J ds gd := by
  refine ⟨fun w i o p c g hi => ?_, fun w o p c g => ?_⟩
  · obtain ⟨vs, z, h1, h2, h3⟩ := hz w o p c g
    have hi' : i < vs.length := by rw [z.length]; exact hi
    refine ⟨h1 i vs[i] (by simp [hi']), fun v H' y => ?_⟩
    obtain ⟨rfl, h⟩ := h2 i v H' y
    obtain ⟨d, k1, k2⟩ := z.get' h
    exact ⟨w, d, rfl, k1, .refl o, k2⟩
  · obtain ⟨vs, z, h1, h2, h3⟩ := hz w o p c g
    rw [← z.length]
    exact h3
theorem q_seq (he : QE X rw e f) : QI X rw tg e (iSeq f) := by
  refine qi_of (pi_seq he.pe) fun w σ δ Qd R Rp h k => ?_
  refine lift_d Rp (fun d M => someQ (seqD M d) fun p => Qd p.1 p.2 M) h fun d v w' q g z => ?_
  obtain ⟨⟨xs, gd⟩, q1, q2⟩ := someQ_e q
  cases d with
  | lst ds =>
    cases q1
    obtain ⟨a1, x1, rfl, p1, w1⟩ := see_lst g.ok z rfl
    refine .inl ⟨a1, rfl, ⟨x1, .inl (.inl p1)⟩, k _ _ _ w' q2 g ?_⟩
    refine walk_at (vs := x1) fun w2 o p c _ => ?_
    obtain ⟨a2, x2, e2, p2, w2'⟩ := see_lst (d := .lst xs) o (z.mono c p) rfl
    cases e2
    exact ⟨x2, w2', fun i v hv => ⟨x2, v, .inl (.inl p2), hv⟩, fun i v H' y => ⟨y.1, y.2 _ (.inl (.inl p2))⟩, ⟨x2, .inl (.inl p2), Nat.le_refl _⟩⟩
  | tup ds =>
    cases q1
    obtain ⟨a1, x1, rfl, _, p1, w1⟩ := see_tup g.ok z rfl
    refine .inr (.inl ⟨a1, rfl, ⟨x1, .inl (.inl p1)⟩, k _ _ _ w' q2 g ?_⟩)
    refine walk_at (vs := x1) fun w2 o p c _ => ?_
    obtain ⟨a2, x2, e2, _, p2, w2'⟩ := see_tup (d := .tup xs) o (z.mono c p) rfl
    cases e2
    exact ⟨x2, w2', fun i v hv => ⟨x2, v, .inl (.inl p2), hv⟩, fun i v H' y => ⟨y.1, y.2 _ (.inl (.inl p2))⟩, ⟨x2, .inl (.inl p2), Nat.le_refl _⟩⟩
  | wtup ds =>
    cases q1
    obtain ⟨a1, x1, rfl, p1, w1⟩ := (see_wtup g.ok z rfl).2
    refine .inr (.inl ⟨a1, rfl, ⟨x1, p1 w'.H⟩, k _ _ _ w' q2 g ?_⟩)
    refine walk_at (vs := x1) fun w2 o p c _ => ⟨x1, w1.mono c p, fun i v hv => ⟨x1, v, p1 w2.H, hv⟩, fun i v H' y => ⟨y.1, y.2 _ (p1 w2.H)⟩, ⟨x1, p1 w2.H, Nat.le_refl _⟩⟩
  | str s =>
    cases q1
    obtain ⟨rfl, hv⟩ := z.str'
    refine .inr (.inr ⟨tx s, rfl, k _ _ _ w' q2 g ⟨fun w2 i o p c _ hi => ?_, fun w2 o p c _ => ?_⟩⟩)
    · rw [chs_map, List.length_map] at hi
      have hi' : i < (tx s).cps.size := by show i < s.toArray.size; simpa using hi
      refine ⟨hi', fun v H' y => ?_⟩
      obtain ⟨rfl, c, hc, rfl⟩ := y
      have hc' : s[i]? = some c := by
        rw [← Array.getElem?_toList, tx_cps] at hc
        exact hc
      refine ⟨w2, .str [c], rfl, ?_, .refl o, .str [c] fun q hq => ?_⟩
      · rw [chs_map, List.getElem?_map, hc']
        rfl
      · rw [List.mem_singleton] at hq
        subst hq
        exact hv _ (List.mem_of_getElem? hc')
    · show (tx s).cps.size ≤ (chs s).length
      rw [chs_map, List.length_map]
      show s.toArray.size ≤ s.length
      simp
  | cell n =>
    have q1 : (match w'.M[n]? with | some (.lst xs) => some (xs, some (n, D.lst xs)) | _ => none) = some (xs, gd) := q1
    obtain ⟨a, rfl, ha⟩ := z.cell'
    obtain ⟨c, h1, h2, h3⟩ := g.ok.at ha
    rw [h1] at q1
    cases c with
    | lst ds =>
      cases q1
      have hv : ∀ w2 : Wd, WOk (gx X) w2 → Pre w'.C w2.C → w2.M[n]? = some (.lst xs) → ∃ x2, w2.H a = some (.lst x2) ∧ DpA X.K w2.C w2.P x2 xs := fun w2 o c gm => by
        obtain ⟨_, ho, e1, e2⟩ := o.cell n a (.lst xs) (c.at ha) gm
        cases e2 with
        | lst e2 => exact ⟨_, e1, e2⟩
      obtain ⟨x1, p1, _⟩ := hv w' g.ok (Pre.refl _) h1
      refine .inl ⟨a, rfl, ⟨x1, .inl (.inl p1)⟩, k _ _ _ w' q2 g ?_⟩
      refine walk_at (vs := x1) fun w2 o p c gm => ?_
      obtain ⟨x2, p2, w2'⟩ := hv w2 o c gm
      exact ⟨x2, w2', fun i v hv => ⟨x2, v, .inl (.inl p2), hv⟩, fun i v H' y => ⟨y.1, y.2 _ (.inl (.inl p2))⟩, ⟨x2, .inl (.inl p2), Nat.le_refl _⟩⟩
    | _ => cases q1
  | _ => cases q1
/-- range(n), range(a, b) -/
def rngN (lo : Int) : Nat → Nat → List D
  | 0, _ => []
  | n + 1, i => .int (lo + (i : Nat)) :: rngN lo n (i + 1)
def rngD (lo : Int) (n : Nat) : List D := (List.range n).map fun i => .int (lo + (i : Nat))
theorem rng_len (a : Int) (n : Nat) : (rngD a n).length = n := by unfold rngD; rw [List.length_map, List.length_range]
def bnd (i : Int) (q : Prop) : Prop := (-1000000000 ≤ i ∧ i ≤ 1000000000) ∧ q
def iRg1 (f : EV) : IV := fun δ M Q => f δ M fun r M1 => intQ r.d fun j => bnd j (Q (rngD 0 j.toNat) none M1)
def iRg2 (fa fb : EV) : IV := fun δ M Q => fa δ M fun x M1 => fb δ M1 fun y M2 => intQ x.d fun i => intQ y.d fun j => bnd i (bnd j (Q (rngD i (j - i).toNat) none M2))
theorem walk_rng {G : Gx} {w0 : Wd} {lo : Int} {n : Nat} : WalkD G w0 (Itr lo n) (rngD lo n) none := by
  refine ⟨fun w i o p c _ hi => ?_, fun w o p c _ => ?_⟩
  · rw [rng_len] at hi
    refine ⟨hi, fun v H' y => ?_⟩
    obtain ⟨rfl, rfl⟩ := y
    refine ⟨w, .int (lo + i), rfl, ?_, .refl o, .int _⟩
    unfold rngD
    rw [List.getElem?_map, List.getElem?_range hi]
    rfl
  · show n ≤ (rngD lo n).length
    rw [rng_len]
    exact Nat.le_refl _
theorem q_rg1 (ha : QE X rw a f) (hm : X.mg "range" = none) (hg : Gl X "range" := by rfl) (hs : starEach [a] X.env = [(false, eval a X.env)] := by rfl) : QI X rw tg (.Call (.Name "range" p) [a] [] pos) (iRg1 f) := by
  refine qi_of (pi_range1 hg hm (pa_cons ha.pe pa_nil hs) (hs := hs)) fun w σ δ Qd R Rp h k => ?_
  refine lift_d Rp (fun d M1 => intQ d fun j => bnd j (Qd (rngD 0 j.toNat) none M1)) h fun d v w' q g z => ?_
  obtain ⟨j, rfl, ⟨q2, q3⟩, q4⟩ := intQ_e q
  cases z.int'
  exact ⟨j, rfl, by omega, by omega, k _ _ _ w' q4 g walk_rng⟩
theorem q_rg2 (ha : QE X rw a fa) (hb : QE X rw b fb) (hm : X.mg "range" = none) (hg : Gl X "range" := by rfl) (hs : starEach [a, b] X.env = (false, eval a X.env) :: starEach [b] X.env := by rfl) (hs2 : starEach [b] X.env = [(false, eval b X.env)] := by rfl) (hpl : (backTo pos (starEach [b] X.env)).any (·.1) = false := by rfl) : QI X rw tg (.Call (.Name "range" p) [a, b] [] pos) (iRg2 fa fb) := by
  refine qi_of (pi_range2 hg hm (pa_cons ha.pe (pa_cons hb.pe pa_nil hs2) hs) (hs := hs.trans (by rw [hs2])) (hs2 := hs2)) fun w σ δ Qd R Rp h k => ?_
  dsimp only [iRng2, tCons, tNil]
  refine lift_d Rp (fun x M1 => fb δ M1 fun y M2 => intQ x fun i => intQ y.d fun j => bnd i (bnd j (Qd (rngD i (j - i).toNat) none M2))) h fun d v w1 q g1 z1 => ?_
  refine lift_d (Rp.mono g1) (fun y M2 => intQ d fun i => intQ y fun j => bnd i (bnd j (Qd (rngD i (j - i).toNat) none M2))) q fun d2 v2 w2 q2 g2 z2 => ?_
  obtain ⟨i, e1, q3⟩ := intQ_e q2
  obtain ⟨j, e2, ⟨h1, h2⟩, ⟨h3, h4⟩, q7⟩ := intQ_e q3
  subst e1
  subst e2
  cases z1.int'
  cases z2.int'
  exact ⟨i, j, rfl, ⟨by omega, by omega, by omega, by omega⟩, k _ _ _ w2 q7 (g1.trans g2) walk_rng⟩
/-- zip of two lists, of two tuples -/
def zipD : List D → List D → List D
  | x :: xs, y :: ys => .tup [x, y] :: zipD xs ys
  | _, _ => []
theorem zipD_eq : ∀ xs ys : List D, zipD xs ys = (xs.zip ys).map fun p => .tup [p.1, p.2]
  | [], ys => by simp [zipD]
  | x :: xs, [] => by simp [zipD]
  | x :: xs, y :: ys => by rw [zipD, zipD_eq xs ys]; rfl
def zpD (x y : D) : Option (List D) := match x, y with
  | .lst xs, .lst ys => some (zipD xs ys)
  | .tup xs, .tup ys => some (zipD xs ys)
  | _, _ => none
def iZp (fa fb : EV) : IV := fun δ M Q => fa δ M fun x M1 => fb δ M1 fun y M2 => someQ (zpD x.d y.d) fun zs => Q zs none M2
theorem walk_zp {G : Gx} {w0 : Wd} {J : It} {ds es : List D} (hz : ∀ w, WOk G w → Same w0.P w.P → Pre w0.C w.C → ∃ vs us, DpA G.K w.C w.P vs ds ∧ DpA G.K w.C w.P us es ∧ (∀ i v u, vs[i]? = some v → us[i]? = some u → J.go i w.H) ∧
    (∀ i v H', J.yld i w.H v H' → ∃ T x y, v = .ref T ∧ w.H T = none ∧ H' = upd w.H T (.tup [x, y]) ∧ vs[i]? = some x ∧ us[i]? = some y) ∧ ∀ i, (vs.length ≤ i ∨ us.length ≤ i) → J.stop i w.H) : WalkD G w0 J (zipD ds es) none := by
  have hl : (zipD ds es).length = min ds.length es.length := by
    rw [zipD_eq, List.length_map, List.length_zip]
  refine ⟨fun w i o p c _ hi => ?_, fun w o p c _ => ?_⟩
  · obtain ⟨vs, us, z, y, hgo, hy, hst⟩ := hz w o p c
    rw [hl] at hi
    have h1 : i < vs.length := by rw [z.length]; omega
    have h2 : i < us.length := by rw [y.length]; omega
    refine ⟨hgo i vs[i] us[i] (by simp [h1]) (by simp [h2]), fun v H' yy => ?_⟩
    obtain ⟨T, x, u, rfl, hT, rfl, g1, g2⟩ := hy i v H' yy
    obtain ⟨d1, k1, k2⟩ := z.get' g1
    obtain ⟨d2, l1, l2⟩ := y.get' g2
    obtain ⟨g3, z3⟩ := tup_ok (Gr.refl (rw := false) o) hT (.cons k2 (.cons l2 .nil))
    refine ⟨_, .tup [d1, d2], ?_, ?_, g3, z3⟩
    · rfl
    · rw [zipD_eq, List.getElem?_map]
      have hz : (ds.zip es)[i]? = some (d1, d2) := List.getElem?_zip_eq_some.mpr ⟨k1, l1⟩
      rw [hz]
      rfl
  · obtain ⟨vs, us, z, y, hgo, hy, hst⟩ := hz w o p c
    exact hst _ (by rw [hl, z.length, y.length]; omega)
theorem q_zp {elts : List Expr} {kk : Nat} {tpos : Pos} (ha : QE X rw a fa) (hb : QE X rw b fb) (hm : X.mg "zip" = none) (hg : Gl X "zip" := by rfl) (hs : starEach [a, b] X.env = (false, eval a X.env) :: starEach [b] X.env := by rfl) (hs2 : starEach [b] X.env = [(false, eval b X.env)] := by rfl) (hpl : (backTo pos (starEach [b] X.env)).any (·.1) = false := by rfl) :
    QI X rw (.Tuple elts kk tpos) (.Call (.Name "zip" p) [a, b] [] pos) (iZp fa fb) := by
  refine qi_of (RZ.pi_zipA hg hm (pa_cons ha.pe (pa_cons hb.pe pa_nil hs2) hs) hs hpl) fun w σ δ Qd R Rp h k => ?_
  dsimp only [RZ.iZipA, tCons, tNil]
  refine lift_d Rp (fun x M1 => fb δ M1 fun y M2 => someQ (zpD x y.d) fun zs => Qd zs none M2) h fun d v w1 q g1 z1 => ?_
  refine lift_d (Rp.mono g1) (fun y M2 => someQ (zpD d y) fun zs => Qd zs none M2) q fun d2 v2 w2 q2 g2 z2 => ?_
  obtain ⟨zs, q1, q2⟩ := someQ_e q2
  have zx := g2.dp z1
  have g := g1.trans g2
  cases d with
  | lst xs =>
    cases d2 with
    | lst ys =>
      cases q1
      obtain ⟨a1, x1, rfl, p1, u1⟩ := see_lst g.ok zx rfl
      obtain ⟨a2, x2, rfl, p2, u2⟩ := see_lst g.ok z2 rfl
      refine ⟨a1, a2, x1, x2, rfl, .inl ⟨.inl (.inl p1), .inl (.inl p2), k _ _ _ w2 q2 g ?_⟩⟩
      refine walk_zp fun w3 o p c => ?_
      obtain ⟨b1, y1, e1, r1, t1⟩ := see_lst (d := .lst xs) o (zx.mono c p) rfl
      obtain ⟨b2, y2, e2, r2, t2⟩ := see_lst (d := .lst ys) o (z2.mono c p) rfl
      cases e1
      cases e2
      refine ⟨y1, y2, t1, t2, fun i v u h1 h2 => ⟨y1, y2, v, u, .inl (.inl r1), .inl (.inl r2), h1, h2⟩, fun i v H' y => ?_, fun i hi => ⟨y1, y2, .inl (.inl r1), .inl (.inl r2), hi⟩⟩
      obtain ⟨T, x, w, h1, h2, h3, h4, h5⟩ := y
      exact ⟨T, x, w, h1, h2, h3, h4 _ (.inl (.inl r1)), h5 _ (.inl (.inl r2))⟩
    | _ => cases q1
  | tup xs =>
    cases d2 with
    | tup ys =>
      cases q1
      obtain ⟨a1, x1, rfl, _, p1, u1⟩ := see_tup g.ok zx rfl
      obtain ⟨a2, x2, rfl, _, p2, u2⟩ := see_tup g.ok z2 rfl
      refine ⟨a1, a2, x1, x2, rfl, .inr ⟨.inl (.inl p1), .inl (.inl p2), k _ _ _ w2 q2 g ?_⟩⟩
      refine walk_zp fun w3 o p c => ?_
      obtain ⟨b1, y1, e1, _, r1, t1⟩ := see_tup (d := .tup xs) o (zx.mono c p) rfl
      obtain ⟨b2, y2, e2, _, r2, t2⟩ := see_tup (d := .tup ys) o (z2.mono c p) rfl
      cases e1
      cases e2
      refine ⟨y1, y2, t1, t2, fun i v u h1 h2 => ⟨y1, y2, v, u, .inl (.inl r1), .inl (.inl r2), h1, h2⟩, fun i v H' y => ?_, fun i hi => ⟨y1, y2, .inl (.inl r1), .inl (.inl r2), hi⟩⟩
      obtain ⟨T, x, w, h1, h2, h3, h4, h5⟩ := y
      exact ⟨T, x, w, h1, h2, h3, h4 _ (.inl (.inl r1)), h5 _ (.inl (.inl r2))⟩
    | _ => cases q1
  | _ => cases d2 <;> cases q1
end
end HI

namespace HI
open PySem L2

/-! ### targets -/
inductive Tg where
  | one (i : Nat) | tup (ts : List Tg)
mutual
def Tg.set : Tg → D → DEnv → Option DEnv
  | .one i, d, δ => some (List.set δ i (.val d))
  | .tup ts, d, δ => match d with
    | .tup ds => Tg.setA ts ds δ
    | _ => none
def Tg.setA : List Tg → List D → DEnv → Option DEnv
  | [], [], δ => some δ
  | t :: ts, d :: ds, δ => match Tg.set t d δ with
    | some δ' => Tg.setA ts ds δ'
    | none => none
  | _, _, _ => none
end
mutual
def Tg.g (K : PySem.W.Frag) : Tg → TG
  | .one i => gName i
  | .tup ts => gTup K ts.length (Tg.gA K ts)
def Tg.gA (K : PySem.W.Frag) : List Tg → TGs
  | [] => gNil
  | t :: ts => gCons (Tg.g K t) (Tg.gA K ts)
end
mutual
def Tg.ix : Tg → List Nat
  | .one i => [i]
  | .tup ts => Tg.ixA ts
def Tg.ixA : List Tg → List Nat
  | [] => []
  | t :: ts => Tg.ix t ++ Tg.ixA ts
end
/-- bind, then q -/
def Tg.bind (t : Tg) (d : D) (δ : DEnv) (q : DEnv → Prop) : Prop := someQ (t.set d δ) q
structure QG (X : Cx) (e : Expr) (t : Tg) : Prop where
  pg : PG X e (t.g X.K)
structure QGs (X : Cx) (es : List Expr) (ts : List Tg) : Prop where
  pgs : PGs X es (Tg.gA X.K ts)
  len : es.length = ts.length
section
variable {X : Cx} {pos : Pos}
theorem q_name {i : Nat} {x : Str} (hN : X.N.Nodup) (hi : X.N[i]? = some x := by rfl) (hx : Loc X.env.scope x := by first | exact Or.inl rfl | exact Or.inr rfl) (hf : X.fn x = true ∨ X.env.scope.names.lookup x = some .local := by first | exact .inl rfl | exact .inr rfl | assumption) : QG X (.Name x pos) (.one i) := ⟨by rw [Tg.g]; exact pg_name hN hi hx hf⟩
theorem q_gnil : QGs X [] [] := ⟨by rw [Tg.gA]; exact pgs_nil, rfl⟩
theorem q_gcons {e : Expr} {es : List Expr} {t : Tg} {ts : List Tg} (h1 : QG X e t) (h2 : QGs X es ts) (hs : (assignEach (e :: es) X.env).map (·.2) = assign e X.env :: (assignEach es X.env).map (·.2) := by rfl) : QGs X (e :: es) (t :: ts) := ⟨by rw [Tg.gA]; exact pgs_cons h1.pg h2.pgs hs, by rw [List.length_cons, List.length_cons, h2.len]⟩
theorem q_gtup {es : List Expr} {n : Nat} {ts : List Tg} (h : QGs X es ts) (hc : X.calm = true := by rfl) (hn : (assignEach es X.env).length = ts.length := by rfl) (hst : (assignEach es X.env).findIdx? (·.1) = none := by rfl) : QG X (.Tuple es n pos) (.tup ts) :=
  ⟨by rw [Tg.g]; exact pg_tup hc h.pgs hn hst⟩
end
theorem set_back {δ : DEnv} {i : Nat} {x : Sl} (j : Nat) (s : Sl) (h : (δ.set i x)[j]? = some s) : (i = j ∧ s = x ∧ j < δ.length) ∨ (i ≠ j ∧ δ[j]? = some s) := by
  by_cases e : i = j
  · subst e
    by_cases hi : i < δ.length
    · rw [List.getElem?_set_self hi] at h
      exact .inl ⟨rfl, (Option.some.inj h).symm, hi⟩
    · rw [List.getElem?_eq_none (by rw [List.length_set]; omega)] at h
      cases h
  · rw [List.getElem?_set_ne e] at h
    exact .inr ⟨e, h⟩
section
variable {G : Gx} {w : Wd} {σ : L2.St} {δ : DEnv}
/-- the slots of plain values, changed -/
theorem Rep.set_val {v : V} {d : D} (R : Rep G w σ δ) (i : Nat) (z : Dp G.K w.C w.P v d) : Rep G w (σ.set i (some v)) (δ.set i (.val d)) := by
  have hl := R.len
  refine ⟨R.ok, fun j d' h => ?_, fun j d' h => ?_, fun j k d' e l h1 h2 h3 h4 => ?_, by rw [List.length_set, List.length_set]; exact hl⟩
  · rcases set_back j _ h with ⟨rfl, e, hj⟩ | ⟨ne, h⟩
    · cases e
      exact ⟨v, by rw [List.getElem?_set_self (by omega)], z⟩
    · obtain ⟨v', h1, h2⟩ := R.val j d' h
      exact ⟨v', by rw [List.getElem?_set_ne ne]; exact h1, h2⟩
  · rcases set_back j _ h with ⟨rfl, e, hj⟩ | ⟨ne, h⟩
    · cases e
    · obtain ⟨l, h1, h2⟩ := R.own j d' h
      exact ⟨l, by rw [List.getElem?_set_ne ne]; exact h1, h2⟩
  · rcases set_back j _ h1 with ⟨_, e, _⟩ | ⟨n1, h1⟩
    · cases e
    rcases set_back k _ h2 with ⟨_, e, _⟩ | ⟨n2, h2⟩
    · cases e
    rw [List.getElem?_set_ne n1] at h3
    rw [List.getElem?_set_ne n2] at h4
    exact R.sep j k d' _ l h1 h2 h3 h4
theorem Rep.set_no (R : Rep G w σ δ) (i : Nat) (s : Option V) : Rep G w (σ.set i s) (δ.set i .no) := by
  have hl := R.len
  refine ⟨R.ok, fun j d' h => ?_, fun j d' h => ?_, fun j k d' e l h1 h2 h3 h4 => ?_, by rw [List.length_set, List.length_set]; exact hl⟩
  · rcases set_back j _ h with ⟨_, e, _⟩ | ⟨ne, h⟩
    · cases e
    · obtain ⟨v', h1, h2⟩ := R.val j d' h
      exact ⟨v', by rw [List.getElem?_set_ne ne]; exact h1, h2⟩
  · rcases set_back j _ h with ⟨_, e, _⟩ | ⟨ne, h⟩
    · cases e
    · obtain ⟨l, h1, h2⟩ := R.own j d' h
      exact ⟨l, by rw [List.getElem?_set_ne ne]; exact h1, h2⟩
  · rcases set_back j _ h1 with ⟨_, e, _⟩ | ⟨n1, h1⟩
    · cases e
    rcases set_back k _ h2 with ⟨_, e, _⟩ | ⟨n2, h2⟩
    · cases e
    rw [List.getElem?_set_ne n1] at h3
    rw [List.getElem?_set_ne n2] at h4
    exact R.sep j k d' _ l h1 h2 h3 h4
/-- what binding leaves -/
structure Bnd (G : Gx) (w : Wd) (ix : List Nat) (σ σ' : L2.St) (δ δ' : DEnv) : Prop where
  rep : Rep G w σ' δ'
  out : ∀ j, j ∉ ix → σ'[j]? = σ[j]?
  own : ∀ (j : Nat) (d : D), δ'[j]? = some (Sl.own d) → δ[j]? = some (Sl.own d) ∧ j ∉ ix
mutual
theorem Tg.ok : ∀ {t : Tg} {v : V} {d : D} {σ : L2.St} {δ δ' : DEnv} {Q : L2.St → Hp → Prop}, Dp G.K w.C w.P v d → Rep G w σ δ → t.set d δ = some δ' → (∀ σ', Bnd G w t.ix σ σ' δ δ' → Q σ' w.H) → t.g G.K v σ w.H Q
  | .one i, v, d, σ, δ, δ', Q, z, R, h, k => by
    rw [Tg.set] at h
    cases h
    rw [Tg.g]
    refine k _ ⟨R.set_val i z, fun j hj => ?_, fun j d' hd => ?_⟩
    · rw [Tg.ix] at hj
      rw [List.getElem?_set_ne (fun e => hj (by rw [e]; exact List.mem_cons_self))]
    · rcases set_back j _ hd with ⟨_, e, _⟩ | ⟨ne, hd⟩
      · cases e
      · refine ⟨hd, fun hm => ?_⟩
        rw [Tg.ix, List.mem_singleton] at hm
        exact ne hm.symm
  | .tup ts, v, d, σ, δ, δ', Q, z, R, h, k => by
    cases d with
    | tup ds =>
      rw [Tg.set] at h
      obtain ⟨a, xs, rfl, hp, za⟩ := z.tup'
      rw [Tg.g]
      have hl : ∀ {ts : List Tg} {ds : List D} {δ δ' : DEnv}, Tg.setA ts ds δ = some δ' → ds.length = ts.length := by
        intro ts
        induction ts with
        | nil => intro ds δ δ' h; cases ds with | nil => rfl | cons _ _ => simp [Tg.setA] at h
        | cons t ts ih =>
          intro ds δ δ' h
          cases ds with
          | nil => simp [Tg.setA] at h
          | cons d ds =>
            rw [Tg.setA] at h
            cases e : Tg.set t d δ with
            | none => rw [e] at h; cases h
            | some δ1 => rw [e] at h; rw [List.length_cons, List.length_cons, ih h]
      refine ⟨a, xs, rfl, .inl (.inl (R.ok.ex.tup hp)), by rw [za.length]; exact hl h, ?_⟩
      exact Tg.okA za R h fun σ' b => k σ' (by rw [Tg.ix]; exact b)
    | _ => simp [Tg.set] at h
theorem Tg.okA : ∀ {ts : List Tg} {vs : List V} {ds : List D} {σ : L2.St} {δ δ' : DEnv} {Q : L2.St → Hp → Prop}, DpA G.K w.C w.P vs ds → Rep G w σ δ → Tg.setA ts ds δ = some δ' → (∀ σ', Bnd G w (Tg.ixA ts) σ σ' δ δ' → Q σ' w.H) → Tg.gA G.K ts vs σ w.H Q
  | [], _, _, σ, δ, δ', Q, .nil, R, h, k => by
    rw [Tg.setA] at h
    cases h
    rw [Tg.gA]
    exact ⟨rfl, k σ ⟨R, fun _ _ => rfl, fun j d hd => ⟨hd, by rw [Tg.ixA]; simp⟩⟩⟩
  | t :: ts, _, _, σ, δ, δ', Q, .cons (v := v) (vs := vs) (d := d) (ds := ds) z za, R, h, k => by
    rw [Tg.setA] at h
    cases e : Tg.set t d δ with
    | none => rw [e] at h; cases h
    | some δ1 =>
      rw [e] at h
      rw [Tg.gA]
      refine ⟨v, vs, rfl, Tg.ok z R e fun σ1 b1 => Tg.okA za b1.rep h fun σ2 b2 => k σ2 ⟨b2.rep, fun j hj => ?_, fun j d' hd => ?_⟩⟩
      · rw [Tg.ixA] at hj
        rw [b2.out j fun hm => hj (List.mem_append_right _ hm), b1.out j fun hm => hj (List.mem_append_left _ hm)]
      · obtain ⟨h1, h2⟩ := b2.own j d' hd
        obtain ⟨h3, h4⟩ := b1.own j d' h1
        refine ⟨h3, fun hm => ?_⟩
        rw [Tg.ixA] at hm
        rcases List.mem_append.mp hm with hm | hm
        · exact h4 hm
        · exact h2 hm
  | [], _, _, σ, δ, δ', Q, .cons _ _, R, h, k => by simp [Tg.setA] at h
  | _ :: _, _, _, σ, δ, δ', Q, .nil, R, h, k => by simp [Tg.setA] at h
end
end
/-! ### the slots of a comprehension -/
def wipeD (δ : DEnv) : List Nat → DEnv
  | [] => δ
  | v :: vs => (wipeD δ vs).set v .no
theorem Rep.wipe {G : Gx} {w : Wd} {σ : L2.St} {δ : DEnv} (R : Rep G w σ δ) : ∀ vs : List Nat, Rep G w (L2.wipe σ vs) (wipeD δ vs)
  | [] => R
  | v :: vs => by
    unfold L2.wipe wipeD
    exact (R.wipe vs).set_no v none
theorem wipe_ext {σ σ' : L2.St} {vs : List Nat} (hl : σ'.length = σ.length) (h : ∀ j, j ∉ vs → σ'[j]? = σ[j]?) : wipe σ' vs = wipe σ vs := by
  apply List.ext_getElem?
  intro j
  by_cases hj : j ∈ vs
  · have e : ∀ τ : L2.St, ∀ x, (wipe τ vs)[j]? = some x → x = none := fun τ x hx => by
      cases x with
      | none => rfl
      | some v => exact absurd hj (wipe_some hx).2
    by_cases hlt : j < σ.length
    · have h1 : j < (wipe σ vs).length := by rw [wipe_length]; exact hlt
      have h2 : j < (wipe σ' vs).length := by rw [wipe_length, hl]; exact hlt
      rw [List.getElem?_eq_getElem h1, List.getElem?_eq_getElem h2, e σ _ (List.getElem?_eq_getElem h1), e σ' _ (List.getElem?_eq_getElem h2)]
    · rw [List.getElem?_eq_none (by rw [wipe_length]; omega), List.getElem?_eq_none (by rw [wipe_length]; omega)]
  · rw [wipe_out hj, wipe_out hj, h j hj]
theorem wipe_wipe (σ : L2.St) (vs : List Nat) : wipe (wipe σ vs) vs = wipe σ vs := wipe_ext (wipe_length _ _) fun j hj => wipe_out hj
theorem Tg.set_len {t : Tg} {d : D} {δ δ' : DEnv} (h : t.set d δ = some δ') : δ'.length = δ.length :=
  (Tg.rec (motive_1 := fun t => ∀ (d : D) (δ δ' : DEnv), t.set d δ = some δ' → δ'.length = δ.length) (motive_2 := fun ts => ∀ (ds : List D) (δ δ' : DEnv), Tg.setA ts ds δ = some δ' → δ'.length = δ.length)
    (fun i d δ δ' h => by rw [Tg.set] at h; cases h; rw [List.length_set])
    (fun ts ih d δ δ' h => by
      cases d with
      | tup ds => rw [Tg.set] at h; exact ih ds δ δ' h
      | _ => simp [Tg.set] at h)
    (fun ds δ δ' h => by
      cases ds with
      | nil => rw [Tg.setA] at h; cases h; rfl
      | cons _ _ => simp [Tg.setA] at h)
    (fun t ts ih1 ih2 ds δ δ' h => by
      cases ds with
      | nil => simp [Tg.setA] at h
      | cons d ds =>
        rw [Tg.setA] at h
        cases e : Tg.set t d δ with
        | none => rw [e] at h; cases h
        | some δ1 =>
          rw [e] at h
          rw [ih2 ds δ1 δ' h, ih1 d δ δ1 e]) t) d δ δ' h
/-! ### list comprehensions -/
def lcL (δ : DEnv) (t : Tg) (ft : TV) (fe : EV) (gd : Gd) : List D → Mem → (List D → Mem → Prop) → Prop
  | [], M, Q => gQ gd M (Q [] M)
  | x :: r, M, Q => gQ gd M (t.bind x δ fun δ' => ft δ' M fun b M1 => IF b (fe δ' M1 fun y M2 => lcL δ t ft fe gd r M2 fun ys M3 => Q (y.d :: ys) M3) (lcL δ t ft fe gd r M1 Q))
def eLc (fi : IV) (t : Tg) (ft : TV) (fe : EV) (vs : List Nat) : EV := fun δ M Q => fi δ M fun xs gd M1 => szOk xs.length (lcL (wipeD δ vs) t ft fe gd xs M1 fun ds M2 => Q (.new (.lst ds)) M2)
def tTrue : TV := fun _ M Q => Q true M
/-- the object that is being made changes -/
theorem Gr.touch {G : Gx} {rw : Bool} {w w1 : Wd} {l : Addr} {o : HO} (g : Gr G rw w w1) (h0 : w.H l = none) (h1 : w1.P l = none) (hc : l ∉ w1.C) (hl : ∀ x, w1.H l ≠ some (.own x)) : Gr G rw w ⟨w1.C, w1.M, w1.P, upd w1.H l o⟩ := by
  refine ⟨⟨fun a u h => ?_, g.ok.nown, g.ok.len, g.ok.nd, fun n a d e1 e2 => ?_⟩, g.pp, g.cc, fun a u h n => ?_, g.off, g.fr, fun e => ?_⟩
  · show ∃ o', upd w1.H l o a = some o' ∧ unl o' = u
    rw [upd_ne (ne_of_none h h1)]; exact g.ok.ex _ _ h
  · obtain ⟨k1, k2⟩ := g.ok.cell n a d e1 e2
    refine ⟨k1, k2.keep (Pre.refl _) (Same.refl _) (fun b u hb q => ?_) fun b _ z => z⟩
    show upd w1.H l o b = some u
    rw [upd_ne fun e => ?_]
    · exact hb
    · subst e
      rcases q with q | q
      · subst q; exact hc (List.mem_of_getElem? e1)
      · subst q; exact hl _ hb
  · show upd w1.H l o a = some u
    rw [upd_ne (ne_of_none h h0)]; exact g.hh a u h n
  · obtain ⟨c1, c2, c3⟩ := g.ro e
    refine ⟨c1, c2, fun n a h1' h2 => ?_⟩
    show upd w1.H l o a = w.H a
    rw [upd_ne fun e => ?_]
    · exact c3 n a h1' h2
    · subst e
      exact hc (by rw [c1]; exact List.mem_of_getElem? h1')
theorem lc_run {X : Cx} {rw : Bool} {fi : IV} {t : Tg} {ft : TV} {fe : EV} {vs : List Nat} {tt : TT} (hix : ∀ i ∈ t.ix, i ∈ vs) (htt : ∀ σ H Q, liftT (gx X) rw ft σ H Q → tt σ H Q)
    {w : Wd} {σ : L2.St} {δ : DEnv} {Qd : Rz → Mem → Prop} {Q : VK} (R : Rep (gx X) w σ δ) (h : eLc fi t ft fe vs δ w.M Qd) (k : ∀ rz v w', Qd rz w'.M → Gr (gx X) rw w w' → RzOk (gx X) w w' rz v → Q v w'.H) :
    tLc (liftI (gx X) rw fi) (t.g X.K) tt (lift (gx X) rw fe) vs σ w.H Q := by
  refine ⟨w, δ, _, rfl, R, h, fun xs gd J w1 q1 g1 u1 => fun A hA => ?_⟩
  obtain ⟨hsz, q1⟩ := szOk_e q1
  have hAH : w.H A = none := g1.fresh hA
  have R1 := (R.mono g1).wipe vs
  have notown : ∀ {H : Hp} {us : List V}, H A = some (.lst us) → ∀ x, H A ≠ some (.own x) := fun e x z => by rw [e] at z; cases z
  refine ⟨fun i m H' => m = xs.length - i ∧ i ≤ xs.length ∧ ∃ w' us ds, w'.H = H' ∧ Gr (gx X) rw w1 w' ∧ w'.P A = none ∧ A ∉ w'.C ∧ w'.H A = some (.lst us) ∧ DpA X.K w'.C w'.P us ds ∧ ds.length ≤ i ∧ lcL (wipeD δ vs) t ft fe gd (xs.drop i) w'.M fun ys M => Qd (.new (.lst (ds ++ ys))) M, ⟨xs.length, by simp, Nat.zero_le _, ⟨w1.C, w1.M, w1.P, upd w1.H A (.lst [])⟩, [], [], rfl, (Gr.loose g1.ok hA).weak, g1.ok.ex.free hA, (show A ∉ w1.C from notc g1.ok hA), upd_same, .nil, Nat.le_refl _, q1⟩, ?_⟩
  rintro i m H' ⟨rfl, hi, w2, us, ds, rfl, g2, hPA, hCA, hHA, z, hlen, q⟩
  by_cases hlt : i < xs.length
  · have ed : xs.drop i = xs[i] :: xs.drop (i + 1) := List.drop_eq_getElem_cons hlt
    rw [ed] at q
    obtain ⟨gm, q⟩ := gQ_e q
    obtain ⟨go, yl⟩ := u1.go w2 i g2.ok g2.pp g2.cc gm hlt
    refine .inr ⟨go, fun H'' => ∃ w' us' ds', w'.H = H'' ∧ Gr (gx X) rw w1 w' ∧ w'.P A = none ∧ A ∉ w'.C ∧ w'.H A = some (.lst us') ∧ DpA X.K w'.C w'.P us' ds' ∧ ds'.length ≤ i + 1 ∧ lcL (wipeD δ vs) t ft fe gd (xs.drop (i + 1)) w'.M fun ys M => Qd (.new (.lst (ds' ++ ys))) M, fun H'' hN => ⟨xs.length - (i + 1), by omega, rfl, hlt, hN⟩, fun x H'' hy => ?_⟩
    obtain ⟨w3, d, rfl, hd, g3, zx⟩ := yl x H'' hy
    have hd : xs[i] = d := by
      rw [List.getElem?_eq_getElem hlt] at hd
      exact Option.some.inj hd
    rw [hd] at q
    have g13 := g2.trans g3.weak
    have nt : ∀ {us : List V}, ∀ xs, HO.lst us ≠ .tup xs := fun _ e => by cases e
    have nn : ∀ {H : Hp} {us : List V}, H A = some (.lst us) → H A ≠ none := fun e => by rw [e]; exact Option.some_ne_none _
    have hA3 := g3.off A _ hHA nt hPA
    have hH3 := g3.hh A _ hHA hCA
    have hC3 := g3.noc (nn hHA) hCA
    have eM3 : w3.M = w2.M := (g3.ro rfl).2.1
    obtain ⟨δ', hset, q⟩ := someQ_e q
    refine Tg.ok zx (R1.mono g13) hset fun σ' b => ⟨?_, htt _ _ _ ?_⟩
    · rw [wipe_ext (σ := wipe σ vs) (by rw [b.rep.len, Tg.set_len hset, ← (R1.mono g13).len]) fun j hj => b.out j fun hm => hj (hix j hm), wipe_wipe]
    · rw [← eM3] at q
      refine ⟨w3, δ', _, rfl, b.rep, q, fun b4 w4 q4 g4 => ?_⟩
      have hA4 := g4.off A _ hH3 nt hA3
      have hH4 := g4.hh A _ hH3 hC3
      have hC4 := g4.noc (nn hH3) hC3
      have g14 := g13.trans g4
      cases b4 with
      | false => exact iteF ⟨w4, us, ds, rfl, g14, hA4, hC4, hH4, g4.dpa (g3.dpa z), by omega, q4⟩
      | true =>
        refine iteT ?_
        refine lift_d (b.rep.mono g4) (fun y M2 => lcL (wipeD δ vs) t ft fe gd (xs.drop (i + 1)) M2 fun ys M => Qd (.new (.lst (ds ++ y :: ys))) M) q4 fun y v w5 q5 g5 z5 => ?_
        have hA5 := g5.off A _ hH4 nt hA4
        have hH5 := g5.hh A _ hH4 hC4
        have hC5 := g5.noc (nn hH4) hC4
        have g15 := g14.trans g5
        refine ⟨us, hH5, by rw [z.length]; omega, ⟨w5.C, w5.M, w5.P, upd w5.H A (.lst (us ++ [v]))⟩, us ++ [v], ds ++ [y], rfl, g15.touch hA hA5 hC5 (notown hH5), hA5, hC5, upd_same, (g5.dpa (g4.dpa (g3.dpa z))).append (.one z5), by rw [List.length_append]; simp; omega, ?_⟩
        have e2 : (fun ys M => Qd (.new (.lst (ds ++ y :: ys))) M) = fun ys M => Qd (.new (.lst ((ds ++ [y]) ++ ys))) M := by
          funext ys
          rw [List.append_assoc]
          rfl
        rw [e2] at q5
        exact q5
  · have e : i = xs.length := by omega
    subst e
    rw [List.drop_length] at q
    obtain ⟨gm, q⟩ := gQ_e q
    refine .inl ⟨u1.stop w2 g2.ok g2.pp g2.cc gm, ?_⟩
    rw [List.append_nil] at q
    exact k _ _ w2 q (g1.trans g2) ⟨A, rfl, hPA, hAH, hCA, .lst us, hHA, HoD.lst z⟩
end HI

namespace HI
open PySem PySem.Spec PyProof.Rows L2
/-! ### statements -/
structure KD where
  nx : DEnv → Mem → Prop
  rt : Rz → Mem → Prop
  bk : DEnv → Mem → Prop := fun _ _ => False
  ct : DEnv → Mem → Prop := fun _ _ => False
abbrev SV := KD → DEnv → Mem → Prop
abbrev OwnF (H0 : Hp) (σ : L2.St) (δ : DEnv) : Prop := ∀ (i : Nat) (d : D) (l : Addr), δ[i]? = some (Sl.own d) → σ[i]? = some (some (V.ref l)) → H0 l = none
/-- the state between two statements: w0 the def's entry, wc what is to stay protected -/
structure StD (G : Gx) (rw : Bool) (w0 wc w : Wd) (σ : L2.St) (δ : DEnv) : Prop where
  gr : Gr G rw w0 w
  pc : Same wc.P w.P
  cc : Pre wc.C w.C
  rep : Rep G w σ δ
  ho : OwnF w0.H σ δ
structure KOk (G : Gx) (rw : Bool) (w0 wc : Wd) (Kd : KD) (D : Ends) : Prop where
  nx : ∀ δ σ w, Kd.nx δ w.M → StD G rw w0 wc w σ δ → D.nx σ w.H
  bk : ∀ δ σ w, Kd.bk δ w.M → StD G rw w0 wc w σ δ → D.bk σ w.H
  ct : ∀ δ σ w, Kd.ct δ w.M → StD G rw w0 wc w σ δ → D.ct σ w.H
  rt : ∀ r v w', Kd.rt r w'.M → Gr G rw w0 w' → RzOk G w0 w' r v → D.rt v w'.H
def liftS (G : Gx) (rw : Bool) (f : SV) : TS := fun D σ H => ∃ w0 wc w δ Kd, w.H = H ∧ StD G rw w0 wc w σ δ ∧ f Kd δ w.M ∧ KOk G rw w0 wc Kd D
structure QS (X : Cx) (rw : Bool) (s : Stmt) (f : SV) : Prop where
  ps : PS X s (liftS (gx X) rw f)
structure QSs (X : Cx) (rw : Bool) (ss : List Stmt) (f : SV) : Prop where
  pss : PSs X ss (liftS (gx X) rw f)
section
variable {G : Gx} {rw : Bool} {w0 wc w w1 : Wd} {σ : L2.St} {δ : DEnv}
/-- behind an expression's value -/
theorem StD.mono (S : StD G rw w0 wc w σ δ) (g : Gr G rw w w1) : StD G rw w0 wc w1 σ δ := ⟨S.gr.trans g, S.pc.trans g.pp, S.cc.trans g.cc, S.rep.mono g, S.ho⟩
@[reducible] def Rz.sl : Rz → Sl
  | .val d => .val d
  | .new d => .own d
theorem Rep.set_own {l : Addr} {d : D} (R : Rep G w σ δ) (i : Nat) (h1 : w.P l = none) (h3 : l ∉ w.C) (h4 : Cont G w l d)
    (h5 : ∀ (j : Nat) (e : D), δ[j]? = some (Sl.own e) → i ≠ j → σ[j]? ≠ some (some (V.ref l))) : Rep G w (σ.set i (some (.ref l))) (δ.set i (.own d)) := by
  have hl := R.len
  refine ⟨R.ok, fun j d' h => ?_, fun j ds' h => ?_, fun j k ds' es l' q1 q2 q3 q4 => ?_, by rw [List.length_set, List.length_set]; exact hl⟩
  · rcases set_back j _ h with ⟨rfl, e, hj⟩ | ⟨ne, h⟩
    · cases e
    · obtain ⟨v', k1, k2⟩ := R.val j d' h
      exact ⟨v', by rw [List.getElem?_set_ne ne]; exact k1, k2⟩
  · rcases set_back j _ h with ⟨rfl, e, hj⟩ | ⟨ne, h⟩
    · cases e
      exact ⟨l, by rw [List.getElem?_set_self (by omega)], h1, h3, h4⟩
    · obtain ⟨l', k1, k2⟩ := R.own j ds' h
      exact ⟨l', by rw [List.getElem?_set_ne ne]; exact k1, k2⟩
  · rcases set_back j _ q1 with ⟨rfl, e, hj⟩ | ⟨n1, q1⟩
    · rcases set_back k _ q2 with ⟨rfl, e2, hk⟩ | ⟨n2, q2⟩
      · rfl
      · rw [List.getElem?_set_self (by omega)] at q3
        cases q3
        rw [List.getElem?_set_ne n2] at q4
        exact absurd q4 (h5 k es q2 n2)
    · rw [List.getElem?_set_ne n1] at q3
      rcases set_back k _ q2 with ⟨rfl, e2, hk⟩ | ⟨n2, q2⟩
      · rw [List.getElem?_set_self (by omega)] at q4
        cases q4
        exact absurd q3 (h5 j ds' q1 n1)
      · rw [List.getElem?_set_ne n2] at q4
        exact R.sep j k ds' es l' q1 q2 q3 q4
abbrev OwnK (H : Hp) (σ : L2.St) (δ : DEnv) : Prop := ∀ (i : Nat) (d : D) (l : Addr), δ[i]? = some (Sl.own d) → σ[i]? = some (some (V.ref l)) → H l ≠ none
theorem Rep.ownK (R : Rep G w σ δ) : OwnK w.H σ δ := fun i d l h1 h2 => by
  obtain ⟨l', k1, _, _, o, k4, _⟩ := R.own i d h1
  rw [h2] at k1
  cases k1
  rw [k4]
  exact Option.some_ne_none _
theorem RzOk.mono {wb w2 : Wd} {r : Rz} {v : V} (z : RzOk G wb w r v) (g : Gr G rw w w2) : RzOk G wb w2 r v := by
  cases r with
  | val d => exact g.dp z
  | new d =>
    obtain ⟨l, rfl, h1, h2, h3, o, h4, h5⟩ := z
    have hn : w.H l ≠ none := by rw [h4]; exact Option.some_ne_none _
    exact ⟨l, rfl, g.off l o h4 h5.ntup h1, h2, g.noc hn h3, o, g.hh l _ h4 h3, g.hod h5⟩
/-- a result is stored; wb: the world ahead of its evaluation -/
theorem put_at {H0 : Hp} {wb : Wd} {r : Rz} {v : V} (i : Nat) (R : Rep G w σ δ) (ho : OwnF H0 σ δ) (hk : OwnK wb.H σ δ) (h0 : ∀ l, wb.H l = none → H0 l = none) (z : RzOk G wb w r v) :
    Rep G w (σ.set i (some v)) (δ.set i r.sl) ∧ OwnF H0 (σ.set i (some v)) (δ.set i r.sl) := by
  cases r with
  | val d =>
    refine ⟨R.set_val i z, fun j ds l h1 h2 => ?_⟩
    rcases set_back j _ h1 with ⟨_, e, _⟩ | ⟨ne, h1⟩
    · cases e
    · rw [List.getElem?_set_ne ne] at h2
      exact ho j ds l h1 h2
  | new d =>
    obtain ⟨l, rfl, q1, q2, q3, q4⟩ := z
    refine ⟨R.set_own i q1 q3 q4 fun j es h1 _ h2 => hk j es l h1 h2 q2, fun j ds' l' h1 h2 => ?_⟩
    rcases set_back j _ h1 with ⟨rfl, e, hj⟩ | ⟨ne, h1⟩
    · have hl := R.len
      rw [List.getElem?_set_self (by omega)] at h2
      cases h2
      exact h0 l q2
    · rw [List.getElem?_set_ne ne] at h2
      exact ho j ds' l' h1 h2
/-- a result stored at a slot -/
theorem StD.put {r : Rz} {v : V} (i : Nat) (S : StD G rw w0 wc w σ δ) (g : Gr G rw w w1) (z : RzOk G w w1 r v) : StD G rw w0 wc w1 (σ.set i (some v)) (δ.set i r.sl) := by
  obtain ⟨a1, a2⟩ := put_at i (S.rep.mono g) S.ho S.rep.ownK (fun l hl => S.gr.fresh hl) z
  exact ⟨S.gr.trans g, S.pc.trans g.pp, S.cc.trans g.cc, a1, a2⟩
/-- the slot's own container changes -/
theorem StD.chg {i : Nat} {d d' : D} {l : Addr} {o' : HO} (S : StD G rw w0 wc w σ δ) (e : δ[i]? = some (Sl.own d)) (hl : σ[i]? = some (some (V.ref l))) (hz : HoD G.K w.C w.P o' d') : StD G rw w0 wc ⟨w.C, w.M, w.P, upd w.H l o'⟩ σ (δ.set i (.own d')) := by
  have R := S.rep
  obtain ⟨l2, k1, k2, k3, o, k4, k5⟩ := R.own i d e
  rw [hl] at k1
  cases k1
  have hil : i < δ.length := (List.getElem?_eq_some_iff.mp e).1
  have nown : ∀ x, w.H l ≠ some (.own x) := fun x z => by rw [k4] at z; exact k5.nown _ (Option.some.inj z)
  have g1 := S.gr.touch (o := o') (S.ho i d l e hl) k2 k3 nown
  refine ⟨g1, S.pc, S.cc, ⟨g1.ok, fun j d2 h => ?_, fun j d2 h => ?_, fun j k d1 d2 l' q1 q2 q3 q4 => ?_, by rw [List.length_set]; exact R.len⟩, fun j d2 l' h1 h2 => ?_⟩
  · rcases set_back j _ h with ⟨_, e2, _⟩ | ⟨ne, h⟩
    · cases e2
    · exact R.val j d2 h
  · rcases set_back j _ h with ⟨rfl, e2, _⟩ | ⟨ne, h⟩
    · cases e2
      exact ⟨l, hl, k2, k3, o', upd_same, hz⟩
    · obtain ⟨l2, j1, j2, j3, o2, j4, j5⟩ := R.own j d2 h
      refine ⟨l2, j1, j2, j3, o2, ?_, j5⟩
      show upd w.H l o' l2 = some o2
      rw [upd_ne fun z => ?_]
      · exact j4
      · subst z
        exact ne (R.sep i j d d2 _ e h hl j1)
  · rcases set_back j _ q1 with ⟨rfl, e2, _⟩ | ⟨n1, q1⟩
    · rcases set_back k _ q2 with ⟨rfl, e3, _⟩ | ⟨n2, q2⟩
      · rfl
      · exact R.sep i k d d2 l' e q2 q3 q4
    · rcases set_back k _ q2 with ⟨rfl, e3, _⟩ | ⟨n2, q2⟩
      · exact R.sep j i d1 d l' q1 e q3 q4
      · exact R.sep j k d1 d2 l' q1 q2 q3 q4
  · rcases set_back j _ h1 with ⟨rfl, e2, _⟩ | ⟨ne, h1⟩
    · exact S.ho i d l' e h2
    · exact S.ho j d2 l' h1 h2
/-- the slot's own container is a value from here on -/
theorem StD.frzAt {i : Nat} {d : D} (S : StD G rw w0 wc w σ δ) (e : δ[i]? = some (Sl.own d)) : ∃ P2, StD G rw w0 wc ⟨w.C, w.M, P2, w.H⟩ σ (δ.set i (.val d)) := by
  have R := S.rep
  obtain ⟨l, h1, h2, h3, o, h4, h5⟩ := R.own i d e
  have g1 := S.gr.frz h2 (S.ho i d l e h1) h3 h4 h5.nown
  have s1 : Same w.P (upd w.P l (unl o)) := same_new h2
  have hil : i < δ.length := (List.getElem?_eq_some_iff.mp e).1
  refine ⟨upd w.P l (unl o), g1, S.pc.trans s1, S.cc, ⟨g1.ok, fun j d2 h => ?_, fun j d2 h => ?_, fun j m d1 d2 l' k1 k2 k3 k4 => ?_, by rw [List.length_set]; exact R.len⟩, fun j d2 l' k1 k2 => ?_⟩
  · rcases set_back j _ h with ⟨rfl, e2, _⟩ | ⟨ne, h⟩
    · cases e2
      exact ⟨.ref l, h1, .con upd_same (by rw [h5.unl]; exact h5.mono (Pre.refl _) (by rw [h5.unl] at s1; exact s1))⟩
    · obtain ⟨v, k1, k2⟩ := R.val j d2 h
      exact ⟨v, k1, k2.mono (Pre.refl _) s1⟩
  · rcases set_back j _ h with ⟨_, e2, _⟩ | ⟨ne, h⟩
    · cases e2
    · obtain ⟨l2, k1, k2, k3, o2, k4, k5⟩ := R.own j d2 h
      refine ⟨l2, k1, ?_, k3, o2, k4, k5.mono (Pre.refl _) s1⟩
      show upd w.P l (unl o) l2 = none
      rw [upd_ne fun z => ?_]
      · exact k2
      · subst z
        exact ne (R.sep i j d d2 _ e h h1 k1)
  · rcases set_back j _ k1 with ⟨_, e2, _⟩ | ⟨_, k1⟩
    · cases e2
    rcases set_back m _ k2 with ⟨_, e2, _⟩ | ⟨_, k2⟩
    · cases e2
    exact R.sep j m d1 d2 l' k1 k2 k3 k4
  · rcases set_back j _ k1 with ⟨_, e2, _⟩ | ⟨_, k1⟩
    · cases e2
    exact S.ho j d2 l' k1 k2
end
section
variable {X : Cx} {rw : Bool} {e a b c elt tg iter : Expr} {ifs : List Expr} {scope : Scope} {own : List (Str × Nat)} {pos spos py : Pos} {fi : IV} {t : Tg} {ft : TV} {fe f fa fb : EV} {x y z : Str} {ss us : List Stmt} {g h : SV}
theorem qs_of {s : Stmt} {g : SV} {u : TS} (h : PS X s u) (i : ∀ w0 wc w σ δ (Kd : KD) (D : Ends), StD (gx X) rw w0 wc w σ δ → g Kd δ w.M → KOk (gx X) rw w0 wc Kd D → u D σ w.H) : QS X rw s g :=
  ⟨ps_imp h fun D σ H ⟨w0, wc, w, δ, Kd, e, S, hf, k⟩ => by subst e; exact i w0 wc w σ δ Kd D S hf k⟩
def sSkip : SV := fun K δ M => K.nx δ M
def sSeq (f g : SV) : SV := fun K δ M => f ⟨g K, K.rt, K.bk, K.ct⟩ δ M
theorem q_snil : QSs X rw [] sSkip := ⟨pss_imp pss_nil fun D σ H ⟨w0, wc, w, δ, Kd, e, S, hf, k⟩ => by subst e; exact k.nx δ σ w hf S⟩
theorem q_scons {s : Stmt} {f g : SV} (h1 : QS X rw s f) (h2 : QSs X rw ss g) : QSs X rw (s :: ss) (sSeq f g) :=
  ⟨pss_imp (pss_cons h1.ps h2.pss) fun D σ H ⟨w0, wc, w, δ, Kd, e, S, hf, k⟩ => by
    subst e
    exact ⟨w0, wc, w, δ, _, rfl, S, hf, ⟨fun δ' σ' w' q S' => ⟨w0, wc, w', δ', Kd, rfl, S', q, k⟩, k.bk, k.ct, k.rt⟩⟩⟩
theorem q_sone {s : Stmt} {f : SV} (h1 : QS X rw s f) : QSs X rw [s] f := ⟨pss_one h1.ps⟩
def sNever : SV := fun _ _ _ => False
theorem q_snever {s : Stmt} : QS X rw s sNever := ⟨⟨fun _ _ _ _ _ _ ⟨_, _, _, _, _, _, _, hf, _⟩ => hf.elim⟩⟩
theorem q_ssnever : QSs X rw ss sNever := ⟨⟨fun _ _ _ _ _ _ ⟨_, _, _, _, _, _, _, hf, _⟩ => hf.elim⟩⟩
/-! list comprehensions as values -/
theorem lcY {σ : L2.St} {H : Hp} {Q : Bool → Hp → Prop} (h : liftT (gx X) rw tTrue σ H Q) : tYes σ H Q := by
  obtain ⟨w, δ, Qd, e, R, h, k⟩ := h
  subst e
  exact k true w h (.refl R.ok)
theorem q_lc (hN : X.N.Nodup) (hi : QI X rw tg iter fi) (ok : BlkOk X.N X.env.scope scope own) (hg : ∀ (s : Shared) (H : Hp) (C : Addr) (cl : List (Str × Addr)) (fp : List Addr), QG (X.blk s H scope (compEnvC scope cl C X.env) fp) tg t)
    (he : ∀ (s : Shared) (H : Hp) (C : Addr) (cl : List (Str × Addr)) (fp : List Addr), QE (X.blk s H scope (compEnvC scope cl C X.env) fp) rw elt fe) (hix : ∀ i ∈ t.ix, i ∈ own.map (·.2) := by decide) (hc : X.calm = true := by rfl) (hs : ∀ x, foldedSetIterable iter X.env x = pure x := by intro _; rfl) :
    QE X rw (.ListComp elt [⟨tg, iter, [], 0⟩] scope pos) (eLc fi t tTrue fe (own.map (·.2))) :=
  qe_of (pe_lc hc hN hi.pi ok (fun s H C cl fp => (hg s H C cl fp).pg) (fun s H C cl fp => pts_nil) (fun s H C cl fp => (he s H C cl fp).pe) hs) fun w σ δ Qd Q R h k => lc_run hix (fun _ _ _ q => lcY q) R h k
theorem q_lcIf (hN : X.N.Nodup) (hi : QI X rw tg iter fi) (ok : BlkOk X.N X.env.scope scope own) (hg : ∀ (s : Shared) (H : Hp) (C : Addr) (cl : List (Str × Addr)) (fp : List Addr), QG (X.blk s H scope (compEnvC scope cl C X.env) fp) tg t)
    (ht : ∀ (s : Shared) (H : Hp) (C : Addr) (cl : List (Str × Addr)) (fp : List Addr), QT (X.blk s H scope (compEnvC scope cl C X.env) fp) rw c ft)
    (he : ∀ (s : Shared) (H : Hp) (C : Addr) (cl : List (Str × Addr)) (fp : List Addr), QE (X.blk s H scope (compEnvC scope cl C X.env) fp) rw elt fe) (hix : ∀ i ∈ t.ix, i ∈ own.map (·.2) := by decide) (hc : X.calm = true := by rfl) (hs : ∀ x, foldedSetIterable iter X.env x = pure x := by intro _; rfl) :
    QE X rw (.ListComp elt [⟨tg, iter, [c], 0⟩] scope pos) (eLc fi t ft fe (own.map (·.2))) :=
  qe_of (pe_lc hc hN hi.pi ok (fun s H C cl fp => (hg s H C cl fp).pg) (fun s H C cl fp => pts_one (ht s H C cl fp).pt) (fun s H C cl fp => (he s H C cl fp).pe) hs) fun w σ δ Qd Q R h k => lc_run hix (fun _ _ _ q => q) R h k
/-! assignments -/
def sAsg (i : Nat) (f : EV) : SV := fun K δ M => f δ M fun r M1 => K.nx (δ.set i r.sl) M1
theorem asg_run {te : TE} {i : Nat} (hte : ∀ σ H Q, lift (gx X) rw f σ H Q → te σ H Q) {w0 wc w : Wd} {σ : L2.St} {δ : DEnv} {Kd : KD} {D : Ends} (S : StD (gx X) rw w0 wc w σ δ) (h : sAsg i f Kd δ w.M) (k : KOk (gx X) rw w0 wc Kd D) : tAsg te (gName i) D σ w.H :=
  hte _ _ _ ⟨w, δ, _, rfl, S.rep, h, fun r v w1 q g z => k.nx _ _ _ q (S.put i g z)⟩
theorem q_asg {i : Nat} {pos' : Pos} (hN : X.N.Nodup) (he : QE X rw e f) (hi : X.N[i]? = some y := by rfl) (hx : Loc X.env.scope y := by first | exact Or.inl rfl | exact Or.inr rfl) (hs : swapsWith e (some (.Name y pos')) pos.line X.env = pure false := by rfl)
    (hf : X.fn y = true ∨ X.env.scope.names.lookup y = some .local := by first | exact .inl rfl | exact .inr rfl | assumption) : QS X rw (.Assign [.Name y pos'] e pos) (sAsg i f) :=
  qs_of (ps_set hN hi hx he.pe hs hf) fun w0 wc w σ δ Kd D S h k => asg_run (fun _ _ _ q => q) S h k
/-- y = [..] -/
theorem q_asgLc {i : Nat} (hN : X.N.Nodup) (hi : QI X rw tg iter fi) (ok : BlkOk X.N X.env.scope scope own) (hg : ∀ (s : Shared) (H : Hp) (C : Addr) (cl : List (Str × Addr)) (fp : List Addr), QG (X.blk s H scope (compEnvC scope cl C X.env) fp) tg t)
    (he : ∀ (s : Shared) (H : Hp) (C : Addr) (cl : List (Str × Addr)) (fp : List Addr), QE (X.blk s H scope (compEnvC scope cl C X.env) fp) rw elt fe) (hsw : swapsWith (.ListComp elt [⟨tg, iter, [], 0⟩] scope pos) (some (.Name y py)) spos.line X.env = pure true) (hix : ∀ i ∈ t.ix, i ∈ own.map (·.2) := by decide) (hc : X.calm = true := by rfl)
    (hy : X.N[i]? = some y := by rfl) (hyl : X.env.scope.names.lookup y = some .local := by rfl) (hs : ∀ x, foldedSetIterable iter X.env x = pure x := by intro _; rfl) :
    QS X rw (.Assign [.Name y py] (.ListComp elt [⟨tg, iter, [], 0⟩] scope pos) spos) (sAsg i (eLc fi t tTrue fe (own.map (·.2)))) :=
  qs_of (ps_setLc hc hN hy hyl hsw hi.pi ok (fun s H C cl fp => (hg s H C cl fp).pg) (fun s H C cl fp => pts_nil) (fun s H C cl fp => (he s H C cl fp).pe) hs) fun w0 wc w σ δ Kd D S h k =>
    asg_run (fun σ H Q ⟨w, δ, Qd, e, R, h, k⟩ => by subst e; exact lc_run hix (fun _ _ _ q => lcY q) R h k) S h k
theorem q_asgLcIf {i : Nat} (hN : X.N.Nodup) (hi : QI X rw tg iter fi) (ok : BlkOk X.N X.env.scope scope own) (hg : ∀ (s : Shared) (H : Hp) (C : Addr) (cl : List (Str × Addr)) (fp : List Addr), QG (X.blk s H scope (compEnvC scope cl C X.env) fp) tg t)
    (ht : ∀ (s : Shared) (H : Hp) (C : Addr) (cl : List (Str × Addr)) (fp : List Addr), QT (X.blk s H scope (compEnvC scope cl C X.env) fp) rw c ft)
    (he : ∀ (s : Shared) (H : Hp) (C : Addr) (cl : List (Str × Addr)) (fp : List Addr), QE (X.blk s H scope (compEnvC scope cl C X.env) fp) rw elt fe) (hsw : swapsWith (.ListComp elt [⟨tg, iter, [c], 0⟩] scope pos) (some (.Name y py)) spos.line X.env = pure true) (hix : ∀ i ∈ t.ix, i ∈ own.map (·.2) := by decide) (hc : X.calm = true := by rfl)
    (hy : X.N[i]? = some y := by rfl) (hyl : X.env.scope.names.lookup y = some .local := by rfl) (hs : ∀ x, foldedSetIterable iter X.env x = pure x := by intro _; rfl) :
    QS X rw (.Assign [.Name y py] (.ListComp elt [⟨tg, iter, [c], 0⟩] scope pos) spos) (sAsg i (eLc fi t ft fe (own.map (·.2)))) :=
  qs_of (ps_setLc hc hN hy hyl hsw hi.pi ok (fun s H C cl fp => (hg s H C cl fp).pg) (fun s H C cl fp => pts_one (ht s H C cl fp).pt) (fun s H C cl fp => (he s H C cl fp).pe) hs) fun w0 wc w σ δ Kd D S h k =>
    asg_run (fun σ H Q ⟨w, δ, Qd, e, R, h, k⟩ => by subst e; exact lc_run hix (fun _ _ _ q => q) R h k) S h k
/-- y = [..] -/
theorem q_asgLcF {i : Nat} (hN : X.N.Nodup) (hi : QI X rw tg iter fi) (ok : BlkOk X.N X.env.scope scope own) (hg : ∀ (s : Shared) (H : Hp) (C : Addr) (cl : List (Str × Addr)) (fp : List Addr), QG (X.blk s H scope (compEnvC scope cl C X.env) fp) tg t)
    (he : ∀ (s : Shared) (H : Hp) (C : Addr) (cl : List (Str × Addr)) (fp : List Addr), QE (X.blk s H scope (compEnvC scope cl C X.env) fp) rw elt fe) (hsw : swapsWith (.ListComp elt [⟨tg, iter, [], 0⟩] scope pos) (some (.Name y py)) spos.line X.env = pure true) (hix : ∀ i ∈ t.ix, i ∈ own.map (·.2) := by decide) (hc : X.calm = true := by rfl)
    (hy : X.N[i]? = some y := by rfl) (hyl : X.env.scope.names.lookup y = some .local := by rfl) (hs : ∀ x, foldedSetIterable iter X.env x = pure x := by intro _; rfl) :
    QS X rw (.Assign [.Name y py] (.ListComp elt [⟨tg, iter, [], 0⟩] scope pos) spos) (sAsg i (eFz (eLc fi t tTrue fe (own.map (·.2))))) :=
  qs_of (ps_setLc hc hN hy hyl hsw hi.pi ok (fun s H C cl fp => (hg s H C cl fp).pg) (fun s H C cl fp => pts_nil) (fun s H C cl fp => (he s H C cl fp).pe) hs) fun w0 wc w σ δ Kd D S h k =>
    asg_run (fun σ H Q q => by obtain ⟨w, δ, Qd, e, R, h, k⟩ := lift_fz q; subst e; exact lc_run hix (fun _ _ _ q => lcY q) R h k) S h k
theorem q_asgLcIfF {i : Nat} (hN : X.N.Nodup) (hi : QI X rw tg iter fi) (ok : BlkOk X.N X.env.scope scope own) (hg : ∀ (s : Shared) (H : Hp) (C : Addr) (cl : List (Str × Addr)) (fp : List Addr), QG (X.blk s H scope (compEnvC scope cl C X.env) fp) tg t)
    (ht : ∀ (s : Shared) (H : Hp) (C : Addr) (cl : List (Str × Addr)) (fp : List Addr), QT (X.blk s H scope (compEnvC scope cl C X.env) fp) rw c ft)
    (he : ∀ (s : Shared) (H : Hp) (C : Addr) (cl : List (Str × Addr)) (fp : List Addr), QE (X.blk s H scope (compEnvC scope cl C X.env) fp) rw elt fe) (hsw : swapsWith (.ListComp elt [⟨tg, iter, [c], 0⟩] scope pos) (some (.Name y py)) spos.line X.env = pure true) (hix : ∀ i ∈ t.ix, i ∈ own.map (·.2) := by decide) (hc : X.calm = true := by rfl)
    (hy : X.N[i]? = some y := by rfl) (hyl : X.env.scope.names.lookup y = some .local := by rfl) (hs : ∀ x, foldedSetIterable iter X.env x = pure x := by intro _; rfl) :
    QS X rw (.Assign [.Name y py] (.ListComp elt [⟨tg, iter, [c], 0⟩] scope pos) spos) (sAsg i (eFz (eLc fi t ft fe (own.map (·.2))))) :=
  qs_of (ps_setLc hc hN hy hyl hsw hi.pi ok (fun s H C cl fp => (hg s H C cl fp).pg) (fun s H C cl fp => pts_one (ht s H C cl fp).pt) (fun s H C cl fp => (he s H C cl fp).pe) hs) fun w0 wc w σ δ Kd D S h k =>
    asg_run (fun σ H Q q => by obtain ⟨w, δ, Qd, e, R, h, k⟩ := lift_fz q; subst e; exact lc_run hix (fun _ _ _ q => q) R h k) S h k
/-! return -/
def sRet (f : EV) : SV := fun K δ M => f δ M K.rt
theorem q_ret (he : QE X rw e f) : QS X rw (.Return (some e) pos) (sRet f) :=
  qs_of (ps_ret he.pe) fun w0 wc w σ δ Kd D S h k => ⟨w, δ, _, rfl, S.rep, h, fun r v w1 q g z => k.rt r v w1 q (S.gr.trans g) (z.back S.gr)⟩
def sRetN : SV := fun K _ M => K.rt (.val .non) M
theorem q_retN : QS X rw (.Return none pos) sRetN := qs_of ps_retN fun w0 wc w σ δ Kd D S h k => k.rt _ .non w h S.gr .non
def sRetO (i : Nat) : SV := fun K δ M => match δ[i]? with
  | some (.own d) => K.rt (.new d) M
  | some (.val d) => K.rt (.val d) M
  | _ => False
theorem q_retO (i : Nat) {x : Str} {pos' : Pos} (hN : X.N[i]? = some x := by rfl) (hv : Vis X.env.scope x := by first | exact Or.inl rfl | exact Or.inr (Or.inl rfl) | exact Or.inr (Or.inr rfl)) (hd : (x == ("__debug__" : Str)) = false := by decide) (hcd : (x == ("__classdict__" : Str)) = false := by decide) :
    QS X rw (.Return (some (.Name x pos')) pos) (sRetO i) :=
  qs_of (ps_ret (pe_var hN hv hd hcd)) fun w0 wc w σ δ Kd D S h k => by
    unfold sRetO at h
    cases e : δ[i]? with
    | none => rw [e] at h; exact h.elim
    | some s =>
      rw [e] at h
      cases s with
      | no => exact h.elim
      | val d =>
        obtain ⟨v, h1, h2⟩ := S.rep.val i d e
        exact ⟨v, h1, k.rt _ v w h S.gr h2⟩
      | own d =>
        obtain ⟨l, h1, h2, h3, h4⟩ := S.rep.own i d e
        exact ⟨.ref l, h1, k.rt _ _ w h S.gr ⟨l, rfl, h2, S.ho i d l e h1, h3, h4⟩⟩
/-! if, while, for -/
def sIf (ft : TV) (g h : SV) : SV := fun K δ M => ft δ M fun c M1 => IF c (g K δ M1) (h K δ M1)
theorem q_sif (hc : QT X rw c ft) (hs : QSs X rw ss g) (hu : QSs X rw us h) : QS X rw (.If c ss us pos) (sIf ft g h) :=
  qs_of (ps_if hc.pt hs.pss hu.pss) fun w0 wc w σ δ Kd D S q k => by
    refine ⟨w, δ, _, rfl, S.rep, q, fun c w1 q g => ?_⟩
    have S1 := S.mono g
    cases c with
    | true => exact iteT ⟨w0, wc, w1, δ, Kd, rfl, S1, q, k⟩
    | false => exact iteF ⟨w0, wc, w1, δ, Kd, rfl, S1, q, k⟩
def whN (ft : TV) (g : SV) (K : KD) : Nat → DEnv → Mem → Prop
  | 0, _, _ => False
  | n + 1, δ, M => ft δ M fun c M1 => IF c (g ⟨whN ft g K n, K.rt, K.nx, whN ft g K n⟩ δ M1) (K.nx δ M1)
def sWh (ft : TV) (g : SV) : SV := fun K δ M => ∃ n, whN ft g K n δ M
theorem q_swh (hc : QT X rw c ft) (hs : QSs X rw ss g) (hp : PassesOwn (model X.prog X.w) X.A X.env X.xe := by exact PassesOwn.never) : QS X rw (.While c ss [] pos) (sWh ft g) :=
  qs_of (ps_while hp hc.pt hs.pss) fun w0 wc w σ δ Kd D S q k => by
    obtain ⟨n, q⟩ := q
    refine ⟨fun m σ' H' => ∃ w' δ', w'.H = H' ∧ StD (gx X) rw w0 wc w' σ' δ' ∧ whN ft g Kd m δ' w'.M, ⟨n, w, δ, rfl, S, q⟩, ?_⟩
    rintro m σ' H' ⟨w', δ', rfl, S', q'⟩
    cases m with
    | zero => exact q'.elim
    | succ m =>
      refine ⟨w', δ', _, rfl, S'.rep, q', fun c w1 q1 g1 => ?_⟩
      have S1 := S'.mono g1
      cases c with
      | true => exact iteT ⟨fun σ'' H'' => ∃ w'' δ'', w''.H = H'' ∧ StD (gx X) rw w0 wc w'' σ'' δ'' ∧ whN ft g Kd m δ'' w''.M, fun σ'' H'' w => ⟨m, Nat.lt_succ_self _, w⟩, w0, wc, w1, δ', _, rfl, S1, q1, ⟨fun δ'' σ'' w'' u S2 => ⟨w'', δ'', rfl, S2, u⟩, fun δ'' σ'' w'' u S2 => k.nx δ'' σ'' w'' u S2, fun δ'' σ'' w'' u S2 => ⟨w'', δ'', rfl, S2, u⟩, k.rt⟩⟩
      | false => exact iteF (k.nx δ' σ' w1 q1 S1)
def forL (t : Tg) (g : SV) (gd : Gd) (K : KD) : List D → DEnv → Mem → Prop
  | [], δ, M => gQ gd M (K.nx δ M)
  | x :: r, δ, M => gQ gd M (t.bind x δ fun δ' => g ⟨forL t g gd K r, K.rt, K.nx, forL t g gd K r⟩ δ' M)
def sFor (fi : IV) (t : Tg) (g : SV) : SV := fun K δ M => fi δ M fun xs gd M1 => forL t g gd K xs δ M1
theorem for_run {J : It} {xs : List D} {gd : Gd} {tb : TS} (htb : ∀ D σ H, liftS (gx X) rw g D σ H → tb D σ H) {w0 wc w w1 : Wd} {σ : L2.St} {δ : DEnv} {Kd : KD} {D : Ends} (S : StD (gx X) rw w0 wc w σ δ) (k : KOk (gx X) rw w0 wc Kd D) (g1 : Gr (gx X) rw w w1) (u1 : WalkD (gx X) w1 J xs gd) (q1 : forL t g gd Kd xs δ w1.M) :
    ∃ W : Nat → Nat → L2.St → Hp → Prop, (∃ m, W 0 m σ w1.H) ∧ ∀ i m σ H, W i m σ H → (J.stop i H ∧ D.nx σ H) ∨ J.go i H ∧ ∃ N : L2.St → Hp → Prop, (∀ σ' H', N σ' H' → ∃ m', m' < m ∧ W (i + 1) m' σ' H') ∧ ∀ v H', J.yld i H v H' → t.g X.K v σ H' fun σ' H'' => tb { nx := N, rt := D.rt, bk := D.nx, ct := N } σ' H'' := by
  have S1 : StD (gx X) rw w0 w1 w1 σ δ := ⟨S.gr.trans g1, .refl _, .refl _, S.rep.mono g1, S.ho⟩
  have weak : ∀ {w' σ' δ'}, StD (gx X) rw w0 w1 w' σ' δ' → StD (gx X) rw w0 wc w' σ' δ' := fun S' => ⟨S'.gr, (S.pc.trans g1.pp).trans S'.pc, (S.cc.trans g1.cc).trans S'.cc, S'.rep, S'.ho⟩
  refine ⟨fun i m σ' H' => m = xs.length - i ∧ i ≤ xs.length ∧ ∃ w' δ', w'.H = H' ∧ StD (gx X) rw w0 w1 w' σ' δ' ∧ forL t g gd Kd (xs.drop i) δ' w'.M, ⟨xs.length, by simp, Nat.zero_le _, w1, δ, rfl, S1, q1⟩, ?_⟩
  rintro i m σ' H' ⟨rfl, hi, w2, δ', rfl, S', q'⟩
  by_cases hlt : i < xs.length
  · have ed : xs.drop i = xs[i] :: xs.drop (i + 1) := List.drop_eq_getElem_cons hlt
    rw [ed] at q'
    obtain ⟨gm, q'⟩ := gQ_e q'
    obtain ⟨go, yl⟩ := u1.go w2 i S'.gr.ok S'.pc S'.cc gm hlt
    refine .inr ⟨go, fun σ'' H'' => ∃ w' δ'', w'.H = H'' ∧ StD (gx X) rw w0 w1 w' σ'' δ'' ∧ forL t g gd Kd (xs.drop (i + 1)) δ'' w'.M, fun σ'' H'' u => ⟨xs.length - (i + 1), by omega, rfl, hlt, u⟩, fun v H'' hy => ?_⟩
    obtain ⟨w3, d, rfl, hd, g3, zx⟩ := yl v H'' hy
    have hd : xs[i] = d := by
      rw [List.getElem?_eq_getElem hlt] at hd
      exact Option.some.inj hd
    rw [hd] at q'
    obtain ⟨δ2, hset, q'⟩ := someQ_e q'
    rw [← (g3.ro rfl).2.1] at q'
    have S3 := S'.mono g3.weak
    refine Tg.ok zx S3.rep hset fun σ2 b => htb _ _ _ ?_
    refine ⟨w0, w1, w3, δ2, _, rfl, ⟨S3.gr, S3.pc, S3.cc, b.rep, fun j d l h1 h2 => ?_⟩, q', ⟨fun δ3 σ3 w4 u S4 => ⟨w4, δ3, rfl, S4, u⟩, fun δ3 σ3 w4 u S4 => k.nx δ3 σ3 w4 u (weak S4), fun δ3 σ3 w4 u S4 => ⟨w4, δ3, rfl, S4, u⟩, k.rt⟩⟩
    obtain ⟨h3, h4⟩ := b.own j d h1
    rw [b.out j h4] at h2
    exact S3.ho j d l h3 h2
  · have e : i = xs.length := by omega
    subst e
    rw [List.drop_length] at q'
    obtain ⟨gm, q'⟩ := gQ_e q'
    exact .inl ⟨u1.stop w2 S'.gr.ok S'.pc S'.cc gm, k.nx δ' σ' w2 q' (weak S')⟩
theorem q_sfor (hi : QI X rw tg iter fi) (hg : QG X tg t) (hs : QSs X rw ss g) (hc : X.calm = true := by rfl) (hp : PassesOwn (model X.prog X.w) X.A X.env X.xe := by exact PassesOwn.never) (hf : ∀ x, foldedSetIterable iter X.env x = pure x := by intro _; rfl) : QS X rw (.For tg iter ss [] pos) (sFor fi t g) :=
  qs_of (ps_for hp hc hi.pi hg.pg hs.pss hf) fun w0 wc w σ δ Kd D S q k => ⟨w, δ, _, rfl, S.rep, q, fun xs gd J w1 q1 g1 u1 => for_run (fun _ _ _ q => q) S k g1 u1 q1⟩
def sBrk : SV := fun K δ M => K.bk δ M
def sCnt : SV := fun K δ M => K.ct δ M
theorem q_brk : QS X rw (.Break pos) sBrk := qs_of ps_break fun w0 wc w σ δ Kd D S q k => k.bk δ σ w q S
theorem q_cnt : QS X rw (.Continue pos) sCnt := qs_of ps_continue fun w0 wc w σ δ Kd D S q k => k.ct δ σ w q S
theorem q_pass : QS X rw (.Pass pos) sSkip := qs_of ps_pass fun w0 wc w σ δ Kd D S q k => k.nx δ σ w q S
def sDrop (f : EV) : SV := fun K δ M => f δ M fun _ M1 => K.nx δ M1
theorem q_drop (he : QE X rw e f) (hs : swapsWith e none pos.line X.env = pure false := by rfl) : QS X rw (.Expr e pos) (sDrop f) :=
  qs_of (ps_expr he.pe hs) fun w0 wc w σ δ Kd D S q k => ⟨w, δ, _, rfl, S.rep, q, fun r v w1 q1 g1 z1 => k.nx δ σ w1 q1 (S.mono g1)⟩
/-- the own container of a slot is a value from here on -/
def ownQ (δ : DEnv) (i : Nat) (q : D → Prop) : Prop := match δ[i]? with
  | some (.own d) => q d
  | _ => False
theorem ownQ_e {δ : DEnv} {i : Nat} {q : D → Prop} (h : ownQ δ i q) : ∃ d, δ[i]? = some (Sl.own d) ∧ q d := by
  unfold ownQ at h
  cases e : δ[i]? with
  | none => rw [e] at h; exact h.elim
  | some s =>
    rw [e] at h
    cases s with
    | own d => exact ⟨d, rfl, h⟩
    | no => exact h.elim
    | val d => exact h.elim
def sFrz (i : Nat) (g : SV) : SV := fun K δ M => ownQ δ i fun d => g K (δ.set i (.val d)) M
theorem q_frz (i : Nat) (hs : QSs X rw ss g) : QSs X rw ss (sFrz i g) :=
  ⟨pss_imp hs.pss fun D σ H ⟨w0, wc, w, δ, Kd, e, S, q, k⟩ => by
    subst e
    obtain ⟨d, e, q⟩ := ownQ_e q
    obtain ⟨P2, S2⟩ := S.frzAt e
    exact ⟨w0, wc, ⟨w.C, w.M, P2, w.H⟩, _, Kd, rfl, S2, q, k⟩⟩
end
end HI

namespace HI
open PySem PySem.Spec PyProof.Rows L2
section
variable {X : Cx} {rw : Bool} {e a b c o tg : Expr} {pos : Pos} {t : Tg} {f fa fb fo : EV} {x y z : Str} {ss us : List Stmt} {g h : SV}
/-! ### a, b = e1, e2 -/
def sPar2 (i j : Nat) (fa fb : EV) : SV := fun K δ M => fa δ M fun x M1 => fb δ M1 fun y M2 => K.nx ((δ.set i x.sl).set j y.sl) M2
def sPar3 (i j l : Nat) (fa fb f : EV) : SV := fun K δ M => fa δ M fun x M1 => fb δ M1 fun y M2 => f δ M2 fun z M3 => K.nx (((δ.set i x.sl).set j y.sl).set l z.sl) M3
theorem par2_run {i j : Nat} {w0 wc w : Wd} {σ : L2.St} {δ : DEnv} {Kd : KD} {Q : List V → Hp → Prop} (S : StD (gx X) rw w0 wc w σ δ) (q : sPar2 i j fa fb Kd δ w.M)
    (k : ∀ v u w2 δ', Kd.nx δ' w2.M → StD (gx X) rw w0 wc w2 ((σ.set i (some v)).set j (some u)) δ' → Q [v, u] w2.H) :
    tCons (lift (gx X) rw fa) (tCons (lift (gx X) rw fb) tNil) σ w.H Q := by
  refine ⟨w, δ, _, rfl, S.rep, q, fun r1 v1 w1 q1 g1 z1 => ?_⟩
  have R1 := S.rep.mono g1
  refine ⟨w1, δ, _, rfl, R1, q1, fun r2 v2 w2 q2 g2 z2 => ?_⟩
  have R2 := R1.mono g2
  have g01 := S.gr.trans g1
  obtain ⟨A1, A2⟩ := put_at i R2 S.ho S.rep.ownK (fun l hl => S.gr.fresh hl) (z1.mono g2)
  obtain ⟨C1, _⟩ := put_at i R1 S.ho S.rep.ownK (fun l hl => S.gr.fresh hl) z1
  obtain ⟨B1, B2⟩ := put_at j A1 A2 C1.ownK (fun l hl => g01.fresh hl) z2
  have g12 := g1.trans g2
  exact k v1 v2 w2 _ q2 ⟨S.gr.trans g12, S.pc.trans g12.pp, S.cc.trans g12.cc, B1, B2⟩
theorem q_par2 (i j : Nat) {px py pt : Pos} {kt k2 : Nat} {pt2 : Pos} (hN : X.N.Nodup) (ha : QE X rw a fa) (hb : QE X rw b fb) (hw : swappedStores [.Tuple [.Name x px, .Name y py] kt pt] (.Tuple [a, b] k2 pt2) X.env = pure (some [x, y])) (hi : X.N[i]? = some x := by rfl) (hj : X.N[j]? = some y := by rfl) (hij : i ≠ j := by decide)
    (hx : X.env.scope.names.lookup x = some .local := by rfl) (hy : X.env.scope.names.lookup y = some .local := by rfl) (hs1 : starEach [a, b] X.env = (false, eval a X.env) :: starEach [b] X.env := by rfl) (hs2 : starEach [b] X.env = [(false, eval b X.env)] := by rfl)
    (hs : swapsWithSole [.Tuple [.Name x px, .Name y py] kt pt] (.Tuple [a, b] k2 pt2) pos.line X.env = pure false := by rfl) (hc : X.calm = true := by rfl) :
    QS X rw (.Assign [.Tuple [.Name x px, .Name y py] kt pt] (.Tuple [a, b] k2 pt2) pos) (sPar2 i j fa fb) :=
  qs_of (ps_par hc hN hi hj hij hx hy (pa_cons ha.pe (pa_cons hb.pe pa_nil hs2) hs1) hw hs) fun w0 wc w σ δ Kd D S q k => by
    show tCons (lift (gx X) rw fa) (tCons (lift (gx X) rw fb) tNil) σ w.H fun vs H1 => ∃ v u, vs = [v, u] ∧ D.nx ((σ.set i (some v)).set j (some u)) H1
    exact par2_run S q fun v u w2 δ' q' S' => ⟨v, u, rfl, k.nx δ' _ _ q' S'⟩
/-- the same where a tuple is made: a name is a cell of the def -/
theorem q_par2T (i j : Nat) {px py pt : Pos} {kt k2 : Nat} {pt2 : Pos} (ha : QE X rw a fa) (hb : QE X rw b fb) (hg : QG X (.Tuple [.Name x px, .Name y py] kt pt) (.tup [.one i, .one j])) (hs1 : starEach [a, b] X.env = (false, eval a X.env) :: starEach [b] X.env := by rfl) (hs2 : starEach [b] X.env = [(false, eval b X.env)] := by rfl)
    (hs : swapsWithSole [.Tuple [.Name x px, .Name y py] kt pt] (.Tuple [a, b] k2 pt2) pos.line X.env = pure false := by rfl) (hw : swappedStores [.Tuple [.Name x px, .Name y py] kt pt] (.Tuple [a, b] k2 pt2) X.env = pure none := by rfl)
    (h1 : (assignEach [.Tuple [.Name x px, .Name y py] kt pt] X.env).map (·.2) = [assign (.Tuple [.Name x px, .Name y py] kt pt) X.env] := by rfl) :
    QS X rw (.Assign [.Tuple [.Name x px, .Name y py] kt pt] (.Tuple [a, b] k2 pt2) pos) (sPar2 i j fa fb) :=
  qs_of (ps_asg (pe_tup (pa_cons ha.pe (pa_cons hb.pe pa_nil hs2) hs1)) hg.pg hs hw h1) fun w0 wc w σ δ Kd D S q k => by
    show tCons (lift (gx X) rw fa) (tCons (lift (gx X) rw fb) tNil) σ w.H fun xs H1 => xs.length ≤ sizeLine ∧ ∀ p, H1 p = none → Tg.g X.K (Tg.tup [.one i, .one j]) (.ref p) σ (upd H1 p (.tup xs)) D.nx
    refine par2_run S q fun v u w2 δ' q' S' => ⟨by show 2 ≤ sizeLine; decide, fun p hp => ?_⟩
    have gl : Gr (gx X) rw w2 ⟨w2.C, w2.M, w2.P, upd w2.H p (.tup [v, u])⟩ := (Gr.loose S'.gr.ok hp).weak
    rw [Tg.g, Tg.gA, Tg.gA, Tg.gA, Tg.g, Tg.g]
    exact ⟨p, [v, u], rfl, .inl (.inl upd_same), rfl, v, [u], rfl, u, [], rfl, rfl, k.nx δ' _ ⟨w2.C, w2.M, w2.P, _⟩ q' (S'.mono gl)⟩
theorem par3_run {i j l : Nat} {w0 wc w : Wd} {σ : L2.St} {δ : DEnv} {Kd : KD} {Q : List V → Hp → Prop} (S : StD (gx X) rw w0 wc w σ δ) (q : sPar3 i j l fa fb f Kd δ w.M)
    (k : ∀ v u s w2 δ', Kd.nx δ' w2.M → StD (gx X) rw w0 wc w2 (((σ.set i (some v)).set j (some u)).set l (some s)) δ' → Q [v, u, s] w2.H) :
    tCons (lift (gx X) rw fa) (tCons (lift (gx X) rw fb) (tCons (lift (gx X) rw f) tNil)) σ w.H Q := by
  refine ⟨w, δ, _, rfl, S.rep, q, fun r1 v1 w1 q1 g1 z1 => ?_⟩
  have R1 := S.rep.mono g1
  refine ⟨w1, δ, _, rfl, R1, q1, fun r2 v2 w2 q2 g2 z2 => ?_⟩
  have R2 := R1.mono g2
  refine ⟨w2, δ, _, rfl, R2, q2, fun r3 v3 w3 q3 g3 z3 => ?_⟩
  have R3 := R2.mono g3
  have g01 := S.gr.trans g1
  have g02 := g01.trans g2
  have fr0 := fun l (hl : w.H l = none) => S.gr.fresh hl
  have fr1 := fun l (hl : w1.H l = none) => g01.fresh hl
  have fr2 := fun l (hl : w2.H l = none) => g02.fresh hl
  obtain ⟨A1, A2⟩ := put_at i R3 S.ho S.rep.ownK fr0 ((z1.mono g2).mono g3)
  obtain ⟨C1, C2⟩ := put_at i R1 S.ho S.rep.ownK fr0 z1
  obtain ⟨E1, E2⟩ := put_at i R2 S.ho S.rep.ownK fr0 (z1.mono g2)
  obtain ⟨B1, B2⟩ := put_at j A1 A2 C1.ownK fr1 (z2.mono g3)
  obtain ⟨F1, F2⟩ := put_at j E1 E2 C1.ownK fr1 z2
  obtain ⟨G1, G2⟩ := put_at l B1 B2 F1.ownK fr2 z3
  have g12 := (g1.trans g2).trans g3
  exact k v1 v2 v3 w3 _ q3 ⟨S.gr.trans g12, S.pc.trans g12.pp, S.cc.trans g12.cc, G1, G2⟩
theorem q_par3 (i j l : Nat) {px py pz pt : Pos} {kt k2 : Nat} {pt2 : Pos} (hN : X.N.Nodup) (ha : QE X rw a fa) (hb : QE X rw b fb) (he : QE X rw c f) (hw : swappedStores [.Tuple [.Name x px, .Name y py, .Name z pz] kt pt] (.Tuple [a, b, c] k2 pt2) X.env = pure (some [x, y, z])) (hi : X.N[i]? = some x := by rfl) (hj : X.N[j]? = some y := by rfl) (hl : X.N[l]? = some z := by rfl) (hij : i ≠ j := by decide) (hil : i ≠ l := by decide) (hjl : j ≠ l := by decide)
    (hx : X.env.scope.names.lookup x = some .local := by rfl) (hy : X.env.scope.names.lookup y = some .local := by rfl) (hz : X.env.scope.names.lookup z = some .local := by rfl) (hs1 : starEach [a, b, c] X.env = (false, eval a X.env) :: starEach [b, c] X.env := by rfl) (hs2 : starEach [b, c] X.env = (false, eval b X.env) :: starEach [c] X.env := by rfl) (hs3 : starEach [c] X.env = [(false, eval c X.env)] := by rfl)
    (hs : swapsWithSole [.Tuple [.Name x px, .Name y py, .Name z pz] kt pt] (.Tuple [a, b, c] k2 pt2) pos.line X.env = pure false := by rfl) (hc : X.calm = true := by rfl) :
    QS X rw (.Assign [.Tuple [.Name x px, .Name y py, .Name z pz] kt pt] (.Tuple [a, b, c] k2 pt2) pos) (sPar3 i j l fa fb f) :=
  qs_of (ps_par3 hc hN hi hj hl hij hil hjl hx hy hz (pa_cons ha.pe (pa_cons hb.pe (pa_cons he.pe pa_nil hs3) hs2) hs1) hw hs) fun w0 wc w σ δ Kd D S q k => by
    show tCons (lift (gx X) rw fa) (tCons (lift (gx X) rw fb) (tCons (lift (gx X) rw f) tNil)) σ w.H fun vs H1 => ∃ v u s, vs = [v, u, s] ∧ D.nx (((σ.set i (some v)).set j (some u)).set l (some s)) H1
    exact par3_run S q fun v u s w2 δ' q' S' => ⟨v, u, s, rfl, k.nx δ' _ _ q' S'⟩
theorem q_par3T (i j l : Nat) {px py pz pt : Pos} {kt k2 : Nat} {pt2 : Pos} (ha : QE X rw a fa) (hb : QE X rw b fb) (he : QE X rw c f) (hg : QG X (.Tuple [.Name x px, .Name y py, .Name z pz] kt pt) (.tup [.one i, .one j, .one l])) (hs1 : starEach [a, b, c] X.env = (false, eval a X.env) :: starEach [b, c] X.env := by rfl) (hs2 : starEach [b, c] X.env = (false, eval b X.env) :: starEach [c] X.env := by rfl) (hs3 : starEach [c] X.env = [(false, eval c X.env)] := by rfl)
    (hs : swapsWithSole [.Tuple [.Name x px, .Name y py, .Name z pz] kt pt] (.Tuple [a, b, c] k2 pt2) pos.line X.env = pure false := by rfl) (hw : swappedStores [.Tuple [.Name x px, .Name y py, .Name z pz] kt pt] (.Tuple [a, b, c] k2 pt2) X.env = pure none := by rfl)
    (h1 : (assignEach [.Tuple [.Name x px, .Name y py, .Name z pz] kt pt] X.env).map (·.2) = [assign (.Tuple [.Name x px, .Name y py, .Name z pz] kt pt) X.env] := by rfl) :
    QS X rw (.Assign [.Tuple [.Name x px, .Name y py, .Name z pz] kt pt] (.Tuple [a, b, c] k2 pt2) pos) (sPar3 i j l fa fb f) :=
  qs_of (ps_asg (pe_tup (pa_cons ha.pe (pa_cons hb.pe (pa_cons he.pe pa_nil hs3) hs2) hs1)) hg.pg hs hw h1) fun w0 wc w σ δ Kd D S q k => by
    show tCons (lift (gx X) rw fa) (tCons (lift (gx X) rw fb) (tCons (lift (gx X) rw f) tNil)) σ w.H fun xs H1 => xs.length ≤ sizeLine ∧ ∀ p, H1 p = none → Tg.g X.K (Tg.tup [.one i, .one j, .one l]) (.ref p) σ (upd H1 p (.tup xs)) D.nx
    refine par3_run S q fun v u s w2 δ' q' S' => ⟨by show 3 ≤ sizeLine; decide, fun p hp => ?_⟩
    have gl : Gr (gx X) rw w2 ⟨w2.C, w2.M, w2.P, upd w2.H p (.tup [v, u, s])⟩ := (Gr.loose S'.gr.ok hp).weak
    rw [Tg.g, Tg.gA, Tg.gA, Tg.gA, Tg.gA, Tg.g, Tg.g, Tg.g]
    exact ⟨p, [v, u, s], rfl, .inl (.inl upd_same), rfl, v, [u, s], rfl, u, [s], rfl, s, [], rfl, rfl, k.nx δ' _ ⟨w2.C, w2.M, w2.P, _⟩ q' (S'.mono gl)⟩
/-- a, b = e, e a tuple -/
def sAsgT (t : Tg) (f : EV) : SV := fun K δ M => f δ M fun r M1 => t.bind r.d δ fun δ' => K.nx δ' M1
theorem q_asgT (he : QE X rw e f) (hg : QG X tg t) (hs : swapsWithSole [tg] e pos.line X.env = pure false := by rfl) (hw : swappedStores [tg] e X.env = pure none := by rfl)
    (h1 : (assignEach [tg] X.env).map (·.2) = [assign tg X.env] := by rfl) : QS X rw (.Assign [tg] e pos) (sAsgT t f) :=
  qs_of (ps_asg he.pe hg.pg hs hw h1) fun w0 wc w σ δ Kd D S q k => by
    refine lift_d S.rep (fun d M => t.bind d δ fun δ' => Kd.nx δ' M) q fun d v w1 q1 g1 z1 => ?_
    obtain ⟨δ', hset, q1⟩ := someQ_e q1
    have S1 := S.mono g1
    refine Tg.ok z1 S1.rep hset fun σ' b => k.nx δ' σ' w1 q1 ⟨S1.gr, S1.pc, S1.cc, b.rep, fun j d l h1 h2 => ?_⟩
    obtain ⟨h3, h4⟩ := b.own j d h1
    rw [b.out j h4] at h2
    exact S1.ho j d l h3 h2
/-- x += e of ints and texts -/
def augD (x y : D) (q : D → Prop) : Prop := match x, y with
  | .int i, .int j => q (.int (i + j))
  | .str s, .str u => szOk (s.length + u.length) (q (.str (s ++ u)))
  | _, _ => False
def sAug (i : Nat) (f : EV) : SV := fun K δ M => match δ[i]? with
  | some (.val d) => f δ M fun r M1 => augD d r.d fun d' => K.nx (δ.set i (.val d')) M1
  | _ => False
theorem ip_add2 : PIp X .Add (fun x y H Q => (∃ i j, x = .int i ∧ y = .int j ∧ Q (.int (i + j)) H) ∨ ∃ i j, x = .str i ∧ y = .str j ∧ i.length + j.length ≤ sizeLine ∧ Q (.str (i ++ j)) H) := by
  intro pins s σ H x y v u Q I rx ry h
  rcases h with h | h
  · exact iop_add pins s σ H x y v u Q I rx ry h
  · exact iop_add_str pins s σ H x y v u Q I rx ry h
theorem augD_e {K : PySem.W.Frag} {C : List Addr} {P : Hp} {v u : V} {d d2 : D} {q : D → Prop} (h : augD d d2 q) (zv : Dp K C P v d) (zu : Dp K C P u d2) : (∃ i j, v = .int i ∧ u = .int j ∧ q (.int (i + j))) ∨ ∃ i j, v = .str (tx i) ∧ u = .str (tx j) ∧ (tx i).length + (tx j).length ≤ sizeLine ∧ vS (i ++ j) ∧ q (.str (i ++ j)) := by
  unfold augD at h
  cases d with
  | int n =>
    cases d2 with
    | int m => exact .inl ⟨n, m, zv.int', zu.int', h⟩
    | _ => exact h.elim
  | str n =>
    cases d2 with
    | str m =>
      obtain ⟨q1, q2⟩ := szOk_e h
      exact .inr ⟨n, m, zv.str'.1, zu.str'.1, by rw [tx_len, tx_len]; exact q1, vS_app zv.str'.2 zu.str'.2, q2⟩
    | _ => exact h.elim
  | _ => cases d2 <;> exact h.elim
theorem q_aug (i : Nat) {pos' : Pos} (hN : X.N.Nodup) (he : QE X rw e f) (hi : X.N[i]? = some x := by rfl) (hx : Loc X.env.scope x := by first | exact Or.inl rfl | exact Or.inr rfl) (hf : X.fn x = true ∨ X.env.scope.names.lookup x = some .local := by first | exact .inl rfl | exact .inr rfl | assumption) :
    QS X rw (.AugAssign (.Name x pos') .Add e pos) (sAug i f) :=
  qs_of (ps_aug hN hi hx he.pe ip_add2 hf) fun w0 wc w σ δ Kd D S q k => by
    unfold sAug at q
    cases e : δ[i]? with
    | none => rw [e] at q; exact q.elim
    | some s =>
      rw [e] at q
      cases s with
      | no => exact q.elim
      | own ds => exact q.elim
      | val d =>
        obtain ⟨v, h1, h2⟩ := S.rep.val i d e
        refine ⟨v, h1, lift_d S.rep (fun d2 M1 => augD d d2 fun d' => Kd.nx (δ.set i (.val d')) M1) q fun d2 v2 w1 q1 g1 z1 => ?_⟩
        rcases augD_e q1 (g1.dp h2) z1 with ⟨n, m, rfl, rfl, q2⟩ | ⟨n, m, rfl, rfl, hl, hv, q2⟩
        · exact .inl ⟨n, m, rfl, rfl, k.nx _ _ _ q2 (S.put (r := .val (.int (n + m))) i g1 (.int _))⟩
        · refine .inr ⟨tx n, tx m, rfl, rfl, hl, ?_⟩
          rw [tx_app]
          exact k.nx _ _ _ q2 (S.put (r := .val (.str (n ++ m))) i g1 (.str _ hv))

/-! ### own containers -/
def lstQ (d : D) (q : List D → Prop) : Prop := match d with
  | .lst xs => q xs
  | _ => False
theorem lstQ_e {d : D} {q : List D → Prop} (h : lstQ d q) : ∃ xs, d = .lst xs ∧ q xs := by
  cases d <;> first | exact ⟨_, rfl, h⟩ | exact h.elim
theorem own_lst {G : Gx} {w : Wd} {σ : L2.St} {δ : DEnv} {i : Nat} {xs : List D} (R : Rep G w σ δ) (e : δ[i]? = some (Sl.own (.lst xs))) : ∃ l vs, σ[i]? = some (some (V.ref l)) ∧ w.P l = none ∧ l ∉ w.C ∧ w.H l = some (.lst vs) ∧ DpA G.K w.C w.P vs xs := by
  obtain ⟨l, h1, h2, h3, o, h4, h5⟩ := R.own i _ e
  cases h5 with
  | lst h5 => exact ⟨l, _, h1, h2, h3, h4, h5⟩
def sApp (i : Nat) (f : EV) : SV := fun K δ M => ownQ δ i fun d => lstQ d fun ds => f δ M fun r M1 => szOk (ds.length + 1) (K.nx (δ.set i (.own (.lst (ds ++ [r.d])))) M1)
theorem q_app (i : Nat) {x : Str} {p1 apos cpos : Pos} (he : QE X rw e f) (hN : X.N[i]? = some x := by rfl) (hv : Vis X.env.scope x := by first | exact Or.inl rfl | exact Or.inr (Or.inl rfl) | exact Or.inr (Or.inr rfl)) (hd : (x == ("__debug__" : Str)) = false := by decide) (hcd : (x == ("__classdict__" : Str)) = false := by decide)
    (hs1 : starEach [e] X.env = [(false, eval e X.env)] := by rfl) (hline : (apos.endLine == cpos.line) = true := by rfl) (hbase : attributeBase (.Name x p1) "append" X.env (eval (.Name x p1) X.env) = eval (.Name x p1) X.env := by rfl)
    (hfew : ((backTo cpos (starEach [e] X.env)).all (fun x => !x.1) && (backToKw cpos (keywordEach [] X.env)).all (fun x => x.1.isSome) && decide ([e].length + ([] : List Keyword).length + (if ([] : List Keyword).isEmpty then 0 else 1) < 30)) = true := by rfl)
    (hs : swapsWith (.Call (.Attribute (.Name x p1) "append" apos) [e] [] cpos) none pos.line X.env = pure false := by rfl) :
    QS X rw (.Expr (.Call (.Attribute (.Name x p1) "append" apos) [e] [] cpos) pos) (sApp i f) :=
  qs_of (ps_expr (pe_bm PySem.F.plainAttrs_list PySem.F.slot_list_append PySem.F.type_list_append mt_append (pe_var hN hv hd hcd) (pa_cons he.pe pa_nil hs1) hbase hfew hline hs1) hs) fun w0 wc w σ δ Kd D S q k => by
    obtain ⟨d, e, q⟩ := ownQ_e q
    obtain ⟨ds, rfl, q'⟩ := lstQ_e q
    obtain ⟨l, vs, h1, h2, h3, h4, h5⟩ := own_lst S.rep e
    refine ⟨.ref l, h1, .inl ⟨rfl, vs, .inl (.inl h4)⟩, ?_⟩
    refine lift_d S.rep (fun d M1 => szOk (ds.length + 1) (Kd.nx (δ.set i (.own (.lst (ds ++ [d])))) M1)) q' fun d v w1 q1 g z => ?_
    obtain ⟨q2, q3⟩ := szOk_e q1
    have h6 := g.hh l _ h4 h3
    refine ⟨l, vs, v, rfl, rfl, h6, by rw [h5.length]; omega, k.nx _ _ ⟨w1.C, w1.M, w1.P, _⟩ q3 ?_⟩
    exact (S.mono g).chg e h1 (HoD.lst ((g.dpa h5).append (.one z)))
/-- x.insert(k, e) -/
def sIns (i : Nat) (fa f : EV) : SV := fun K δ M => ownQ δ i fun d => lstQ d fun ds => fa δ M fun r1 M1 => f δ M1 fun r M2 => intQ r1.d fun j => (0 ≤ j ∧ j < 1000000000) ∧ szOk (ds.length + 1) (K.nx (δ.set i (.own (.lst (ds.take j.toNat ++ [r.d] ++ ds.drop j.toNat)))) M2)
theorem q_ins (i : Nat) {x : Str} {p1 apos cpos : Pos} (ha : QE X rw a fa) (he : QE X rw e f) (hN : X.N[i]? = some x := by rfl) (hv : Vis X.env.scope x := by first | exact Or.inl rfl | exact Or.inr (Or.inl rfl) | exact Or.inr (Or.inr rfl)) (hd : (x == ("__debug__" : Str)) = false := by decide) (hcd : (x == ("__classdict__" : Str)) = false := by decide)
    (hs1 : starEach [e] X.env = [(false, eval e X.env)] := by rfl) (hs2 : starEach [a, e] X.env = (false, eval a X.env) :: starEach [e] X.env := by rfl) (hpl : (backTo cpos (starEach [e] X.env)).any (·.1) = false := by rfl) (hline : (apos.endLine == cpos.line) = true := by rfl) (hbase : attributeBase (.Name x p1) "insert" X.env (eval (.Name x p1) X.env) = eval (.Name x p1) X.env := by rfl)
    (hfew : ((backTo cpos (starEach [a, e] X.env)).all (fun x => !x.1) && (backToKw cpos (keywordEach [] X.env)).all (fun x => x.1.isSome) && decide ([a, e].length + ([] : List Keyword).length + (if ([] : List Keyword).isEmpty then 0 else 1) < 30)) = true := by rfl)
    (hs : swapsWith (.Call (.Attribute (.Name x p1) "insert" apos) [a, e] [] cpos) none pos.line X.env = pure false := by rfl) :
    QS X rw (.Expr (.Call (.Attribute (.Name x p1) "insert" apos) [a, e] [] cpos) pos) (sIns i fa f) :=
  qs_of (ps_expr (pe_bm PySem.F.plainAttrs_list PySem.F.slot_list_insert PySem.F.type_list_insert mt_insert (pe_var hN hv hd hcd) (pa_cons ha.pe (pa_cons he.pe pa_nil hs1) hs2) hbase hfew hline hs2 hpl) hs) fun w0 wc w σ δ Kd D S q k => by
    obtain ⟨d, e, q⟩ := ownQ_e q
    obtain ⟨ds, rfl, q'⟩ := lstQ_e q
    obtain ⟨l, vs, h1, h2, h3, h4, h5⟩ := own_lst S.rep e
    refine ⟨.ref l, h1, .inl ⟨rfl, vs, .inl (.inl h4)⟩, ?_⟩
    refine lift_d S.rep (fun d1 M1 => f δ M1 fun r M2 => intQ d1 fun j => (0 ≤ j ∧ j < 1000000000) ∧ szOk (ds.length + 1) (Kd.nx (δ.set i (.own (.lst (ds.take j.toNat ++ [r.d] ++ ds.drop j.toNat)))) M2)) q' fun d1 v1 w1 q1 g1 z1 => ?_
    refine lift_d (S.rep.mono g1) (fun d M2 => intQ d1 fun j => (0 ≤ j ∧ j < 1000000000) ∧ szOk (ds.length + 1) (Kd.nx (δ.set i (.own (.lst (ds.take j.toNat ++ [d] ++ ds.drop j.toNat)))) M2)) q1 fun d v w2 q2 g2 z => ?_
    obtain ⟨j, e1, ⟨j0, j1⟩, q3⟩ := intQ_e q2
    subst e1
    cases z1.int'
    obtain ⟨q4, q5⟩ := szOk_e q3
    have g := g1.trans g2
    have h6 := g.hh l _ h4 h3
    refine ⟨l, vs, j, v, rfl, rfl, h6, by rw [h5.length]; omega, j0, by omega, k.nx _ _ ⟨w2.C, w2.M, w2.P, _⟩ q5 ?_⟩
    have u := g.dpa h5
    exact (S.mono g).chg e h1 (HoD.lst (((u.take _).append (.one z)).append (u.drop _)))
/-- x[k] = e, x a dict of the def's own -/
theorem dput_of {G : Gx} {w : Wd} {l : Addr} {y v : V} {k d : D} {t : Bool} {kds : List (D × D)} (o : WOk G w) {ho : HO} (h1 : w.H l = some ho) (h2 : HoD G.K w.C w.P ho (.dct t kds)) (zy : Dp G.K w.C w.P y k) (zv : Dp G.K w.C w.P v d) (hk : isKey t k = true) (hz : kds.length < 1000000) :
    ∃ o', DPut w.H l y v (upd w.H l o') ∧ HoD G.K w.C w.P o' (.dct t (putD kds k d)) := by
  have vk : ∀ {p : D × D}, (∀ p ∈ kds, vK p.1) → p ∈ putD kds k d → vK p.1 := fun hv hp => by
    rcases put_mem hp with ⟨q, q1, q2⟩ | e
    · rw [← q2]; exact hv q q1
    · rw [e]; exact zy.vK
  cases h2 with
  | @dK kvs _ hks hv hzz =>
    obtain ⟨kk, ek⟩ := keyD_some hk
    have ey := keyD_V zy ek
    subst ey
    obtain ⟨a1, a2⟩ := put_rel (F := keyD) (fun x y k l => kEq_key) ek zv hks hzz
    have hl : kvs.length = kds.length := by have := congrArg List.length hks; rw [List.length_map, List.length_map] at this; exact this.symm
    exact ⟨_, DPut.k h1 (by rw [hl]; exact Nat.lt_trans hz (by decide)), .dK a1 (fun p hp => vk hv hp) a2⟩
  | @dT kvs _ hks hv hzz =>
    obtain ⟨kk, ek⟩ := tkD_some hk
    cases k with
    | tup xs =>
      obtain ⟨b, vs, rfl, hb, zb⟩ := zy.tup'
      have ev := keysD_V zb ek
      subst ev
      obtain ⟨a1, a2⟩ := put_rel (F := tkD) (fun x y k l => kEq_tk) ek zv hks hzz
      have hl : kvs.length = kds.length := by have := congrArg List.length hks; rw [List.length_map, List.length_map] at this; exact this.symm
      exact ⟨_, DPut.t h1 (o.ex.tup hb) (by rw [hl]; exact Nat.lt_trans hz (by decide)), .dT a1 (fun p hp => vk hv hp) a2⟩
    | _ => cases ek
end
end HI

namespace HI
open PySem PySem.Spec PyProof.Rows L2
/-! ### cells -/
section
variable {G : Gx} {w w1 : Wd}
/-- a loose container becomes a cell -/
theorem Gr.cellify {l : Addr} {d : D} (g : Gr G true w w1) (h1 : w1.P l = none) (h2 : w.H l = none) (h3 : l ∉ w1.C) (h4 : CellOk G w1 l d) : Gr G true w ⟨w1.C ++ [l], w1.M ++ [d], w1.P, w1.H⟩ := by
  have pre : Pre w1.C (w1.C ++ [l]) := ⟨[l], rfl⟩
  refine ⟨⟨g.ok.ex, g.ok.nown, by rw [List.length_append, List.length_append, g.ok.len]; rfl, ?_, fun n a e h5 h6 => ?_⟩, g.pp, g.cc.trans pre, g.hh, g.off, fun a h n => ?_, fun e => by cases e⟩
  · rw [List.nodup_append]
    refine ⟨g.ok.nd, by simp, fun a ha b hb e => ?_⟩
    rw [List.mem_singleton] at hb
    subst hb
    subst e
    exact h3 ha
  · have keep : ∀ {a : Addr} {d : D}, CellOk G w1 a d → CellOk G ⟨w1.C ++ [l], w1.M ++ [d], w1.P, w1.H⟩ a d := fun k => CellOk.keep (w' := ⟨w1.C ++ [l], _, w1.P, w1.H⟩) k pre (Same.refl _) (fun _ _ h _ => h) fun _ _ z => z
    by_cases hn : n < w1.C.length
    · rw [List.getElem?_append_left hn] at h5
      rw [List.getElem?_append_left (by rw [← g.ok.len]; exact hn)] at h6
      obtain ⟨k1, k2⟩ := g.ok.cell n a e h5 h6
      exact ⟨k1, CellOk.keep (w' := ⟨w1.C ++ [l], w1.M ++ [d], w1.P, w1.H⟩) k2 pre (Same.refl _) (fun _ _ h _ => h) fun _ _ z => z⟩
    · have h5' := (List.getElem?_eq_some_iff.mp h5).1
      rw [List.length_append] at h5'
      have en : n = w1.C.length := by simp at h5'; omega
      subst en
      rw [List.getElem?_append_right (Nat.le_refl _), Nat.sub_self] at h5
      rw [List.getElem?_append_right (by rw [g.ok.len]; exact Nat.le_refl _), g.ok.len, Nat.sub_self] at h6
      cases h5
      cases h6
      exact ⟨h1, CellOk.keep (w' := ⟨w1.C ++ [l], w1.M ++ [d], w1.P, w1.H⟩) h4 pre (Same.refl _) (fun _ _ h _ => h) fun _ _ z => z⟩
  · rcases List.mem_append.mp h with h | h
    · exact g.fr a h n
    · rw [List.mem_singleton] at h
      subst h
      exact h2
/-- a cell's content changes -/
theorem Gr.setCell {n : Nat} {a : Addr} {o' : HO} {d' : D} (k : WOk G w) (hc : w.C[n]? = some a) (no : ∀ x, w.H a ≠ some (.own x)) (hok : CellOk G ⟨w.C, w.M.set n d', w.P, upd w.H a o'⟩ a d') : Gr G true w ⟨w.C, w.M.set n d', w.P, upd w.H a o'⟩ := by
  have ha : a ∈ w.C := List.mem_of_getElem? hc
  have hP := (k.mem ha).1
  refine ⟨⟨fun b u h => ?_, k.nown, by rw [List.length_set]; exact k.len, k.nd, fun m b d e1 e2 => ?_⟩, Same.refl _, Pre.refl _, fun b u h nb => ?_, fun b u h nt z => z, fun b h nb => absurd h nb, fun e => by cases e⟩
  · show ∃ o2, upd w.H a o' b = some o2 ∧ unl o2 = u
    rw [upd_ne (ne_of_none h hP)]
    exact k.ex _ _ h
  · by_cases hm : m = n
    · subst hm
      have hlt : m < w.M.length := by rw [← k.len]; exact (List.getElem?_eq_some_iff.mp hc).1
      have e2 : (w.M.set m d')[m]? = some d := e2
      rw [List.getElem?_set_self hlt] at e2
      cases e2
      have e1 : w.C[m]? = some b := e1
      rw [hc] at e1
      cases e1
      exact ⟨hP, hok⟩
    · have e2 : (w.M.set n d')[m]? = some d := e2
      rw [List.getElem?_set_ne (fun z => hm z.symm)] at e2
      obtain ⟨k1, k2⟩ := k.cell m b d e1 e2
      refine ⟨k1, k2.keep (Pre.refl _) (Same.refl _) (fun x u hx q => ?_) fun _ _ z => z⟩
      show upd w.H a o' x = some u
      rw [upd_ne fun z => ?_]
      · exact hx
      · subst z
        rcases q with q | q
        · subst q; exact hm (at_inj k.nd e1 hc)
        · subst q; exact no _ hx
  · show upd w.H a o' b = some u
    rw [upd_ne (a := a) (b := b) (fun z => by subst z; exact nb ha)]
    exact h
theorem cell_nown {n : Nat} {a : Addr} (k : WOk G w) (hc : w.C[n]? = some a) : ∀ x, w.H a ≠ some (.own x) := fun x z => by
  obtain ⟨d, _, _, q⟩ := k.at hc
  cases d with
  | lst ds => obtain ⟨o, q1, q2⟩ := q; rw [z] at q1; cases q1; exact q2.nown _ rfl
  | dct t ds => obtain ⟨o, q1, q2⟩ := q; rw [z] at q1; cases q1; exact q2.nown _ rfl
  | obj c fs => obtain ⟨_, _, _, _, q1, _⟩ := q; rw [z] at q1; cases q1
  | bag => obtain ⟨_, _, _, _, _, _, q1, _⟩ := q; rw [z] at q1; cases q1
  | lck d => obtain ⟨_, _, q1, _⟩ := q; rw [z] at q1; cases q1
  | _ => exact q.elim
end
def newQ (r : Rz) (q : D → Prop) : Prop := match r with
  | .new d => q d
  | .val _ => False
theorem newQ_e {r : Rz} {q : D → Prop} (h : newQ r q) : ∃ d, r = .new d ∧ q d := by
  cases r with
  | new d => exact ⟨d, rfl, h⟩
  | val d => exact h.elim
def eCell (f : EV) : EV := fun δ M Q => f δ M fun r M1 => newQ r fun d => Q (.val (.cell M1.length)) (M1 ++ [d])
def cellQ (d : D) (q : Nat → Prop) : Prop := match d with
  | .cell n => q n
  | _ => False
theorem cellQ_e {d : D} {q : Nat → Prop} (h : cellQ d q) : ∃ n, d = .cell n ∧ q n := by
  cases d <;> first | exact ⟨_, rfl, h⟩ | exact h.elim
theorem cont_cell {G : Gx} {w : Wd} {l : Addr} {d : D} (h : Cont G w l d) : CellOk G w l d := by
  obtain ⟨o, h1, h2⟩ := h
  cases h2 with
  | lst a1 => exact ⟨_, h1, .lst a1⟩
  | dK a1 a2 a3 => exact ⟨_, h1, .dK a1 a2 a3⟩
  | dT a1 a2 a3 => exact ⟨_, h1, .dT a1 a2 a3⟩
section
variable {X : Cx} {e a b c o tg i : Expr} {pos pos' : Pos} {f fa fb fo fi fv : EV} {x y z : Str} {ss us : List Stmt} {k : Nat}
theorem q_cell (h : QE X true e f) : QE X true e (eCell f) := qe_of h.pe fun w σ δ Qd Q R hf k =>
  ⟨w, δ, _, rfl, R, hf, fun r v w1 q g z => by
    obtain ⟨d, rfl, q⟩ := newQ_e q
    obtain ⟨l, rfl, h1, h2, h3, h4⟩ := z
    have g2 := g.cellify h1 h2 h3 (cont_cell h4)
    refine k _ _ ⟨w1.C ++ [l], w1.M ++ [d], w1.P, w1.H⟩ q g2 (Dp.cell ?_)
    show (w1.C ++ [l])[w1.M.length]? = some l
    rw [← g.ok.len, List.getElem?_append_right (Nat.le_refl _), Nat.sub_self]
    rfl⟩
/-- o.append(e), o a cell -/
def sCApp (fo f : EV) : SV := fun K δ M => fo δ M fun o M1 => cellQ o.d fun n => someQ M1[n]? fun c0 => lstQ c0 fun _ => f δ M1 fun r M2 => someQ M2[n]? fun c => lstQ c fun xs => szOk (xs.length + 1) (K.nx δ (M2.set n (.lst (xs ++ [r.d]))))
theorem cell_lst {G : Gx} {w : Wd} {n : Nat} {v : V} {xs : List D} (k : WOk G w) (z : Dp G.K w.C w.P v (.cell n)) (e : w.M[n]? = some (.lst xs)) : ∃ a vs, v = .ref a ∧ w.C[n]? = some a ∧ w.H a = some (.lst vs) ∧ DpA G.K w.C w.P vs xs := by
  obtain ⟨a, rfl, ha⟩ := z.cell'
  obtain ⟨_, o, h1, h2⟩ := k.cell n a _ ha e
  cases h2 with
  | lst h2 => exact ⟨a, _, rfl, ha, h1, h2⟩
theorem q_cApp {apos cpos : Pos} (ho : QE X true o fo) (he : QE X true e f) (hs1 : starEach [e] X.env = [(false, eval e X.env)] := by rfl) (hline : (apos.endLine == cpos.line) = true := by rfl) (hbase : attributeBase o "append" X.env (eval o X.env) = eval o X.env := by rfl)
    (hfew : ((backTo cpos (starEach [e] X.env)).all (fun x => !x.1) && (backToKw cpos (keywordEach [] X.env)).all (fun x => x.1.isSome) && decide ([e].length + ([] : List Keyword).length + (if ([] : List Keyword).isEmpty then 0 else 1) < 30)) = true := by rfl)
    (hs : swapsWith (.Call (.Attribute o "append" apos) [e] [] cpos) none pos.line X.env = pure false := by rfl) :
    QS X true (.Expr (.Call (.Attribute o "append" apos) [e] [] cpos) pos) (sCApp fo f) :=
  qs_of (ps_expr (pe_bm PySem.F.plainAttrs_list PySem.F.slot_list_append PySem.F.type_list_append mt_append ho.pe (pa_cons he.pe pa_nil hs1) hbase hfew hline hs1) hs) fun w0 wc w σ δ Kd D S q k => by
    dsimp only [tDrop, tBM, tCons, tNil]
    refine lift_d S.rep (fun d M1 => cellQ d fun n => someQ M1[n]? fun c0 => lstQ c0 fun _ => f δ M1 fun r M2 => someQ M2[n]? fun c => lstQ c fun xs => szOk (xs.length + 1) (Kd.nx δ (M2.set n (.lst (xs ++ [r.d]))))) q fun d v w1 q1 g1 z1 => ?_
    obtain ⟨n, rfl, q1⟩ := cellQ_e q1
    obtain ⟨c0, e0, q1⟩ := someQ_e q1
    obtain ⟨ys, e00, q2⟩ := lstQ_e q1
    subst e00
    obtain ⟨a, us, rfl, ha, hH, zs⟩ := cell_lst g1.ok z1 e0
    refine ⟨.inl ⟨rfl, us, .inl (.inl hH)⟩, ?_⟩
    refine lift_d (S.mono g1).rep (fun d M2 => someQ M2[n]? fun c => lstQ c fun xs => szOk (xs.length + 1) (Kd.nx δ (M2.set n (.lst (xs ++ [d]))))) q2 fun d v w2 q2 g2 z2 => ?_
    obtain ⟨c, e1, q3⟩ := someQ_e q2
    obtain ⟨xs, e2, q4⟩ := lstQ_e q3
    subst e2
    obtain ⟨q5, q6⟩ := szOk_e q4
    obtain ⟨a', vs, ea, ha', hH', zs'⟩ := cell_lst g2.ok (g2.dp z1) e1
    cases ea
    refine ⟨a, vs, v, rfl, rfl, hH', by rw [zs'.length]; omega, ?_⟩
    have g3 := Gr.setCell (o' := .lst (vs ++ [v])) (d' := .lst (xs ++ [d])) g2.ok ha' (cell_nown g2.ok ha') ⟨_, upd_same, HoD.lst (zs'.append (.one z2))⟩
    exact k.nx δ σ ⟨w2.C, w2.M.set n (.lst (xs ++ [d])), w2.P, _⟩ q6 ((S.mono g1).mono (g2.trans g3))
/-- o[i] = e, o a cell that is a dict -/
def dctQ (d : D) (q : Bool → List (D × D) → Prop) : Prop := match d with
  | .dct t kvs => q t kvs
  | _ => False
theorem dctQ_e {d : D} {q : Bool → List (D × D) → Prop} (h : dctQ d q) : ∃ t kvs, d = .dct t kvs ∧ q t kvs := by
  cases d <;> first | exact ⟨_, _, rfl, h⟩ | exact h.elim
def sCPut (fo fi fv : EV) : SV := fun K δ M => fv δ M fun r M1 => fo δ M1 fun o M2 => fi δ M2 fun i M3 => cellQ o.d fun n => someQ M3[n]? fun c => dctQ c fun t kvs => okQ (isKey t i.d) (szOk (kvs.length + 1) (K.nx δ (M3.set n (.dct t (putD kvs i.d r.d)))))
theorem q_cPut (hr : Room k X.A) (ho : QE X true o fo) (hi : QE X true i fi) (hv : QE X true e fv) (hs : swapsWith e (some (.Subscript o i pos')) pos.line X.env = pure false := by rfl) : QS X true (.Assign [.Subscript o i pos'] e pos) (sCPut fo fi fv) :=
  qs_of (ps_dput (by have := hr.un; omega) ho.pe hi.pe hv.pe hs) fun w0 wc w σ δ Kd D S q k => by
    refine lift_d S.rep (fun d M1 => fo δ M1 fun o M2 => fi δ M2 fun i M3 => cellQ o.d fun n => someQ M3[n]? fun c => dctQ c fun t kvs => okQ (isKey t i.d) (szOk (kvs.length + 1) (Kd.nx δ (M3.set n (.dct t (putD kvs i.d d)))))) q fun dv v w1 q1 g1 z1 => ?_
    have S1 := S.mono g1
    refine lift_d S1.rep (fun od M2 => fi δ M2 fun i M3 => cellQ od fun n => someQ M3[n]? fun c => dctQ c fun t kvs => okQ (isKey t i.d) (szOk (kvs.length + 1) (Kd.nx δ (M3.set n (.dct t (putD kvs i.d dv)))))) q1 fun od ov w2 q2 g2 z2 => ?_
    have S2 := S1.mono g2
    refine lift_d S2.rep (fun id M3 => cellQ od fun n => someQ M3[n]? fun c => dctQ c fun t kvs => okQ (isKey t id) (szOk (kvs.length + 1) (Kd.nx δ (M3.set n (.dct t (putD kvs id dv)))))) q2 fun id iv w3 q3 g3 z3 => ?_
    have S3 := S2.mono g3
    obtain ⟨n, rfl, q3⟩ := cellQ_e q3
    obtain ⟨c, e1, q4⟩ := someQ_e q3
    obtain ⟨t, kvs, e2, q5⟩ := dctQ_e q4
    subst e2
    obtain ⟨q6, q7⟩ := okQ_e q5
    have q8 : kvs.length + 1 ≤ 1000000 := by
      unfold szOk at q7
      cases e : Nat.ble (kvs.length + 1) 1000000 with
      | true => exact Nat.le_of_ble_eq_true e
      | false => rw [e] at q7; exact q7.elim
    have q9 := (szOk_e q7).2
    obtain ⟨a, rfl, ha⟩ := (g3.dp z2).cell'
    obtain ⟨_, ho, h1, h2⟩ := S3.gr.ok.cell n a _ ha e1
    obtain ⟨o', h3, h4⟩ := dput_of S3.gr.ok h1 h2 z3 (g3.dp (g2.dp z1)) q6 (by omega)
    refine ⟨a, _, rfl, h3, ?_⟩
    have g4 := Gr.setCell (o' := o') (d' := .dct t (putD kvs id dv)) S3.gr.ok ha (cell_nown S3.gr.ok ha) ⟨_, upd_same, h4⟩
    exact k.nx δ σ ⟨w3.C, w3.M.set n _, w3.P, _⟩ q9 (S3.mono g4)
/-- x[k] = e, x the def's own dict -/
def sOPut (j : Nat) (fi fv : EV) : SV := fun K δ M => fv δ M fun r M1 => ownQ δ j fun d => dctQ d fun t kvs => fi δ M1 fun i M2 => okQ (isKey t i.d) (szOk (kvs.length + 1) (K.nx (δ.set j (.own (.dct t (putD kvs i.d r.d)))) M2))
theorem szOk_n {n : Nat} {q : Prop} (h : szOk n q) : n ≤ 1000000 := by
  unfold szOk at h
  cases e : Nat.ble n 1000000 with
  | true => exact Nat.le_of_ble_eq_true e
  | false => rw [e] at h; exact h.elim
theorem q_oPut {rw : Bool} (j : Nat) {x : Str} {p1 : Pos} (hr : Room k X.A) (hi : QE X rw i fi) (hv : QE X rw e fv) (hN : X.N[j]? = some x := by rfl) (hvs : Vis X.env.scope x := by first | exact Or.inl rfl | exact Or.inr (Or.inl rfl) | exact Or.inr (Or.inr rfl)) (hd : (x == ("__debug__" : Str)) = false := by decide) (hcd : (x == ("__classdict__" : Str)) = false := by decide)
    (hs : swapsWith e (some (.Subscript (.Name x p1) i pos')) pos.line X.env = pure false := by rfl) : QS X rw (.Assign [.Subscript (.Name x p1) i pos'] e pos) (sOPut j fi fv) :=
  qs_of (ps_dput (by have := hr.un; omega) (pe_var hN hvs hd hcd) hi.pe hv.pe hs) fun w0 wc w σ δ Kd D S q k => by
    refine lift_d S.rep (fun d M1 => ownQ δ j fun od => dctQ od fun t kvs => fi δ M1 fun i M2 => okQ (isKey t i.d) (szOk (kvs.length + 1) (Kd.nx (δ.set j (.own (.dct t (putD kvs i.d d)))) M2))) q fun dv v w1 q1 g1 z1 => ?_
    have S1 := S.mono g1
    obtain ⟨od, e1, q2⟩ := ownQ_e q1
    obtain ⟨t, kvs, e2, q3⟩ := dctQ_e q2
    subst e2
    obtain ⟨l, h1, h2, h3, ho, h4, h5⟩ := S1.rep.own j _ e1
    refine ⟨.ref l, h1, ?_⟩
    refine lift_d S1.rep (fun id M2 => okQ (isKey t id) (szOk (kvs.length + 1) (Kd.nx (δ.set j (.own (.dct t (putD kvs id dv)))) M2))) q3 fun id iv w2 q4 g2 z2 => ?_
    have S2 := S1.mono g2
    obtain ⟨q5, q6⟩ := okQ_e q4
    have q7 := szOk_n q6
    have q8 := (szOk_e q6).2
    have h6 := g2.hh l _ h4 h3
    obtain ⟨o', h7, h8⟩ := dput_of S2.gr.ok h6 (g2.hod h5) z2 (g2.dp z1) q5 (by omega)
    exact ⟨l, _, rfl, h7, k.nx _ _ ⟨w2.C, w2.M, w2.P, _⟩ q8 (S2.chg e1 h1 h8)⟩
/-! ### new dicts -/
def eDnew (t : Bool) : EV := fun _ M Q => Q (.new (.dct t [])) M
theorem q_dnewT {rw : Bool} : QE X rw (.Dict [] [] pos) (eDnew true) := qe_of pe_dnewT fun w σ δ Qd Q R h k p hp => by
  obtain ⟨g2, z2⟩ := new_ok (Gr.refl R.ok) hp (HoD.dT (kvs := []) (kds := []) rfl (fun _ h => by cases h) .nil)
  exact k _ _ ⟨w.C, w.M, _, _⟩ h g2 z2
theorem q_dnewK {rw : Bool} : QE X rw (.Dict [] [] pos) (eDnew false) := qe_of pe_dnewK fun w σ δ Qd Q R h k p hp => by
  obtain ⟨g2, z2⟩ := new_ok (Gr.refl R.ok) hp (HoD.dK (kvs := []) (kds := []) rfl (fun _ h => by cases h) .nil)
  exact k _ _ ⟨w.C, w.M, _, _⟩ h g2 z2
/-! ### d.get(k), d.get(k, x) -/
def getQ (M : Mem) (d k x : D) (q : D → Prop) : Prop := match view M d with
  | .dct t kvs => okQ (isKey t k) (q (match look kvs k with | some e => e | none => x))
  | _ => False
def eGet1 (fo fi : EV) : EV := fun δ M Q => fo δ M fun d M1 => dctQ (view M1 d.d) fun _ _ => fi δ M1 fun i M2 => getQ M2 d.d i.d .non fun e => Q (.val e) M2
def eGet2 (fo fi fv : EV) : EV := fun δ M Q => fo δ M fun d M1 => dctQ (view M1 d.d) fun _ _ => fi δ M1 fun i M2 => fv δ M2 fun x M3 => getQ M3 d.d i.d x.d fun e => Q (.val e) M3
theorem isD_of {G : Gx} {w : Wd} {v : V} {d : D} {t : Bool} {kvs : List (D × D)} (o : WOk G w) (z : Dp G.K w.C w.P v d) (e : view w.M d = .dct t kvs) : ∃ a, v = .ref a ∧ IsD w.H a := by
  obtain ⟨a, ho, rfl, h1, h2⟩ := see_dct o z e
  rcases dct_rd h1 h2 with ⟨kvs, h, _⟩ | ⟨kvs, h, _⟩
  · exact ⟨a, rfl, .inl ⟨kvs, h⟩⟩
  · exact ⟨a, rfl, .inr ⟨kvs, h⟩⟩
theorem getQ_e {G : Gx} {w : Wd} {v y u : V} {d k x : D} {q : D → Prop} (o : WOk G w) (h : getQ w.M d k x q) (z : Dp G.K w.C w.P v d) (zy : Dp G.K w.C w.P y k) (zx : Dp G.K w.C w.P u x) : ∃ a ov r, v = .ref a ∧ DGet w.H a y ov ∧ Dp G.K w.C w.P (ov.getD u) r ∧ q r := by
  unfold getQ at h
  generalize hv : view w.M d = c at h
  cases c with
  | dct t kvs =>
    obtain ⟨h1, h2⟩ := okQ_e h
    obtain ⟨a, ov, rfl, g, hh⟩ := dget_of o z hv zy h1
    rcases hh with ⟨e1, e2⟩ | ⟨v, e, e1, e2, ze⟩
    · rw [e2] at h2
      exact ⟨a, ov, x, rfl, g, by rw [e1]; exact zx, h2⟩
    · rw [e2] at h2
      exact ⟨a, ov, e, rfl, g, by rw [e1]; exact ze, h2⟩
  | _ => exact h.elim
theorem q_get1 {rw : Bool} {apos cpos : Pos} (hr : Room k X.A) (ho : QE X rw o fo) (hi : QE X rw i fi) (m : M1 X o "get" apos i cpos := by exact ⟨rfl, rfl, rfl, rfl⟩) : QE X rw (.Call (.Attribute o "get" apos) [i] [] cpos) (eGet1 fo fi) :=
  qe_of (pe_dget1 (by have := hr.un; omega) ho.pe hi.pe m) fun w σ δ Qd Q R h kk => by
    refine lift_d R (fun d M1 => dctQ (view M1 d) fun _ _ => fi δ M1 fun i M2 => getQ M2 d i.d .non fun e => Qd (.val e) M2) h fun d v w1 q1 g1 z1 => ?_
    obtain ⟨t, kvs, e1, q2⟩ := dctQ_e q1
    obtain ⟨a, rfl, hd⟩ := isD_of g1.ok z1 e1
    refine ⟨a, rfl, hd, ?_⟩
    refine lift_d (R.mono g1) (fun id M2 => getQ M2 d id .non fun e => Qd (.val e) M2) q2 fun id iv w2 q3 g2 z2 => ?_
    obtain ⟨a', ov, r, ea, g, zr, q4⟩ := getQ_e (u := .non) g2.ok q3 (g2.dp z1) z2 .non
    cases ea
    exact ⟨ov, g, kk _ _ w2 q4 (g1.trans g2) zr⟩
theorem q_get2 {rw : Bool} {apos cpos : Pos} (hr : Room k X.A) (ho : QE X rw o fo) (hi : QE X rw i fi) (hv : QE X rw e fv) (m : M2 X o "get" apos i e cpos := by exact ⟨rfl, rfl, rfl, rfl⟩) : QE X rw (.Call (.Attribute o "get" apos) [i, e] [] cpos) (eGet2 fo fi fv) :=
  qe_of (pe_dget2 (by have := hr.un; omega) ho.pe hi.pe hv.pe m) fun w σ δ Qd Q R h kk => by
    refine lift_d R (fun d M1 => dctQ (view M1 d) fun _ _ => fi δ M1 fun i M2 => fv δ M2 fun x M3 => getQ M3 d i.d x.d fun e => Qd (.val e) M3) h fun d v w1 q1 g1 z1 => ?_
    obtain ⟨t, kvs, e1, q2⟩ := dctQ_e q1
    obtain ⟨a, rfl, hd⟩ := isD_of g1.ok z1 e1
    refine ⟨a, rfl, hd, ?_⟩
    refine lift_d (R.mono g1) (fun id M2 => fv δ M2 fun x M3 => getQ M3 d id x.d fun e => Qd (.val e) M3) q2 fun id iv w2 q3 g2 z2 => ?_
    refine lift_d ((R.mono g1).mono g2) (fun xd M3 => getQ M3 d id xd fun e => Qd (.val e) M3) q3 fun xd xv w3 q4 g3 z3 => ?_
    obtain ⟨a', ov, r, ea, g, zr, q5⟩ := getQ_e g3.ok q4 (g3.dp (g2.dp z1)) (g3.dp z2) z3
    cases ea
    exact ⟨ov, g, kk _ _ w3 q5 ((g1.trans g2).trans g3) zr⟩
end
end HI

namespace HI
open PySem PySem.Spec PyProof.Rows L2
/-! ### fields -/
def lookF : List (List Nat × D) → List Nat → Option D
  | [], _ => none
  | (g, d) :: r, f => match eqN g f with
    | true => some d
    | false => lookF r f
def putFD : List (List Nat × D) → List Nat → D → List (List Nat × D)
  | [], f, d => [(f, d)]
  | (g, x) :: r, f, d => match eqN g f with
    | true => (g, d) :: r
    | false => (g, x) :: putFD r f d
section
variable {K : PySem.W.Frag} {C : List Addr} {P : Hp}
theorem lookF_rel {f : List Nat} : ∀ {vs : List (Str × V)} {fs : List (List Nat × D)}, vs.map (·.1) = fs.map (fun p => tx p.1) → DpA K C P (vs.map (·.2)) (fs.map (·.2)) → (vs.lookup (tx f) = none ∧ lookF fs f = none) ∨ ∃ v d, vs.lookup (tx f) = some v ∧ lookF fs f = some d ∧ Dp K C P v d
  | [], [], _, _ => .inl ⟨rfl, rfl⟩
  | [], _ :: _, h, _ => by cases h
  | _ :: _, [], h, _ => by cases h
  | (g', v) :: vs, (g, d) :: fs, h, z => by
    rw [List.map_cons, List.map_cons] at h
    injection h with h1 h2
    dsimp only at h1
    subst h1
    cases z with
    | cons z1 z2 =>
      rw [lookF]
      have e1 : (tx f == tx g) = eqN g f := by rw [tx_eqN, eqN_iff, eqN_iff]; by_cases e : f = g <;> simp [e, eq_comm]
      cases e : eqN g f with
      | true =>
        rw [e] at e1
        exact .inr ⟨v, d, by simp [List.lookup, e1], rfl, z1⟩
      | false =>
        rw [e] at e1
        have ih := lookF_rel (f := f) h2 z2
        simpa [List.lookup, e1] using ih
theorem putF_rel {f : List Nat} {v : V} {d : D} (zv : Dp K C P v d) : ∀ {vs : List (Str × V)} {fs : List (List Nat × D)}, vs.map (·.1) = fs.map (fun p => tx p.1) → DpA K C P (vs.map (·.2)) (fs.map (·.2)) → (putF (tx f) v vs).map (·.1) = (putFD fs f d).map (fun p => tx p.1) ∧ DpA K C P ((putF (tx f) v vs).map (·.2)) ((putFD fs f d).map (·.2))
  | [], [], _, _ => ⟨rfl, .cons zv .nil⟩
  | [], _ :: _, h, _ => by cases h
  | _ :: _, [], h, _ => by cases h
  | (g', u) :: vs, (g, e) :: fs, h, z => by
    rw [List.map_cons, List.map_cons] at h
    injection h with h1 h2
    dsimp only at h1
    subst h1
    cases z with
    | cons z1 z2 =>
      obtain ⟨a1, a2⟩ := putF_rel zv h2 z2
      rw [putFD, putF]
      cases q : eqN g f with
      | true =>
        rw [eqN_iff, decide_eq_true_eq] at q
        subst q
        rw [if_pos rfl]
        exact ⟨by rw [List.map_cons, List.map_cons, h2], .cons zv z2⟩
      | false =>
        rw [eqN_iff, decide_eq_false_iff_not] at q
        rw [if_neg fun z => q (tx_inj z)]
        exact ⟨by rw [List.map_cons, List.map_cons, a1], .cons z1 a2⟩
end
/-- an instance of c -/
def objQ (d : D) (c : List Nat) (q : List (List Nat × D) → Prop) : Prop := match d with
  | .obj c' fs => okQ (eqN c' c) (q fs)
  | _ => False
theorem objQ_e {d : D} {c : List Nat} {q : List (List Nat × D) → Prop} (h : objQ d c q) : ∃ fs, d = .obj c fs ∧ q fs := by
  cases d with
  | obj c' fs =>
    obtain ⟨h1, h2⟩ := okQ_e h
    rw [eqN_iff, decide_eq_true_eq] at h1
    subst h1
    exact ⟨fs, rfl, h2⟩
  | _ => exact h.elim
/-- the class named c stands at A -/
structure ClsN (X : Cx) (c : List Nat) (A : Addr) : Prop where
  mg : X.mg (tx c) = some (.ref A)
  cl : Cls X.K A
theorem Inst.at {X : Cx} {w : Wd} {a A : Addr} {c : List Nat} {fs : List (List Nat × D)} (h : Inst (gx X) w a c fs) (T : ClsN X c A) : ∃ dx vs, w.H a = some (.ins A dx vs) ∧ w.H dx = some (.own a) ∧ w.P dx = none ∧ vs.map (·.1) = fs.map (fun p => tx p.1) ∧ DpA X.K w.C w.P (vs.map (·.2)) (fs.map (·.2)) := by
  obtain ⟨A', dx, vs, h1, h2, h3, h4, h5, h6⟩ := h
  have e := T.mg.symm.trans h1
  cases e
  exact ⟨dx, vs, h2, h3, h4, h5, h6⟩
section
variable {X : Cx} {rw : Bool} {e a b o : Expr} {es : List Expr} {pos pos' : Pos} {f fa fb fo fv : EV} {fr fk : AV} {x y z : Str} {ss us : List Stmt} {k j : Nat}
def eAttr (c n : List Nat) (fo : EV) : EV := fun δ M Q => fo δ M fun d M1 => objQ (view M1 d.d) c fun fs => someQ (lookF fs n) fun e => Q (.val e) M1
theorem q_attr {A : Addr} {c n : List Nat} (T : ClsN X c A) (na : NoAttr X.K A (tx n)) (ho : QE X rw o fo) (hx : x = tx n := by decide +kernel) (hb : attributeBase o x X.env (eval o X.env) = eval o X.env := by rfl) : QE X rw (.Attribute o x pos) (eAttr c n fo) :=
  qe_of (pe_fld ho.pe hb) fun w σ δ Qd Q R h kk => by
    subst hx
    refine lift_d R (fun d M1 => objQ (view M1 d) c fun fs => someQ (lookF fs n) fun e => Qd (.val e) M1) h fun d v w1 q1 g1 z1 => ?_
    obtain ⟨fs, e1, q2⟩ := objQ_e q1
    obtain ⟨m, a, rfl, rfl, h1, h2, h3, h4⟩ := see_obj g1.ok z1 e1
    obtain ⟨dx, vs, i1, i2, i3, i4, i5⟩ := h4.at T
    obtain ⟨e, e2, q3⟩ := someQ_e q2
    rcases lookF_rel (f := n) i4 i5 with ⟨_, l2⟩ | ⟨u, e', l1, l2, l3⟩
    · rw [e2] at l2; cases l2
    · rw [e2] at l2
      cases l2
      exact ⟨a, A, dx, vs, u, rfl, i1, T.cl, na, l1, kk _ _ w1 q3 g1 l3⟩
/-- a constant's instance, set -/
theorem Gr.setObj {w : Wd} {n : Nat} {a A dx : Addr} {c : List Nat} {fs : List (List Nat × D)} {vs : List (Str × V)} (k : WOk (gx X) w) (T : ClsN X c A) (hc : w.C[n]? = some a) (h2 : w.H dx = some (.own a)) (h3 : w.P dx = none) (h4 : vs.map (·.1) = fs.map (fun p => tx p.1)) (h5 : DpA X.K w.C w.P (vs.map (·.2)) (fs.map (·.2))) :
    Gr (gx X) true w ⟨w.C, w.M.set n (.obj c fs), w.P, upd w.H a (.ins A dx vs)⟩ := by
  refine Gr.setCell k hc (cell_nown k hc) ⟨A, dx, vs, T.mg, upd_same, ?_, h3, h4, h5⟩
  show upd w.H a (.ins A dx vs) dx = some (.own a)
  rw [upd_ne fun z => ?_]
  · exact h2
  · subst z
    exact cell_nown k hc _ h2
def sFld (c n : List Nat) (fo fv : EV) : SV := fun K δ M => fv δ M fun r M1 => fo δ M1 fun o M2 => cellQ o.d fun m => someQ M2[m]? fun ob => objQ ob c fun fs => okQ (Nat.blt fs.length 1000) (K.nx δ (M2.set m (.obj c (putFD fs n r.d))))
theorem q_fld {A : Addr} {c n : List Nat} (T : ClsN X c A) (na : NoAttr X.K A (tx n)) (ho : QE X true o fo) (hv : QE X true e fv) (hx : x = tx n := by decide +kernel) (hs : swapsWith e (some (.Attribute o x pos')) pos.line X.env = pure false := by rfl) : QS X true (.Assign [.Attribute o x pos'] e pos) (sFld c n fo fv) :=
  qs_of (ps_fld ho.pe hv.pe hs) fun w0 wc w σ δ Kd D S q kk => by
    subst hx
    refine lift_d S.rep (fun d M1 => fo δ M1 fun o M2 => cellQ o.d fun m => someQ M2[m]? fun ob => objQ ob c fun fs => okQ (Nat.blt fs.length 1000) (Kd.nx δ (M2.set m (.obj c (putFD fs n d))))) q fun dv v w1 q1 g1 z1 => ?_
    have S1 := S.mono g1
    refine lift_d S1.rep (fun od M2 => cellQ od fun m => someQ M2[m]? fun ob => objQ ob c fun fs => okQ (Nat.blt fs.length 1000) (Kd.nx δ (M2.set m (.obj c (putFD fs n dv))))) q1 fun od ov w2 q2 g2 z2 => ?_
    have S2 := S1.mono g2
    obtain ⟨m, rfl, q3⟩ := cellQ_e q2
    obtain ⟨ob, e1, q4⟩ := someQ_e q3
    obtain ⟨fs, e2, q5⟩ := objQ_e q4
    subst e2
    obtain ⟨q6, q7⟩ := okQ_e q5
    obtain ⟨a, rfl, ha⟩ := z2.cell'
    obtain ⟨_, hi⟩ := S2.gr.ok.cell m a _ ha e1
    obtain ⟨dx, vs, i1, i2, i3, i4, i5⟩ := Inst.at hi T
    obtain ⟨p1, p2⟩ := putF_rel (f := n) (g2.dp z1) i4 i5
    have hl : vs.length = fs.length := by have := congrArg List.length i4; rw [List.length_map, List.length_map] at this; exact this
    have hlt : fs.length < 1000 := by simpa [Nat.blt_eq] using q6
    refine ⟨a, A, dx, vs, rfl, i1, T.cl, na, by rw [hl]; exact hlt, ?_⟩
    exact kk.nx δ σ ⟨w2.C, w2.M.set m _, w2.P, _⟩ q7 (S2.mono (Gr.setObj S2.gr.ok T ha i2 i3 p1 p2))
/-- o.n += e of ints and texts -/
def sFldAug (c n : List Nat) (fo fv : EV) : SV := fun K δ M => fo δ M fun o M1 => cellQ o.d fun m => someQ M1[m]? fun ob => objQ ob c fun fs => someQ (lookF fs n) fun d0 => fv δ M1 fun r M2 => augD d0 r.d fun d' => someQ M2[m]? fun ob2 => objQ ob2 c fun fs2 => okQ (Nat.blt fs2.length 1000) (K.nx δ (M2.set m (.obj c (putFD fs2 n d'))))
theorem in_add2 : InOp X .Add (fun x y H Q => (∃ i j, x = .int i ∧ y = .int j ∧ Q (.int (i + j)) H) ∨ ∃ i j, x = .str i ∧ y = .str j ∧ i.length + j.length ≤ sizeLine ∧ Q (.str (i ++ j)) H) := ip_add2
theorem q_fldAug {A : Addr} {c n : List Nat} {tpos : Pos} (T : ClsN X c A) (na : NoAttr X.K A (tx n)) (ho : QE X true o fo) (hv : QE X true e fv) (hx : x = tx n := by decide +kernel) : QS X true (.AugAssign (.Attribute o x tpos) .Add e pos) (sFldAug c n fo fv) :=
  qs_of (ps_fldaug ho.pe hv.pe in_add2) fun w0 wc w σ δ Kd D S q kk => by
    subst hx
    refine lift_d S.rep (fun od M1 => cellQ od fun m => someQ M1[m]? fun ob => objQ ob c fun fs => someQ (lookF fs n) fun d0 => fv δ M1 fun r M2 => augD d0 r.d fun d' => someQ M2[m]? fun ob2 => objQ ob2 c fun fs2 => okQ (Nat.blt fs2.length 1000) (Kd.nx δ (M2.set m (.obj c (putFD fs2 n d'))))) q fun od ov w1 q1 g1 z1 => ?_
    have S1 := S.mono g1
    obtain ⟨m, rfl, q2⟩ := cellQ_e q1
    obtain ⟨ob, e1, q3⟩ := someQ_e q2
    obtain ⟨fs, e2, q4⟩ := objQ_e q3
    subst e2
    obtain ⟨d0, e3, q5⟩ := someQ_e q4
    obtain ⟨a, rfl, ha⟩ := z1.cell'
    obtain ⟨_, hi⟩ := S1.gr.ok.cell m a _ ha e1
    obtain ⟨dx, vs, i1, i2, i3, i4, i5⟩ := Inst.at hi T
    rcases lookF_rel (f := n) i4 i5 with ⟨_, l2⟩ | ⟨u, e', l1, l2, l3⟩
    · rw [e3] at l2; cases l2
    rw [e3] at l2
    cases l2
    refine ⟨a, A, dx, vs, u, rfl, i1, T.cl, na, l1, ?_⟩
    refine lift_d S1.rep (fun dv M2 => augD d0 dv fun d' => someQ M2[m]? fun ob2 => objQ ob2 c fun fs2 => okQ (Nat.blt fs2.length 1000) (Kd.nx δ (M2.set m (.obj c (putFD fs2 n d'))))) q5 fun dv v w2 q6 g2 z2 => ?_
    have S2 := S1.mono g2
    have fin : ∀ (d' : HI.D) (v' : V), Dp X.K w2.C w2.P v' d' → (someQ w2.M[m]? fun ob2 => objQ ob2 c fun fs2 => okQ (Nat.blt fs2.length 1000) (Kd.nx δ (w2.M.set m (.obj c (putFD fs2 n d'))))) → ∃ dx' fs', w2.H a = some (.ins A dx' fs') ∧ fs'.length < 1000 ∧ D.nx σ (upd w2.H a (.ins A dx' (putF (tx n) v' fs'))) := fun d' v' zz qq => by
      obtain ⟨ob2, f1, f2⟩ := someQ_e qq
      obtain ⟨fs2, f3, f4⟩ := objQ_e f2
      subst f3
      obtain ⟨f5, f6⟩ := okQ_e f4
      have ha2 := g2.cc.at ha
      obtain ⟨_, hi2⟩ := S2.gr.ok.cell m a _ ha2 f1
      obtain ⟨dx2, vs2, j1, j2, j3, j4, j5⟩ := Inst.at hi2 T
      obtain ⟨p1, p2⟩ := putF_rel (f := n) zz j4 j5
      have hl : vs2.length = fs2.length := by have := congrArg List.length j4; rw [List.length_map, List.length_map] at this; exact this
      have hlt : fs2.length < 1000 := by simpa [Nat.blt_eq] using f5
      exact ⟨dx2, vs2, j1, by rw [hl]; exact hlt, kk.nx δ σ ⟨w2.C, w2.M.set m _, w2.P, _⟩ f6 (S2.mono (Gr.setObj S2.gr.ok T ha2 j2 j3 p1 p2))⟩
    rcases augD_e q6 (g2.dp l3) z2 with ⟨n1, m1, rfl, rfl, q7⟩ | ⟨n1, m1, rfl, rfl, hl, hv, q7⟩
    · exact .inl ⟨n1, m1, rfl, rfl, fin _ _ (.int _) q7⟩
    · refine .inr ⟨tx n1, tx m1, rfl, rfl, hl, ?_⟩
      rw [tx_app]
      exact fin _ _ (.str _ hv) q7
/-! ### methods -/
/-- the method m of the class c, as callers need it -/
structure Met (P : Program) (w : World) (K : PySem.W.Frag) (mg : Str → Option Value) (base : Heap) (c : List Nat) (m : Str) (ps : List Str) (j : Nat) (r : Bool) (S : Spec) : Prop where
  len : ∀ ds M Q, S ds M Q → ds.length = ps.length
  ex : ∃ (A f : Addr) (fd : FuncData), mg (tx c) = some (.ref A) ∧ Cls K A ∧ Meth K A m f ∧ FnOk P w K mg base CX0 j f fd ps (SpD ⟨K, mg⟩ r ps.length S) ∧ Binds K fd ps []
def noneQ {α : Type} (o : Option α) (q : Prop) : Prop := match o with
  | some _ => False
  | none => q
theorem noneQ_e {α : Type} {o : Option α} {q : Prop} (h : noneQ o q) : o = none ∧ q := by
  cases o with
  | some a => exact h.elim
  | none => exact ⟨rfl, h⟩
def eMeth (c m : List Nat) (S : Spec) (fo : EV) (fr : AV) : EV := fun δ M Q => fo δ M fun d M1 => objQ (view M1 d.d) c fun fs => noneQ (lookF fs m) (fr δ M1 fun ds M2 => S (d.d :: ds) M2 Q)
theorem meth_run {c m : List Nat} {A : Addr} {S : Spec} {ps : List Str} {r : Bool} {t : TA} (T : ClsN X c A) (hlen : ∀ ds M Q, S ds M Q → ds.length = ps.length) (hw : (!r || rw) = true) (ht : ∀ σ H Q, liftA (gx X) rw fr σ H Q → t σ H Q)
    {w : Wd} {σ : L2.St} {δ : DEnv} {Qd : Rz → Mem → Prop} {Q : VK} (R : Rep (gx X) w σ δ) (h : eMeth c m S fo fr δ w.M Qd) (k : ∀ rz v w', Qd rz w'.M → Gr (gx X) rw w w' → RzOk (gx X) w w' rz v → Q v w'.H) :
    tMeth A (tx m) (SpD (gx X) r ps.length S) [] E0 (lift (gx X) rw fo) t σ w.H Q := by
  refine lift_d R (fun d M1 => objQ (view M1 d) c fun fs => noneQ (lookF fs m) (fr δ M1 fun ds M2 => S (d :: ds) M2 Qd)) h fun d v w1 q1 g1 z1 => ?_
  obtain ⟨fs, e1, q2⟩ := objQ_e q1
  obtain ⟨n, a, rfl, rfl, h1, h2, h3, h4⟩ := see_obj g1.ok z1 e1
  obtain ⟨dx, vs, i1, i2, i3, i4, i5⟩ := h4.at T
  obtain ⟨e2, q3⟩ := noneQ_e q2
  have l1 : vs.lookup (tx m) = none := by
    rcases lookF_rel (f := m) i4 i5 with ⟨l1, _⟩ | ⟨u, e', _, l2, _⟩
    · exact l1
    · rw [e2] at l2; cases l2
  refine ⟨a, dx, vs, rfl, i1, l1, ht _ _ _ ⟨w1, δ, _, rfl, R.mono g1, q3, fun ds us w2 q4 g2 z2 => ?_⟩⟩
  show SpD (gx X) r ps.length S (V.ref a :: (us ++ [])) w2.H Q E0
  rw [List.append_nil]
  have g12 := g1.trans g2
  exact ⟨w2, .cell n :: ds, Qd, rfl, g2.ok, .cons (g2.dp z1) z2, hlen _ _ _ q4, q4, fun rz v w3 q5 g3 z3 => k rz v w3 q5 (g12.trans (g3.wk (rw_imp hw))) (z3.back g12)⟩
theorem q_meth {c m : List Nat} {S : Spec} {ps : List Str} {r : Bool} {apos : Pos} {pl : Sem Bool} (d : Met X.prog X.w X.K X.mg X.base c x ps j r S) (hr : Room k X.A) (ho : QE X rw o fo) (ha : QA X rw (e :: es) fr) (hx : x = tx m := by decide +kernel) (hw : (!r || rw) = true := by rfl) (hj : j ≤ k := by omega)
    (hst : starEach (e :: es) X.env = (false, eval e X.env) :: starEach es X.env := by rfl) (hpl : (backTo pos (starEach es X.env)).any (·.1) = false := by rfl)
    (ht : eval (.Call (.Attribute o x apos) (e :: es) [] pos) X.env = (do
      let ov ← eval o X.env
      standAt apos.atName
      let (f, first) ← holding [ov] (getMethod ov x pl)
      callWith pos f first (backTo pos (starEach (e :: es) X.env)) (backToKw pos (keywordEach [] X.env))) := by rfl) :
    QE X rw (.Call (.Attribute o x apos) (e :: es) [] pos) (eMeth c m S fo fr) := by
  obtain ⟨A, f, fd, h1, h2, h3, h4, h5⟩ := d.ex
  refine qe_of (pe_meth ho.pe h2 h3 h4 (hr.mono hj) h5 .nil pass0 ha.pa hst hpl ht) fun w σ δ Qd Q R h kk => ?_
  subst hx
  exact meth_run ⟨h1, h2⟩ d.len hw (fun _ _ _ q => q) R h kk
theorem q_meth0 {c m : List Nat} {S : Spec} {ps : List Str} {r : Bool} {apos : Pos} {pl : Sem Bool} (d : Met X.prog X.w X.K X.mg X.base c x ps j r S) (hr : Room k X.A) (ho : QE X rw o fo) (hx : x = tx m := by decide +kernel) (hw : (!r || rw) = true := by rfl) (hj : j ≤ k := by omega)
    (ht : eval (.Call (.Attribute o x apos) [] [] pos) X.env = (do
      let ov ← eval o X.env
      standAt apos.atName
      let (f, first) ← holding [ov] (getMethod ov x pl)
      callWith pos f first (backTo pos (starEach [] X.env)) (backToKw pos (keywordEach [] X.env))) := by rfl) :
    QE X rw (.Call (.Attribute o x apos) [] [] pos) (eMeth c m S fo aNil) := by
  obtain ⟨A, f, fd, h1, h2, h3, h4, h5⟩ := d.ex
  refine qe_of (pe_meth0 ho.pe h2 h3 h4 (hr.mono hj) h5 .nil pass0 ht) fun w σ δ Qd Q R h kk => ?_
  subst hx
  exact meth_run (t := tNil) ⟨h1, h2⟩ d.len hw (fun σ H Q q => by
    obtain ⟨w, δ, Qd, e, R, h, k⟩ := q
    subst e
    exact k [] [] w h (.refl R.ok) .nil) R h kk
/-! ### C(..) -/
structure Mak (P : Program) (w : World) (K : PySem.W.Frag) (mg : Str → Option Value) (base : Heap) (c : List Nat) (ps : List Str) (j : Nat) (S : Spec) : Prop where
  len : ∀ ds M Q, S ds M Q → ds.length = ps.length
  ex : ∃ (A f : Addr) (fd : FuncData), mg (tx c) = some (.ref A) ∧ Mk K A f ∧ FnOk P w K mg base CX0 j f fd ps (SpD ⟨K, mg⟩ true ps.length S) ∧ Binds K fd ps []
def nonQ (d : D) (q : Prop) : Prop := match d with
  | .non => q
  | _ => False
theorem nonQ_e {d : D} {q : Prop} (h : nonQ d q) : d = .non ∧ q := by
  cases d <;> first | exact ⟨rfl, h⟩ | exact h.elim
def eMake (c : List Nat) (S : Spec) (fr : AV) : EV := fun δ M Q => fr δ M fun ds M1 => S (.cell M1.length :: ds) (M1 ++ [.obj c []]) fun r M2 => nonQ r.d (Q (.val (.cell M1.length)) M2)
theorem Gr.newObj {w : Wd} {a A dx : Addr} {c : List Nat} (k : WOk (gx X) w) (hm : X.mg (tx c) = some (.ref A)) (ha : w.H a = none) (hd : w.H dx = none) (ne : dx ≠ a) :
    Gr (gx X) true w ⟨w.C ++ [a], w.M ++ [.obj c []], w.P, upd (upd w.H dx (.own a)) a (.ins A dx [])⟩ := by
  have hh : ∀ b u, w.H b = some u → upd (upd w.H dx (.own a)) a (.ins A dx []) b = some u := fun b u h => by
    rw [upd_ne (ne_of_none h ha), upd_ne (ne_of_none h hd)]; exact h
  have g1 : Gr (gx X) true w ⟨w.C, w.M, w.P, upd (upd w.H dx (.own a)) a (.ins A dx [])⟩ := by
    refine ⟨⟨fun b u h => ?_, k.nown, k.len, k.nd, fun n b d e1 e2 => ?_⟩, Same.refl _, Pre.refl _, fun b u h _ => hh b u h, fun b u h nt z => z, fun b h nb => absurd h nb, fun e => by cases e⟩
    · obtain ⟨o', q1, q2⟩ := k.ex b u h
      exact ⟨o', hh b o' q1, q2⟩
    · obtain ⟨h1, h2⟩ := k.cell n b d e1 e2
      exact ⟨h1, h2.keep (Pre.refl _) (Same.refl _) (fun x u hx _ => hh x u hx) fun _ _ z => z⟩
  refine g1.cellify (k.ex.free ha) ha (show a ∉ w.C from notc k ha) ⟨A, dx, [], hm, upd_same, ?_, k.ex.free hd, rfl, .nil⟩
  show upd (upd w.H dx (.own a)) a (.ins A dx []) dx = some (.own a)
  rw [upd_ne ne, upd_same]
theorem make_run {c : List Nat} {A : Addr} {S : Spec} {ps : List Str} {t : TA} (hm : X.mg (tx c) = some (.ref A)) (hlen : ∀ ds M Q, S ds M Q → ds.length = ps.length) (ht : ∀ σ H Q, liftA (gx X) true fr σ H Q → t σ H Q)
    {w : Wd} {σ : L2.St} {δ : DEnv} {Qd : Rz → Mem → Prop} {Q : VK} (R : Rep (gx X) w σ δ) (h : eMake c S fr δ w.M Qd) (k : ∀ rz v w', Qd rz w'.M → Gr (gx X) true w w' → RzOk (gx X) w w' rz v → Q v w'.H) :
    tMake A (SpD (gx X) true ps.length S) [] E0 t σ w.H Q := by
  refine ht _ _ _ ⟨w, δ, _, rfl, R, h, fun ds vs w1 q1 g1 z1 => fun a dx ha hd ne => ?_⟩
  rw [List.append_nil]
  have g2 := Gr.newObj (X := X) g1.ok hm ha hd ne
  have zc : Dp X.K (w1.C ++ [a]) w1.P (.ref a) (.cell w1.M.length) := .cell (by rw [← g1.ok.len, List.getElem?_append_right (Nat.le_refl _), Nat.sub_self]; rfl)
  refine ⟨⟨w1.C ++ [a], w1.M ++ [.obj c []], w1.P, _⟩, .cell w1.M.length :: ds, _, rfl, g2.ok, .cons zc (g2.dpa z1), hlen _ _ _ q1, q1, fun rz v w3 q3 g3 z3 => ?_⟩
  obtain ⟨e3, q4⟩ := nonQ_e q3
  obtain ⟨P2, g4, s4, z4⟩ := z3.frz g3
  rw [e3] at z4
  have g := (g1.trans g2).trans g3
  exact ⟨z4.non', k _ _ w3 q4 g (g3.dp zc)⟩
theorem q_make {c : List Nat} {S : Spec} {ps : List Str} {p : Pos} (d : Mak X.prog X.w X.K X.mg X.base c ps j S) (hr : Room k X.A) (ha : QA X true (e :: es) fr) (hx : x = tx c := by decide +kernel) (hj : j + 1 ≤ k := by omega) (hg : Gl X x := by rfl) (hdb : (x == ("__debug__" : Str)) = false := by decide)
    (he : starEach (e :: es) X.env = (false, eval e X.env) :: starEach es X.env := by rfl) (hpl : (backTo pos (starEach es X.env)).any (·.1) = false := by rfl) : QE X true (.Call (.Name x p) (e :: es) [] pos) (eMake c S fr) := by
  subst hx
  obtain ⟨A, f, fd, h1, h2, h3, h4⟩ := d.ex
  exact qe_of (pe_make h2 h3 (hr.mono hj) hg h1 h4 .nil pass0 ha.pa hdb he hpl) fun w σ δ Qd Q R h kk => make_run h1 d.len (fun _ _ _ q => q) R h kk
theorem q_make0 {c : List Nat} {S : Spec} {ps : List Str} {p : Pos} (d : Mak X.prog X.w X.K X.mg X.base c ps j S) (hr : Room k X.A) (hx : x = tx c := by decide +kernel) (hj : j + 1 ≤ k := by omega) (hg : Gl X x := by rfl) (hdb : (x == ("__debug__" : Str)) = false := by decide) : QE X true (.Call (.Name x p) [] [] pos) (eMake c S aNil) := by
  subst hx
  obtain ⟨A, f, fd, h1, h2, h3, h4⟩ := d.ex
  exact qe_of (pe_make0 h2 h3 (hr.mono hj) hg h1 h4 .nil pass0 hdb) fun w σ δ Qd Q R h kk => make_run (t := tNil) h1 d.len (fun σ H Q q => by
    obtain ⟨w, δ, Qd, e, R, h, k⟩ := q
    subst e
    exact k [] [] w h (.refl R.ok) .nil) R h kk
end
/-! ### a def -/
/-- the slots at a def's start -/
def startD : Nat → List D → DEnv
  | n, d :: ds => .val d :: startD (n - 1) ds
  | n, [] => nos n
where nos : Nat → DEnv
  | 0 => []
  | n + 1 => .no :: nos n
def bodyS (N ps : Nat) (f : SV) : Spec := fun ds M Q => lenQ ds ps (f ⟨fun _ M1 => Q (.val .non) M1, Q, fun _ _ => False, fun _ _ => False⟩ (startD N ds) M)
theorem nos_eq (n : Nat) : startD.nos n = List.replicate n .no := by
  induction n with
  | zero => rfl
  | succ n ih => rw [startD.nos, ih]; rfl
theorem startD_eq : ∀ (n : Nat) (ds : List D), ds.length ≤ n → startD n ds = ds.map Sl.val ++ List.replicate (n - ds.length) .no
  | n, [], _ => by
    show startD.nos n = _
    rw [nos_eq]
    simp
  | 0, d :: ds, h => by simp at h
  | n + 1, d :: ds, h => by
    rw [startD, Nat.add_sub_cancel, startD_eq n ds (by simpa using h)]
    simp
theorem start_rep {G : Gx} {w : Wd} {N : List Str} {vs : List V} {ds : List D} (o : WOk G w) (z : DpA G.K w.C w.P vs ds) (h : vs.length ≤ N.length) : Rep G w (L2.start N vs) (startD N.length ds) ∧ ∀ (i : Nat) (d : D), (startD N.length ds)[i]? ≠ some (Sl.own d) := by
  rw [startD_eq _ _ (by rw [← z.length]; exact h)]
  have no : ∀ (i : Nat) (s : Sl), (ds.map Sl.val ++ List.replicate (N.length - ds.length) Sl.no)[i]? = some s → (∃ d, s = .val d ∧ ds[i]? = some d) ∨ s = .no := fun i s hs => by
    rw [List.getElem?_append] at hs
    split at hs
    · rw [List.getElem?_map] at hs
      cases e : ds[i]? with
      | none => rw [e] at hs; cases hs
      | some d => rw [e] at hs; exact .inl ⟨d, (Option.some.inj hs).symm, rfl⟩
    · rw [List.getElem?_replicate] at hs
      split at hs
      · exact .inr (Option.some.inj hs).symm
      · cases hs
  refine ⟨⟨o, fun i d h1 => ?_, fun i es h1 => ?_, fun i j es fs l h1 => ?_, ?_⟩, fun i d h1 => ?_⟩
  · rcases no i _ h1 with ⟨d', e1, h2⟩ | e1
    · cases e1
      obtain ⟨v, k1, k2⟩ := z.get h2
      refine ⟨v, ?_, k2⟩
      unfold L2.start
      rw [List.getElem?_append, if_pos (by rw [List.length_map]; exact (List.getElem?_eq_some_iff.mp k1).1), List.getElem?_map, k1]
      rfl
    · cases e1
  · rcases no i _ h1 with ⟨d', e1, _⟩ | e1 <;> cases e1
  · rcases no i _ h1 with ⟨d', e1, _⟩ | e1 <;> cases e1
  · unfold L2.start
    rw [List.length_append, List.length_append, List.length_map, List.length_map, List.length_replicate, List.length_replicate, z.length]
  · rcases no i _ h1 with ⟨d', e1, _⟩ | e1 <;> cases e1
/-- THE RULE for a def -/
theorem fn_data {P : Program} {w : World} {K : PySem.W.Frag} {mg : Str → Option Value} {base : Heap} {x qual : Str} {st : Stmt} {f : Addr} {fd : FuncData} {N ps : List Str} {k : Nat} {rw : Bool} {g : SV} (F : Fun K x qual st f fd) (S : FnScope N ps (defScope st)) (hlen : ps.length ≤ N.length)
    (hb : ∀ (cdv : Value) (A : Around) (outer : List Env) (s : Shared) (H : Hp) (E : XK), Room k (A.deeper (envOfC qual (defScope st) s.heap.objs.size f cdv)) → QSs (cxOf CX0 P w K mg base N qual (defScope st) f cdv A outer s H E).nox rw (defBody st) g) :
    FnOk P w K mg base CX0 (k + 1) f fd ps (SpD ⟨K, mg⟩ rw ps.length (bodyS N.length ps.length g)) := by
  refine F.ok S (fun vs H Q E h => ?_) fun cdv A outer s H vs Q E hr h => ?_
  · obtain ⟨w', ds, Qd, h1, h2, h3, h4, _⟩ := h
    rw [h3.length, h4]
  · obtain ⟨w', ds, Qd, h1, h2, h3, h4, h5, kk⟩ := h
    subst h1
    obtain ⟨_, h5⟩ := lenQ_e h5
    obtain ⟨R, nown⟩ := start_rep (N := N) h2 h3 (by rw [h3.length, h4]; exact hlen)
    refine ⟨_, (hb cdv A outer s w'.H E hr).pss, w', w', w', startD N.length ds, _, rfl, ⟨.refl h2, .refl _, .refl _, R, fun i d l q1 => absurd q1 (nown i d)⟩, h5, ⟨fun δ σ w2 q S' => ?_, fun δ σ w2 q S' => q.elim, fun δ σ w2 q S' => q.elim, kk⟩⟩
    exact kk (.val .non) .non w2 q S'.gr .non
theorem bodyS_len {N ps : Nat} {g : SV} {ds : List D} {M : Mem} {Q : Rz → Mem → Prop} (h : bodyS N ps g ds M Q) : ds.length = ps := (lenQ_e h).1
end HI

namespace HI
open PySem PySem.Spec PyProof.Rows L2
/-! ### the laws' own draws -/
def bagQ (d : D) (q : Prop) : Prop := match d with
  | .bag _ => q
  | _ => False
theorem bagQ_e {d : D} {q : Prop} (h : bagQ d q) : ∃ b, d = .bag b ∧ q := by
  cases d with
  | bag b => exact ⟨b, rfl, h⟩
  | _ => exact h.elim
def drawS : Spec := fun ds M Q => match ds with
  | [.cell i, .int n] => someQ M[i]? fun c => bagQ c (0 < n ∧ n < 1000000000000000000000 ∧ ∀ k : Int, 0 ≤ k → k < n → Q (.val (.int k)) M)
  | _ => False
theorem drawS_e {ds : List D} {M : Mem} {Q : Rz → Mem → Prop} (h : drawS ds M Q) : ∃ i n b, ds = [.cell i, .int n] ∧ M[i]? = some (.bag b) ∧ 0 < n ∧ n < 1000000000000000000000 ∧ ∀ k : Int, 0 ≤ k → k < n → Q (.val (.int k)) M := by
  unfold drawS at h
  split at h
  · obtain ⟨c, h1, h2⟩ := someQ_e h
    obtain ⟨b, rfl, h3⟩ := bagQ_e h2
    exact ⟨_, _, b, rfl, h1, h3⟩
  · exact h.elim
abbrev ixc (K : PySem.W.Frag) (i : Int) : TE := tOp (rIxL K) (tVar 0) (tC (.int i))
abbrev rAddI : R2 := rI0 fun i j => .int (i + j)
abbrev rMulI : R2 := rI CMul fun i j => .int (i * j)
abbrev rModI : R2 := rI (fun _ j => 0 < j) fun i j => .int (i % j)
abbrev rDivI : R2 := rI CDivW fun i j => .int (i / j)
abbrev rPowI : R2 := rI CPow fun i j => .int (i ^ j.toNat)
abbrev rInt1 : List V → Hp → VK → Prop := fun xs H Q => (∃ i, xs = [.int i] ∧ Q (.int i) H) ∨ ∃ k, xs = [.bl k] ∧ Q (.int (if k then 1 else 0)) H
abbrev rLenQ (K : PySem.W.Frag) : List V → Hp → VK → Prop := fun xs H Q => ∃ p ys, xs = [.ref p] ∧ (SqL K H p ys ∨ SqT K H p ys) ∧ Q (.int ys.length) H
abbrev tInt (t : TE) : TE := tCB rInt1 (tCons t tNil)
abbrev setc (i : Int) (t : TE) : TS := tAsg t (gSub (tVar 0) (tC (.int i)) rSetL)
abbrev rLtI : R2 := rI0 fun i j => .bl (decide (i < j))
abbrev rGeI : R2 := rI0 fun i j => .bl (decide (j ≤ i))
abbrev rGtI : R2 := rI0 fun i j => .bl (decide (j < i))
/-- the reading of _law_draw's body: slots bag, many, cell, digit, seed -/
abbrev drawM (K : PySem.W.Frag) : TS := setc 3 (tOp rModI (tInt (tOp rAddI (tOp rAddI (tOp rMulI (ixc K 3) (tC (.int 40014))) (tOp rMulI (tOp rModI (tInt (tVar 2)) (tC (.int 2147483563))) (tC (.int 617)))) (tC (.int 31)))) (tC (.int 2147483629)))
abbrev drawR (K : PySem.W.Frag) : TS := tRet (tOp rModI (tInt (tOp rAddI (tOp rDivI (ixc K 3) (tC (.int 89))) (tOp rMulI (tOp rModI (tInt (ixc K 3)) (tC (.int 7907))) (tC (.int 61))))) (tVar 1))
abbrev drawE (K : PySem.W.Frag) : TS := tSeq (tIfS (tTest (tOp rGtI (ixc K 2) (tC (.int 0))))
    (tSeq (tAsg (tOp rModI (tInt (ixc K 2)) (tVar 1)) (gName 3))
    (tSeq (setc 2 (tOp rDivI (tInt (ixc K 2)) (tVar 1)))
      (tRet (tVar 3))))
    tNext)
  (tSeq (tAsg (ixc K 3) (gName 4))
  (tSeq (setc 3 (tOp rModI (tInt (tOp rAddI (tOp rAddI (tOp rAddI (tOp rPowI (tVar 4) (tC (.int 3))) (tOp rMulI (tVar 4) (tC (.int 36979)))) (tOp rMulI (ixc K 4) (tC (.int 1299721)))) (tC (.int 50033)))) (tC (.int 2147483629))))
    (drawR K)))
abbrev drawT (K : PySem.W.Frag) : TS :=
  tSeq (setc 4 (tOp rAddI (ixc K 4) (tC (.int 1))))
  (tSeq (tIfS (tAnd (tTest (tOp rEq (ixc K 2) (tC (.int 0)))) (tTest (tOp rLtI (ixc K 1) (tCB (rLenQ K) (tCons (ixc K 0) tNil)))))
    (tSeq (tAsg (tOp (rIxL K) (ixc K 0) (ixc K 1)) (gName 2))
    (tSeq (setc 1 (tOp rAddI (ixc K 1) (tC (.int 1))))
    (tSeq (tIfS (tTest (tOp rGeI (tVar 2) (tOp rPowI (tC (.int 10)) (tC (.int 18))))) (setc 2 (tVar 2)) tNext)
      (drawM K))))
    tNext)
  (drawE K))
def bagL (c : Addr) (t r m n : Int) : List V := [.ref c, .int t, .int r, .int m, .int n]
theorem bag_up {G : Gx} {w : Wd} {n : Nat} {b c : Addr} (k : WOk G w) (hc : w.C[n]? = some b) (hm : w.M[n]? = some (.bag c)) {H' : Hp} {t' r' m' n' : Int} (hH : H' = upd w.H b (.lst (bagL c t' r' m' n'))) (h : 0 ≤ t' ∧ 0 ≤ r' ∧ 0 ≤ m' ∧ m' < 2147483648) : Gr G false w ⟨w.C, w.M, w.P, H'⟩ := by
  subst hH
  obtain ⟨_, cells, t, r, m, d, h1, h2, _⟩ := k.cell n b _ hc hm
  have e : w.M.set n (.bag c) = w.M := by
    apply List.ext_getElem?
    intro i
    rw [List.getElem?_set]
    split
    · rename_i e
      subst e
      have hlt : n < w.M.length := (List.getElem?_eq_some_iff.mp hm).1
      rw [if_pos hlt, hm]
    · rfl
  have g := Gr.setCell (o' := .lst (bagL c t' r' m' n')) (d' := .bag c) k hc (cell_nown k hc) ⟨cells, t', r', m', n', h1, upd_same, h⟩
  rw [e] at g
  refine ⟨g.ok, g.pp, g.cc, g.hh, g.off, g.fr, fun _ => ⟨rfl, rfl, fun i a e1 e2 => ?_⟩⟩
  show upd w.H b _ a = w.H a
  rw [upd_ne fun z => ?_]
  subst z
  have := at_inj k.nd e1 hc
  subst this
  exact e2 c hm
theorem div_wide {n : Int} (h : 0 < n) (h2 : n < 1000000000000000000000) (i : Int) : CDivW i n := ⟨h, by
  have : n.natAbs < 2 ^ 70 := by omega
  exact Nat.lt_of_lt_of_le (PySem.Flt.log2_lt_of (by decide) this) (by decide)⟩
theorem mulR (i j : Int) (h : -(2 ^ 64) < j ∧ j < 2 ^ 64) : CMul i j := .inr h
/-- a cell of the bag read -/
theorem ixc_ok {K : PySem.W.Frag} {σ : L2.St} {H : Hp} {Q : VK} {b : Addr} {xs : List V} {v : V} (i : Nat) (hs : σ[0]? = some (some (.ref b))) (hb : H b = some (.lst xs)) (hv : xs[i]? = some v) (q : Q v H) : ixc K (i : Int) σ H Q :=
  ⟨.ref b, hs, b, xs, i, v, rfl, rfl, .inl (.inl hb), atI_nat hv, q⟩
theorem setc_ok {σ : L2.St} {H : Hp} {D : Ends} {b : Addr} {xs : List V} {v : V} {t : TE} (i : Nat) (hs : σ[0]? = some (some (.ref b))) (hi : i < xs.length) (ht : t σ H fun x H1 => x = v ∧ H1 = H) (hb : H b = some (.lst xs)) (hm : ∀ Q : VK, (∀ x H1, (x = v ∧ H1 = H) → Q x H1) → t σ H Q) (q : D.nx σ (upd H b (.lst (xs.set i v)))) : setc (i : Int) t D σ H := by
  refine hm _ fun x H1 ⟨e1, e2⟩ => ?_
  subst e1
  subst e2
  refine ⟨.ref b, hs, b, xs, i, i, rfl, rfl, hb, ?_, q⟩
  unfold ixN
  rw [if_pos (by omega), if_pos (by omega)]
  simp
theorem draw_read {G : Gx} {K : PySem.W.Frag} (eK : G.K = K) {H : Hp} {vs : List V} {Q : VK} {E : XK} (h : SpD G false 2 drawS vs H Q E) : drawT K { nx := fun _ H' => Q .non H', rt := Q } (L2.start ["", "", "", "", ""] vs) H := by
  obtain ⟨w, ds, Qd, e0, ok, z, _, hd, k⟩ := h
  subst e0
  obtain ⟨i, n, c, rfl, hm, n0, n1, hq⟩ := drawS_e hd
  obtain ⟨v, v2, rfl, zb, zn⟩ := z.two'
  cases zn.int'
  obtain ⟨b, rfl, hC⟩ := zb.cell'
  obtain ⟨hP, cells, t, r, m, d, hc, hb, t0, r0, m0, m1⟩ := ok.cell i b _ hC hm
  have hc' : w.H c = some (.lst (cells.map V.int)) := ok.ex.lst hc
  have ncb : c ≠ b := fun z => by rw [z, hP] at hc; cases hc
  have up : ∀ {H' : Hp} {t' r' m' d' : Int} (kk : Int), H' = upd w.H b (.lst (bagL c t' r' m' d')) → (0 ≤ t' ∧ 0 ≤ r' ∧ 0 ≤ m' ∧ m' < 2147483648) → 0 ≤ kk → kk < n → Q (.int kk) H' := fun kk hH hh k0 k1 =>
    k _ _ ⟨w.C, w.M, w.P, _⟩ (hq kk k0 k1) (bag_up ok hC hm hH hh) (.int kk)
  have hcH : ∀ xs : List V, (upd w.H b (.lst xs)) c = some (.lst (cells.map V.int)) := fun xs => by rw [upd_ne ncb]; exact hc'
  have md : ∀ x : Int, 0 ≤ x % 2147483629 ∧ x % 2147483629 < 2147483648 := fun x => ⟨Int.emod_nonneg _ (by decide), Int.lt_trans (Int.emod_lt_of_pos _ (by decide)) (by decide)⟩
  -- the end of the body, from a state of the bag
  have last : ∀ (t r m d : Int) (y2 y3 : Option V), 0 ≤ t → 0 ≤ r → 0 ≤ m → m < 2147483648 →
      drawE K { nx := fun _ H' => Q .non H', rt := Q } [some (.ref b), some (.int n), y2, y3, none] (upd w.H b (.lst (bagL c t r m d))) := by
    intro t r m d y2 y3 t0 r0 m0 m1
    have rd : ∀ {t r m d : Int} (i : Nat) (v : V), (bagL c t r m d)[i]? = some v → atI (bagL c t r m d) (i : Int) = some v := fun i v h => atI_nat h
    refine ⟨_, rfl, b, bagL c t r m d, 2, .int r, rfl, rfl, .inl (.inl upd_same), rd 2 _ rfl, r, 0, rfl, rfl, _, rfl, ite2 (fun h1 => ?_) (fun h1 => ?_)⟩
    · -- a digit of a great cell
      refine ⟨_, rfl, b, bagL c t r m d, 2, .int r, rfl, rfl, .inl (.inl upd_same), rd 2 _ rfl, .inl ⟨r, rfl, _, rfl, r, n, rfl, rfl, n0, ?_⟩⟩
      refine ⟨_, rfl, b, bagL c t r m d, 2, .int r, rfl, rfl, .inl (.inl upd_same), rd 2 _ rfl, .inl ⟨r, rfl, _, rfl, r, n, rfl, rfl, div_wide n0 n1 r, ?_⟩⟩
      refine ⟨_, rfl, b, bagL c t r m d, 2, 2, rfl, rfl, upd_same, rfl, ?_⟩
      refine ⟨.int (r % n), rfl, ?_⟩
      rw [upd_upd]
      exact up (t' := t) (r' := r / n) (m' := m) (d' := d) _ rfl ⟨t0, Int.ediv_nonneg r0 (by omega), m0, m1⟩ (Int.emod_nonneg _ (by omega)) (Int.emod_lt_of_pos _ n0)
    · refine ⟨_, rfl, b, bagL c t r m d, 3, .int m, rfl, rfl, .inl (.inl upd_same), rd 3 _ rfl, ?_⟩
      refine ⟨.int m, rfl, m, 3, rfl, rfl, ⟨by decide, by decide, by omega⟩, .int m, rfl, m, 36979, rfl, rfl, mulR _ _ (by decide), _, _, rfl, rfl, ?_⟩
      refine ⟨_, rfl, b, bagL c t r m d, 4, .int d, rfl, rfl, .inl (.inl upd_same), rd 4 _ rfl, d, 1299721, rfl, rfl, mulR _ _ (by decide), _, _, rfl, rfl, _, _, rfl, rfl, .inl ⟨_, rfl, _, _, rfl, rfl, by show (0 : Int) < 2147483629; decide, ?_⟩⟩
      refine ⟨_, rfl, b, bagL c t r m d, 3, 3, rfl, rfl, upd_same, rfl, ?_⟩
      rw [upd_upd]
      obtain ⟨a1, a2⟩ := md (m ^ (3 : Int).toNat + m * 36979 + d * 1299721 + 50033)
      suffices h : ∀ m2 : Int, 0 ≤ m2 → m2 < 2147483648 → drawR K { nx := fun _ H' => Q .non H', rt := Q } [some (.ref b), some (.int n), y2, y3, some (.int m)] (upd w.H b (.lst (bagL c t r m2 d))) from h _ a1 a2
      clear a1 a2
      intro m2 a1 a2
      refine ⟨_, rfl, b, bagL c t r m2 d, 3, .int m2, rfl, rfl, .inl (.inl upd_same), rd 3 _ rfl, m2, 89, rfl, rfl, div_wide (by decide) (by decide) m2, ?_⟩
      refine ⟨_, rfl, b, bagL c t r m2 d, 3, .int m2, rfl, rfl, .inl (.inl upd_same), rd 3 _ rfl, .inl ⟨m2, rfl, m2, 7907, rfl, rfl, by show (0 : Int) < 7907; decide, _, 61, rfl, rfl, mulR _ _ (by decide), _, _, rfl, rfl, .inl ⟨_, rfl, .int n, rfl, _, n, rfl, rfl, n0, ?_⟩⟩⟩
      exact up (t' := t) (r' := r) (m' := m2) (d' := d) _ rfl ⟨t0, r0, a1, a2⟩ (Int.emod_nonneg _ (by omega)) (Int.emod_lt_of_pos _ n0)
  have rd : ∀ {t r m d : Int} (i : Nat) (v : V), (bagL c t r m d)[i]? = some v → atI (bagL c t r m d) (i : Int) = some v := fun i v h => atI_nat h
  have hb : w.H b = some (.lst (bagL c t r m d)) := hb
  refine ⟨_, rfl, b, bagL c t r m d, 4, .int d, rfl, rfl, .inl (.inl hb), rd 4 _ rfl, d, 1, rfl, rfl, ?_⟩
  refine ⟨_, rfl, b, bagL c t r m d, 4, 4, rfl, rfl, hb, rfl, ?_⟩
  show (tSeq _ _ : TS) _ [some (.ref b), some (.int n), none, none, none] (upd w.H b (.lst (bagL c t r m (d + 1))))
  generalize d + 1 = d
  refine ⟨_, rfl, b, bagL c t r m d, 2, .int r, rfl, rfl, .inl (.inl upd_same), rd 2 _ rfl, rfl, _, rfl, ite2 (fun h1 => ?_) (fun h1 => ?_)⟩
  · refine ⟨_, rfl, b, bagL c t r m d, 1, .int t, rfl, rfl, .inl (.inl upd_same), rd 1 _ rfl, ?_⟩
    refine ⟨_, rfl, b, bagL c t r m d, 0, .ref c, rfl, rfl, .inl (.inl upd_same), rd 0 _ rfl, c, cells.map V.int, rfl, .inl (.inl (.inl (hcH _))), t, _, rfl, rfl, _, rfl, ite2 (fun h2 => ?_) (fun h2 => last t r m d none none t0 r0 m0 m1)⟩
    have h2 : t < ((cells.map V.int).length : Int) := of_decide_eq_true h2
    rw [List.length_map] at h2
    obtain ⟨cell, hcell⟩ : ∃ x, cells[t.toNat]? = some x := ⟨_, List.getElem?_eq_getElem (by omega)⟩
    have hat : atI (cells.map V.int) t = some (.int cell) := by
      have e1 : t = ((t.toNat : Nat) : Int) := by omega
      rw [e1]
      exact atI_nat (by rw [List.getElem?_map, hcell]; rfl)
    refine ⟨_, rfl, b, bagL c t r m d, 0, .ref c, rfl, rfl, .inl (.inl upd_same), rd 0 _ rfl, ?_⟩
    refine ⟨_, rfl, b, bagL c t r m d, 1, .int t, rfl, rfl, .inl (.inl upd_same), rd 1 _ rfl, c, cells.map V.int, t, .int cell, rfl, rfl, .inl (.inl (hcH _)), hat, ?_⟩
    refine ⟨_, rfl, b, bagL c t r m d, 1, .int t, rfl, rfl, .inl (.inl upd_same), rd 1 _ rfl, t, 1, rfl, rfl, ?_⟩
    refine ⟨_, rfl, b, bagL c t r m d, 1, 1, rfl, rfl, upd_same, rfl, ?_⟩
    rw [upd_upd]
    show (tSeq _ _ : TS) _ [some (.ref b), some (.int n), some (.int cell), none, none] (upd w.H b (.lst (bagL c (t + 1) r m d)))
    have t1 : 0 ≤ t + 1 := by omega
    generalize t + 1 = t at t1
    have rest : ∀ r : Int, 0 ≤ r → drawM K { nx := drawE K { nx := fun _ H' => Q .non H', rt := Q }, rt := Q } [some (.ref b), some (.int n), some (.int cell), none, none] (upd w.H b (.lst (bagL c t r m d))) := by
      intro r r0
      refine ⟨_, rfl, b, bagL c t r m d, 3, .int m, rfl, rfl, .inl (.inl upd_same), rd 3 _ rfl, m, 40014, rfl, rfl, mulR _ _ (by decide), .int cell, rfl, .inl ⟨cell, rfl, cell, 2147483563, rfl, rfl, by show (0 : Int) < 2147483563; decide, _, 617, rfl, rfl, mulR _ _ (by decide), _, _, rfl, rfl, _, _, rfl, rfl, .inl ⟨_, rfl, _, _, rfl, rfl, by show (0 : Int) < 2147483629; decide, ?_⟩⟩⟩
      refine ⟨_, rfl, b, bagL c t r m d, 3, 3, rfl, rfl, upd_same, rfl, ?_⟩
      rw [upd_upd]
      obtain ⟨a1, a2⟩ := md (m * 40014 + cell % 2147483563 * 617 + 31)
      exact last t r ((m * 40014 + cell % 2147483563 * 617 + 31) % 2147483629) d (some (.int cell)) none t1 r0 a1 a2
    refine ⟨.int cell, rfl, 10, 18, rfl, rfl, ⟨by decide, by decide, by decide⟩, cell, _, rfl, rfl, _, rfl, ite2 (fun h3 => ?_) (fun h3 => ?_)⟩
    · have h3 : ((10 : Int) ^ (18 : Int).toNat) ≤ cell := of_decide_eq_true h3
      have h4 : (0 : Int) ≤ (10 : Int) ^ (18 : Int).toNat := by decide
      refine ⟨.int cell, rfl, .ref b, rfl, b, bagL c t r m d, 2, 2, rfl, rfl, upd_same, rfl, ?_⟩
      rw [upd_upd]
      exact rest cell (by omega)
    · exact rest r r0
  · exact last t r m d none none t0 r0 m0 m1

/-! ### the bag itself -/
def spBag (K : PySem.W.Frag) : Sp := fun vs H Q _ => ∃ (a : Addr) (ns : List Int), vs = [.ref a] ∧ SqL K H a (ns.map V.int) ∧ ns.length ≤ 63 ∧
  ∀ (b c : Addr) (H' : Hp) (cells : List Int) (m : Int), Same H H' → H' c = some (.lst (cells.map V.int)) → H' b = some (.lst (bagL c 0 0 m 0)) → 0 ≤ m → m < 2147483629 → Q (.ref b) H'
abbrev bagF (K : PySem.W.Frag) : TE := tSl (rSlL K) (tVar 0) tNoPart (tPart (tC (.int 63)))
abbrev rListQ (K : PySem.W.Frag) : List V → Hp → VK → Prop := fun xs H Q => ∃ p ys, xs = [.ref p] ∧ (SqL K H p ys ∨ SqT K H p ys) ∧ ∀ l, H l = none → Q (.ref l) (upd H l (.lst ys))
abbrev bagT (K : PySem.W.Frag) : TS :=
  tSeq (tAsg (tC (.int 12028)) (gName 1))
  (tSeq (tFor (iList K (bagF K)) (gName 2) (tAsg (tOp rModI (tInt (tOp rAddI (tOp rAddI (tOp rMulI (tVar 1) (tC (.int 39373))) (tOp rModI (tInt (tVar 2)) (tC (.int 2147483563)))) (tC (.int 23)))) (tC (.int 2147483629))) (gName 1)))
    (tRet (tLst (tCons (tCB (rListQ K) (tCons (bagF K) tNil)) (tCons (tC (.int 0)) (tCons (tC (.int 0)) (tCons (tVar 1) (tCons (tC (.int 0)) tNil))))))))
theorem cutV_int (ns : List Int) (lo hi : Option Int) : ∃ ms : List Int, cutV (ns.map V.int) lo hi = ms.map V.int := by
  unfold cutV
  exact ⟨(ns.drop (HT.sIx (ns.map V.int).length 0 lo)).take (HT.sIx (ns.map V.int).length (ns.map V.int).length hi - HT.sIx (ns.map V.int).length 0 lo), by rw [List.map_take, List.map_drop]⟩
theorem bag_read {K : PySem.W.Frag} {H : Hp} {vs : List V} {Q : VK} {E : XK} (h : spBag K vs H Q E) : bagT K { nx := fun _ H' => Q .non H', rt := Q } (L2.start ["", "", ""] vs) H := by
  obtain ⟨a, ns, rfl, hS, hl, q⟩ := h
  obtain ⟨ms, hms⟩ := cutV_int ns none (some 63)
  have md : ∀ x : Int, 0 ≤ x % 2147483629 ∧ x % 2147483629 < 2147483629 := fun x => ⟨Int.emod_nonneg _ (by decide), Int.emod_lt_of_pos _ (by decide)⟩
  refine ⟨.ref a, rfl, 63, rfl, a, ns.map V.int, rfl, hS, fun p hp => ?_⟩
  have s1 : Same H (upd H p (.lst (cutV (ns.map V.int) none (some 63)))) := same_new hp
  have hp1 : (upd H p (.lst (cutV (ns.map V.int) none (some 63)))) p = some (.lst (ms.map V.int)) := by rw [upd_same, hms]
  generalize upd H p (.lst (cutV (ns.map V.int) none (some 63))) = H1 at s1 hp1
  refine ⟨p, rfl, ⟨_, .inl (.inl hp1)⟩, for_list (K := K) (a := p) (xs := ms.map V.int) (fun i σ H' => ∃ (m : Int) (y : Option V), σ = [some (.ref a), some (.int m), y] ∧ H' = H1 ∧ 0 ≤ m ∧ m < 2147483629) ⟨12028, none, rfl, rfl, by decide, by decide⟩ (fun i σ H' _ ⟨_, _, _, e, _⟩ => by rw [e]; exact .inl (.inl hp1)) ?_ ?_⟩
  · rintro i x σ H' hx ⟨m, y, rfl, rfl, m0, m1⟩
    obtain ⟨u, rfl⟩ : ∃ u, x = V.int u := by
      rw [List.getElem?_map] at hx
      cases e : ms[i]? with
      | none => rw [e] at hx; cases hx
      | some u => rw [e] at hx; exact ⟨u, (Option.some.inj hx).symm⟩
    refine ⟨.int m, rfl, m, 39373, rfl, rfl, mulR _ _ (by decide), .int u, rfl, .inl ⟨u, rfl, u, 2147483563, rfl, rfl, by show (0 : Int) < 2147483563; decide, _, _, rfl, rfl, _, _, rfl, rfl, .inl ⟨_, rfl, _, _, rfl, rfl, by show (0 : Int) < 2147483629; decide, ?_⟩⟩⟩
    obtain ⟨a1, a2⟩ := md (m * 39373 + u % 2147483563 + 23)
    exact ⟨_, some (.int u), rfl, rfl, a1, a2⟩
  · rintro σ H' ⟨m, y, rfl, rfl, m0, m1⟩
    refine ⟨.ref a, rfl, 63, rfl, a, ns.map V.int, rfl, s1.seq hS, fun p2 hp2 => ?_⟩
    have s2 : Same H' (upd H' p2 (.lst (cutV (ns.map V.int) none (some 63)))) := same_new hp2
    have hp3 : (upd H' p2 (.lst (cutV (ns.map V.int) none (some 63)))) p2 = some (.lst (ms.map V.int)) := by rw [upd_same, hms]
    generalize upd H' p2 (.lst (cutV (ns.map V.int) none (some 63))) = H2 at s2 hp3
    refine ⟨p2, ms.map V.int, rfl, .inl (.inl (.inl hp3)), fun c hc => ?_⟩
    have s3 : Same H2 (upd H2 c (.lst (ms.map V.int))) := same_new hc
    refine ⟨.int m, rfl, by show 5 ≤ sizeLine; decide, fun b hb => ?_⟩
    have s4 : Same (upd H2 c (.lst (ms.map V.int))) (upd (upd H2 c (.lst (ms.map V.int))) b (.lst (bagL c 0 0 m 0))) := same_new hb
    exact q b c _ ms m (((s1.trans s2).trans s3).trans s4) (s4 _ _ upd_same) upd_same m0 m1
/-! ### the law's call -/
def spLaw (K : PySem.W.Frag) : Sp := fun vs H Q _ => ∃ (a : Addr) (ns : List Int), vs = [.ref a] ∧ SqL K H a (ns.map V.int) ∧ ns.length ≤ 63 ∧ ∀ H', Q (.bl true) H'
/-- what is asked of a law's body behind its bag: slots script, bag, .. -/
def lawS (N : Nat) (g : SV) : Prop := ∀ b : Addr, g ⟨fun _ _ => False, fun r _ => r = .val (.bl true), fun _ _ => False, fun _ _ => False⟩ (.no :: .val (.cell 0) :: startD.nos (N - 2)) [.bag b]
theorem law_read {G : Gx} {K : PySem.W.Frag} (eK : G.K = K) {H : Hp} {vs : List V} {Q : VK} {E : XK} {N : List Str} {g : SV} (hg : lawS N.length g) (hN : 2 ≤ N.length) (h : spLaw K vs H Q E) :
    tSeq (tAsg (tCall (spBag K) [] E0 (tCons (tVar 0) tNil)) (gName 1)) (liftS G true g) { nx := fun _ H' => Q .non H', rt := Q } (L2.start N vs) H := by
  obtain ⟨a, ns, rfl, hS, hl, q⟩ := h
  refine ⟨.ref a, rfl, a, ns, rfl, hS, hl, fun b c H' cells m s1 hc hb m0 m1 => ?_⟩
  have ncb : c ≠ b := fun z => by
    rw [z, hb] at hc
    cases cells with
    | nil => cases hc
    | cons x r => cases hc
  let P0 : Hp := fun x => if x = c then some (.lst (cells.map V.int)) else none
  have pc : P0 c = some (.lst (cells.map V.int)) := if_pos rfl
  have pb : P0 b = none := if_neg ncb.symm
  have sP : Shs P0 H' := fun x o hx => by
    by_cases e : x = c
    · subst e; rw [pc] at hx; exact ⟨o, by rw [← hx]; exact hc, by cases hx; rfl⟩
    · rw [show P0 x = none from if_neg e] at hx; cases hx
  have nP : ∀ a x, P0 a ≠ some (.own x) := fun a x z => by
    by_cases e : a = c
    · subst e; rw [pc] at z; cases z
    · rw [show P0 a = none from if_neg e] at z; cases z
  have key : ∀ (i : Nat) (s : Sl), (Sl.no :: Sl.val (.cell 0) :: startD.nos (N.length - 2))[i]? = some s → s = .no ∨ (i = 1 ∧ s = .val (.cell 0)) := fun i s h => by
    match i, h with
    | 0, h => exact .inl (Option.some.inj h).symm
    | 1, h => exact .inr ⟨rfl, (Option.some.inj h).symm⟩
    | i + 2, h =>
      rw [nos_eq, List.getElem?_cons_succ, List.getElem?_cons_succ, List.getElem?_replicate] at h
      split at h
      · exact .inl (Option.some.inj h).symm
      · cases h
  have ok : WOk G ⟨[b], [.bag c], P0, H'⟩ := ⟨sP, nP, rfl, by simp, fun n a d e1 e2 => by
    match n, e1, e2 with
    | 0, e1, e2 => cases e1; cases e2; exact ⟨pb, cells, 0, 0, m, 0, pc, hb, by decide, by decide, m0, Int.lt_trans m1 (by decide)⟩⟩
  have noown : ∀ (i : Nat) (d : D), (Sl.no :: Sl.val (.cell 0) :: startD.nos (N.length - 2))[i]? ≠ some (.own d) := fun i d h => by
    rcases key i _ h with e | ⟨_, e⟩ <;> cases e
  refine ⟨⟨[b], [.bag c], P0, H'⟩, ⟨[b], [.bag c], P0, H'⟩, ⟨[b], [.bag c], P0, H'⟩, _, _, rfl, ⟨.refl ok, Same.refl _, Pre.refl _, ⟨ok, fun i d h => ?_, fun i d h => absurd h (noown i d), fun i j d e l h => absurd h (noown i d), ?_⟩, fun i d l h => absurd h (noown i d)⟩, hg c, ⟨fun δ σ H2 qq _ => qq.elim, fun δ σ H2 qq _ => qq.elim, fun δ σ H2 qq _ => qq.elim, fun r v w' qq g2 z => ?_⟩⟩
  · rcases key i _ h with e | ⟨rfl, e⟩
    · cases e
    · cases e
      refine ⟨.ref b, ?_, .cell rfl⟩
      show (List.set (L2.start N [.ref a]) 1 (some (.ref b)))[1]? = _
      rw [List.getElem?_set_self]
      unfold L2.start
      rw [List.length_append, List.length_replicate]
      simp
      omega
  · show (List.set (L2.start N [.ref a]) 1 (some (.ref b))).length = _
    rw [List.length_set, nos_eq]
    unfold L2.start
    rw [List.length_append, List.length_replicate]
    simp
    omega
  · subst qq
    cases Dp.bl' z
    exact q w'.H
end HI

namespace HI
open PySem PySem.Spec PyProof.Rows L2
/-! ### the order of texts, whole numbers and tuples of these -/
def alkAll (f : D → D → Bool) : List D → List D → Bool
  | x :: xs, y :: ys => match f x y with
    | true => alkAll f xs ys
    | false => false
  | _, _ => true
def alkF : Nat → Mem → D → D → Bool
  | 0, _, _, _ => false
  | n + 1, M, x, y => match view M x, view M y with
    | .int _, .int _ => true
    | .str _, .str _ => true
    | .tup a, .tup b => alkAll (alkF n M) a b
    | .tup a, .wtup b => alkAll (alkF n M) a b
    | .wtup a, .tup b => alkAll (alkF n M) a b
    | .wtup a, .wtup b => alkAll (alkF n M) a b
    | _, _ => false
def ltAll (e f : D → D → Bool) : List D → List D → Bool
  | x :: xs, y :: ys => match e x y with
    | true => ltAll e f xs ys
    | false => f x y
  | [], _ :: _ => true
  | _, [] => false
def ltF : Nat → Mem → D → D → Bool
  | 0, _, _, _ => false
  | n + 1, M, x, y => match view M x, view M y with
    | .int i, .int j => decide (i < j)
    | .str a, .str b => decide (a < b)
    | .tup a, .tup b => ltAll (eqF n M) (ltF n M) a b
    | .tup a, .wtup b => ltAll (eqF n M) (ltF n M) a b
    | .wtup a, .tup b => ltAll (eqF n M) (ltF n M) a b
    | .wtup a, .wtup b => ltAll (eqF n M) (ltF n M) a b
    | _, _ => false
theorem alkAll_py {f : D → D → Bool} {g : D → PyData} (h : ∀ x y, f x y = true → PySem.W.alike (g x) (g y) = true) : ∀ xs ys : List D, alkAll f xs ys = true → PySem.W.alikeAll (pyAll g xs) (pyAll g ys) = true
  | [], ys, _ => by rw [pyAll, PySem.W.alikeAll]
  | x :: xs, [], _ => by rw [pyAll, pyAll, PySem.W.alikeAll]
  | x :: xs, y :: ys, q => by
    rw [alkAll] at q
    cases e : f x y with
    | false => rw [e] at q; cases q
    | true =>
      rw [e] at q
      rw [pyAll, pyAll, PySem.W.alikeAll, h x y e, alkAll_py h xs ys q]
      rfl
theorem alkF_py : ∀ (n : Nat) (M : Mem) (x y : D), alkF n M x y = true → PySem.W.alike (pyF n M x) (pyF n M y) = true ∧ pyF n M x ≠ .none
  | 0, _, _, _, h => by cases h
  | n + 1, M, x, y, h => by
    have ih := fun x y h => (alkF_py n M x y h).1
    unfold alkF at h
    unfold pyF
    generalize view M x = cx at h ⊢
    generalize view M y = cy at h ⊢
    cases cx <;> first | (cases h; done) | skip
    all_goals (cases cy <;> first | (cases h; done) | skip)
    all_goals first
      | (refine ⟨?_, fun z => by cases z⟩; dsimp only; rw [PySem.W.alike]; done)
      | (refine ⟨?_, fun z => by cases z⟩; dsimp only; rw [PySem.W.alike]; exact alkAll_py ih _ _ h)
theorem okAll_cons {f : D → Bool} {x : D} {xs : List D} (h : okAll f (x :: xs) = true) : f x = true ∧ okAll f xs = true := by
  rw [okAll] at h
  cases e : f x with
  | false => rw [e] at h; cases h
  | true => rw [e] at h; exact ⟨rfl, h⟩
theorem ltAll_py {n : Nat} {M : Mem} (h : ∀ x y, okF n M x = true → okF n M y = true → alkF n M x y = true → ltF n M x y = PySem.W.dataLt (pyF n M x) (pyF n M y)) : ∀ xs ys : List D, okAll (okF n M) xs = true → okAll (okF n M) ys = true → alkAll (alkF n M) xs ys = true →
    ltAll (eqF n M) (ltF n M) xs ys = PyProof.Rows.lexLt itemOrd (PySem.W.keyToksAll (pyAll (pyF n M) xs)) (PySem.W.keyToksAll (pyAll (pyF n M) ys))
  | [], [], _, _, _ => by rw [pyAll, lex_irrefl]; rfl
  | [], y :: ys, _, _, _ => by
    rw [pyAll, pyAll, PySem.W.toks_all_cons]
    simp only [PySem.W.keyToksAll]
    rw [lex_diff (O := itemOrd) (by simp)]
    rfl
  | x :: xs, [], _, _, _ => by
    rw [pyAll, pyAll, PySem.W.toks_all_cons]
    simp only [PySem.W.keyToksAll]
    rw [lex_diff (O := itemOrd) (by simp)]
    rfl
  | x :: xs, y :: ys, hx, hy, q => by
    obtain ⟨x1, x2⟩ := okAll_cons hx
    obtain ⟨y1, y2⟩ := okAll_cons hy
    rw [alkAll] at q
    cases e : alkF n M x y with
    | false => rw [e] at q; cases q
    | true =>
      rw [e] at q
      obtain ⟨a1, a2⟩ := alkF_py n M x y e
      rw [pyAll, pyAll, ltAll]
      cases ee : eqF n M x y with
      | true =>
        rw [PySem.W.dataLt_all_yes a1 (by rw [← eqF_py n M x y x1 y1]; exact ee)]
        exact ltAll_py h xs ys x2 y2 q
      | false =>
        rw [PySem.W.dataLt_all_no a1 (by rw [← eqF_py n M x y x1 y1]; exact ee)]
        exact h x y x1 y1 e
theorem ltF_py : ∀ (n : Nat) (M : Mem) (x y : D), okF n M x = true → okF n M y = true → alkF n M x y = true → ltF n M x y = PySem.W.dataLt (pyF n M x) (pyF n M y)
  | 0, _, _, _, h, _, _ => by cases h
  | n + 1, M, x, y, hx, hy, h => by
    have ih := fun x y => ltF_py n M x y
    unfold okF at hx hy
    unfold alkF at h
    unfold ltF pyF
    generalize view M x = cx at hx h ⊢
    generalize view M y = cy at hy h ⊢
    cases cx <;> first | (cases h; done) | skip
    all_goals (cases cy <;> first | (cases h; done) | skip)
    all_goals first
      | (dsimp only; rw [PySem.W.dataLt_int]; done)
      | (dsimp only; rw [PySem.W.dataLt_str, tx_cps, tx_cps]; done)
      | (dsimp only; rw [PySem.W.dataLt_tuple]; exact ltAll_py ih _ _ hx hy h)
def ltH : OpD := fun M x y Q => okQ (okF 60 M x) (okQ (okF 60 M y) (okQ (alkF 60 M x y) (Q (.val (.bl (ltF 60 M x y))))))
section
variable {X : Cx} {k : Nat}
def rLtD (K : PySem.W.Frag) : R2 := fun x y H Q => ∃ d e, L2.Dp K H x d ∧ L2.Dp K H y e ∧ PySem.W.alike d e = true ∧ d ≠ .none ∧ d.depth ≤ 60 ∧ Q (.bl (PySem.W.dataLt d e)) H
theorem op_ltD (hu : X.A.units + 64 < cLine) : OpR X (compareOp .Lt) (rLtD X.K) := by
  intro pins s σ H x y v u Q I rx ry h
  obtain ⟨d, e, hd, he, ha, hn, hp, q⟩ := h
  obtain ⟨as, r1⟩ := Dp.reads I d x v hd rx
  obtain ⟨bs, r2⟩ := Dp.reads I e y u he ry
  exact PySem.W.lt_data r1 r2 ha hn (by omega) ⟨.bl _, H, I, rfl, q⟩
theorem op_ltH (hr : Room k X.A) : OpL X (compareOp .Lt) ltH := by
  refine ⟨_, op_ltD (by have := hr.un; omega), fun w x y dx dy Qd Q o zx zy h kk => ?_⟩
  obtain ⟨h1, h⟩ := okQ_e h
  obtain ⟨h2, h⟩ := okQ_e h
  obtain ⟨h3, h⟩ := okQ_e h
  obtain ⟨a1, a2, a3⟩ := okF_dp o 60 x dx zx h1
  obtain ⟨b1, b2, b3⟩ := okF_dp o 60 y dy zy h2
  obtain ⟨c1, c2⟩ := alkF_py 60 w.M dx dy h3
  refine ⟨_, _, a1, b1, c1, c2, a3, ?_⟩
  rw [← ltF_py 60 w.M dx dy h1 h2 h3]
  exact kk _ _ w h (.refl o) (.bl _)
end
end HI

namespace HI
open PySem PySem.Spec PyProof.Rows L2
/-! ### sorted(xs) -/
def srtV (ys : List V) (ds : List PyData) : List V := ((ys.zip ds).mergeSort (PySem.W.dataLe false Prod.snd)).map Prod.fst
def rSrtD (K : PySem.W.Frag) : List V → Hp → VK → Prop := fun vs H Q => ∃ a ys ds, vs = [V.ref a] ∧ SqL K H a ys ∧ L2.DpAll K H ys ds ∧ PySem.W.AllAlike ds ∧ PySem.W.Sortable ds ∧ (∀ d, d ∈ ds → d.depth ≤ 60) ∧ ∀ p, H p = none → Q (.ref p) (upd H p (.lst (srtV ys ds)))
theorem each_vals : ∀ {ys : List V} {ds : List PyData} {its : List Value}, ys.length = ds.length → Vals ys its → PySem.W.EachIs (fun v (b : V × PyData) => RelV b.1 v) its (ys.zip ds)
  | _, [], _, hl, .nil => .nil
  | _, d :: ds, _, hl, .nil => by cases hl
  | _, [], _, hl, .cons _ _ => by cases hl
  | _, d :: ds, _, hl, .cons r t => .cons r (each_vals (Nat.succ.inj hl) t)
theorem vals_each : ∀ {its : List Value} {bs : List (V × PyData)}, PySem.W.EachIs (fun v (b : V × PyData) => RelV b.1 v) its bs → Vals (bs.map Prod.fst) its
  | _, _, .nil => .nil
  | _, _, .cons r t => .cons r (vals_each t)
theorem DpAll.len {K : PySem.W.Frag} {H : Hp} : ∀ {ys : List V} {ds : List PyData}, L2.DpAll K H ys ds → ys.length = ds.length
  | _, _, .nil => rfl
  | _, _, .cons _ t => by rw [List.length_cons, List.length_cons, DpAll.len t]
section
variable {X : Cx} {k : Nat}
theorem cr_sortedD (hu : X.A.units + 66 < cLine) : CallR X (.builtin "sorted") (rSrtD X.K) := by
  intro pins s σ H vs us Q I r h
  obtain ⟨a, ys, ds, rfl, hs, hd, hal, hso, hdp, q⟩ := h
  obtain ⟨its, rv, hl, hz⟩ := I.list hs
  rw [Vals.ref1 r]
  obtain ⟨as, hra⟩ := Dp.readsAll I ds ys its hd rv
  have hlen := DpAll.len hd
  have em : (ys.zip ds).map Prod.snd = ds := List.map_snd_zip (by omega)
  have kp : ∀ b o, s.heap.get? b = some o → (PySem.W.sortingHeap (PySem.W.copyHeap s.heap its) (s.heap.objs.size + 1) its).get? b = some o := fun b o e => PySem.W.sorting_copy_old e
  have er : PySem.W.EachIs (fun v (b : V × PyData) => ∃ as, Reads (PySem.W.sortingHeap (PySem.W.copyHeap s.heap its) (s.heap.objs.size + 1) its) v b.2 as) its (ys.zip ds) :=
    PySem.W.readsAll_each Prod.snd (as := as) (by rw [em]; exact PyProof.Rows.ReadsAll.keeps kp hra)
  have hzl : its.length ≤ sizeLine := by rw [← rv.length]; exact hz
  have hal' : PySem.W.AllAlike ((ys.zip ds).map Prod.snd) := by rw [em]; exact hal
  refine PySem.W.sorted_vals (κ := PySem.W.dataKind (PySem.W.sortingHeap (PySem.W.copyHeap s.heap its) (s.heap.objs.size + 1) its) ((ys.zip ds).map Prod.snd)) hl.isList ?_ hzl ?_
  · refine PySem.W.SortsAt.data (s := { s with heap := PySem.W.sortingHeap (PySem.W.copyHeap s.heap its) (s.heap.objs.size + 1) its }) (PySem.W.each_map (R := fun v d => ∃ as, Reads (PySem.W.sortingHeap (PySem.W.copyHeap s.heap its) (s.heap.objs.size + 1) its) v d as) Prod.snd er) hal' (by rw [em]; exact hso) fun d hm => ?_
    rw [em] at hm
    have := hdp d hm
    have e1 : X.A.in1.in1.units = X.A.units + 2 := rfl
    omega
  · have e := vals_each (PySem.W.sortVals_data false (each_vals hlen rv) er hal')
    obtain ⟨ep, he⟩ := PyProof.Rows.sortedAll_at s.heap its (PySem.W.sortVals (PySem.W.dataKind (PySem.W.sortingHeap (PySem.W.copyHeap s.heap its) (s.heap.objs.size + 1) its) ((ys.zip ds).map Prod.snd)) false its its).toArray
    refine ⟨.ref _, upd H (s.heap.objs.size + 1) (.lst (srtV ys ds)), I.laid (t' := s.toks) (fun _ _ => PyProof.Rows.sortedAll_old) (Nat.le_succ _) ⟨?_, _, ep, e, he⟩, rfl, q _ (I.hok.fresh (Nat.le_succ _))⟩
    show (((ys.zip ds).mergeSort (PySem.W.dataLe false Prod.snd)).map Prod.fst).length ≤ sizeLine
    rw [List.length_map, List.length_mergeSort, List.length_zip]
    omega
/-- x not behind y -/
def leF (M : Mem) (x y : D) : Bool := !ltF 60 M y x
/-- a list that can be sorted -/
structure SrtP (M : Mem) (xs : List D) : Prop where
  ok : ∀ x ∈ xs, okF 60 M x = true
  alk : ∀ x ∈ xs, ∀ y ∈ xs, alkF 60 M x y = true
  sh : (∀ x ∈ xs, ∃ a r, view M x = .tup (a :: r)) ∨ ∀ x ∈ xs, (∃ i, view M x = .int i) ∨ ∃ c, view M x = .str c
def sortedD : CaD := fun M ds Q => oneQ ds fun x => lstQ (view M x) fun xs => SrtP M xs ∧ Q (.new (.lst (xs.mergeSort (leF M))))
theorem okAll_of {G : Gx} {w : Wd} (o : WOk G w) : ∀ {ys : List V} {xs : List D}, DpA G.K w.C w.P ys xs → (∀ x ∈ xs, okF 60 w.M x = true) → L2.DpAll G.K w.H ys (xs.map (pyF 60 w.M))
  | _, _, .nil, _ => .nil
  | _, _, .cons z t, h => .cons (okF_dp o 60 _ _ z (h _ List.mem_cons_self)).1 (okAll_of o t fun x hx => h x (List.mem_cons_of_mem _ hx))
theorem each_dpa {K : PySem.W.Frag} {C : List Addr} {P : Hp} {f : D → PyData} : ∀ {ys : List V} {xs : List D}, DpA K C P ys xs → PySem.W.EachIs (fun (b : V × PyData) d => Dp K C P b.1 d ∧ b.2 = f d) (ys.zip (xs.map f)) xs
  | _, _, .nil => .nil
  | _, _, .cons z t => .cons ⟨z, rfl⟩ (each_dpa t)
theorem dpa_each {K : PySem.W.Frag} {C : List Addr} {P : Hp} {f : D → PyData} : ∀ {bs : List (V × PyData)} {xs : List D}, PySem.W.EachIs (fun (b : V × PyData) d => Dp K C P b.1 d ∧ b.2 = f d) bs xs → DpA K C P (bs.map Prod.fst) xs
  | _, _, .nil => .nil
  | _, _, .cons z t => .cons z.1 (dpa_each t)
theorem dataLe_lt (x y : PyData) : PySem.W.dataLe false (fun p : PyData => p) x y = !PySem.W.dataLt y x := rfl
theorem call_sortedL (hr : Room k X.A) : CallL X (.builtin "sorted") sortedD := by
  refine ⟨_, cr_sortedD (by have := hr.un; omega), fun w xs ds Qd Q o za h kk => ?_⟩
  obtain ⟨x, e1, h⟩ := oneQ_e h
  subst e1
  obtain ⟨v, rfl, z⟩ := za.one'
  obtain ⟨es, e2, ⟨⟨k1, k2, k3⟩, h⟩⟩ := lstQ_e h
  obtain ⟨a, ys, rfl, ha, zs⟩ := see_lst o z e2
  have hmap : ∀ d, d ∈ es.map (pyF 60 w.M) → ∃ x ∈ es, d = pyF 60 w.M x := fun d hd => by
    obtain ⟨x, hx, rfl⟩ := List.mem_map.mp hd
    exact ⟨x, hx, rfl⟩
  refine ⟨a, ys, es.map (pyF 60 w.M), rfl, .inl (.inl ha), okAll_of o zs k1, fun d hd d' hd' => ?_, ?_, fun d hd => ?_, fun p hp => ?_⟩
  · obtain ⟨x, hx, rfl⟩ := hmap d hd
    obtain ⟨y, hy, rfl⟩ := hmap d' hd'
    exact (alkF_py 60 w.M x y (k2 x hx y hy)).1
  · rcases k3 with k3 | k3
    · refine .inl fun d hd => ?_
      obtain ⟨x, hx, rfl⟩ := hmap d hd
      obtain ⟨a, r, e⟩ := k3 x hx
      refine ⟨pyF 59 w.M a, pyAll (pyF 59 w.M) r, ?_⟩
      unfold pyF
      rw [e]
      rfl
    · refine .inr fun d hd => ?_
      obtain ⟨x, hx, rfl⟩ := hmap d hd
      unfold pyF
      rcases k3 x hx with ⟨i, e⟩ | ⟨c, e⟩
      · rw [e]
        exact ⟨(fun z => nomatch z), (fun xs z => nomatch z)⟩
      · rw [e]
        exact ⟨(fun z => nomatch z), (fun xs z => nomatch z)⟩
  · obtain ⟨x, hx, rfl⟩ := hmap d hd
    obtain ⟨v, _, zv⟩ : ∃ v, True ∧ Dp X.K w.C w.P v x := by
      obtain ⟨i, hi⟩ := List.mem_iff_getElem?.mp hx
      obtain ⟨v, _, zv⟩ := zs.get hi
      exact ⟨v, trivial, zv⟩
    exact (okF_dp o 60 v x zv (k1 x hx)).2.2
  · have e := each_dpa (f := pyF 60 w.M) zs
    have e2 := PySem.W.sort_each (r := PySem.W.dataLe false Prod.snd) (s := leF w.M) e fun p hp q hq => by
      have h1 := (e.zip p hp).2
      have h2 := (e.zip q hq).2
      have m1 := (List.of_mem_zip hp).2
      have m2 := (List.of_mem_zip hq).2
      show (!PySem.W.dataLt q.1.2 p.1.2) = !ltF 60 w.M q.2 p.2
      rw [h1, h2, ltF_py 60 w.M q.2 p.2 (k1 _ m2) (k1 _ m1) (k2 _ m2 _ m1)]
    have z2 : DpA X.K w.C w.P (srtV ys (es.map (pyF 60 w.M))) (es.mergeSort (leF w.M)) := dpa_each e2
    obtain ⟨g, zz⟩ := new_ok (rw := false) (.refl o) hp (HoD.lst z2)
    exact kk _ _ ⟨w.C, w.M, w.P, _⟩ h g zz
/-! ### xs.remove(x), x there -/
def rmD (f : D → Bool) : List D → Option (List D)
  | [] => none
  | x :: xs => match f x with
    | true => some xs
    | false => match rmD f xs with
      | some r => some (x :: r)
      | none => none
def rRemD (K : PySem.W.Frag) : V → List V → Hp → VK → Prop := fun x vs H Q => ∃ (l : Addr) (y : V) (ys : List V) (ds : List PyData) (d : PyData) (j : Nat), x = .ref l ∧ vs = [y] ∧ H l = some (.lst ys) ∧ L2.DpAll K H ys ds ∧ L2.Dp K H y d ∧ PyData.plainAll ds = true ∧ d.plain = true ∧ d.depth ≤ 60 ∧ SeqAt.dataPlace ds d = some j ∧ Q .non (upd H l (.lst (ys.eraseIdx j)))
theorem mt_removeD {X : Cx} (hu : X.A.units + 65 < cLine) : MtR X "list.remove" (rRemD X.K) := by
  intro pins s σ H x vs v us Q I rx rv h
  obtain ⟨l, y, ys, ds, d, j, rfl, rfl, hH, h1, h2, h3, h4, h5, h6, q⟩ := h
  cases rx
  obtain ⟨u, rfl, ru⟩ := rv.one
  obtain ⟨z, its, n, r, hl, e⟩ := I.lstM hH
  obtain ⟨as, hra⟩ := Dp.readsAll I ds ys its h1 r
  obtain ⟨bs, hrb⟩ := Dp.reads I d y u h2 ru
  refine SeqAt.remove_list_data (vs := its.toArray) (s := s) ⟨_, e, rfl, _, rfl⟩ (by simpa using hra) hrb h3 h4 (by omega) h6 (by rw [List.size_toArray, ← hl]; exact z) ?_
  refine ⟨.non, _, I.lset (its' := its.eraseIdx j) hH e ?_ (r.eraseIdx j) ?_, rfl, q⟩
  · show its.toArray.eraseIdxIfInBounds j = (its.eraseIdx j).toArray
    rw [List.eraseIdxIfInBounds_toArray]
  · have := len_erase ys j
    omega
def sRem (i : Nat) (f : EV) : SV := fun K δ M => ownQ δ i fun d => lstQ d fun ds => f δ M fun r M1 => okQ (okAll (okF 60 M1) ds) (okQ (okF 60 M1 r.d) (someQ (rmD (fun x => eqF 60 M1 x r.d) ds) fun es => K.nx (δ.set i (.own (.lst es))) M1))
end
section
variable {X : Cx} {rw : Bool} {e : Expr} {f : EV} {pos : Pos} {k : Nat}
theorem okAll_all {f : D → Bool} : ∀ {xs : List D}, okAll f xs = true → ∀ x ∈ xs, f x = true
  | [], _, x, hx => by cases hx
  | y :: ys, h, x, hx => by
    obtain ⟨h1, h2⟩ := okAll_cons h
    rcases List.mem_cons.mp hx with e | hx
    · rw [e]; exact h1
    · exact okAll_all h2 x hx
theorem plainAll_of {G : Gx} {w : Wd} (o : WOk G w) : ∀ {ys : List V} {xs : List D}, DpA G.K w.C w.P ys xs → (∀ x ∈ xs, okF 60 w.M x = true) → PyData.plainAll (xs.map (pyF 60 w.M)) = true
  | _, _, .nil, _ => by rw [List.map_nil, PyData.plainAll]
  | _, _, .cons z t, h => by
    have h1 := (okF_dp o 60 _ _ z (h _ List.mem_cons_self)).2.1
    rw [List.map_cons, PyData.plainAll, PyData.plain_of_canLay0 _ h1, plainAll_of o t fun x hx => h x (List.mem_cons_of_mem _ hx)]
    rfl
theorem DpA.eraseIdx {K : PySem.W.Frag} {C : List Addr} {P : Hp} : ∀ {ys : List V} {xs : List D} (j : Nat), DpA K C P ys xs → DpA K C P (ys.eraseIdx j) (xs.eraseIdx j)
  | _, _, _, .nil => .nil
  | _, _, 0, .cons _ t => t
  | _, _, j + 1, .cons z t => .cons z (DpA.eraseIdx j t)
theorem q_rem (hr : Room k X.A) (i : Nat) {x : Str} {p1 apos cpos : Pos} (he : QE X rw e f) (hN : X.N[i]? = some x := by rfl) (hv : Vis X.env.scope x := by first | exact Or.inl rfl | exact Or.inr (Or.inl rfl) | exact Or.inr (Or.inr rfl)) (hd : (x == ("__debug__" : Str)) = false := by decide) (hcd : (x == ("__classdict__" : Str)) = false := by decide)
    (hs1 : starEach [e] X.env = [(false, eval e X.env)] := by rfl) (hline : (apos.endLine == cpos.line) = true := by rfl) (hbase : attributeBase (.Name x p1) "remove" X.env (eval (.Name x p1) X.env) = eval (.Name x p1) X.env := by rfl)
    (hfew : ((backTo cpos (starEach [e] X.env)).all (fun x => !x.1) && (backToKw cpos (keywordEach [] X.env)).all (fun x => x.1.isSome) && decide ([e].length + ([] : List Keyword).length + (if ([] : List Keyword).isEmpty then 0 else 1) < 30)) = true := by rfl)
    (hs : swapsWith (.Call (.Attribute (.Name x p1) "remove" apos) [e] [] cpos) none pos.line X.env = pure false := by rfl) :
    QS X rw (.Expr (.Call (.Attribute (.Name x p1) "remove" apos) [e] [] cpos) pos) (sRem i f) :=
  qs_of (ps_expr (pe_bm PySem.F.plainAttrs_list PySem.F.slot_list_remove PySem.F.type_list_remove (mt_removeD (by have := hr.un; omega)) (pe_var hN hv hd hcd) (pa_cons he.pe pa_nil hs1) hbase hfew hline hs1) hs) fun w0 wc w σ δ Kd D S q k => by
    obtain ⟨d, e, q⟩ := ownQ_e q
    obtain ⟨ds, rfl, q'⟩ := lstQ_e q
    obtain ⟨l, vs, h1, h2, h3, h4, h5⟩ := own_lst S.rep e
    refine ⟨.ref l, h1, .inl ⟨rfl, vs, .inl (.inl h4)⟩, ?_⟩
    refine lift_d S.rep (fun d M1 => okQ (okAll (okF 60 M1) ds) (okQ (okF 60 M1 d) (someQ (rmD (fun x => eqF 60 M1 x d) ds) fun es => Kd.nx (δ.set i (.own (.lst es))) M1))) q' fun d v w1 q1 g z => ?_
    obtain ⟨a1, q2⟩ := okQ_e q1
    obtain ⟨a2, q3⟩ := okQ_e q2
    obtain ⟨es, a3, q4⟩ := someQ_e q3
    have h6 := g.hh l _ h4 h3
    have z5 := g.dpa h5
    have ok1 := okAll_all a1
    obtain ⟨j, b1, b2⟩ : ∃ j, (ds.map (pyF 60 w1.M)).findIdx? (fun y => PyData.eqv y (pyF 60 w1.M d)) = some j ∧ es = ds.eraseIdx j := by
      have key : ∀ {xs r : List HI.D}, (∀ x ∈ xs, okF 60 w1.M x = true) → rmD (fun x => eqF 60 w1.M x d) xs = some r → ∃ j, (xs.map (pyF 60 w1.M)).findIdx? (fun y => PyData.eqv y (pyF 60 w1.M d)) = some j ∧ r = xs.eraseIdx j := by
        intro xs
        induction xs with
        | nil => intro r _ e; cases e
        | cons x xs ih =>
          intro r hx e
          rw [rmD] at e
          rw [List.map_cons, List.findIdx?_cons, ← eqF_py 60 w1.M x d (hx x List.mem_cons_self) a2]
          cases q : eqF 60 w1.M x d with
          | true => rw [q] at e; cases e; exact ⟨0, rfl, rfl⟩
          | false =>
            rw [q] at e
            cases q2 : rmD (fun x => eqF 60 w1.M x d) xs with
            | none => rw [q2] at e; cases e
            | some r2 =>
              rw [q2] at e
              cases e
              obtain ⟨j, h1, h2⟩ := ih (fun y hy => hx y (List.mem_cons_of_mem _ hy)) q2
              refine ⟨j + 1, ?_, by rw [h2]; rfl⟩
              rw [h1]
              rfl
      exact key ok1 a3
    obtain ⟨c1, c2, c3⟩ := okF_dp g.ok 60 v d z a2
    refine ⟨l, v, vs, ds.map (pyF 60 w1.M), pyF 60 w1.M d, j, rfl, rfl, h6, okAll_of g.ok z5 ok1, c1, plainAll_of g.ok z5 ok1, PyData.plain_of_canLay0 _ c2, c3, b1, k.nx _ _ ⟨w1.C, w1.M, w1.P, _⟩ q4 ?_⟩
    rw [b2]
    exact (S.mono g).chg e h1 (HoD.lst (z5.eraseIdx j))
end
end HI

namespace HI
open PySem PySem.Spec PyProof.Rows L2
theorem bt_len : bootBuiltins "len" = some (.builtin "len") := by decide +kernel
theorem bt_abs : bootBuiltins "abs" = some (.builtin "abs") := by decide +kernel
theorem bt_all : bootBuiltins "all" = some (.builtin "all") := by decide +kernel
theorem bt_any : bootBuiltins "any" = some (.builtin "any") := by decide +kernel
theorem bt_min : bootBuiltins "min" = some (.builtin "min") := by decide +kernel
theorem bt_sorted : bootBuiltins "sorted" = some (.builtin "sorted") := by decide +kernel
theorem bt_list : bootBuiltins "list" = some (.type "list") := by decide +kernel
theorem bt_tuple : bootBuiltins "tuple" = some (.type "tuple") := by decide +kernel
theorem bt_int : bootBuiltins "int" = some (.type "int") := by decide +kernel
theorem bt_str : bootBuiltins "str" = some (.type "str") := by decide +kernel
theorem bt_dict : bootBuiltins "dict" = some (.type "dict") := by decide +kernel
theorem bt_bool : bootBuiltins "bool" = some (.type "bool") := by decide +kernel
/-! ### o.remove(e), o a cell -/
def sCRem (fo f : EV) : SV := fun K δ M => fo δ M fun o M1 => cellQ o.d fun n => someQ M1[n]? fun c0 => lstQ c0 fun _ => f δ M1 fun r M2 => someQ M2[n]? fun c => lstQ c fun xs => okQ (okAll (okF 60 M2) xs) (okQ (okF 60 M2 r.d) (someQ (rmD (fun x => eqF 60 M2 x r.d) xs) fun es => K.nx δ (M2.set n (.lst es))))
theorem rmD_py {M : Mem} {d : D} (a2 : okF 60 M d = true) : ∀ {xs r : List D}, (∀ x ∈ xs, okF 60 M x = true) → rmD (fun x => eqF 60 M x d) xs = some r → ∃ j, (xs.map (pyF 60 M)).findIdx? (fun y => PyData.eqv y (pyF 60 M d)) = some j ∧ r = xs.eraseIdx j := by
  intro xs
  induction xs with
  | nil => intro r _ e; cases e
  | cons x xs ih =>
    intro r hx e
    rw [rmD] at e
    rw [List.map_cons, List.findIdx?_cons, ← eqF_py 60 M x d (hx x List.mem_cons_self) a2]
    cases q : eqF 60 M x d with
    | true => rw [q] at e; cases e; exact ⟨0, rfl, rfl⟩
    | false =>
      rw [q] at e
      cases q2 : rmD (fun x => eqF 60 M x d) xs with
      | none => rw [q2] at e; cases e
      | some r2 =>
        rw [q2] at e
        cases e
        obtain ⟨j, h1, h2⟩ := ih (fun y hy => hx y (List.mem_cons_of_mem _ hy)) q2
        refine ⟨j + 1, ?_, by rw [h2]; rfl⟩
        rw [h1]
        rfl
section
variable {X : Cx} {o e : Expr} {fo f : EV} {pos : Pos} {k : Nat}
theorem q_cRem {apos cpos : Pos} (hr : Room k X.A) (ho : QE X true o fo) (he : QE X true e f) (hs1 : starEach [e] X.env = [(false, eval e X.env)] := by rfl) (hline : (apos.endLine == cpos.line) = true := by rfl) (hbase : attributeBase o "remove" X.env (eval o X.env) = eval o X.env := by rfl)
    (hfew : ((backTo cpos (starEach [e] X.env)).all (fun x => !x.1) && (backToKw cpos (keywordEach [] X.env)).all (fun x => x.1.isSome) && decide ([e].length + ([] : List Keyword).length + (if ([] : List Keyword).isEmpty then 0 else 1) < 30)) = true := by rfl)
    (hs : swapsWith (.Call (.Attribute o "remove" apos) [e] [] cpos) none pos.line X.env = pure false := by rfl) :
    QS X true (.Expr (.Call (.Attribute o "remove" apos) [e] [] cpos) pos) (sCRem fo f) :=
  qs_of (ps_expr (pe_bm PySem.F.plainAttrs_list PySem.F.slot_list_remove PySem.F.type_list_remove (mt_removeD (by have := hr.un; omega)) ho.pe (pa_cons he.pe pa_nil hs1) hbase hfew hline hs1) hs) fun w0 wc w σ δ Kd D S q k => by
    dsimp only [tDrop, tBM, tCons, tNil]
    refine lift_d S.rep (fun d M1 => cellQ d fun n => someQ M1[n]? fun c0 => lstQ c0 fun _ => f δ M1 fun r M2 => someQ M2[n]? fun c => lstQ c fun xs => okQ (okAll (okF 60 M2) xs) (okQ (okF 60 M2 r.d) (someQ (rmD (fun x => eqF 60 M2 x r.d) xs) fun es => Kd.nx δ (M2.set n (.lst es))))) q fun d v w1 q1 g1 z1 => ?_
    obtain ⟨n, rfl, q1⟩ := cellQ_e q1
    obtain ⟨c0, e0, q1⟩ := someQ_e q1
    obtain ⟨ys, e00, q2⟩ := lstQ_e q1
    subst e00
    obtain ⟨a, us, rfl, ha, hH, zs⟩ := cell_lst g1.ok z1 e0
    refine ⟨.inl ⟨rfl, us, .inl (.inl hH)⟩, ?_⟩
    refine lift_d (S.mono g1).rep (fun d M2 => someQ M2[n]? fun c => lstQ c fun xs => okQ (okAll (okF 60 M2) xs) (okQ (okF 60 M2 d) (someQ (rmD (fun x => eqF 60 M2 x d) xs) fun es => Kd.nx δ (M2.set n (.lst es))))) q2 fun d v w2 q2 g2 z2 => ?_
    obtain ⟨c, e1, q3⟩ := someQ_e q2
    obtain ⟨xs, e2, q4⟩ := lstQ_e q3
    subst e2
    obtain ⟨a1, q5⟩ := okQ_e q4
    obtain ⟨a2, q6⟩ := okQ_e q5
    obtain ⟨es, a3, q7⟩ := someQ_e q6
    obtain ⟨a', vs, ea, ha', hH', zs'⟩ := cell_lst g2.ok (g2.dp z1) e1
    cases ea
    have ok1 := okAll_all a1
    obtain ⟨j, b1, b2⟩ := rmD_py a2 ok1 a3
    obtain ⟨c1, c2, c3⟩ := okF_dp g2.ok 60 v d z2 a2
    refine ⟨a, v, vs, xs.map (pyF 60 w2.M), pyF 60 w2.M d, j, rfl, rfl, hH', okAll_of g2.ok zs' ok1, c1, plainAll_of g2.ok zs' ok1, PyData.plain_of_canLay0 _ c2, c3, b1, ?_⟩
    have g3 := Gr.setCell (o' := .lst (vs.eraseIdx j)) (d' := .lst es) g2.ok ha' (cell_nown g2.ok ha') ⟨_, upd_same, by rw [b2]; exact HoD.lst (zs'.eraseIdx j)⟩
    exact k.nx δ σ ⟨w2.C, w2.M.set n (.lst es), w2.P, _⟩ q7 ((S.mono g1).mono (g2.trans g3))
end
end HI

namespace Law
open PySem L2 HI
abbrev S__law_draw : HI.Spec := drawS
def w_common_part_1  : SV := sPar2 2 3 (eV 3) (eFz (eOp modD (eV 2) (eV 3)))
def b_common_part  : SV := sSeq (sPar2 2 3 (eTr (eCallB absD (aCons (eV 0) (aNil)))) (eTr (eCallB absD (aCons (eV 1) (aNil)))))
  (sSeq (sWh (tCmp gtB (eV 3) (eC (.int 0))) (w_common_part_1))
  (sRet (eV 2)))
def S_common_part : HI.Spec := bodyS 4 2 (b_common_part )
def b_lowest (S_common_part : HI.Spec) : SV := sSeq (sAsg 2 (eFz (eCall S_common_part (aCons (eV 0) (aCons (eV 1) (aNil))))))
  (sRet (eTup (aCons (eOp fdivD (eV 0) (eV 2)) (aCons (eOp fdivD (eV 1) (eV 2)) (aNil)))))
def S_lowest : HI.Spec := bodyS 3 2 (b_lowest S_common_part)
def b_middle (S_lowest : HI.Spec) : SV := sRet (eCall S_lowest (aCons (eOp addD (eOp mulD (eOp ixD (eV 0) (eC (.int 0))) (eOp ixD (eV 1) (eC (.int 1)))) (eOp mulD (eOp ixD (eV 1) (eC (.int 0))) (eOp ixD (eV 0) (eC (.int 1))))) (aCons (eOp mulD (eOp mulD (eC (.int 2)) (eOp ixD (eV 0) (eC (.int 1)))) (eOp ixD (eV 1) (eC (.int 1)))) (aNil))))
def S_middle : HI.Spec := bodyS 2 2 (b_middle S_lowest)
def b_is_below  : SV := sRet (eTr (eOp ltH (eOp mulD (eOp ixD (eV 0) (eC (.int 0))) (eOp ixD (eV 1) (eC (.int 1)))) (eOp mulD (eOp ixD (eV 1) (eC (.int 0))) (eOp ixD (eV 0) (eC (.int 1))))))
def S_is_below : HI.Spec := bodyS 2 2 (b_is_below )
def b_position_behind (S_lowest : HI.Spec) (S_middle : HI.Spec) : SV := sSeq (sIf (tAn (tCmp isB (eV 0) (eC .non)) (tCmp isB (eV 1) (eC .non))) (sRet (eTup (aCons (eC (.int 1)) (aCons (eC (.int 1)) (aNil))))) (sSkip))
  (sSeq (sIf (tCmp isB (eV 0) (eC .non)) (sRet (eCall S_lowest (aCons (eOp ixD (eV 1) (eC (.int 0))) (aCons (eOp mulD (eC (.int 2)) (eOp ixD (eV 1) (eC (.int 1)))) (aNil))))) (sSkip))
  (sSeq (sIf (tCmp isB (eV 1) (eC .non)) (sRet (eCall S_lowest (aCons (eOp addD (eOp ixD (eV 0) (eC (.int 0))) (eOp ixD (eV 0) (eC (.int 1)))) (aCons (eOp ixD (eV 0) (eC (.int 1))) (aNil))))) (sSkip))
  (sRet (eIf (tCmp eqB (eV 0) (eV 1)) (eC .non) (eCall S_middle (aCons (eV 0) (aCons (eV 1) (aNil))))))))
def S_position_behind : HI.Spec := bodyS 2 2 (b_position_behind S_lowest S_middle)
def w_ordered_1 (S_common_part : HI.Spec) : SV := sAsg 1 (eFz (eOp mulD (eOp fdivD (eV 1) (eCall S_common_part (aCons (eV 1) (aCons (eOp ixD (eV 2) (eC (.int 1))) (aNil))))) (eOp ixD (eV 2) (eC (.int 1)))))
def b_ordered (S_common_part : HI.Spec) : SV := sSeq (sAsg 1 (eC (.int 1)))
  (sSeq (sFor (iSeq (eV 0)) (.tup [.one 2, .one 3]) (w_ordered_1 S_common_part))
  (sSeq (sAsg 4 (eFz (eLc (iSeq (eV 0)) (.tup [.one 2, .one 5]) tTrue (eTup (aCons (eOp mulD (eOp ixD (eV 2) (eC (.int 0))) (eOp fdivD (eV 1) (eOp ixD (eV 2) (eC (.int 1))))) (aCons (eV 5) (aNil)))) [2, 5])))
  (sRet (eLc (iSeq (eCallB sortedD (aCons (eV 4) (aNil)))) (.tup [.one 3, .one 5]) tTrue (eV 5) [3, 5]))))
def S_ordered : HI.Spec := bodyS 6 1 (b_ordered S_common_part)
def b__law_of (S__law_draw : HI.Spec) : SV := sRet (eOp ixD (eV 1) (eCall S__law_draw (aCons (eV 0) (aCons (eTr (eCallB lenD (aCons (eV 1) (aNil)))) (aNil)))))
def S__law_of : HI.Spec := bodyS 2 2 (b__law_of S__law_draw)
def w__law_mixed_1 (S__law_draw : HI.Spec) : SV := sIns 2 (eCall S__law_draw (aCons (eV 0) (aCons (eOp addD (eTr (eCallB lenD (aCons (eV 2) (aNil)))) (eC (.int 1))) (aNil)))) (eV 3)
def b__law_mixed (S__law_draw : HI.Spec) : SV := sSeq (sAsg 2 (eLst (aNil)))
  (sSeq (sFor (iSeq (eV 1)) (.one 3) (w__law_mixed_1 S__law_draw))
  (sRetO 2))
def S__law_mixed : HI.Spec := bodyS 4 2 (b__law_mixed S__law_draw)
def b__law_same (S__law_same : HI.Spec) : SV := sSeq (sIf (tE (eIsi 6 (eV 1))) (sNever) (sSkip))
  (sSeq (sIf (tE (eIsi2 4 5 (eV 1))) (sSeq (sIf (tO (tCmp neB (eIsi 4 (eV 0)) (eIsi 4 (eV 1))) (tCmp neB (eIsi 5 (eV 0)) (eIsi 5 (eV 1)))) (sRet (eC (.bl false))) (sSkip))
  (sRet (eAnd (eTr (eOp eqB (eTr (eCallB lenD (aCons (eV 0) (aNil)))) (eTr (eCallB lenD (aCons (eV 1) (aNil)))))) (eTr (eCallB allD (aCons (eLc (iZp (eV 0) (eV 1)) (.tup [.one 3, .one 4]) tTrue (eTr (eCall S__law_same (aCons (eV 3) (aCons (eV 4) (aNil))))) [3, 4]) (aNil))))))) (sSkip))
  (sSeq (sIf (tO (tCmp isB (eV 1) (eC .non)) (tCmp isB (eV 0) (eC .non))) (sRet (eAnd (eTr (eOp isB (eV 1) (eC .non))) (eTr (eOp isB (eV 0) (eC .non))))) (sSkip))
  (sSeq (sIf (tO (tCmp neB (eIsi 1 (eV 0)) (eIsi 1 (eV 1))) (tCmp neB (eIsi 2 (eV 0)) (eIsi 2 (eV 1)))) (sRet (eC (.bl false))) (sSkip))
  (sRet (eAnd (eTr (eOp eqB (eIsi 3 (eV 0)) (eIsi 3 (eV 1)))) (eTr (eOp eqB (eV 0) (eV 1))))))))
def Sr__law_same : Nat → HI.Spec
  | 0 => fun _ _ _ => False
  | n + 1 => bodyS 5 2 (b__law_same (Sr__law_same n))
abbrev S__law_same : HI.Spec := Sr__law_same 8
def w__law_divisor_1  : SV := sPar2 0 1 (eV 1) (eFz (eOp modD (eTr (eCallB intD (aCons (eV 0) (aNil)))) (eV 1)))
def b__law_divisor  : SV := sSeq (sWh (tCmp gtB (eV 1) (eC (.int 0))) (w__law_divisor_1))
  (sRet (eV 0))
def S__law_divisor : HI.Spec := bodyS 2 2 (b__law_divisor )
def b__law_low (S__law_divisor : HI.Spec) : SV := sSeq (sAsg 2 (eFz (eCall S__law_divisor (aCons (eV 0) (aCons (eV 1) (aNil))))))
  (sRet (eTup (aCons (eOp fdivD (eV 0) (eV 2)) (aCons (eOp fdivD (eV 1) (eV 2)) (aNil)))))
def S__law_low : HI.Spec := bodyS 3 2 (b__law_low S__law_divisor)
def b__law_position (S__law_low : HI.Spec) (S__law_draw : HI.Spec) (S__law_of : HI.Spec) : SV := sRet (eCall S__law_low (aCons (eOp addD (eC (.int 1)) (eCall S__law_draw (aCons (eV 0) (aCons (eCall S__law_of (aCons (eV 0) (aCons (eLst (aCons (eC (.int 3)) (aCons (eC (.int 9)) (aCons (eC (.int 200)) (aNil))))) (aNil)))) (aNil))))) (aCons (eOp shlD (eC (.int 1)) (eCall S__law_of (aCons (eV 0) (aCons (eLst (aCons (eC (.int 0)) (aCons (eC (.int 0)) (aCons (eC (.int 1)) (aCons (eC (.int 2)) (aCons (eC (.int 5)) (aCons (eC (.int 20)) (aNil)))))))) (aNil))))) (aNil))))
def S__law_position : HI.Spec := bodyS 1 1 (b__law_position S__law_low S__law_draw S__law_of)
def b__law_less  : SV := sRet (eTr (eOp ltH (eOp mulD (eOp ixD (eV 0) (eC (.int 0))) (eOp ixD (eV 1) (eC (.int 1)))) (eOp mulD (eOp ixD (eV 1) (eC (.int 0))) (eOp ixD (eV 0) (eC (.int 1))))))
def S__law_less : HI.Spec := bodyS 2 2 (b__law_less )
def w_law_1 (S__law_less : HI.Spec) : SV := sIf (tO (tE (eCall S__law_less (aCons (eOp ixD (eV 17) (eC (.int 0))) (aCons (eOp ixD (eV 16) (eC (.int 0))) (aNil))))) (tAn (tCmp eqB (eOp ixD (eV 17) (eC (.int 0))) (eOp ixD (eV 16) (eC (.int 0)))) (tCmp ltH (eOp ixD (eV 17) (eC (.int 1))) (eOp ixD (eV 16) (eC (.int 1)))))) (sAsg 16 (eV 17)) (sSkip)
def w_law_2 (S__law_less : HI.Spec) : SV := sSeq (sAsg 16 (eFz (eOp ixD (eV 14) (eC (.int 0)))))
  (sSeq (sFor (iSeq (eV 14)) (.one 17) (w_law_1 S__law_less))
  (sSeq (sApp 9 (eOp ixD (eV 16) (eC (.int 1))))
  (sCRem (eV 14) (eV 16))))
def w_law_3 (S__law_draw : HI.Spec) (S__law_of : HI.Spec) (S__law_position : HI.Spec) (S__law_mixed : HI.Spec) (S__law_less : HI.Spec) (S__law_same : HI.Spec) (S_ordered : HI.Spec) : SV := sSeq (sAsg 12 (eFz (eLc (iRg1 (eCall S__law_draw (aCons (eV 1) (aCons (eC (.int 8)) (aNil))))) (.one 15) tTrue (eTup (aCons (eCall S__law_of (aCons (eV 1) (aCons (eLst (aCons (eV 10) (aCons (eV 11) (aCons (eV 3) (aCons (eCall S__law_position (aCons (eV 1) (aNil))) (aNil)))))) (aNil)))) (aCons (eTup (aCons (eCall S__law_of (aCons (eV 1) (aCons (eLst (aCons (eC (.str [])) (aCons (eC (.str [97, 110, 110])) (aCons (eC (.str [98])) (aNil))))) (aNil)))) (aCons (eV 15) (aNil)))) (aNil)))) [15])))
  (sSeq (sAsg 12 (eFz (eCall S__law_mixed (aCons (eV 1) (aCons (eV 12) (aNil))))))
  (sSeq (sPar3 13 14 9 (eFz (eCallB listD (aCons (eV 12) (aNil)))) (eCell (eCallB listD (aCons (eV 12) (aNil)))) (eLst (aNil)))
  (sSeq (sFor (iRg1 (eTr (eCallB lenD (aCons (eV 12) (aNil))))) (.one 15) (w_law_2 S__law_less))
  (sIf (tO (tNt (tE (eTr (eCall S__law_same (aCons (eLst (aCons (eCall S_ordered (aCons (eV 12) (aNil))) (aCons (eCallK 0 1 [0] S_ordered aNil (aCons (eCallB tupleD (aCons (eV 12) (aNil))) (aNil))) (aNil)))) (aCons (eLst (aCons (eV 9) (aCons (eV 9) (aNil)))) (aNil))))))) (tCmp neB (eV 12) (eV 13))) (sRet (eC (.bl false))) (sSkip)))))
def w_law_4 (S__law_same : HI.Spec) (S_is_below : HI.Spec) (S__law_draw : HI.Spec) (S__law_of : HI.Spec) (S__law_position : HI.Spec) (S__law_mixed : HI.Spec) (S__law_less : HI.Spec) (S_ordered : HI.Spec) : SV := sSeq (sIf (tNt (tE (eTr (eCall S__law_same (aCons (eV 8) (aCons (eV 9) (aNil))))))) (sRet (eC (.bl false))) (sSkip))
  (sSeq (sIf (tAn (tCmp neB (eV 10) (eV 11)) (tO (tNt (tE (eCall S_is_below (aCons (eV 10) (aCons (eOp ixD (eV 8) (eC (.int 0))) (aNil)))))) (tO (tNt (tE (eCall S_is_below (aCons (eOp ixD (eV 8) (eC (.int 0))) (aCons (eV 11) (aNil)))))) (tE (eCall S_is_below (aCons (eV 10) (aCons (eV 10) (aNil)))))))) (sRet (eC (.bl false))) (sSkip))
  (w_law_3 S__law_draw S__law_of S__law_position S__law_mixed S__law_less S__law_same S_ordered))
def w_law_5 (S_position_behind : HI.Spec) (S__law_low : HI.Spec) (S__law_same : HI.Spec) (S_is_below : HI.Spec) (S__law_draw : HI.Spec) (S__law_of : HI.Spec) (S__law_position : HI.Spec) (S__law_mixed : HI.Spec) (S__law_less : HI.Spec) (S_ordered : HI.Spec) : SV := sSeq (sAsg 8 (eFz (eLst (aCons (eCall S_position_behind (aCons (eV 10) (aCons (eV 11) (aNil)))) (aCons (eCall S_position_behind (aCons (eC .non) (aCons (eV 11) (aNil)))) (aCons (eCallK 0 2 [1, 0] S_position_behind aNil (aCons (eC .non) (aCons (eV 10) (aNil)))) (aCons (eCall S_position_behind (aCons (eC .non) (aCons (eC .non) (aNil)))) (aNil))))))))
  (sSeq (sAsg 9 (eLst (aCons (eIf (tCmp eqB (eV 10) (eV 11)) (eC .non) (eV 7)) (aCons (eCall S__law_low (aCons (eOp ixD (eV 11) (eC (.int 0))) (aCons (eOp mulD (eC (.int 2)) (eOp ixD (eV 11) (eC (.int 1)))) (aNil)))) (aCons (eTup (aCons (eOp addD (eOp ixD (eV 10) (eC (.int 0))) (eOp ixD (eV 10) (eC (.int 1)))) (aCons (eOp ixD (eV 10) (eC (.int 1))) (aNil)))) (aCons (eTup (aCons (eC (.int 1)) (aCons (eC (.int 1)) (aNil)))) (aNil)))))))
  (w_law_4 S__law_same S_is_below S__law_draw S__law_of S__law_position S__law_mixed S__law_less S_ordered))
def w_law_6 (S__law_position : HI.Spec) (S__law_of : HI.Spec) (S__law_draw : HI.Spec) (S__law_low : HI.Spec) (S_lowest : HI.Spec) (S_middle : HI.Spec) (S_is_below : HI.Spec) (S__law_less : HI.Spec) (S__law_same : HI.Spec) (S_position_behind : HI.Spec) (S__law_mixed : HI.Spec) (S_ordered : HI.Spec) : SV := sSeq (sPar2 3 4 (eFz (eCall S__law_position (aCons (eV 1) (aNil)))) (eFz (eCall S__law_position (aCons (eV 1) (aNil)))))
  (sSeq (sAsg 4 (eFz (eCall S__law_of (aCons (eV 1) (aCons (eLst (aCons (eV 4) (aCons (eV 3) (aCons (eTup (aCons (eOp addD (eOp ixD (eV 3) (eC (.int 0))) (eOp ixD (eV 3) (eC (.int 1)))) (aCons (eOp ixD (eV 3) (eC (.int 1))) (aNil)))) (aCons (eV 4) (aNil)))))) (aNil))))))
  (sSeq (sPar2 5 6 (eFz (eOp addD (eC (.int 1)) (eCall S__law_draw (aCons (eV 1) (aCons (eOp powD (eC (.int 10)) (eC (.int 6))) (aNil)))))) (eFz (eOp addD (eC (.int 1)) (eCall S__law_draw (aCons (eV 1) (aCons (eOp powD (eC (.int 10)) (eC (.int 4))) (aNil)))))))
  (sSeq (sAsg 7 (eFz (eCall S__law_low (aCons (eOp addD (eOp mulD (eOp ixD (eV 3) (eC (.int 0))) (eOp ixD (eV 4) (eC (.int 1)))) (eOp mulD (eOp ixD (eV 4) (eC (.int 0))) (eOp ixD (eV 3) (eC (.int 1))))) (aCons (eOp mulD (eOp mulD (eC (.int 2)) (eOp ixD (eV 3) (eC (.int 1)))) (eOp ixD (eV 4) (eC (.int 1)))) (aNil))))))
  (sSeq (sAsg 8 (eFz (eLst (aCons (eCall S_lowest (aCons (eV 5) (aCons (eV 6) (aNil)))) (aCons (eCallK 0 2 [1, 0] S_lowest aNil (aCons (eV 6) (aCons (eOp mulD (eV 5) (eC (.int 6))) (aNil)))) (aCons (eCall S_middle (aCons (eV 3) (aCons (eV 4) (aNil)))) (aCons (eCallK 0 2 [1, 0] S_middle aNil (aCons (eV 3) (aCons (eV 4) (aNil)))) (aCons (eCall S_is_below (aCons (eV 3) (aCons (eV 4) (aNil)))) (aCons (eCallK 0 2 [1, 0] S_is_below aNil (aCons (eV 3) (aCons (eV 4) (aNil)))) (aNil))))))))))
  (sSeq (sAsg 9 (eLst (aCons (eCall S__law_low (aCons (eV 5) (aCons (eV 6) (aNil)))) (aCons (eCall S__law_low (aCons (eOp mulD (eV 5) (eC (.int 6))) (aCons (eV 6) (aNil)))) (aCons (eV 7) (aCons (eV 7) (aCons (eCall S__law_less (aCons (eV 3) (aCons (eV 4) (aNil)))) (aCons (eCall S__law_less (aCons (eV 4) (aCons (eV 3) (aNil)))) (aNil)))))))))
  (sSeq (sIf (tNt (tE (eTr (eCall S__law_same (aCons (eV 8) (aCons (eV 9) (aNil))))))) (sRet (eC (.bl false))) (sSkip))
  (sSeq (sAsgT (.tup [.one 10, .one 11]) (eIf (tE (eCall S__law_less (aCons (eV 3) (aCons (eV 4) (aNil))))) (eTup (aCons (eV 3) (aCons (eV 4) (aNil)))) (eTup (aCons (eV 4) (aCons (eV 3) (aNil))))))
  (w_law_5 S_position_behind S__law_low S__law_same S_is_below S__law_draw S__law_of S__law_position S__law_mixed S__law_less S_ordered))))))))
def w_law_7 (S_position_behind : HI.Spec) (S_middle : HI.Spec) : SV := sSeq (sAsg 18 (eFz (eIf (tCmp eqB (eOp modD (eV 15) (eC (.int 2))) (eC (.int 0))) (eCall S_position_behind (aCons (eC .non) (aCons (eV 18) (aNil)))) (eCall S_middle (aCons (eV 18) (aCons (eTup (aCons (eC (.int 1)) (aCons (eC (.int 1)) (aNil)))) (aNil)))))))
  (sApp 19 (eTup (aCons (eV 18) (aCons (eTup (aCons (eC (.str [])) (aCons (eV 15) (aNil)))) (aNil)))))
def b_law (S__law_of : HI.Spec) (S__law_low : HI.Spec) (S__law_mixed : HI.Spec) (S__law_same : HI.Spec) (S__law_position : HI.Spec) (S_lowest : HI.Spec) (S_middle : HI.Spec) (S_is_below : HI.Spec) (S__law_less : HI.Spec) (S_position_behind : HI.Spec) (S__law_draw : HI.Spec) (S_ordered : HI.Spec) : SV := sSeq (sFor (iRg1 (eC (.int 8))) (.one 2) (w_law_6 S__law_position S__law_of S__law_draw S__law_low S_lowest S_middle S_is_below S__law_less S__law_same S_position_behind S__law_mixed S_ordered))
  (sSeq (sPar2 18 19 (eTup (aCons (eC (.int 1)) (aCons (eC (.int 1)) (aNil)))) (eLst (aNil)))
  (sSeq (sFor (iRg1 (eOp addD (eC (.int 20)) (eCall S__law_draw (aCons (eV 1) (aCons (eC (.int 30)) (aNil)))))) (.one 15) (w_law_7 S_position_behind S_middle))
  (sFrz 19 (sRet (eAnd (eTr (eCall S__law_same (aCons (eCallB sortedD (aCons (eCall S_ordered (aCons (eV 19) (aNil))) (aNil))) (aCons (eLc (iRg1 (eTr (eCallB lenD (aCons (eV 19) (aNil))))) (.one 15) tTrue (eTup (aCons (eC (.str [])) (aCons (eV 15) (aNil)))) [15]) (aNil))))) (eTr (eCall S__law_same (aCons (eCall S_ordered (aCons (eLst (aNil)) (aNil))) (aCons (eLst (aNil)) (aNil))))))))))
end Law

namespace Law
open PySem L2 HI
theorem IF_t {b : Bool} {p q : Prop} (h : b = true) (k : p) : IF b p q := by subst h; exact k
theorem IF_f {b : Bool} {p q : Prop} (h : b = false) (k : q) : IF b p q := by subst h; exact k
theorem IF_c {b : Bool} {p q : Prop} (h1 : b = true → p) (h2 : b = false → q) : IF b p q := by
  cases b with
  | true => exact h1 rfl
  | false => exact h2 rfl
theorem nx_int {i j : Int} {P : Int → Prop} (e : i = j) (h : P i) : P j := by subst e; exact h
/-! ### the greatest common divisor -/
theorem cp_wh (K : KD) (x0 x1 : D) (M : Mem) : ∀ (f a b : Nat), b < f → K.nx [.val x0, .val x1, .val (.int (Nat.gcd a b : Nat)), .val (.int 0)] M → whN (tCmp gtB (eV 3) (eC (.int 0))) w_common_part_1 K f [.val x0, .val x1, .val (.int a), .val (.int b)] M
  | 0, a, b, h, _ => absurd h (Nat.not_lt_zero _)
  | f + 1, a, 0, h, k => by
    conv => whnf
    rw [Nat.gcd_zero_right] at k
    exact k
  | f + 1, a, b + 1, h, k => by
    conv => whnf
    refine IF_t (decide_eq_true (by omega)) ?_
    conv => whnf
    refine ⟨by omega, ?_⟩
    refine nx_int (P := fun i => whN _ w_common_part_1 K f [.val x0, .val x1, .val (.int ((b + 1 : Nat) : Int)), .val (.int i)] M) (Int.natCast_emod a (b + 1)) (cp_wh K x0 x1 M f (b + 1) (a % (b + 1)) ?_ ?_)
    · have := Nat.mod_lt a (show b + 1 > 0 by omega); omega
    · rw [Nat.gcd_comm, ← Nat.gcd_rec, Nat.gcd_comm]; exact k
theorem common_part_ok (a b : Nat) {M : Mem} {Q : Rz → Mem → Prop} (k : Q (.val (.int (Nat.gcd a b : Nat))) M) : S_common_part [.int a, .int b] M Q := by
  unfold S_common_part b_common_part
  conv => whnf
  exact ⟨b + 1, cp_wh _ _ _ _ (b + 1) a b (Nat.lt_succ_self b) k⟩
theorem dv_wh (K : KD) (M : Mem) : ∀ (f a b : Nat), b < f → K.nx [.val (.int (Nat.gcd a b : Nat)), .val (.int 0)] M → whN (tCmp gtB (eV 1) (eC (.int 0))) w__law_divisor_1 K f [.val (.int a), .val (.int b)] M
  | 0, a, b, h, _ => absurd h (Nat.not_lt_zero _)
  | f + 1, a, 0, h, k => by
    conv => whnf
    rw [Nat.gcd_zero_right] at k
    exact k
  | f + 1, a, b + 1, h, k => by
    conv => whnf
    refine IF_t (decide_eq_true (by omega)) ?_
    conv => whnf
    refine ⟨by omega, ?_⟩
    refine nx_int (P := fun i => whN _ w__law_divisor_1 K f [.val (.int ((b + 1 : Nat) : Int)), .val (.int i)] M) (Int.natCast_emod a (b + 1)) (dv_wh K M f (b + 1) (a % (b + 1)) ?_ ?_)
    · have := Nat.mod_lt a (show b + 1 > 0 by omega); omega
    · rw [Nat.gcd_comm, ← Nat.gcd_rec, Nat.gcd_comm]; exact k
theorem divisor_ok (a b : Nat) {M : Mem} {Q : Rz → Mem → Prop} (k : Q (.val (.int (Nat.gcd a b : Nat))) M) : S__law_divisor [.int a, .int b] M Q := by
  unfold S__law_divisor b__law_divisor
  conv => whnf
  exact ⟨b + 1, dv_wh _ _ (b + 1) a b (Nat.lt_succ_self b) k⟩
end Law

namespace Law
open PySem L2 HI
/-! ### positions -/
abbrev Po := Nat × Nat
def pD (p : Po) : D := .tup [.int (p.1 : Nat), .int (p.2 : Nat)]
def low (a b : Nat) : Po := (a / Nat.gcd a b, b / Nat.gcd a b)
def less (p q : Po) : Bool := decide (p.1 * q.2 < q.1 * p.2)
def mid (p q : Po) : Po := low (p.1 * q.2 + q.1 * p.2) (2 * p.2 * q.2)
theorem lg {a : Nat} (h : a < 2 ^ 250) : a.log2 < 250 := PySem.Flt.log2_lt_of (by decide) h
theorem mulK {a b : Nat} (ha : a < 2 ^ 250) (hb : b < 2 ^ 250) : CMul (a : Int) (b : Int) ∨ CMulW (a : Int) (b : Int) := .inr (by
  show (a : Int).natAbs.log2 + (b : Int).natAbs.log2 < 1000000
  have h1 := lg ha
  have h2 := lg hb
  rw [Int.natAbs_natCast, Int.natAbs_natCast]
  clear ha hb
  omega)
theorem divK {a : Int} {b : Nat} (h : 0 < b) (hb : b < 2 ^ 250) : CDivW a (b : Int) := ⟨by clear hb; omega, by
  have h1 := lg hb
  rw [Int.natAbs_natCast]
  clear hb
  omega⟩
theorem val_to {d e : D} {M : Mem} {Q : Rz → Mem → Prop} (h : d = e) (k : Q (.val e) M) : Q (.val d) M := by subst h; exact k
theorem gcd_lt {a b : Nat} (h : 0 < b) (hb : b < 2 ^ 250) : 0 < Nat.gcd a b ∧ Nat.gcd a b < 2 ^ 250 := ⟨Nat.gcd_pos_of_pos_right a h, Nat.lt_of_le_of_lt (Nat.gcd_le_right a h) hb⟩
theorem pw_mul {a b m n : Nat} (h : a < 2 ^ m) (k : b < 2 ^ n) : a * b < 2 ^ (m + n) := by
  rw [Nat.pow_add]
  exact Nat.mul_lt_mul'' h k
theorem pw_add {a b m : Nat} (h : a < 2 ^ m) (k : b < 2 ^ m) : a + b < 2 ^ (m + 1) := by
  rw [Nat.pow_succ]
  omega
theorem pw_le {a m n : Nat} (h : a < 2 ^ m) (k : m ≤ n) : a < 2 ^ n := Nat.lt_of_lt_of_le h (Nat.pow_le_pow_right (by decide) k)
theorem two_lt {m : Nat} (h : 2 ≤ m) : 2 < 2 ^ m := pw_le (m := 2) (by decide) h
section
variable {S S2 : HI.Spec} {M : Mem} {Q : Rz → Mem → Prop}
theorem lowest_ok' (hS : ∀ (a b : Nat) {M : Mem} {Q : Rz → Mem → Prop}, Q (.val (.int (Nat.gcd a b : Nat))) M → S [.int a, .int b] M Q) (a b : Nat) (h : 0 < b) (hb : b < 2 ^ 250) (k : Q (.val (pD (low a b))) M) : bodyS 3 2 (b_lowest S) [.int a, .int b] M Q := by
  obtain ⟨g0, g1⟩ := gcd_lt (a := a) h hb
  conv => whnf
  refine hS a b ?_
  conv => whnf
  refine ⟨divK g0 g1, ?_⟩
  conv => whnf
  refine ⟨divK g0 g1, ?_⟩
  conv => whnf
  exact k
theorem lowest_ok (a b : Nat) (h : 0 < b) (hb : b < 2 ^ 250) {M : Mem} {Q : Rz → Mem → Prop} (k : Q (.val (pD (low a b))) M) : S_lowest [.int a, .int b] M Q := lowest_ok' (fun a b => common_part_ok a b) a b h hb k
theorem llow_ok' (hS : ∀ (a b : Nat) {M : Mem} {Q : Rz → Mem → Prop}, Q (.val (.int (Nat.gcd a b : Nat))) M → S [.int a, .int b] M Q) (a b : Nat) (h : 0 < b) (hb : b < 2 ^ 250) (k : Q (.val (pD (low a b))) M) : bodyS 3 2 (b__law_low S) [.int a, .int b] M Q := by
  obtain ⟨g0, g1⟩ := gcd_lt (a := a) h hb
  conv => whnf
  refine hS a b ?_
  conv => whnf
  refine ⟨divK g0 g1, ?_⟩
  conv => whnf
  refine ⟨divK g0 g1, ?_⟩
  conv => whnf
  exact k
theorem llow_ok (a b : Nat) (h : 0 < b) (hb : b < 2 ^ 250) {M : Mem} {Q : Rz → Mem → Prop} (k : Q (.val (pD (low a b))) M) : S__law_low [.int a, .int b] M Q := llow_ok' (fun a b => divisor_ok a b) a b h hb k
/-- a position whose numbers are not too great -/
structure Sm (p : Po) : Prop where
  a : p.1 < 2 ^ 100
  b : p.2 < 2 ^ 100
  pos : 0 < p.2
theorem big {n : Nat} (h : n < 2 ^ 100) : n < 2 ^ 250 := pw_le h (by decide)
theorem Sm.d2 {p : Po} (hp : Sm p) : 2 * p.2 < 2 ^ 250 := pw_le (pw_mul (two_lt (m := 2) (Nat.le_refl _)) hp.b) (by decide)
theorem Sm.den {p q : Po} (hp : Sm p) (hq : Sm q) : 0 < 2 * p.2 * q.2 ∧ 2 * p.2 * q.2 < 2 ^ 250 :=
  ⟨Nat.mul_pos (Nat.mul_pos (by decide) hp.pos) hq.pos, pw_le (pw_mul (pw_mul (two_lt (m := 2) (Nat.le_refl _)) hp.b) hq.b) (by decide)⟩
theorem middle_ok' (hS : ∀ (a b : Nat), 0 < b → b < 2 ^ 250 → ∀ {M : Mem} {Q : Rz → Mem → Prop}, Q (.val (pD (low a b))) M → S [.int a, .int b] M Q) (p q : Po) (hp : Sm p) (hq : Sm q) (k : Q (.val (pD (mid p q))) M) : bodyS 2 2 (b_middle S) [pD p, pD q] M Q := by
  conv => whnf
  refine ⟨mulK (big hp.a) (big hq.b), ?_⟩
  conv => whnf
  refine ⟨mulK (big hq.a) (big hp.b), ?_⟩
  conv => whnf
  refine ⟨mulK (a := 2) (two_lt (by decide)) (big hp.b), ?_⟩
  conv => whnf
  refine ⟨mulK (a := 2 * p.2) hp.d2 (big hq.b), ?_⟩
  conv => whnf
  exact hS (p.1 * q.2 + q.1 * p.2) (2 * p.2 * q.2) (hp.den hq).1 (hp.den hq).2 k
theorem middle_ok (p q : Po) (hp : Sm p) (hq : Sm q) {M : Mem} {Q : Rz → Mem → Prop} (k : Q (.val (pD (mid p q))) M) : S_middle [pD p, pD q] M Q := middle_ok' (fun a b h1 h2 => lowest_ok a b h1 h2) p q hp hq k
theorem less_int (p q : Po) : decide ((p.1 : Int) * (q.2 : Int) < (q.1 : Int) * (p.2 : Int)) = less p q := by
  unfold less
  rw [decide_eq_decide, ← Int.natCast_mul, ← Int.natCast_mul]
  exact Int.ofNat_lt
theorem is_below_ok (p q : Po) (hp : Sm p) (hq : Sm q) {M : Mem} {Q : Rz → Mem → Prop} (k : Q (.val (.bl (less p q))) M) : S_is_below [pD p, pD q] M Q := by
  unfold S_is_below
  conv => whnf
  refine ⟨mulK (big hp.a) (big hq.b), ?_⟩
  conv => whnf
  refine ⟨mulK (big hq.a) (big hp.b), ?_⟩
  conv => whnf
  refine val_to ?_ k
  rw [← less_int]
  rfl
theorem less_ok (p q : Po) (hp : Sm p) (hq : Sm q) {M : Mem} {Q : Rz → Mem → Prop} (k : Q (.val (.bl (less p q))) M) : S__law_less [pD p, pD q] M Q := by
  unfold S__law_less
  conv => whnf
  refine ⟨mulK (big hp.a) (big hq.b), ?_⟩
  conv => whnf
  refine ⟨mulK (big hq.a) (big hp.b), ?_⟩
  conv => whnf
  refine val_to ?_ k
  rw [← less_int]
  rfl
end
end Law

namespace Law
open PySem L2 HI
theorem okF_p (p : Po) (M : Mem) : okF 60 M (pD p) = true := rfl
theorem beq_cast (a b : Nat) : ((a : Int) == (b : Int)) = decide (a = b) := by
  rw [Bool.eq_iff_iff, beq_iff_eq, decide_eq_true_eq]
  omega
theorem eqF_p (p q : Po) (M : Mem) : eqF 60 M (pD p) (pD q) = decide (p = q) := by
  show (match ((p.1 : Int) == (q.1 : Int)) with | true => (match ((p.2 : Int) == (q.2 : Int)) with | true => true | false => false) | false => false) = _
  rw [beq_cast, beq_cast]
  obtain ⟨a, b⟩ := p
  obtain ⟨c, d⟩ := q
  by_cases h1 : a = c
  · by_cases h2 : b = d
    · subst h1 h2; simp
    · rw [decide_eq_true h1, decide_eq_false h2, decide_eq_false (fun z => h2 (congrArg Prod.snd z))]
  · rw [decide_eq_false h1, decide_eq_false (fun z => h1 (congrArg Prod.fst z))]
section
variable {S S2 : HI.Spec} {M : Mem} {Q : Rz → Mem → Prop}
theorem pb_nn' (k : Q (.val (pD (1, 1))) M) : bodyS 2 2 (b_position_behind S S2) [.non, .non] M Q := by
  conv => whnf
  exact k
theorem pb_n' (hS : ∀ (a b : Nat), 0 < b → b < 2 ^ 250 → ∀ {M : Mem} {Q : Rz → Mem → Prop}, Q (.val (pD (low a b))) M → S [.int a, .int b] M Q) (p : Po) (hp : Sm p) (k : Q (.val (pD (low p.1 (2 * p.2)))) M) : bodyS 2 2 (b_position_behind S S2) [.non, pD p] M Q := by
  conv => whnf
  refine ⟨mulK (a := 2) (two_lt (by decide)) (big hp.b), ?_⟩
  conv => whnf
  exact hS p.1 (2 * p.2) (Nat.mul_pos (by decide) hp.pos) hp.d2 k
theorem pb_p' (hS : ∀ (a b : Nat), 0 < b → b < 2 ^ 250 → ∀ {M : Mem} {Q : Rz → Mem → Prop}, Q (.val (pD (low a b))) M → S [.int a, .int b] M Q) (p : Po) (hp : Sm p) (k : Q (.val (pD (low (p.1 + p.2) p.2))) M) : bodyS 2 2 (b_position_behind S S2) [pD p, .non] M Q := by
  conv => whnf
  exact hS (p.1 + p.2) p.2 hp.pos (big hp.b) k
theorem pb_pp' (hS : ∀ (p q : Po), Sm p → Sm q → ∀ {M : Mem} {Q : Rz → Mem → Prop}, Q (.val (pD (mid p q))) M → S2 [pD p, pD q] M Q) (p q : Po) (hp : Sm p) (hq : Sm q) (k1 : p = q → Q (.val .non) M) (k2 : p ≠ q → Q (.val (pD (mid p q))) M) : bodyS 2 2 (b_position_behind S S2) [pD p, pD q] M Q := by
  conv => whnf
  refine IF_c (fun h => ?_) (fun h => ?_)
  · have h : eqF 60 M (pD p) (pD q) = true := h
    rw [eqF_p] at h
    conv => whnf
    exact k1 (of_decide_eq_true h)
  · have h : eqF 60 M (pD p) (pD q) = false := h
    rw [eqF_p] at h
    conv => whnf
    exact hS p q hp hq (k2 (of_decide_eq_false h))
theorem pb_nn (k : Q (.val (pD (1, 1))) M) : S_position_behind [.non, .non] M Q := pb_nn' k
theorem pb_n (p : Po) (hp : Sm p) (k : Q (.val (pD (low p.1 (2 * p.2)))) M) : S_position_behind [.non, pD p] M Q := pb_n' (fun a b h1 h2 => lowest_ok a b h1 h2) p hp k
theorem pb_p (p : Po) (hp : Sm p) (k : Q (.val (pD (low (p.1 + p.2) p.2))) M) : S_position_behind [pD p, .non] M Q := pb_p' (fun a b h1 h2 => lowest_ok a b h1 h2) p hp k
theorem pb_pp (p q : Po) (hp : Sm p) (hq : Sm q) (k1 : p = q → Q (.val .non) M) (k2 : p ≠ q → Q (.val (pD (mid p q))) M) : S_position_behind [pD p, pD q] M Q := pb_pp' (fun p q hp hq => middle_ok p q hp hq) p q hp hq k1 k2
/-! ### draws -/
theorem draw_ok {b : Addr} {n : Nat} (h0 : 0 < n) (h1 : n < 1000000000) (k : ∀ j : Nat, j < n → Q (.val (.int j)) (.bag b :: M)) : drawS [.cell 0, .int n] (.bag b :: M) Q := by
  refine ⟨by omega, by omega, fun j j0 j1 => ?_⟩
  obtain ⟨i, rfl⟩ := Int.eq_ofNat_of_zero_le j0
  exact k i (by omega)
abbrev DrawS (b : Addr) (S : HI.Spec) : Prop := ∀ {n : Nat} {M : Mem} {Q : Rz → Mem → Prop}, 0 < n → n < 1000000000 → (∀ j : Nat, j < n → Q (.val (.int j)) (.bag b :: M)) → S [.cell 0, .int n] (.bag b :: M) Q
theorem of_ok' {b : Addr} (hS : DrawS b S) {ds : List D} (h0 : 0 < ds.length) (h1 : ds.length < 1000000) (k : ∀ d ∈ ds, Q (.val d) (.bag b :: M)) : bodyS 2 2 (b__law_of S) [.cell 0, .lst ds] (.bag b :: M) Q := by
  conv => whnf
  refine hS h0 (by omega) fun j hj => ?_
  conv => whnf
  rw [show nthI ds (j : Int) = some ds[j] from List.getElem?_eq_getElem hj]
  exact k _ (List.getElem_mem hj)
theorem of_ok {b : Addr} {ds : List D} (h0 : 0 < ds.length) (h1 : ds.length < 1000000) (k : ∀ d ∈ ds, Q (.val d) (.bag b :: M)) : S__law_of [.cell 0, .lst ds] (.bag b :: M) Q := of_ok' (fun h0 h1 k => draw_ok h0 h1 k) h0 h1 k
/-- a drawn position: lowest terms, a power of two below -/
structure Good (p : Po) : Prop where
  co : Nat.gcd p.1 p.2 = 1
  a : p.1 < 2 ^ 30
  pw : ∃ j, j ≤ 20 ∧ p.2 = 2 ^ j
  pos : 0 < p.1
theorem Good.sm {p : Po} (h : Good p) : Sm p := by
  obtain ⟨j, h1, h2⟩ := h.pw
  exact ⟨pw_le h.a (by decide), by rw [h2]; exact Nat.pow_lt_pow_right (by decide) (by omega), by rw [h2]; exact Nat.pow_pos (by decide)⟩
theorem low_co {a b : Nat} (h : 0 < b) : Nat.gcd (low a b).1 (low a b).2 = 1 := Nat.coprime_div_gcd_div_gcd (Nat.gcd_pos_of_pos_right a h)
theorem pow_dvd : ∀ {j m : Nat}, m ∣ 2 ^ j → ∃ i, i ≤ j ∧ m = 2 ^ i
  | 0, m, h => ⟨0, Nat.le_refl _, Nat.eq_one_of_dvd_one h⟩
  | j + 1, m, h => by
    rw [Nat.pow_succ, Nat.mul_comm] at h
    by_cases e : m % 2 = 1
    · have co : Nat.Coprime m 2 := by
        show Nat.gcd m 2 = 1
        rw [Nat.gcd_comm, Nat.gcd_rec, e]
        rfl
      obtain ⟨i, h1, h2⟩ := pow_dvd (co.dvd_of_dvd_mul_left h)
      exact ⟨i, by omega, h2⟩
    · obtain ⟨q, rfl⟩ : ∃ q, m = 2 * q := ⟨m / 2, by omega⟩
      obtain ⟨i, h1, h2⟩ := pow_dvd (Nat.dvd_of_mul_dvd_mul_left (by decide) h)
      exact ⟨i + 1, by omega, by rw [h2, Nat.pow_succ, Nat.mul_comm]⟩
theorem low_dvd (a b : Nat) : (low a b).2 ∣ b := Nat.div_dvd_of_dvd (Nat.gcd_dvd_right a b)
theorem good_low {a j : Nat} (h0 : 0 < a) (h1 : a < 2 ^ 30) (h2 : j ≤ 20) : Good (low a (2 ^ j)) := by
  have hp : 0 < 2 ^ j := Nat.pow_pos (by decide)
  obtain ⟨i, i1, i2⟩ := pow_dvd (low_dvd a (2 ^ j))
  refine ⟨low_co hp, Nat.lt_of_le_of_lt (Nat.div_le_self _ _) h1, ⟨i, by omega, i2⟩, ?_⟩
  exact Nat.div_pos (Nat.gcd_le_left _ h0) (Nat.gcd_pos_of_pos_left _ h0)
theorem position_ok' {b : Addr} {S3 : HI.Spec} (hlow : ∀ (a b : Nat), 0 < b → b < 2 ^ 250 → ∀ {M : Mem} {Q : Rz → Mem → Prop}, Q (.val (pD (low a b))) M → S [.int a, .int b] M Q) (hdraw : DrawS b S2)
    (hof : ∀ {ds : List D} {M : Mem} {Q : Rz → Mem → Prop}, 0 < ds.length → ds.length < 1000000 → (∀ d ∈ ds, Q (.val d) (.bag b :: M)) → S3 [.cell 0, .lst ds] (.bag b :: M) Q)
    (k : ∀ p, Good p → Q (.val (pD p)) (.bag b :: M)) : bodyS 1 1 (b__law_position S S2 S3) [.cell 0] (.bag b :: M) Q := by
  conv => whnf
  refine hof (by decide) (by decide) fun d hd => ?_
  obtain ⟨n, n0, n1, rfl⟩ : ∃ n : Nat, 0 < n ∧ n ≤ 200 ∧ d = .int n := by
    simp only [List.mem_cons, List.mem_nil_iff, or_false] at hd
    rcases hd with rfl | rfl | rfl
    · exact ⟨3, by decide, by decide, rfl⟩
    · exact ⟨9, by decide, by decide, rfl⟩
    · exact ⟨200, by decide, by decide, rfl⟩
  conv => whnf
  refine hdraw n0 (by omega) fun j hj => ?_
  conv => whnf
  refine hof (by decide) (by decide) fun d hd => ?_
  obtain ⟨s, s1, rfl⟩ : ∃ s : Nat, s ≤ 20 ∧ d = .int s := by
    simp only [List.mem_cons, List.mem_nil_iff, or_false] at hd
    rcases hd with rfl | rfl | rfl | rfl | rfl | rfl
    · exact ⟨0, by decide, rfl⟩
    · exact ⟨0, by decide, rfl⟩
    · exact ⟨1, by decide, rfl⟩
    · exact ⟨2, by decide, rfl⟩
    · exact ⟨5, by decide, rfl⟩
    · exact ⟨20, by decide, rfl⟩
  conv => whnf
  refine ⟨⟨by omega, by omega, by decide⟩, ?_⟩
  conv => whnf
  have e1 : (1 : Int) + (j : Int) = ((1 + j : Nat) : Int) := by omega
  have e2 : (1 : Int) * 2 ^ (s : Int).toNat = ((2 ^ s : Nat) : Int) := by
    rw [Int.one_mul, Int.toNat_natCast, Int.natCast_pow]
    rfl
  have hk := hlow (1 + j) (2 ^ s) (Nat.pow_pos (by decide)) (Nat.pow_lt_pow_right (by decide) (by omega)) (M := .bag b :: M) (Q := Q) (k _ (good_low (by omega) (Nat.lt_of_le_of_lt (show 1 + j ≤ 200 by omega) (by decide)) s1))
  rw [← e1, ← e2] at hk
  exact hk
theorem position_ok {b : Addr} (k : ∀ p, Good p → Q (.val (pD p)) (.bag b :: M)) : S__law_position [.cell 0] (.bag b :: M) Q := position_ok' (fun a b h1 h2 => llow_ok a b h1 h2) (fun h0 h1 k => draw_ok h0 h1 k) (fun h0 h1 k => of_ok h0 h1 k) k
/-! ### _law_mixed -/
theorem mixed_loop {b : Addr} (hdraw : DrawS b S) {K : KD} {x1 : D} (zs : List D) (hz : zs.length < 1000) (hk : ∀ ys s, ys.Perm zs → K.nx [.val (.cell 0), .val x1, .own (.lst ys), s] (.bag b :: M)) : ∀ (xs ys : List D) (s : Sl), (ys ++ xs).Perm zs → forL (.one 3) (w__law_mixed_1 S) none K xs [.val (.cell 0), .val x1, .own (.lst ys), s] (.bag b :: M)
  | [], ys, s, hp => hk ys s (by simpa using hp)
  | x :: xs, ys, s, hp => by
    have hl : ys.length + 1 ≤ zs.length := by
      have := hp.length_eq
      rw [List.length_append, List.length_cons] at this
      omega
    conv => whnf
    have e1 : (ys.length : Int) + 1 = ((ys.length + 1 : Nat) : Int) := by omega
    have hk2 := @hdraw (ys.length + 1) M
    rw [← e1] at hk2
    refine hk2 (by omega) (by omega) fun j hj => ?_
    conv => whnf
    refine ⟨⟨by omega, by omega⟩, szOk_i (by omega) ?_⟩
    rw [Int.toNat_natCast]
    refine mixed_loop hdraw zs hz hk xs _ _ (List.Perm.trans ?_ hp)
    have e2 : (ys.take j ++ [x] ++ ys.drop j).Perm (ys ++ [x]) := by
      rw [List.append_assoc]
      refine List.Perm.trans (List.Perm.append_left _ List.perm_append_comm) ?_
      rw [← List.append_assoc, List.take_append_drop]
    refine List.Perm.trans (List.Perm.append_right xs e2) ?_
    rw [List.append_assoc]
    rfl
theorem mixed_ok {b : Addr} (zs : List D) (hz : zs.length < 1000) (k : ∀ ys, ys.Perm zs → Q (.new (.lst ys)) (.bag b :: M)) : S__law_mixed [.cell 0, .lst zs] (.bag b :: M) Q := by
  suffices h : ∀ S, DrawS b S → bodyS 4 2 (b__law_mixed S) [.cell 0, .lst zs] (.bag b :: M) Q from h _ (fun h0 h1 k => draw_ok h0 h1 k)
  intro S hS
  conv => whnf
  exact mixed_loop hS zs hz (fun ys s hp => k ys hp) zs [] .no (List.Perm.refl _)
end
end Law

namespace Law
open PySem L2 HI
def plP : Nat → D → Prop
  | 0, _ => False
  | _ + 1, .non => True
  | _ + 1, .bl _ => True
  | _ + 1, .int _ => True
  | _ + 1, .str _ => True
  | n + 1, .tup xs => xs.length ≤ 1000 ∧ ∀ x ∈ xs, plP n x
  | n + 1, .lst xs => xs.length ≤ 1000 ∧ ∀ x ∈ xs, plP n x
  | _, _ => False
theorem eqN_refl : ∀ a : List Nat, eqN a a = true
  | [] => rfl
  | x :: r => by
    show (match Nat.beq x x with | true => eqN r r | false => false) = true
    rw [Nat.beq_refl, eqN_refl r]
theorem zip_self_len : ∀ xs : List D, (zipD xs xs).length = xs.length
  | [] => rfl
  | x :: xs => by show (zipD xs xs).length + 1 = _; rw [zip_self_len xs]; rfl
theorem bls_true : ∀ xs : List D, blsD (xs.map fun _ => D.bl true) = some (xs.map fun _ => true)
  | [] => rfl
  | x :: xs => by
    show (match blsD (xs.map fun _ => D.bl true) with | some bs => some (true :: bs) | none => none) = _
    rw [bls_true xs]
    rfl
theorem all_true : ∀ xs : List D, allB (xs.map fun _ => true) = true
  | [] => rfl
  | x :: xs => all_true xs
theorem same_lc {S : HI.Spec} {M : Mem} {d0 d1 : D} {s2 s3 s4 : Sl} : ∀ {xs : List D} {Q : List D → Mem → Prop}, (∀ x ∈ xs, ∀ {Q : Rz → Mem → Prop}, Q (.val (.bl true)) M → S [x, x] M Q) → Q (xs.map fun _ => .bl true) M →
    lcL [.val d0, .val d1, s2, s3, s4] (.tup [.one 3, .one 4]) tTrue (eTr (eCall S (aCons (eV 3) (aCons (eV 4) aNil)))) none (zipD xs xs) M Q
  | [], Q, _, k => k
  | x :: xs, Q, h, k => by
    conv => whnf
    refine h x List.mem_cons_self ?_
    conv => whnf
    refine same_lc (fun y hy => h y (List.mem_cons_of_mem _ hy)) ?_
    exact k
theorem val_to2 {d e : D} {M : Mem} {Q : Rz → Mem → Prop} (h : d = e) (k : Q (.val e) M) : Q (.val d) M := by subst h; exact k
theorem same_refl : ∀ (n : Nat) (d : D) (M : Mem) {Q : Rz → Mem → Prop}, plP n d → Q (.val (.bl true)) M → Sr__law_same n [d, d] M Q
  | 0, d, M, Q, h, _ => h.elim
  | n + 1, d, M, Q, h, k => by
    have ih := fun d M {Q} => same_refl n d M (Q := Q)
    unfold Sr__law_same
    generalize Sr__law_same n = S at ih
    cases d with
    | non => conv => whnf
             exact k
    | bl b => conv => whnf
              refine (val_to2 ?_ k)
              exact congrArg D.bl (beq_self_eq_true b)
    | int i => conv => whnf
               refine (val_to2 ?_ k)
               exact congrArg D.bl (beq_self_eq_true i)
    | str c => conv => whnf
               refine (val_to2 ?_ k)
               exact congrArg D.bl (eqN_refl c)
    | lst xs =>
      conv => whnf
      refine IF_t (beq_self_eq_true (xs.length : Int)) ?_
      conv => whnf
      refine szOk_i (by rw [zip_self_len]; exact Nat.le_trans h.1 (by decide)) ?_
      refine same_lc (fun x hx => ih x M (h.2 x hx)) ?_
      conv => whnf
      rw [bls_true]
      conv => whnf
      rw [all_true]
      exact k
    | tup xs =>
      conv => whnf
      refine IF_t (beq_self_eq_true (xs.length : Int)) ?_
      conv => whnf
      refine szOk_i (by rw [zip_self_len]; exact Nat.le_trans h.1 (by decide)) ?_
      refine same_lc (fun x hx => ih x M (h.2 x hx)) ?_
      conv => whnf
      rw [bls_true]
      conv => whnf
      rw [all_true]
      exact k
    | _ => exact h.elim
end Law

namespace Law
open PySem L2 HI
abbrev Id := List Nat × Nat
abbrev It := Po × Id
def idD (i : Id) : D := .tup [.str i.1, .int (i.2 : Nat)]
def itD (x : It) : D := .tup [pD x.1, idD x.2]
def ky (W : Nat) (x : It) : Nat := x.1.1 * (W / x.1.2)
def kD (W : Nat) (x : It) : D := .tup [.int (ky W x : Nat), idD x.2]
def LTb (W : Nat) (x y : It) : Bool := ltF 60 [] (kD W x) (kD W y)
def leW (W : Nat) (x y : It) : Bool := !LTb W y x
def encP (W : Nat) (x : It) : PyData := .tuple [.int (ky W x : Nat), .tuple [.str (tx x.2.1), .int (x.2.2 : Nat)]]
theorem LTb_data (W : Nat) (x y : It) : LTb W x y = PySem.W.dataLt (encP W x) (encP W y) := ltF_py 60 [] (kD W x) (kD W y) rfl rfl rfl
def tk (W : Nat) (x : It) : List (Int ⊕ List Nat) := PySem.W.keyToks (encP W x)
theorem tk_eq (W : Nat) (x : It) : tk W x = [.inl 1, .inl (ky W x : Nat), .inl 1, .inl 1, .inr x.2.1, .inl 1, .inl (x.2.2 : Nat), .inl 0, .inl 0] := by
  unfold tk encP
  simp [PySem.W.keyToks, PySem.W.keyToksAll, tx_cps]
theorem LTb_blt (W : Nat) (x y : It) : LTb W x y = (PyProof.Rows.listOrd PyProof.Rows.itemOrd).blt (tk W x) (tk W y) := LTb_data W x y
theorem LT_irr (W : Nat) (x : It) : LTb W x x = false := by
  rw [LTb_blt]
  exact PyProof.Rows.KeyOrd.irrefl _ _
theorem LT_tr {W : Nat} {x y z : It} (h1 : LTb W x y = true) (h2 : LTb W y z = true) : LTb W x z = true := by
  rw [LTb_blt] at *
  exact PyProof.Rows.KeyOrd.trans _ _ _ _ h1 h2
theorem LT_tot {W : Nat} {x y : It} (h1 : LTb W x y = false) (h2 : LTb W y x = false) : ky W x = ky W y ∧ x.2 = y.2 := by
  rw [LTb_blt] at *
  have e : tk W x = tk W y := PyProof.Rows.KeyOrd.total _ _ _ h1 h2
  rw [tk_eq, tk_eq] at e
  simp only [List.cons.injEq, Sum.inl.injEq, Sum.inr.injEq, and_true, true_and] at e
  exact ⟨by omega, Prod.ext e.2.1 (by have := e.2.2; omega)⟩
theorem le_total (W : Nat) : PySem.W.TotalLe (leW W) := by
  refine ⟨fun a b c h1 h2 => ?_, fun a b => ?_⟩
  · unfold leW at *
    rw [Bool.not_eq_true'] at *
    rw [LTb_blt] at *
    exact PyProof.Rows.KeyOrd.kle_trans (O := PyProof.Rows.listOrd PyProof.Rows.itemOrd) h1 h2
  · unfold leW
    rw [Bool.not_eq_true', Bool.not_eq_true']
    cases h : LTb W b a with
    | false => exact .inl rfl
    | true =>
      refine .inr ?_
      cases h2 : LTb W a b with
      | false => rfl
      | true =>
        have := LT_tr h h2
        rw [LT_irr] at this
        cases this
def srt (W : Nat) (xs : List It) : List It := xs.mergeSort (leW W)
/-! ### the common multiple -/
def wst (w p : Nat) : Nat := w / Nat.gcd w p * p
def whole : Nat → List It → Nat
  | w, [] => w
  | w, x :: xs => whole (wst w x.1.2) xs
structure Den (x : It) : Prop where
  a : x.1.1 < 2 ^ 100
  pw : ∃ j, j ≤ 60 ∧ x.1.2 = 2 ^ j
theorem wst_pow (k j : Nat) : wst (2 ^ k) (2 ^ j) = 2 ^ (max k j) := by
  unfold wst
  by_cases h : k ≤ j
  · rw [Nat.gcd_eq_left (Nat.pow_dvd_pow 2 h), Nat.div_self (Nat.pow_pos (by decide)), Nat.one_mul, Nat.max_eq_right h]
  · have h : j ≤ k := by omega
    rw [Nat.gcd_eq_right (Nat.pow_dvd_pow 2 h), Nat.div_mul_cancel (Nat.pow_dvd_pow 2 h), Nat.max_eq_left h]
theorem whole_pow : ∀ (xs : List It) (k : Nat), k ≤ 60 → (∀ x ∈ xs, Den x) → ∃ K, K ≤ 60 ∧ k ≤ K ∧ whole (2 ^ k) xs = 2 ^ K ∧ ∀ x ∈ xs, x.1.2 ∣ 2 ^ K
  | [], k, h, _ => ⟨k, h, Nat.le_refl _, rfl, fun x hx => by cases hx⟩
  | x :: xs, k, h, hx => by
    obtain ⟨j, j1, j2⟩ := (hx x List.mem_cons_self).pw
    obtain ⟨K, h1, h2, h3, h4⟩ := whole_pow xs (max k j) (by omega) fun y hy => hx y (List.mem_cons_of_mem _ hy)
    refine ⟨K, h1, by omega, ?_, fun y hy => ?_⟩
    · show whole (wst (2 ^ k) x.1.2) xs = _
      rw [j2, wst_pow]
      exact h3
    · rcases List.mem_cons.mp hy with e | hy
      · rw [e, j2]
        exact Nat.pow_dvd_pow 2 (by omega)
      · exact h4 y hy
section
variable {S : HI.Spec} {M : Mem} {Q : Rz → Mem → Prop}
abbrev GcdS (S : HI.Spec) : Prop := ∀ (a b : Nat) {M : Mem} {Q : Rz → Mem → Prop}, Q (.val (.int (Nat.gcd a b : Nat))) M → S [.int a, .int b] M Q
theorem den_lt {x : It} (h : Den x) : 0 < x.1.2 ∧ x.1.2 < 2 ^ 250 := by
  obtain ⟨j, j1, j2⟩ := h.pw
  rw [j2]
  exact ⟨Nat.pow_pos (by decide), Nat.pow_lt_pow_right (by decide) (by omega)⟩
theorem ord_loop (hS : GcdS S) {K : KD} {d0 : D} {s4 s5 : Sl} : ∀ (xs : List It) (k : Nat) (s2 s3 : Sl), k ≤ 60 → (∀ x ∈ xs, Den x) → (∀ s2 s3, K.nx [.val d0, .val (.int (whole (2 ^ k) xs : Nat)), s2, s3, s4, s5] M) →
    forL (.tup [.one 2, .one 3]) (w_ordered_1 S) none K (xs.map itD) [.val d0, .val (.int ((2 ^ k : Nat) : Int)), s2, s3, s4, s5] M
  | [], k, s2, s3, _, _, h => h s2 s3
  | x :: xs, k, s2, s3, hk, hx, h => by
    have dx := hx x List.mem_cons_self
    obtain ⟨p0, p1⟩ := den_lt dx
    obtain ⟨g0, g1⟩ := gcd_lt (a := 2 ^ k) p0 p1
    obtain ⟨j, j1, j2⟩ := dx.pw
    conv => whnf
    refine hS (2 ^ k) x.1.2 ?_
    conv => whnf
    refine ⟨divK g0 g1, ?_⟩
    conv => whnf
    refine ⟨mulK (a := 2 ^ k / Nat.gcd (2 ^ k) x.1.2) (Nat.lt_of_le_of_lt (Nat.div_le_self _ _) (Nat.pow_lt_pow_right (by decide) (by omega))) p1, ?_⟩
    have e : wst (2 ^ k) x.1.2 = 2 ^ (max k j) := by rw [j2, wst_pow]
    have h2 := ord_loop hS xs (max k j) (.val (pD x.1)) (.val (idD x.2)) (by omega) (fun y hy => hx y (List.mem_cons_of_mem _ hy)) (fun s2 s3 => by
      rw [← e]
      exact h s2 s3)
    rw [← e] at h2
    exact h2
theorem key_lc {d0 : D} {W : Nat} (W0 : W < 2 ^ 100) {s3 s4 : Sl} : ∀ (xs : List It) {Q : List D → Mem → Prop} (s2 s5 : Sl), (∀ x ∈ xs, Den x) → Q (xs.map (kD W)) M →
    lcL [.val d0, .val (.int (W : Nat)), s2, s3, s4, s5] (.tup [.one 2, .one 5]) tTrue (eTup (aCons (eOp mulD (eOp ixD (eV 2) (eC (.int 0))) (eOp fdivD (eV 1) (eOp ixD (eV 2) (eC (.int 1))))) (aCons (eV 5) aNil))) none (xs.map itD) M Q
  | [], Q, s2, s5, _, k => k
  | x :: xs, Q, s2, s5, hx, k => by
    have dx := hx x List.mem_cons_self
    obtain ⟨p0, p1⟩ := den_lt dx
    conv => whnf
    refine ⟨divK p0 p1, ?_⟩
    conv => whnf
    refine ⟨mulK (b := W / x.1.2) (pw_le dx.a (by decide)) (Nat.lt_of_le_of_lt (Nat.div_le_self _ _) (pw_le W0 (by decide))), ?_⟩
    conv => whnf
    exact key_lc W0 xs s2 s5 (fun y hy => hx y (List.mem_cons_of_mem _ hy)) k
theorem out_lc {d0 d1 d4 : D} {W : Nat} {s2 : Sl} : ∀ (xs : List It) {Q : List D → Mem → Prop} (s3 s5 : Sl), Q (xs.map fun x => idD x.2) M →
    lcL [.val d0, .val d1, s2, s3, .val d4, s5] (.tup [.one 3, .one 5]) tTrue (eV 5) none (xs.map (kD W)) M Q
  | [], Q, s3, s5, k => k
  | x :: xs, Q, s3, s5, k => by
    conv => whnf
    exact out_lc xs s3 s5 k
end
end Law

namespace Law
open PySem L2 HI
section
variable {S : HI.Spec} {M : Mem} {Q : Rz → Mem → Prop}
theorem lt_M (W : Nat) (x y : It) (M : Mem) : ltF 60 M (kD W x) (kD W y) = LTb W x y := rfl
theorem srt_map (W : Nat) (xs : List It) (M : Mem) : (xs.map (kD W)).mergeSort (leF M) = (srt W xs).map (kD W) :=
  (PySem.W.sort_maps (r := leW W) (s := leF M) (kD W) fun a _ b _ => rfl).symm
theorem srtP_k (W : Nat) (xs : List It) (M : Mem) : SrtP M (xs.map (kD W)) := by
  have h : ∀ x ∈ xs.map (kD W), ∃ y, x = kD W y := fun x hx => by
    obtain ⟨y, _, rfl⟩ := List.mem_map.mp hx
    exact ⟨y, rfl⟩
  refine ⟨fun x hx => ?_, fun x hx y hy => ?_, .inl fun x hx => ?_⟩
  · obtain ⟨y, rfl⟩ := h x hx; rfl
  · obtain ⟨a, rfl⟩ := h x hx; obtain ⟨b, rfl⟩ := h y hy; rfl
  · obtain ⟨y, rfl⟩ := h x hx; exact ⟨_, _, rfl⟩
theorem ordered_ok' (hS : GcdS S) (xs : List It) (src : D) (hs : src = .lst (xs.map itD) ∨ src = .tup (xs.map itD)) (hl : xs.length ≤ 1000) (hx : ∀ x ∈ xs, Den x) (k : Q (.new (.lst ((srt (whole 1 xs) xs).map fun x => idD x.2))) M) : bodyS 6 1 (b_ordered S) [src] M Q := by
  obtain ⟨K, k1, k2, k3, k4⟩ := whole_pow xs 0 (by decide) hx
  have W0 : whole 1 xs < 2 ^ 100 := by
    rw [show whole 1 xs = 2 ^ K from k3]
    exact Nat.pow_lt_pow_right (by decide) (by omega)
  rcases hs with rfl | rfl
  · conv => whnf
    refine ord_loop hS xs 0 _ _ (by decide) hx fun s2 s3 => ?_
    conv => whnf
    refine szOk_i (by rw [List.length_map]; exact Nat.le_trans hl (by decide)) ?_
    refine key_lc W0 xs _ _ hx ?_
    conv => whnf
    refine ⟨srtP_k _ _ _, ?_⟩
    rw [srt_map]
    conv => whnf
    refine szOk_i (by rw [List.length_map]; unfold srt; rw [List.length_mergeSort]; exact Nat.le_trans hl (by decide)) ?_
    refine out_lc _ _ _ ?_
    exact k
  · conv => whnf
    refine ord_loop hS xs 0 _ _ (by decide) hx fun s2 s3 => ?_
    conv => whnf
    refine szOk_i (by rw [List.length_map]; exact Nat.le_trans hl (by decide)) ?_
    refine key_lc W0 xs _ _ hx ?_
    conv => whnf
    refine ⟨srtP_k _ _ _, ?_⟩
    rw [srt_map]
    conv => whnf
    refine szOk_i (by rw [List.length_map]; unfold srt; rw [List.length_mergeSort]; exact Nat.le_trans hl (by decide)) ?_
    refine out_lc _ _ _ ?_
    exact k
theorem ordered_ok (xs : List It) (src : D) (hs : src = .lst (xs.map itD) ∨ src = .tup (xs.map itD)) (hl : xs.length ≤ 1000) (hx : ∀ x ∈ xs, Den x) (k : Q (.new (.lst ((srt (whole 1 xs) xs).map fun x => idD x.2))) M) : S_ordered [src] M Q := ordered_ok' (fun a b => common_part_ok a b) xs src hs hl hx k
end
/-! ### one sorted list -/
theorem uniq {W : Nat} : ∀ {xs ys : List It}, (∀ a ∈ xs, ∀ b ∈ xs, ky W a = ky W b → a.2 = b.2 → a = b) → xs.Perm ys → xs.Pairwise (fun a b => LTb W b a = false) → ys.Pairwise (fun a b => LTb W b a = false) → xs = ys
  | [], ys, _, hp, _, _ => (List.Perm.eq_nil hp.symm).symm
  | x :: xs, [], _, hp, _, _ => absurd hp.length_eq (by simp)
  | x :: xs, y :: ys, hi, hp, h1, h2 => by
    have e : x = y := by
      by_cases e : x = y
      · exact e
      have m1 : y ∈ x :: xs := hp.mem_iff.mpr List.mem_cons_self
      have m2 : x ∈ y :: ys := hp.mem_iff.mp List.mem_cons_self
      have l1 : LTb W y x = false := by
        rcases List.mem_cons.mp m1 with z | z
        · exact absurd z.symm e
        · exact (List.pairwise_cons.mp h1).1 y z
      have l2 : LTb W x y = false := by
        rcases List.mem_cons.mp m2 with z | z
        · exact absurd z e
        · exact (List.pairwise_cons.mp h2).1 x z
      obtain ⟨e1, e2⟩ := LT_tot l2 l1
      exact hi x List.mem_cons_self y m1 e1 e2
    subst e
    rw [uniq (fun a ha b hb => hi a (List.mem_cons_of_mem _ ha) b (List.mem_cons_of_mem _ hb)) hp.cons_inv (List.pairwise_cons.mp h1).2 (List.pairwise_cons.mp h2).2]
theorem srt_perm (W : Nat) (xs : List It) : (srt W xs).Perm xs := List.mergeSort_perm _ _
theorem srt_pair (W : Nat) (xs : List It) : (srt W xs).Pairwise (fun a b => LTb W b a = false) :=
  (PySem.W.sort_pairwise (le_total W) xs).imp fun h => by
    unfold leW at h
    rw [Bool.not_eq_true'] at h
    exact h
end Law

namespace Law
open PySem L2 HI
/-! ### fractions in lowest terms -/
theorem frac_eq {a b c d : Nat} (hb : 0 < b) (h1 : Nat.gcd a b = 1) (h2 : Nat.gcd c d = 1) (h : a * d = c * b) : a = c ∧ b = d := by
  have e1 : b ∣ d := by
    have : b ∣ a * d := ⟨c, by rw [h, Nat.mul_comm]⟩
    exact (show Nat.Coprime b a from (Nat.gcd_comm b a).trans h1).dvd_of_dvd_mul_left this
  have e2 : d ∣ b := by
    have : d ∣ c * b := ⟨a, by rw [← h, Nat.mul_comm]⟩
    exact (show Nat.Coprime d c from (Nat.gcd_comm d c).trans h2).dvd_of_dvd_mul_left this
  have e : b = d := Nat.dvd_antisymm e1 e2
  subst e
  exact ⟨Nat.eq_of_mul_eq_mul_right hb h, rfl⟩
theorem key_cmp {W : Nat} {x y : It} (hW : 0 < W) (hx : x.1.2 ∣ W) (hy : y.1.2 ∣ W) : (ky W x < ky W y ↔ x.1.1 * y.1.2 < y.1.1 * x.1.2) ∧ (ky W x = ky W y ↔ x.1.1 * y.1.2 = y.1.1 * x.1.2) := by
  unfold ky
  obtain ⟨u, hu⟩ := hx
  obtain ⟨v, hv⟩ := hy
  have b0 : 0 < x.1.2 := Nat.pos_of_ne_zero fun z => by rw [z, Nat.zero_mul] at hu; omega
  have d0 : 0 < y.1.2 := Nat.pos_of_ne_zero fun z => by rw [z, Nat.zero_mul] at hv; omega
  have eu : W / x.1.2 = u := by rw [hu]; exact Nat.mul_div_cancel_left u b0
  have ev : W / y.1.2 = v := by rw [hv]; exact Nat.mul_div_cancel_left v d0
  rw [eu, ev]
  have p1 : x.1.1 * u * (x.1.2 * y.1.2) = (x.1.1 * y.1.2) * W := by rw [hu]; ac_rfl
  have p2 : y.1.1 * v * (x.1.2 * y.1.2) = (y.1.1 * x.1.2) * W := by rw [hv]; ac_rfl
  have q : 0 < x.1.2 * y.1.2 := Nat.mul_pos b0 d0
  constructor
  · rw [← Nat.mul_lt_mul_right (a0 := q), p1, p2, Nat.mul_lt_mul_right (a0 := hW)]
  · rw [← Nat.mul_right_cancel_iff q, p1, p2, Nat.mul_right_cancel_iff hW]
structure Mem1 (W : Nat) (x : It) : Prop where
  co : Nat.gcd x.1.1 x.1.2 = 1
  dv : x.1.2 ∣ W
  sm : Sm x.1
theorem cond_eq {W : Nat} {x y : It} (M : Mem) (hW : 0 < W) (hx : Mem1 W x) (hy : Mem1 W y) : (less x.1 y.1 || (decide (x.1 = y.1) && ltF 60 M (idD x.2) (idD y.2))) = LTb W x y := by
  obtain ⟨c1, c2⟩ := key_cmp hW hx.dv hy.dv
  have e3 : (ky W x = ky W y) ↔ x.1 = y.1 := by
    rw [c2]
    constructor
    · intro h
      obtain ⟨e1, e2⟩ := frac_eq hx.sm.pos hx.co hy.co h
      exact Prod.ext e1 e2
    · intro h; rw [h]
  have e1 : LTb W x y = match ((ky W x : Nat) : Int) == ((ky W y : Nat) : Int) with
    | true => (match eqF 59 [] (idD x.2) (idD y.2) with | true => false | false => ltF 59 [] (idD x.2) (idD y.2))
    | false => decide (((ky W x : Nat) : Int) < ((ky W y : Nat) : Int)) := rfl
  have e2 : ltF 60 M (idD x.2) (idD y.2) = ltF 59 [] (idD x.2) (idD y.2) := rfl
  rw [e1, e2, beq_cast]
  by_cases h : ky W x = ky W y
  · rw [decide_eq_true h, decide_eq_true (e3.mp h)]
    have h4 : less x.1 y.1 = false := decide_eq_false (by rw [← c1, h]; exact Nat.lt_irrefl _)
    rw [h4]
    show (ltF 59 [] (idD x.2) (idD y.2)) = _
    cases h5 : eqF 59 [] (idD x.2) (idD y.2) with
    | false => rfl
    | true =>
      show (match eqN x.2.1 y.2.1 with | true => (match ((x.2.2 : Int) == (y.2.2 : Int)) with | true => false | false => decide ((x.2.2 : Int) < (y.2.2 : Int))) | false => decide (x.2.1 < y.2.1)) = false
      have h5 : (match eqN x.2.1 y.2.1 with | true => (match ((x.2.2 : Int) == (y.2.2 : Int)) with | true => true | false => false) | false => false) = true := h5
      cases h6 : eqN x.2.1 y.2.1 with
      | false => rw [h6] at h5; cases h5
      | true =>
        rw [h6] at h5
        cases h7 : ((x.2.2 : Int) == (y.2.2 : Int)) with
        | false => rw [h7] at h5; cases h5
        | true => rfl
  · rw [decide_eq_false h, decide_eq_false (fun z => h (e3.mpr z)), Bool.false_and, Bool.or_false]
    unfold less
    rw [decide_eq_decide, ← c1]
    exact Int.ofNat_lt.symm
/-! ### the least one -/
def selF (W : Nat) : It → List It → It
  | f, [] => f
  | f, x :: xs => selF W (match LTb W x f with | true => x | false => f) xs
theorem selF_mem (W : Nat) : ∀ (xs : List It) (f : It), selF W f xs = f ∨ selF W f xs ∈ xs
  | [], f => .inl rfl
  | x :: xs, f => by
    rcases selF_mem W xs (match LTb W x f with | true => x | false => f) with h | h
    · have h : selF W f (x :: xs) = (match LTb W x f with | true => x | false => f) := h
      cases e : LTb W x f with
      | true => rw [e] at h; exact .inr (by rw [h]; exact List.mem_cons_self)
      | false => rw [e] at h; exact .inl h
    · exact .inr (List.mem_cons_of_mem _ h)
theorem selF_le (W : Nat) : ∀ (xs : List It) (f : It), LTb W f (selF W f xs) = false ∧ ∀ y ∈ xs, LTb W y (selF W f xs) = false
  | [], f => ⟨LT_irr W f, fun y hy => by cases hy⟩
  | x :: xs, f => by
    obtain ⟨h1, h2⟩ := selF_le W xs (match LTb W x f with | true => x | false => f)
    have e0 : selF W f (x :: xs) = selF W (match LTb W x f with | true => x | false => f) xs := rfl
    rw [e0]
    have tr : ∀ {a b c : It}, LTb W a b = true → LTb W b c = false → LTb W c a = false → False ∨ LTb W a c = false ∨ True := fun _ _ _ => .inr (.inr trivial)
    cases e : LTb W x f with
    | true =>
      rw [e] at h1 h2
      have h1 : LTb W x (selF W x xs) = false := h1
      refine ⟨?_, fun y hy => ?_⟩
      · cases q : LTb W f (selF W x xs) with
        | false => rfl
        | true => have := LT_tr e q; rw [h1] at this; cases this
      · rcases List.mem_cons.mp hy with z | z
        · rw [z]; exact h1
        · exact h2 y z
    | false =>
      rw [e] at h1 h2
      have h1 : LTb W f (selF W f xs) = false := h1
      refine ⟨h1, fun y hy => ?_⟩
      rcases List.mem_cons.mp hy with z | z
      · rw [z]
        have l := (le_total W).trans (selF W f xs) f x (by unfold leW; rw [h1]; rfl) (by unfold leW; rw [e]; rfl)
        unfold leW at l
        rw [Bool.not_eq_true'] at l
        exact l
      · exact h2 y z
end Law

namespace Law
open PySem L2 HI
abbrev LessS (S : HI.Spec) : Prop := ∀ p q, Sm p → Sm q → ∀ {M : Mem} {Q : Rz → Mem → Prop}, Q (.val (.bl (less p q))) M → S [pD p, pD q] M Q
section
variable {S : HI.Spec} {W : Nat} {K : KD} {s0 s1 s2 s3 s4 s5 s6 s7 s8 s9 s10 s11 s12 s13 s14 s15 s18 s19 : Sl}
theorem sel_loop (hless : LessS S) (hW : 0 < W) {gd : Gd} {M : Mem} (hg : ∀ q : Prop, q → gQ gd M q) : ∀ (xs : List It) (f : It) (s17 : Sl), (∀ x ∈ xs, Mem1 W x) → Mem1 W f →
    (∀ s17, K.nx [s0, s1, s2, s3, s4, s5, s6, s7, s8, s9, s10, s11, s12, s13, s14, s15, .val (itD (selF W f xs)), s17, s18, s19] M) →
    forL (.one 17) (w_law_1 S) gd K (xs.map itD) [s0, s1, s2, s3, s4, s5, s6, s7, s8, s9, s10, s11, s12, s13, s14, s15, .val (itD f), s17, s18, s19] M
  | [], f, s17, _, _, k => hg _ (k s17)
  | x :: xs, f, s17, hx, hf, k => by
    have mx := hx x List.mem_cons_self
    have ce := cond_eq M hW mx hf
    have ih := fun f' mf' k' => sel_loop hless hW hg xs f' (.val (itD x)) (fun y hy => hx y (List.mem_cons_of_mem _ hy)) mf' k'
    have t1 : LTb W x f = true → selF W f (x :: xs) = selF W x xs := fun e => by
      show selF W (match LTb W x f with | true => x | false => f) xs = _
      rw [e]
    have t2 : LTb W x f = false → selF W f (x :: xs) = selF W f xs := fun e => by
      show selF W (match LTb W x f with | true => x | false => f) xs = _
      rw [e]
    rw [List.map_cons, forL]
    refine hg _ ?_
    conv => whnf
    refine hless x.1 f.1 mx.sm hf.sm ?_
    conv => whnf
    refine IF_c (fun h => ?_) (fun h => ?_)
    · have h : less x.1 f.1 = true := h
      rw [h, Bool.true_or] at ce
      conv => whnf
      exact ih x mx fun s => by rw [← t1 ce.symm]; exact k s
    · have h : less x.1 f.1 = false := h
      rw [h, Bool.false_or] at ce
      conv => whnf
      refine IF_c (fun h2 => ?_) (fun h2 => ?_)
      · have h2 : eqF 60 M (pD x.1) (pD f.1) = true := h2
        rw [eqF_p] at h2
        rw [h2, Bool.true_and] at ce
        conv => whnf
        refine IF_c (fun h3 => ?_) (fun h3 => ?_)
        · have h3 : ltF 60 M (idD x.2) (idD f.2) = true := h3
          rw [h3] at ce
          conv => whnf
          exact ih x mx fun s => by rw [← t1 ce.symm]; exact k s
        · have h3 : ltF 60 M (idD x.2) (idD f.2) = false := h3
          rw [h3] at ce
          conv => whnf
          exact ih f hf fun s => by rw [← t2 ce.symm]; exact k s
      · have h2 : eqF 60 M (pD x.1) (pD f.1) = false := h2
        rw [eqF_p] at h2
        rw [h2, Bool.false_and] at ce
        conv => whnf
        exact ih f hf fun s => by rw [← t2 ce.symm]; exact k s
end
end Law

namespace Law
open PySem L2 HI
/-! ### removing it -/
theorem eqF_pn (n : Nat) (p q : Po) (M : Mem) : eqF (n + 2) M (pD p) (pD q) = decide (p = q) := by
  show (match ((p.1 : Int) == (q.1 : Int)) with | true => (match ((p.2 : Int) == (q.2 : Int)) with | true => true | false => false) | false => false) = _
  rw [beq_cast, beq_cast]
  obtain ⟨a, b⟩ := p
  obtain ⟨c, d⟩ := q
  by_cases h1 : a = c
  · by_cases h2 : b = d
    · subst h1 h2; simp
    · rw [decide_eq_true h1, decide_eq_false h2, decide_eq_false (fun z => h2 (congrArg Prod.snd z))]
  · rw [decide_eq_false h1, decide_eq_false (fun z => h1 (congrArg Prod.fst z))]
theorem eqF_it (x y : It) (M : Mem) : eqF 60 M (itD x) (itD y) = true ↔ x = y := by
  show (match eqF 59 M (pD x.1) (pD y.1) with | true => (match eqF 59 M (idD x.2) (idD y.2) with | true => true | false => false) | false => false) = true ↔ _
  have e1 : eqF 59 M (pD x.1) (pD y.1) = decide (x.1 = y.1) := eqF_pn 57 x.1 y.1 M
  have e2 : eqF 59 M (idD x.2) (idD y.2) = true ↔ x.2 = y.2 := by
    show (match eqN x.2.1 y.2.1 with | true => (match ((x.2.2 : Int) == (y.2.2 : Int)) with | true => true | false => false) | false => false) = true ↔ _
    rw [beq_cast]
    constructor
    · intro h
      cases h6 : eqN x.2.1 y.2.1 with
      | false => rw [h6] at h; cases h
      | true =>
        rw [h6] at h
        by_cases h7 : x.2.2 = y.2.2
        · refine Prod.ext ?_ h7
          have : ∀ a b : List Nat, eqN a b = true → a = b := by
            intro a
            induction a with
            | nil => intro b h; cases b with | nil => rfl | cons _ _ => cases h
            | cons p a ih =>
              intro b h
              cases b with
              | nil => cases h
              | cons q b =>
                have h : (match Nat.beq p q with | true => eqN a b | false => false) = true := h
                cases e : Nat.beq p q with
                | false => rw [e] at h; cases h
                | true => rw [e] at h; rw [Nat.eq_of_beq_eq_true e, ih b h]
          exact this _ _ h6
        · rw [decide_eq_false h7] at h; cases h
    · intro h
      rw [h, eqN_refl, decide_eq_true rfl]
  rw [e1]
  by_cases h : x.1 = y.1
  · rw [decide_eq_true h]
    constructor
    · intro q
      cases q2 : eqF 59 M (idD x.2) (idD y.2) with
      | false => rw [q2] at q; cases q
      | true => exact Prod.ext h (e2.mp q2)
    · intro q
      rw [e2.mpr (congrArg Prod.snd q)]
  · rw [decide_eq_false h]
    exact ⟨(fun q => nomatch q), (fun q => absurd (congrArg Prod.fst q) h)⟩
theorem rm_it (f : It) (M : Mem) : ∀ xs : List It, f ∈ xs → ∃ ys, rmD (fun x => eqF 60 M x (itD f)) (xs.map itD) = some (ys.map itD) ∧ (f :: ys).Perm xs
  | [], h => by cases h
  | x :: xs, h => by
    rw [List.map_cons, rmD]
    cases e : eqF 60 M (itD x) (itD f) with
    | true =>
      have := (eqF_it x f M).mp e
      subst this
      exact ⟨xs, rfl, List.Perm.refl _⟩
    | false =>
      have ne : f ≠ x := fun z => by
        have := (eqF_it x f M).mpr z.symm
        rw [e] at this
        cases this
      rcases List.mem_cons.mp h with z | z
      · exact absurd z ne
      · obtain ⟨ys, h1, h2⟩ := rm_it f M xs z
        refine ⟨x :: ys, by rw [h1]; rfl, ?_⟩
        exact (List.Perm.swap x f ys).trans (h2.cons x)
theorem ok_its (M : Mem) : ∀ xs : List It, okAll (okF 60 M) (xs.map itD) = true
  | [] => rfl
  | x :: xs => ok_its M xs
end Law

namespace Law
open PySem L2 HI
section
variable {S : HI.Spec} {W : Nat} {K : KD} {b : Addr} {s0 s1 s2 s3 s4 s5 s6 s7 s8 s10 s11 s12 s13 s18 s19 : Sl}
theorem pick_step (hless : LessS S) (hW : 0 < W) {M1 : Mem} {m : Nat} (xs : List It) (acc : List D) (s15 s16 s17 : Sl) (hm : M1[m]? = some (.lst (xs.map itD))) (hne : xs ≠ []) (hx : ∀ x ∈ xs, Mem1 W x) (ha : acc.length ≤ 1000)
    (k : ∀ (f : It) (ys : List It) (s16 s17 : Sl), (f :: ys).Perm xs → (∀ y ∈ ys, LTb W y f = false) → K.nx [s0, s1, s2, s3, s4, s5, s6, s7, s8, .own (.lst (acc ++ [idD f.2])), s10, s11, s12, s13, .val (.cell (m + 1)), s15, s16, s17, s18, s19] (.bag b :: M1.set m (.lst (ys.map itD)))) :
    w_law_2 S K [s0, s1, s2, s3, s4, s5, s6, s7, s8, .own (.lst acc), s10, s11, s12, s13, .val (.cell (m + 1)), s15, s16, s17, s18, s19] (.bag b :: M1) := by
  obtain ⟨x, r, rfl⟩ : ∃ x r, xs = x :: r := by
    cases xs with
    | nil => exact absurd rfl hne
    | cons x r => exact ⟨x, r, rfl⟩
  have e0 : (D.bag b :: M1)[m + 1]? = some (.lst ((x :: r).map itD)) := hm
  have ev : view (.bag b :: M1) (.cell (m + 1)) = .lst ((x :: r).map itD) := by
    show (match (D.bag b :: M1)[m + 1]? with | some c => unK c | none => D.cell (m + 1)) = _
    rw [e0]
    rfl
  have mf : Mem1 W x := hx x List.mem_cons_self
  conv => whnf
  rw [show view (.bag b :: M1) (Rz.val (D.cell (m + 1))).d = .lst ((x :: r).map itD) from ev]
  conv => whnf
  have es : seqD (.bag b :: M1) (.cell (m + 1)) = some ((x :: r).map itD, some (m + 1, .lst ((x :: r).map itD))) := by
    show (match (D.bag b :: M1)[m + 1]? with | some (D.lst xs) => some (xs, (some (m + 1, D.lst xs) : Gd)) | _ => none) = _
    rw [e0]
  rw [show seqD (.bag b :: M1) (Rz.val (D.cell (m + 1))).d = some ((x :: r).map itD, some (m + 1, .lst ((x :: r).map itD))) from es]
  refine sel_loop hless hW (gd := some (m + 1, .lst ((x :: r).map itD))) (fun q hq => ⟨e0, hq⟩) (x :: r) x _ hx mf fun s17 => ?_
  have hf : selF W x (x :: r) ∈ x :: r := by
    rcases selF_mem W (x :: r) x with h | h
    · rw [h]; exact List.mem_cons_self
    · exact h
  have hle := (selF_le W (x :: r) x).2
  generalize selF W x (x :: r) = f at hf hle
  conv => whnf
  refine szOk_i (Nat.le_trans (Nat.add_le_add_right ha 1) (by decide)) ?_
  conv => whnf
  rw [e0]
  conv => whnf
  rw [e0]
  conv => whnf
  refine okQ_i (ok_its _ _) ?_
  conv => whnf
  obtain ⟨ys, h1, h2⟩ := rm_it f (.bag b :: M1) (x :: r) hf
  rw [show rmD (fun z => eqF 60 (.bag b :: M1) z (Rz.val (itD f)).d) ((x :: r).map itD) = some (ys.map itD) from h1]
  exact k f ys _ _ h2 fun y hy => hle y (h2.mem_iff.mp (List.mem_cons_of_mem _ hy))
/-- all of them, one by one -/
theorem pick_loop (hless : LessS S) (hW : 0 < W) {m : Nat} : ∀ (js : List D) (xs : List It) (acc : List D) (M1 : Mem) (s15 s16 s17 : Sl), js.length = xs.length → M1[m]? = some (.lst (xs.map itD)) → (∀ x ∈ xs, Mem1 W x) → acc.length + xs.length ≤ 1000 →
    (∀ (out : List It) (M1' : Mem) (s15 s16 s17 : Sl), out.Perm xs → out.Pairwise (fun a b => LTb W b a = false) → K.nx [s0, s1, s2, s3, s4, s5, s6, s7, s8, .own (.lst (acc ++ out.map fun x => idD x.2)), s10, s11, s12, s13, .val (.cell (m + 1)), s15, s16, s17, s18, s19] (.bag b :: M1')) →
    forL (.one 15) (w_law_2 S) none K js [s0, s1, s2, s3, s4, s5, s6, s7, s8, .own (.lst acc), s10, s11, s12, s13, .val (.cell (m + 1)), s15, s16, s17, s18, s19] (.bag b :: M1)
  | [], xs, acc, M1, s15, s16, s17, hl, _, _, _, k => by
    have e : xs = [] := List.length_eq_zero_iff.mp hl.symm
    subst e
    have := k [] M1 s15 s16 s17 (List.Perm.refl _) List.Pairwise.nil
    rw [List.map_nil, List.append_nil] at this
    exact this
  | j :: js, xs, acc, M1, s15, s16, s17, hl, hm, hx, ha, k => by
    have hlen : xs.length = js.length + 1 := hl.symm
    refine pick_step hless hW xs acc (.val j) s16 s17 hm (fun z => by rw [z] at hlen; cases hlen) hx (by omega) fun f ys s16 s17 hp hf => ?_
    have hl2 := hp.length_eq
    rw [List.length_cons] at hl2
    have hml : m < M1.length := (List.getElem?_eq_some_iff.mp hm).1
    refine pick_loop hless hW js ys (acc ++ [idD f.2]) (M1.set m (.lst (ys.map itD))) (.val j) s16 s17 (by omega) (List.getElem?_set_self hml) (fun y hy => hx y (hp.mem_iff.mp (List.mem_cons_of_mem _ hy))) (by rw [List.length_append]; show acc.length + 1 + ys.length ≤ 1000; omega) fun out M1' s15 s16 s17 hp2 hs => ?_
    have e : acc ++ [idD f.2] ++ out.map (fun x => idD x.2) = acc ++ (f :: out).map (fun x => idD x.2) := by rw [List.append_assoc]; rfl
    rw [e]
    exact k (f :: out) M1' s15 s16 s17 ((hp2.cons f).trans hp) (List.pairwise_cons.mpr ⟨fun y hy => hf y (hp2.mem_iff.mp hy), hs⟩)
end
end Law

namespace Law
open PySem L2 HI
/-- a position of the law: lowest terms, a power of two below -/
structure Good2 (p : Po) : Prop where
  co : Nat.gcd p.1 p.2 = 1
  a : p.1 < 2 ^ 40
  pw : ∃ j, j ≤ 20 ∧ p.2 = 2 ^ j
  pos : 0 < p.1
theorem Good.two {p : Po} (h : Good p) : Good2 p := ⟨h.co, pw_le h.a (by decide), h.pw, h.pos⟩
theorem Good2.sm {p : Po} (h : Good2 p) : Sm p := by
  obtain ⟨j, h1, h2⟩ := h.pw
  exact ⟨pw_le h.a (by decide), by rw [h2]; exact Nat.pow_lt_pow_right (by decide) (by omega), by rw [h2]; exact Nat.pow_pos (by decide)⟩
theorem Good2.den {x : It} (h : Good2 x.1) : Den x := by
  obtain ⟨j, h1, h2⟩ := h.pw
  exact ⟨pw_le h.a (by decide), j, by omega, h2⟩
abbrev OfS (b : Addr) (S : HI.Spec) : Prop := ∀ {ds : List D} {M : Mem} {Q : Rz → Mem → Prop}, 0 < ds.length → ds.length < 1000000 → (∀ d ∈ ds, Q (.val d) (.bag b :: M)) → S [.cell 0, .lst ds] (.bag b :: M) Q
abbrev PosS (b : Addr) (S : HI.Spec) : Prop := ∀ {M : Mem} {Q : Rz → Mem → Prop}, (∀ p, Good p → Q (.val (pD p)) (.bag b :: M)) → S [.cell 0] (.bag b :: M) Q
abbrev MixS (b : Addr) (S : HI.Spec) : Prop := ∀ {zs : List D} {M : Mem} {Q : Rz → Mem → Prop}, zs.length < 1000 → (∀ ys, ys.Perm zs → Q (.new (.lst ys)) (.bag b :: M)) → S [.cell 0, .lst zs] (.bag b :: M) Q
abbrev SameS (S : HI.Spec) : Prop := ∀ {d e : D} {M : Mem} {Q : Rz → Mem → Prop}, d = e → plP 8 d → Q (.val (.bl true)) M → S [d, e] M Q
abbrev OrdS (S : HI.Spec) : Prop := ∀ {xs : List It} {src : D} {M : Mem} {Q : Rz → Mem → Prop}, src = .lst (xs.map itD) ∨ src = .tup (xs.map itD) → xs.length ≤ 1000 → (∀ x ∈ xs, Den x) → Q (.new (.lst ((srt (whole 1 xs) xs).map fun x => idD x.2))) M → S [src] M Q
section
variable {b : Addr} {Sd So Sp Sm' Sl' Ss Sr : HI.Spec} {K : KD}
/-- the list of drawn pairs -/
theorem pairs_lc (hof : OfS b So) (hpos : PosS b Sp) {l h o : Po} (gl : Good2 l) (gh : Good2 h) (go : Good2 o) {M : Mem} {s0 s2 s4 s5 s6 s7 s8 s9 s12 s13 s14 s16 s17 s18 s19 : Sl} : ∀ (n lo : Nat) {Q : List D → Mem → Prop} (s15 : Sl),
    (∀ xs : List It, xs.length = n → (∀ x ∈ xs, Good2 x.1) → (xs.map fun x => x.2.2) = List.range' lo n → Q (xs.map itD) (.bag b :: M)) →
    lcL [s0, .val (.cell 0), s2, .val (pD o), s4, s5, s6, s7, s8, s9, .val (pD l), .val (pD h), s12, s13, s14, s15, s16, s17, s18, s19] (.one 15) tTrue (eTup (aCons (eCall So (aCons (eV 1) (aCons (eLst (aCons (eV 10) (aCons (eV 11) (aCons (eV 3) (aCons (eCall Sp (aCons (eV 1) (aNil))) (aNil)))))) (aNil)))) (aCons (eTup (aCons (eCall So (aCons (eV 1) (aCons (eLst (aCons (eC (.str [])) (aCons (eC (.str [97, 110, 110])) (aCons (eC (.str [98])) (aNil))))) (aNil)))) (aCons (eV 15) (aNil)))) (aNil)))) none ((List.range' lo n).map fun i => .int ((i : Nat) : Int)) (.bag b :: M) Q
  | 0, lo, Q, s15, k => k [] rfl (fun x hx => by cases hx) rfl
  | n + 1, lo, Q, s15, k => by
    rw [List.range'_succ, List.map_cons]
    conv => whnf
    refine hpos fun p hp => ?_
    conv => whnf
    refine hof (Nat.succ_pos _) (show 4 < 1000000 by decide) fun d hd => ?_
    obtain ⟨q, gq, rfl⟩ : ∃ q, Good2 q ∧ d = pD q := by
      simp only [List.mem_cons, List.mem_nil_iff, or_false] at hd
      rcases hd with rfl | rfl | rfl | rfl
      · exact ⟨l, gl, rfl⟩
      · exact ⟨h, gh, rfl⟩
      · exact ⟨o, go, rfl⟩
      · exact ⟨p, hp.two, rfl⟩
    conv => whnf
    refine hof (by decide) (by decide) fun d hd => ?_
    obtain ⟨c, rfl⟩ : ∃ c, d = .str c := by
      simp only [List.mem_cons, List.mem_nil_iff, or_false] at hd
      rcases hd with rfl | rfl | rfl <;> exact ⟨_, rfl⟩
    conv => whnf
    refine pairs_lc hof hpos gl gh go n (lo + 1) _ fun xs hl hg hr => ?_
    refine k ((q, (c, lo)) :: xs) (by rw [List.length_cons, hl]) (fun x hx => ?_) ?_
    · rcases List.mem_cons.mp hx with e | hx
      · rw [e]; exact gq
      · exact hg x hx
    · rw [List.map_cons, hr, List.range'_succ]
end
end Law

namespace Law
open PySem L2 HI
theorem rng_eq (n : Nat) : rngD 0 n = (List.range' 0 n).map fun i => .int ((i : Nat) : Int) := by
  unfold rngD
  rw [List.range_eq_range']
  apply List.map_congr_left
  intro i _
  rw [Int.zero_add]
theorem map_perm {f : It → D} (hf : ∀ a b, f a = f b → a = b) : ∀ {xs : List It} {ds : List D}, ds.Perm (xs.map f) → ∃ ys : List It, ds = ys.map f ∧ ys.Perm xs := by
  intro xs ds h
  have key : ∀ {l m : List D}, l.Perm m → ∀ xs : List It, m = xs.map f → ∃ ys : List It, l = ys.map f ∧ ys.Perm xs := by
    intro l m h
    induction h with
    | nil => intro xs e; exact ⟨xs, e, List.Perm.refl _⟩
    | cons a _ ih =>
      intro xs e
      cases xs with
      | nil => cases e
      | cons x xs =>
        rw [List.map_cons] at e
        injection e with e1 e2
        obtain ⟨ys, h1, h2⟩ := ih xs e2
        exact ⟨x :: ys, by rw [List.map_cons, h1, e1], h2.cons x⟩
    | swap a b l =>
      intro xs e
      match xs, e with
      | x :: y :: xs, e =>
        rw [List.map_cons, List.map_cons] at e
        injection e with e1 e2
        injection e2 with e2 e3
        exact ⟨y :: x :: xs, by rw [List.map_cons, List.map_cons, e1, e2, e3], List.Perm.swap _ _ _⟩
    | trans _ _ ih1 ih2 =>
      intro xs e
      obtain ⟨ys, h1, h2⟩ := ih2 xs e
      obtain ⟨zs, h3, h4⟩ := ih1 ys h1
      exact ⟨zs, h3, h4.trans h2⟩
  exact key h xs rfl
theorem itD_inj (a b : It) (h : itD a = itD b) : a = b := (eqF_it a b []).mp (by
  rw [h]
  exact (eqF_it b b []).mpr rfl)
theorem pl_id (i : Id) (n : Nat) : plP (n + 2) (idD i) := ⟨show 2 ≤ 1000 by decide, fun x hx => by
  rcases List.mem_cons.mp hx with e | hx
  · rw [e]; exact trivial
  · rcases List.mem_cons.mp hx with e | hx
    · rw [e]; exact trivial
    · cases hx⟩
theorem pl_ids (xs : List It) (h : xs.length ≤ 1000) (n : Nat) : plP (n + 3) (.lst (xs.map fun x => idD x.2)) := ⟨by rw [List.length_map]; exact h, fun d hd => by
  obtain ⟨x, _, rfl⟩ := List.mem_map.mp hd
  exact pl_id x.2 n⟩
theorem ok_itsN (n : Nat) (M : Mem) : ∀ xs : List It, okAll (okF (n + 3) M) (xs.map itD) = true
  | [] => rfl
  | x :: xs => ok_itsN n M xs
theorem okL (M : Mem) (xs : List It) : okF 60 M (.lst (xs.map itD)) = true := ok_itsN 56 M xs
theorem eqL (M : Mem) (xs : List It) (h : eqAll (eqF 59 M) (xs.map itD) (xs.map itD) = true) : eqF 60 M (.lst (xs.map itD)) (.lst (xs.map itD)) = true := h
theorem eq_its (M : Mem) : ∀ xs : List It, eqAll (eqF 59 M) (xs.map itD) (xs.map itD) = true
  | [] => rfl
  | x :: xs => by
    show (match eqF 59 M (itD x) (itD x) with | true => eqAll (eqF 59 M) (xs.map itD) (xs.map itD) | false => false) = true
    have e : eqF 59 M (itD x) (itD x) = true := by
      show (match eqF 58 M (pD x.1) (pD x.1) with | true => (match eqF 58 M (idD x.2) (idD x.2) with | true => true | false => false) | false => false) = true
      rw [eqF_pn 56, decide_eq_true rfl]
      show (match (match eqN x.2.1 x.2.1 with | true => (match ((x.2.2 : Int) == (x.2.2 : Int)) with | true => true | false => false) | false => false) with | true => true | false => false) = true
      rw [eqN_refl, beq_self_eq_true]
    rw [e]
    exact eq_its M xs
section
variable {b : Addr} {Sd So Sp Sm' Sl' Ss Sr : HI.Spec} {K : KD}
theorem tailC (hd : DrawS b Sd) (hof : OfS b So) (hpos : PosS b Sp) (hmix : MixS b Sm') (hless : LessS Sl') (hsame : SameS Ss) (hord : OrdS Sr) {l h o : Po} (gl : Good2 l) (gh : Good2 h) (go : Good2 o) {M1 : Mem} {s0 s2 s4 s5 s6 s7 s8 s9 s12 s13 s14 s15 s16 s17 s18 s19 : Sl}
    (k : ∀ (M1' : Mem) (s2 s3 s4 s5 s6 s7 s8 s9 s10 s11 s12 s13 s14 s15 s16 s17 : Sl), K.nx [s0, .val (.cell 0), s2, s3, s4, s5, s6, s7, s8, s9, s10, s11, s12, s13, s14, s15, s16, s17, s18, s19] (.bag b :: M1')) :
    w_law_3 Sd So Sp Sm' Sl' Ss Sr K [s0, .val (.cell 0), s2, .val (pD o), s4, s5, s6, s7, s8, s9, .val (pD l), .val (pD h), s12, s13, s14, s15, s16, s17, s18, s19] (.bag b :: M1) := by
  conv => whnf
  refine hd (n := 8) (by decide) (by decide) fun n hn => ?_
  conv => whnf
  refine ⟨⟨by omega, by omega⟩, ?_⟩
  rw [show rngD 0 ((n : Int)).toNat = _ from rng_eq n]
  refine szOk_i (by rw [List.length_map, List.length_range']; omega) ?_
  refine pairs_lc hof hpos gl gh go n 0 _ fun xs hl hg hr => ?_
  conv => whnf
  refine hmix (by rw [List.length_map]; omega) fun ds hp => ?_
  obtain ⟨ys, rfl, hys⟩ := map_perm itD_inj hp
  have hyl : ys.length < 8 := by rw [hys.length_eq]; omega
  have hyg : ∀ y ∈ ys, Good2 y.1 := fun y hy => hg y (hys.mem_iff.mp hy)
  obtain ⟨KK, k1, k2, k3, k4⟩ := whole_pow ys 0 (by decide) fun y hy => (hyg y hy).den
  have hW : 0 < whole 1 ys := by rw [show whole 1 ys = 2 ^ KK from k3]; exact Nat.pow_pos (by decide)
  have hmem : ∀ y ∈ ys, Mem1 (whole 1 ys) y := fun y hy => ⟨(hyg y hy).co, by rw [show whole 1 ys = 2 ^ KK from k3]; exact k4 y hy, (hyg y hy).sm⟩
  conv => whnf
  refine ⟨⟨by omega, by rw [List.length_map]; omega⟩, ?_⟩
  have hlen : (rngD 0 (((ys.map itD).length : Nat) : Int).toNat).length = ys.length := by
    unfold rngD
    rw [List.length_map, List.length_range, Int.toNat_natCast, List.length_map]
  refine pick_loop (W := whole 1 ys) hless hW (m := M1.length) _ ys [] (M1 ++ [D.lst (ys.map itD)]) _ _ _ hlen (by rw [List.getElem?_append_right (Nat.le_refl _), Nat.sub_self]; rfl) hmem (by show 0 + ys.length ≤ 1000; omega) fun out M1' t15 t16 t17 hp2 hs => ?_
  have eo : out = srt (whole 1 ys) ys := uniq (W := whole 1 ys) (fun a ha c hc e1 e2 => by
    have ma := hmem a (hp2.mem_iff.mp ha)
    have mc := hmem c (hp2.mem_iff.mp hc)
    obtain ⟨q1, q2⟩ := frac_eq ma.sm.pos ma.co mc.co ((key_cmp hW ma.dv mc.dv).2.mp e1)
    exact Prod.ext (Prod.ext q1 q2) e2) (hp2.trans (srt_perm _ _).symm) hs (srt_pair _ _)
  subst eo
  have hden : ∀ y ∈ ys, Den y := fun y hy => (hyg y hy).den
  have hsl : (srt (whole 1 ys) ys).length ≤ 1000 := by rw [hp2.length_eq]; omega
  conv => whnf
  refine hord (xs := ys) (.inl rfl) (by omega) hden ?_
  conv => whnf
  refine hord (xs := ys) (.inr rfl) (by omega) hden ?_
  conv => whnf
  refine hsame rfl ⟨show 2 ≤ 1000 by decide, fun d hd => ?_⟩ ?_
  · rcases List.mem_cons.mp hd with e | hd
    · rw [e]; exact pl_ids _ hsl 4
    · rcases List.mem_cons.mp hd with e | hd
      · rw [e]; exact pl_ids _ hsl 4
      · cases hd
  conv => whnf
  refine okQ_i (okL _ ys) ?_
  refine okQ_i (okL _ ys) ?_
  conv => whnf
  refine IF_f (by rw [show eqF 60 (D.bag b :: M1') (Rz.val (Rz.new (D.lst (ys.map itD))).d).d (Rz.val (Rz.new (D.lst (ys.map itD))).d).d = true from eqL _ ys (eq_its _ ys)]; rfl) ?_
  conv => whnf
  exact k _ _ _ _ _ _ _ _ _ _ _ _ _ _ _ _ _
end
end Law

namespace Law
open PySem L2 HI
theorem low_parts (a b : Nat) : a = Nat.gcd a b * (low a b).1 ∧ b = Nat.gcd a b * (low a b).2 := ⟨(Nat.mul_div_cancel' (Nat.gcd_dvd_left a b)).symm, (Nat.mul_div_cancel' (Nat.gcd_dvd_right a b)).symm⟩
theorem less_low_r {p : Po} {a b : Nat} (hb : 0 < b) (h : p.1 * b < a * p.2) : less p (low a b) = true := by
  refine decide_eq_true ?_
  obtain ⟨e1, e2⟩ := low_parts a b
  have g0 := Nat.gcd_pos_of_pos_right a hb
  generalize low a b = z at e1 e2 ⊢
  generalize Nat.gcd a b = g at e1 e2 g0
  rw [e1, e2] at h
  refine Nat.lt_of_mul_lt_mul_left (a := g) ?_
  have e3 : p.1 * (g * z.2) = g * (p.1 * z.2) := by ac_rfl
  have e4 : g * z.1 * p.2 = g * (z.1 * p.2) := by ac_rfl
  rw [e3, e4] at h
  exact h
theorem less_low_l {p : Po} {a b : Nat} (hb : 0 < b) (h : a * p.2 < p.1 * b) : less (low a b) p = true := by
  refine decide_eq_true ?_
  obtain ⟨e1, e2⟩ := low_parts a b
  have g0 := Nat.gcd_pos_of_pos_right a hb
  generalize low a b = z at e1 e2 ⊢
  generalize Nat.gcd a b = g at e1 e2 g0
  rw [e1, e2] at h
  refine Nat.lt_of_mul_lt_mul_left (a := g) ?_
  have e3 : p.1 * (g * z.2) = g * (p.1 * z.2) := by ac_rfl
  have e4 : g * z.1 * p.2 = g * (z.1 * p.2) := by ac_rfl
  rw [e3, e4] at h
  exact h
theorem mid_between {l h : Po} (hl : 0 < l.2) (hh : 0 < h.2) (q : less l h = true) : less l (mid l h) = true ∧ less (mid l h) h = true := by
  have q : l.1 * h.2 < h.1 * l.2 := of_decide_eq_true q
  have hd : 0 < 2 * l.2 * h.2 := Nat.mul_pos (Nat.mul_pos (by decide) hl) hh
  refine ⟨less_low_r hd ?_, less_low_l hd ?_⟩
  · have e1 : l.1 * (2 * l.2 * h.2) = (l.1 * h.2 + l.1 * h.2) * l.2 := by rw [← Nat.two_mul]; ac_rfl
    rw [e1]
    exact Nat.mul_lt_mul_of_pos_right (Nat.add_lt_add_left q _) hl
  · have e1 : h.1 * (2 * l.2 * h.2) = (h.1 * l.2 + h.1 * l.2) * h.2 := by rw [← Nat.two_mul]; ac_rfl
    rw [e1]
    exact Nat.mul_lt_mul_of_pos_right (Nat.add_lt_add_right q _) hh
theorem mid_comm (p q : Po) : mid p q = mid q p := by
  unfold mid
  rw [Nat.add_comm, show 2 * p.2 * q.2 = 2 * q.2 * p.2 by ac_rfl]
theorem low_sm {a b : Nat} (ha : a < 2 ^ 100) (hb : b < 2 ^ 100) (h0 : 0 < b) : Sm (low a b) :=
  ⟨Nat.lt_of_le_of_lt (Nat.div_le_self _ _) ha, Nat.lt_of_le_of_lt (Nat.div_le_self _ _) hb, Nat.div_pos (Nat.gcd_le_right _ h0) (Nat.gcd_pos_of_pos_right _ h0)⟩
theorem Good2.b {p : Po} (h : Good2 p) : p.2 < 2 ^ 21 := by
  obtain ⟨j, h1, h2⟩ := h.pw
  rw [h2]
  exact Nat.pow_lt_pow_right (by decide) (by omega)
theorem mid_sm {l h : Po} (gl : Good2 l) (gh : Good2 h) : Sm (mid l h) := by
  refine low_sm (pw_le (pw_add (pw_mul gl.a gh.b) (pw_mul gh.a gl.b)) (by decide)) (pw_le (pw_mul (pw_mul (two_lt (m := 2) (Nat.le_refl _)) gl.b) gh.b) (by decide)) (Nat.mul_pos (Nat.mul_pos (by decide) gl.sm.pos) gh.sm.pos)
def pbv (l h : Po) : D := match decide (l = h) with
  | true => .non
  | false => pD (mid l h)
section
variable {b : Addr} {Sd So Sp Sm' Sl' Ss Sr Sb : HI.Spec} {K : KD}
theorem tailB (hd : DrawS b Sd) (hof : OfS b So) (hpos : PosS b Sp) (hmix : MixS b Sm') (hless : LessS Sl') (hbel : LessS Sb) (hsame : SameS Ss) (hord : OrdS Sr) {l h o : Po} (gl : Good2 l) (gh : Good2 h) (go : Good2 o) (hlh : l ≠ h → less l h = true) {x1 x2 x3 : D} (hpl : plP 8 (.lst [pbv l h, x1, x2, x3])) {M1 : Mem} {s0 s2 s4 s5 s6 s7 s12 s13 s14 s15 s16 s17 s18 s19 : Sl}
    (k : ∀ (M1' : Mem) (s2 s3 s4 s5 s6 s7 s8 s9 s10 s11 s12 s13 s14 s15 s16 s17 : Sl), K.nx [s0, .val (.cell 0), s2, s3, s4, s5, s6, s7, s8, s9, s10, s11, s12, s13, s14, s15, s16, s17, s18, s19] (.bag b :: M1')) :
    w_law_4 Ss Sb Sd So Sp Sm' Sl' Sr K [s0, .val (.cell 0), s2, .val (pD o), s4, s5, s6, s7, .val (.lst [pbv l h, x1, x2, x3]), .own (.lst [pbv l h, x1, x2, x3]), .val (pD l), .val (pD h), s12, s13, s14, s15, s16, s17, s18, s19] (.bag b :: M1) := by
  unfold w_law_4
  generalize hT : w_law_3 Sd So Sp Sm' Sl' Ss Sr = T
  have fin : ∀ M1 s8 s9, T K [s0, .val (.cell 0), s2, .val (pD o), s4, s5, s6, s7, s8, s9, .val (pD l), .val (pD h), s12, s13, s14, s15, s16, s17, s18, s19] (.bag b :: M1) := fun M1 s8 s9 => by
    rw [← hT]
    exact tailC hd hof hpos hmix hless hsame hord gl gh go k
  conv => whnf
  refine hsame rfl hpl ?_
  conv => whnf
  refine IF_c (fun e => ?_) (fun e => ?_)
  · have e : (!eqF 60 (.bag b :: M1) (pD l) (pD h)) = true := e
    rw [eqF_p, Bool.not_eq_true'] at e
    have ne := of_decide_eq_false e
    have ev : pbv l h = pD (mid l h) := by unfold pbv; rw [e]
    rw [ev]
    obtain ⟨b1, b2⟩ := mid_between gl.sm.pos gh.sm.pos (hlh ne)
    have ms := mid_sm gl gh
    conv => whnf
    refine hbel l (mid l h) gl.sm ms ?_
    conv => whnf
    refine IF_f (by rw [b1]; rfl) ?_
    conv => whnf
    refine hbel (mid l h) h ms gh.sm ?_
    conv => whnf
    refine IF_f (by rw [b2]; rfl) ?_
    conv => whnf
    refine hbel l l gl.sm gl.sm ?_
    conv => whnf
    refine IF_f (decide_eq_false (Nat.lt_irrefl _)) ?_
    conv => whnf
    exact fin _ _ _
  · conv => whnf
    exact fin _ _ _
end
end Law

namespace Law
open PySem L2 HI
abbrev LowS (S : HI.Spec) : Prop := ∀ (a b : Nat), 0 < b → b < 2 ^ 250 → ∀ {M : Mem} {Q : Rz → Mem → Prop}, Q (.val (pD (low a b))) M → S [.int a, .int b] M Q
abbrev MidS (S : HI.Spec) : Prop := ∀ p q, Sm p → Sm q → ∀ {M : Mem} {Q : Rz → Mem → Prop}, Q (.val (pD (mid p q))) M → S [pD p, pD q] M Q
structure PbS (S : HI.Spec) : Prop where
  pp : ∀ p q, Sm p → Sm q → ∀ {M : Mem} {Q : Rz → Mem → Prop}, Q (.val (pbv p q)) M → S [pD p, pD q] M Q
  n : ∀ p, Sm p → ∀ {M : Mem} {Q : Rz → Mem → Prop}, Q (.val (pD (low p.1 (2 * p.2)))) M → S [.non, pD p] M Q
  p : ∀ p, Sm p → ∀ {M : Mem} {Q : Rz → Mem → Prop}, Q (.val (pD (low (p.1 + p.2) p.2))) M → S [pD p, .non] M Q
  nn : ∀ {M : Mem} {Q : Rz → Mem → Prop}, Q (.val (pD (1, 1))) M → S [.non, .non] M Q
theorem pbS : PbS S_position_behind := ⟨fun p q hp hq M Q k => pb_pp p q hp hq (fun e => by
    have : pbv p q = .non := by unfold pbv; rw [decide_eq_true e]
    rw [this] at k; exact k) (fun e => by
    have : pbv p q = pD (mid p q) := by unfold pbv; rw [decide_eq_false e]
    rw [this] at k; exact k), fun p hp M Q k => pb_n p hp k, fun p hp M Q k => pb_p p hp k, fun k => pb_nn k⟩
theorem pl_p (p : Po) (n : Nat) : plP (n + 2) (pD p) := ⟨show 2 ≤ 1000 by decide, fun x hx => by
  rcases List.mem_cons.mp hx with e | hx
  · rw [e]; exact trivial
  · rcases List.mem_cons.mp hx with e | hx
    · rw [e]; exact trivial
    · cases hx⟩
theorem pl_v (l h : Po) (n : Nat) : plP (n + 2) (pbv l h) := by
  unfold pbv
  cases decide (l = h) with
  | true => exact trivial
  | false => exact pl_p _ n
theorem low_self {p : Po} (h : Nat.gcd p.1 p.2 = 1) : low (p.1 + p.2) p.2 = (p.1 + p.2, p.2) := by
  unfold low
  rw [Nat.gcd_add_self_left, h, Nat.div_one, Nat.div_one]
section
variable {b : Addr} {Sd So Sp Sm' Sl' Ss Sr Sb Spb Slow Sls Smi : HI.Spec} {K : KD}
theorem tailA (hd : DrawS b Sd) (hof : OfS b So) (hpos : PosS b Sp) (hmix : MixS b Sm') (hless : LessS Sl') (hbel : LessS Sb) (hsame : SameS Ss) (hord : OrdS Sr) (hpb : PbS Spb) (hlow : LowS Slow) {l h o : Po} (gl : Good2 l) (gh : Good2 h) (go : Good2 o) (hlh : l ≠ h → less l h = true) {M1 : Mem} {s0 s2 s4 s5 s6 s8 s9 s12 s13 s14 s15 s16 s17 s18 s19 : Sl}
    (k : ∀ (M1' : Mem) (s2 s3 s4 s5 s6 s7 s8 s9 s10 s11 s12 s13 s14 s15 s16 s17 : Sl), K.nx [s0, .val (.cell 0), s2, s3, s4, s5, s6, s7, s8, s9, s10, s11, s12, s13, s14, s15, s16, s17, s18, s19] (.bag b :: M1')) :
    w_law_5 Spb Slow Ss Sb Sd So Sp Sm' Sl' Sr K [s0, .val (.cell 0), s2, .val (pD o), s4, s5, s6, .val (pD (mid l h)), s8, s9, .val (pD l), .val (pD h), s12, s13, s14, s15, s16, s17, s18, s19] (.bag b :: M1) := by
  unfold w_law_5
  generalize hT : w_law_4 Ss Sb Sd So Sp Sm' Sl' Sr = T
  have hpl : plP 8 (.lst [pbv l h, pD (low h.1 (2 * h.2)), pD (l.1 + l.2, l.2), pD (1, 1)]) := ⟨show 4 ≤ 1000 by decide, fun x hx => by
    simp only [List.mem_cons, List.mem_nil_iff, or_false] at hx
    rcases hx with rfl | rfl | rfl | rfl
    · exact pl_v l h 5
    · exact pl_p _ 5
    · exact pl_p _ 5
    · exact pl_p _ 5⟩
  have fin : ∀ M1, T K [s0, .val (.cell 0), s2, .val (pD o), s4, s5, s6, .val (pD (mid l h)), .val (.lst [pbv l h, pD (low h.1 (2 * h.2)), pD (l.1 + l.2, l.2), pD (1, 1)]), .own (.lst [pbv l h, pD (low h.1 (2 * h.2)), pD (l.1 + l.2, l.2), pD (1, 1)]), .val (pD l), .val (pD h), s12, s13, s14, s15, s16, s17, s18, s19] (.bag b :: M1) := fun M1 => by
    rw [← hT]
    exact tailB hd hof hpos hmix hless hbel hsame hord gl gh go hlh hpl k
  have el := low_self gl.co
  conv => whnf
  refine hpb.pp l h gl.sm gh.sm ?_
  conv => whnf
  refine hpb.n h gh.sm ?_
  conv => whnf
  refine hpb.p l gl.sm ?_
  rw [el]
  conv => whnf
  refine hpb.nn ?_
  conv => whnf
  refine IF_c (fun e => ?_) (fun e => ?_)
  · have e : eqF 60 (.bag b :: M1) (pD l) (pD h) = true := e
    rw [eqF_p] at e
    have ev : pbv l h = .non := by unfold pbv; rw [e]
    conv => whnf
    refine ⟨mulK (a := 2) (two_lt (by decide)) (big gh.sm.b), ?_⟩
    conv => whnf
    refine hlow h.1 (2 * h.2) (Nat.mul_pos (by decide) gh.sm.pos) gh.sm.d2 ?_
    conv => whnf
    have f := fin M1
    rw [ev] at f ⊢
    exact f
  · have e : eqF 60 (.bag b :: M1) (pD l) (pD h) = false := e
    rw [eqF_p] at e
    have ev : pbv l h = pD (mid l h) := by unfold pbv; rw [e]
    conv => whnf
    refine ⟨mulK (a := 2) (two_lt (by decide)) (big gh.sm.b), ?_⟩
    conv => whnf
    refine hlow h.1 (2 * h.2) (Nat.mul_pos (by decide) gh.sm.pos) gh.sm.d2 ?_
    conv => whnf
    have f := fin M1
    rw [ev] at f ⊢
    exact f
end
end Law

namespace Law
open PySem L2 HI
section
variable {b : Addr} {Sd So Sp Sm' Sl' Ss Sr Sb Spb Slow Sls Smi : HI.Spec} {K : KD}
theorem good_sum {p : Po} (h : Good p) : Good2 (p.1 + p.2, p.2) := by
  obtain ⟨j, h1, h2⟩ := h.pw
  refine ⟨?_, pw_le (pw_add h.a (show p.2 < 2 ^ 30 by rw [h2]; exact Nat.pow_lt_pow_right (by decide) (by omega))) (by decide), h.pw, Nat.add_pos_left h.pos _⟩
  show Nat.gcd (p.1 + p.2) p.2 = 1
  rw [Nat.gcd_add_self_left, h.co]
theorem less_total {p q : Po} (hp : Good2 p) (hq : Good2 q) (h : less p q = false) (ne : q ≠ p) : less q p = true := by
  have h : ¬ p.1 * q.2 < q.1 * p.2 := of_decide_eq_false h
  refine decide_eq_true ?_
  rcases Nat.lt_or_ge (q.1 * p.2) (p.1 * q.2) with z | z
  · exact z
  · have e : p.1 * q.2 = q.1 * p.2 := by omega
    obtain ⟨e1, e2⟩ := frac_eq hp.sm.pos hp.co hq.co e
    exact absurd (Prod.ext e1.symm e2.symm) ne
theorem less_ne {p q : Po} (h : less p q = true) : p ≠ q → less p q = true := fun _ => h
theorem turn_ok (hd : DrawS b Sd) (hof : OfS b So) (hpos : PosS b Sp) (hmix : MixS b Sm') (hless : LessS Sl') (hbel : LessS Sb) (hsame : SameS Ss) (hord : OrdS Sr) (hpb : PbS Spb) (hlow : LowS Slow) (hls : LowS Sls) (hmi : MidS Smi) {M1 : Mem} {s0 s2 s3 s4 s5 s6 s7 s8 s9 s10 s11 s12 s13 s14 s15 s16 s17 s18 s19 : Sl}
    (k : ∀ (M1' : Mem) (s2 s3 s4 s5 s6 s7 s8 s9 s10 s11 s12 s13 s14 s15 s16 s17 : Sl), K.nx [s0, .val (.cell 0), s2, s3, s4, s5, s6, s7, s8, s9, s10, s11, s12, s13, s14, s15, s16, s17, s18, s19] (.bag b :: M1')) :
    w_law_6 Sp So Sd Slow Sls Smi Sb Sl' Ss Spb Sm' Sr K [s0, .val (.cell 0), s2, s3, s4, s5, s6, s7, s8, s9, s10, s11, s12, s13, s14, s15, s16, s17, s18, s19] (.bag b :: M1) := by
  unfold w_law_6
  generalize hT : w_law_5 Spb Slow Ss Sb Sd So Sp Sm' Sl' Sr = T
  conv => whnf
  refine hpos fun p gp => ?_
  conv => whnf
  refine hpos fun q0 gq0 => ?_
  conv => whnf
  refine hof (Nat.succ_pos _) (show 4 < 1000000 by decide) fun d hd' => ?_
  obtain ⟨q, gq, rfl⟩ : ∃ q, Good2 q ∧ d = pD q := by
    simp only [List.mem_cons, List.mem_nil_iff, or_false] at hd'
    rcases hd' with rfl | rfl | rfl | rfl
    · exact ⟨q0, gq0.two, rfl⟩
    · exact ⟨p, gp.two, rfl⟩
    · exact ⟨(p.1 + p.2, p.2), good_sum gp, rfl⟩
    · exact ⟨q0, gq0.two, rfl⟩
  have gp2 := gp.two
  have sp := gp2.sm
  have sq := gq.sm
  conv => whnf
  refine ⟨⟨by decide, by decide, by decide⟩, ?_⟩
  conv => whnf
  refine hd (n := 1000000) (by decide) (by decide) fun i hi => ?_
  conv => whnf
  refine ⟨⟨by decide, by decide, by decide⟩, ?_⟩
  conv => whnf
  refine hd (n := 10000) (by decide) (by decide) fun j hj => ?_
  have e1 : (1 : Int) + (i : Int) = ((1 + i : Nat) : Int) := by omega
  have e2 : (1 : Int) + (j : Int) = ((1 + j : Nat) : Int) := by omega
  have u1 : 1 + i ≤ 1000000 := by omega
  have u0 : 0 < 1 + j := by omega
  have u2 : 1 + j ≤ 10000 := by omega
  conv => whnf
  rw [e1, e2]
  clear e1 e2
  generalize 1 + i = ov at u1 ⊢
  generalize 1 + j = un at u0 u2 ⊢
  have b1 : ov < 2 ^ 250 := Nat.lt_of_le_of_lt u1 (by decide)
  have b2 : un < 2 ^ 250 := Nat.lt_of_le_of_lt u2 (by decide)
  have mq := mid_comm q p
  conv => whnf
  refine ⟨mulK (big sp.a) (big sq.b), ?_⟩
  conv => whnf
  refine ⟨mulK (big sq.a) (big sp.b), ?_⟩
  conv => whnf
  refine ⟨mulK (a := 2) (two_lt (by decide)) (big sp.b), ?_⟩
  conv => whnf
  refine ⟨mulK (a := 2 * p.2) sp.d2 (big sq.b), ?_⟩
  conv => whnf
  refine hlow (p.1 * q.2 + q.1 * p.2) (2 * p.2 * q.2) (sp.den sq).1 (sp.den sq).2 ?_
  rw [show low (p.1 * q.2 + q.1 * p.2) (2 * p.2 * q.2) = mid p q from rfl]
  conv => whnf
  refine hls ov un u0 b2 ?_
  conv => whnf
  refine ⟨mulK (b := 6) b1 (pw_le (m := 3) (by decide) (by decide)), ?_⟩
  conv => whnf
  refine hls (ov * 6) un u0 b2 ?_
  conv => whnf
  refine hmi p q sp sq ?_
  conv => whnf
  refine hmi q p sq sp ?_
  rw [mq]
  conv => whnf
  refine hbel p q sp sq ?_
  conv => whnf
  refine hbel q p sq sp ?_
  conv => whnf
  refine hlow ov un u0 b2 ?_
  conv => whnf
  refine ⟨mulK (b := 6) b1 (pw_le (m := 3) (by decide) (by decide)), ?_⟩
  conv => whnf
  refine hlow (ov * 6) un u0 b2 ?_
  conv => whnf
  refine hless p q sp sq ?_
  conv => whnf
  refine hless q p sq sp ?_
  conv => whnf
  refine hsame rfl ⟨show 6 ≤ 1000 by decide, fun x hx => ?_⟩ ?_
  · simp only [List.mem_cons, List.mem_nil_iff, or_false] at hx
    rcases hx with rfl | rfl | rfl | rfl | rfl | rfl
    · exact pl_p _ 5
    · exact pl_p _ 5
    · exact pl_p _ 5
    · exact pl_p _ 5
    · exact trivial
    · exact trivial
  conv => whnf
  refine hless p q sp sq ?_
  conv => whnf
  refine IF_c (fun e => ?_) (fun e => ?_)
  · have e : less p q = true := e
    conv => whnf
    rw [← hT]
    exact tailA hd hof hpos hmix hless hbel hsame hord hpb hlow gp2 gq gp2 (fun _ => e) k
  · have e : less p q = false := e
    conv => whnf
    rw [← hT, mid_comm p q]
    exact tailA hd hof hpos hmix hless hbel hsame hord hpb hlow gq gp2 gp2 (fun ne => less_total gp2 gq e ne) k
end
end Law

namespace Law
open PySem L2 HI
structure Hr (i : Nat) (p : Po) : Prop where
  le : p.1 ≤ p.2
  pw : ∃ j, j ≤ i ∧ p.2 = 2 ^ j
theorem hr_low {a J i : Nat} (h : a ≤ 2 ^ J) (hJ : J ≤ i) : Hr i (low a (2 ^ J)) := by
  obtain ⟨j, h1, h2⟩ := pow_dvd (low_dvd a (2 ^ J))
  exact ⟨Nat.div_le_div_right h, j, by omega, h2⟩
theorem Hr.sm {i : Nat} {p : Po} (h : Hr i p) (hi : i ≤ 60) : Sm p := by
  obtain ⟨j, h1, h2⟩ := h.pw
  have hb : p.2 < 2 ^ 100 := by rw [h2]; exact Nat.pow_lt_pow_right (by decide) (by omega)
  exact ⟨Nat.lt_of_le_of_lt h.le hb, hb, by rw [h2]; exact Nat.pow_pos (by decide)⟩
theorem Hr.den {i : Nat} {x : It} (h : Hr i x.1) (hi : i ≤ 60) : Den x := by
  obtain ⟨j, h1, h2⟩ := h.pw
  exact ⟨(h.sm hi).a, j, by omega, h2⟩
theorem Hr.up {i k : Nat} {p : Po} (h : Hr i p) (hi : i ≤ k) : Hr k p := by
  obtain ⟨j, h1, h2⟩ := h.pw
  exact ⟨h.le, j, by omega, h2⟩
theorem Hr.half {i : Nat} {p : Po} (h : Hr i p) : Hr (i + 1) (Law.low p.1 (2 * p.2)) := by
  obtain ⟨j, h1, h2⟩ := h.pw
  have e : 2 * p.2 = 2 ^ (j + 1) := by rw [h2, Nat.pow_succ, Nat.mul_comm]
  rw [e]
  refine hr_low ?_ (by omega)
  have := h.le
  omega
theorem Hr.mid {i : Nat} {p : Po} (h : Hr i p) : Hr (i + 1) (mid p (1, 1)) := by
  obtain ⟨j, h1, h2⟩ := h.pw
  have e : 2 * p.2 * 1 = 2 ^ (j + 1) := by rw [h2, Nat.pow_succ, Nat.mul_one, Nat.mul_comm]
  show Hr (i + 1) (Law.low (p.1 * 1 + 1 * p.2) (2 * p.2 * 1))
  rw [e]
  refine hr_low ?_ (by omega)
  have := h.le
  omega
def sp (k : Nat) (p : Po) : It := (p, ([], k))
section
variable {b : Addr} {Spb Smi : HI.Spec} {K : KD} {M : Mem} {s0 s1 s2 s3 s4 s5 s6 s7 s8 s9 s10 s11 s12 s13 s14 s16 s17 : Sl}
theorem one_sm : Sm (1, 1) := ⟨show 1 < 2 ^ 100 from by decide, show 1 < 2 ^ 100 from by decide, by decide⟩
theorem spots_loop (hpb : PbS Spb) (hmi : MidS Smi) : ∀ (n lo : Nat) (p : Po) (xs : List It) (s15 : Sl), Hr lo p → lo + n ≤ 50 → xs.length = lo → (∀ x ∈ xs, Hr 60 x.1) → (xs.map fun x => x.2) = (List.range lo).map (fun k => (([], k) : Id)) →
    (∀ (p : Po) (ys : List It) (s15 : Sl), ys.length = lo + n → (∀ x ∈ ys, Hr 60 x.1) → (ys.map fun x => x.2) = (List.range (lo + n)).map (fun k => (([], k) : Id)) → K.nx [s0, s1, s2, s3, s4, s5, s6, s7, s8, s9, s10, s11, s12, s13, s14, s15, s16, s17, .val (pD p), .own (.lst (ys.map itD))] M) →
    forL (.one 15) (w_law_7 Spb Smi) none K ((List.range' lo n).map fun i => .int ((i : Nat) : Int)) [s0, s1, s2, s3, s4, s5, s6, s7, s8, s9, s10, s11, s12, s13, s14, s15, s16, s17, .val (pD p), .own (.lst (xs.map itD))] M
  | 0, lo, p, xs, s15, hp, hn, hl, hx, he, k => k p xs s15 hl hx he
  | n + 1, lo, p, xs, s15, hp, hn, hl, hx, he, k => by
    rw [List.range'_succ, List.map_cons, forL]
    have next : ∀ q : Po, Hr (lo + 1) q → forL (.one 15) (w_law_7 Spb Smi) none K ((List.range' (lo + 1) n).map fun i => .int ((i : Nat) : Int)) [s0, s1, s2, s3, s4, s5, s6, s7, s8, s9, s10, s11, s12, s13, s14, .val (.int (lo : Nat)), s16, s17, .val (pD q), .own (.lst (xs.map itD ++ [itD (sp lo q)]))] M := fun q hq => by
      have e : xs.map itD ++ [itD (sp lo q)] = (xs ++ [sp lo q]).map itD := by rw [List.map_append]; rfl
      rw [e]
      refine spots_loop hpb hmi n (lo + 1) q (xs ++ [sp lo q]) _ hq (by omega) (by rw [List.length_append, hl]; rfl) (fun x hx' => ?_) (by rw [List.map_append, he, List.range_succ, List.map_append]; rfl) fun p ys s15 h1 h2 h3 => k p ys s15 (by omega) h2 (by rw [h3, show lo + 1 + n = lo + (n + 1) by omega])
      rcases List.mem_append.mp hx' with h | h
      · exact hx x h
      · rw [List.mem_singleton.mp h]
        exact hq.up (by omega)
    conv => whnf
    refine ⟨by decide, ?_⟩
    conv => whnf
    refine IF_c (fun e => ?_) (fun e => ?_)
    · conv => whnf
      refine hpb.n p (hp.sm (by omega)) ?_
      conv => whnf
      refine szOk_i (by rw [List.length_map]; omega) ?_
      exact next _ hp.half
    · conv => whnf
      refine hmi p (1, 1) (hp.sm (by omega)) one_sm ?_
      conv => whnf
      refine szOk_i (by rw [List.length_map]; omega) ?_
      exact next _ hp.mid
end
/-! ### the ids sorted -/
theorem nat_uniq : ∀ {xs ys : List Nat}, xs.Perm ys → xs.Pairwise (· ≤ ·) → ys.Pairwise (· ≤ ·) → xs = ys
  | [], ys, hp, _, _ => (List.Perm.eq_nil hp.symm).symm
  | x :: xs, [], hp, _, _ => absurd hp.length_eq (by simp)
  | x :: xs, y :: ys, hp, h1, h2 => by
    have e : x = y := by
      have m1 : y ∈ x :: xs := hp.mem_iff.mpr List.mem_cons_self
      have m2 : x ∈ y :: ys := hp.mem_iff.mp List.mem_cons_self
      have l1 : x ≤ y := by
        rcases List.mem_cons.mp m1 with z | z
        · omega
        · exact (List.pairwise_cons.mp h1).1 y z
      have l2 : y ≤ x := by
        rcases List.mem_cons.mp m2 with z | z
        · omega
        · exact (List.pairwise_cons.mp h2).1 x z
      omega
    subst e
    rw [nat_uniq hp.cons_inv (List.pairwise_cons.mp h1).2 (List.pairwise_cons.mp h2).2]
def kD0 (k : Nat) : D := idD ([], k)
theorem le_k (M : Mem) (a c : Nat) : leF M (kD0 a) (kD0 c) = decide (a ≤ c) := by
  show (!(match ((c : Int) == (a : Int)) with | true => false | false => decide ((c : Int) < (a : Int)))) = _
  rw [beq_cast]
  by_cases h : c = a
  · subst h
    rw [decide_eq_true rfl, decide_eq_true (Nat.le_refl c)]; rfl
  · rw [decide_eq_false h]
    by_cases h2 : a ≤ c
    · rw [decide_eq_true h2, decide_eq_false (by omega)]; rfl
    · rw [decide_eq_false h2, decide_eq_true (by omega)]; rfl
theorem sort_k (M : Mem) {ks : List Nat} {n : Nat} (h : ks.Perm (List.range n)) : (ks.map kD0).mergeSort (leF M) = (List.range n).map kD0 := by
  have e := PySem.W.sort_maps (r := fun a c : Nat => decide (a ≤ c)) (s := leF M) (l := ks) kD0 fun a _ c _ => (le_k M a c).symm
  rw [← e]
  refine congrArg (List.map kD0) (nat_uniq ((List.mergeSort_perm _ _).trans h) ?_ List.pairwise_le_range)
  have := List.pairwise_mergeSort (le := fun a c : Nat => decide (a ≤ c)) (fun a b c h1 h2 => by simp at *; omega) (fun a b => by simp; omega) ks
  exact this.imp fun h => of_decide_eq_true h
end Law

namespace Law
open PySem L2 HI
section
variable {b : Addr} {Sd So Sp Sm' Sl' Ss Sr Sb Spb Slow Sls Smi : HI.Spec} {K : KD}
theorem turns (hd : DrawS b Sd) (hof : OfS b So) (hpos : PosS b Sp) (hmix : MixS b Sm') (hless : LessS Sl') (hbel : LessS Sb) (hsame : SameS Ss) (hord : OrdS Sr) (hpb : PbS Spb) (hlow : LowS Slow) (hls : LowS Sls) (hmi : MidS Smi) {s0 s18 s19 : Sl}
    (k : ∀ (M1' : Mem) (s2 s3 s4 s5 s6 s7 s8 s9 s10 s11 s12 s13 s14 s15 s16 s17 : Sl), K.nx [s0, .val (.cell 0), s2, s3, s4, s5, s6, s7, s8, s9, s10, s11, s12, s13, s14, s15, s16, s17, s18, s19] (.bag b :: M1')) :
    ∀ (js : List D) (M1 : Mem) (s2 s3 s4 s5 s6 s7 s8 s9 s10 s11 s12 s13 s14 s15 s16 s17 : Sl), forL (.one 2) (w_law_6 Sp So Sd Slow Sls Smi Sb Sl' Ss Spb Sm' Sr) none K js [s0, .val (.cell 0), s2, s3, s4, s5, s6, s7, s8, s9, s10, s11, s12, s13, s14, s15, s16, s17, s18, s19] (.bag b :: M1)
  | [], M1, s2, s3, s4, s5, s6, s7, s8, s9, s10, s11, s12, s13, s14, s15, s16, s17 => k M1 _ _ _ _ _ _ _ _ _ _ _ _ _ _ _ _
  | j :: js, M1, s2, s3, s4, s5, s6, s7, s8, s9, s10, s11, s12, s13, s14, s15, s16, s17 => by
    rw [forL]
    exact turn_ok (K := ⟨_, _, _, _⟩) hd hof hpos hmix hless hbel hsame hord hpb hlow hls hmi fun M1' t2 t3 t4 t5 t6 t7 t8 t9 t10 t11 t12 t13 t14 t15 t16 t17 => turns hd hof hpos hmix hless hbel hsame hord hpb hlow hls hmi k js M1' t2 t3 t4 t5 t6 t7 t8 t9 t10 t11 t12 t13 t14 t15 t16 t17
theorem ids_lc {M : Mem} {s0 s1 s2 s3 s4 s5 s6 s7 s8 s9 s10 s11 s12 s13 s14 s16 s17 s18 s19 : Sl} : ∀ (n lo : Nat) {Q : List D → Mem → Prop} (s15 : Sl), Q ((List.range' lo n).map kD0) M →
    lcL [s0, s1, s2, s3, s4, s5, s6, s7, s8, s9, s10, s11, s12, s13, s14, s15, s16, s17, s18, s19] (.one 15) tTrue (eTup (aCons (eC (.str [])) (aCons (eV 15) (aNil)))) none ((List.range' lo n).map fun i => .int ((i : Nat) : Int)) M Q
  | 0, lo, Q, s15, k => k
  | n + 1, lo, Q, s15, k => by
    rw [List.range'_succ, List.map_cons]
    rw [List.range'_succ, List.map_cons] at k
    conv => whnf
    exact ids_lc n (lo + 1) _ k
theorem law_ok' (hd : DrawS b Sd) (hof : OfS b So) (hpos : PosS b Sp) (hmix : MixS b Sm') (hless : LessS Sl') (hbel : LessS Sb) (hsame : SameS Ss) (hord : OrdS Sr) (hpb : PbS Spb) (hlow : LowS Slow) (hls : LowS Sls) (hmi : MidS Smi) (R : Rz → Mem → Prop) (hR : ∀ M, R (.val (.bl true)) M) :
    b_law So Slow Sm' Ss Sp Sls Smi Sb Sl' Spb Sd Sr ⟨fun _ _ => False, R, fun _ _ => False, fun _ _ => False⟩ [.no, .val (.cell 0), .no, .no, .no, .no, .no, .no, .no, .no, .no, .no, .no, .no, .no, .no, .no, .no, .no, .no] [.bag b] := by
  unfold b_law
  generalize hT : w_law_7 Spb Smi = T
  conv => whnf
  refine ⟨⟨by decide, by decide⟩, ?_⟩
  refine turns hd hof hpos hmix hless hbel hsame hord hpb hlow hls hmi (fun M1 s2 s3 s4 s5 s6 s7 s8 s9 s10 s11 s12 s13 s14 s15 s16 s17 => ?_) _ [] _ _ _ _ _ _ _ _ _ _ _ _ _ _ _ _
  conv => whnf
  refine hd (n := 30) (by decide) (by decide) fun i hi => ?_
  have e1 : (20 : Int) + (i : Int) = ((20 + i : Nat) : Int) := by omega
  conv => whnf
  rw [e1]
  clear e1
  have hn : 20 + i ≤ 50 := by omega
  generalize 20 + i = n at hn ⊢
  refine ⟨⟨by omega, by omega⟩, ?_⟩
  rw [show rngD 0 ((n : Int)).toNat = _ from rng_eq n, ← hT]
  refine spots_loop hpb hmi n 0 (1, 1) [] _ ⟨Nat.le_refl _, 0, Nat.le_refl _, rfl⟩ (by omega) rfl (fun x hx => by cases hx) rfl fun p ys s15 hl hx he => ?_
  rw [Nat.zero_add] at hl he
  have hp : ((srt (whole 1 ys) ys).map fun x => x.2.2).Perm (List.range n) := by
    refine ((srt_perm _ _).map _).trans ?_
    have e : (ys.map fun x => x.2.2) = List.range n := by
      have := congrArg (List.map fun i : Id => i.2) he
      rw [List.map_map, List.map_map] at this
      have h2 : ((fun i : Id => i.2) ∘ fun k => (([], k) : Id)) = id := rfl
      rw [h2, List.map_id] at this
      exact this
    rw [e]
  have hid : ∀ x ∈ srt (whole 1 ys) ys, idD x.2 = kD0 x.2.2 := fun x hx' => by
    have h1 : x.2 ∈ ys.map fun x => x.2 := List.mem_map.mpr ⟨x, (srt_perm _ _).mem_iff.mp hx', rfl⟩
    rw [he] at h1
    obtain ⟨k, _, e⟩ := List.mem_map.mp h1
    rw [← e]
    rfl
  have em : ((srt (whole 1 ys) ys).map fun x => idD x.2) = ((srt (whole 1 ys) ys).map fun x => x.2.2).map kD0 := by
    rw [List.map_map]
    exact List.map_congr_left hid
  conv => whnf
  refine hord (xs := ys) (.inl rfl) (by omega) (fun x h => (hx x h).den (by decide)) ?_
  conv => whnf
  rw [em]
  refine ⟨⟨fun x h => ?_, fun x h y h' => ?_, .inl fun x h => ?_⟩, ?_⟩
  · obtain ⟨k, _, rfl⟩ := List.mem_map.mp h; rfl
  · obtain ⟨k, _, rfl⟩ := List.mem_map.mp h; obtain ⟨k', _, rfl⟩ := List.mem_map.mp h'; rfl
  · obtain ⟨k, _, rfl⟩ := List.mem_map.mp h; exact ⟨_, _, rfl⟩
  rw [sort_k _ hp]
  conv => whnf
  refine ⟨⟨by omega, by rw [List.length_map]; omega⟩, ?_⟩
  rw [show rngD 0 (((ys.map itD).length : Nat) : Int).toNat = (List.range' 0 n).map (fun i => D.int ((i : Nat) : Int)) by rw [Int.toNat_natCast, List.length_map, hl]; exact rng_eq n]
  refine szOk_i (by rw [List.length_map, List.length_range']; omega) ?_
  refine ids_lc n 0 _ ?_
  conv => whnf
  refine hsame (by rw [List.range_eq_range']) ⟨by rw [List.length_map, List.length_range]; omega, fun x h => ?_⟩ ?_
  · obtain ⟨k, _, rfl⟩ := List.mem_map.mp h
    exact pl_id _ 5
  conv => whnf
  refine hord (xs := []) (.inl rfl) (by decide) (fun x h => by cases h) ?_
  rw [show srt (whole 1 []) [] = [] by unfold srt; exact List.mergeSort_nil]
  conv => whnf
  refine hsame rfl ⟨Nat.zero_le _, fun x h => by cases h⟩ ?_
  conv => whnf
  exact hR _
end
theorem law_holds : lawS 20 (b_law S__law_of S__law_low S__law_mixed S__law_same S__law_position S_lowest S_middle S_is_below S__law_less S_position_behind S__law_draw S_ordered) := fun b =>
  law_ok' (b := b) (fun h0 h1 k => draw_ok h0 h1 k) (fun h0 h1 k => of_ok h0 h1 k) (fun k => position_ok k) (fun h k => mixed_ok _ h k) (fun p q hp hq M Q k => less_ok p q hp hq k) (fun p q hp hq M Q k => is_below_ok p q hp hq k) (fun e h k => by subst e; exact same_refl 8 _ _ h k) (fun h1 h2 h3 k => ordered_ok _ _ h1 h2 h3 k) pbS (fun a b h1 h2 M Q k => llow_ok a b h1 h2 k) (fun a b h1 h2 M Q k => lowest_ok a b h1 h2 k) (fun p q hp hq M Q k => middle_ok p q hp hq k) _ fun M => rfl
end Law

namespace Law
open PySem PySem.Spec PyProof.Rows L2 HI
def top (i : Nat) : Stmt := PySem.Challenge.pw_piercednames_k03_positions_between.main.body.getD i (.Pass ⟨0, 0, 0, 0⟩)
structure Txt (K : PySem.W.Frag) (mg : Str → Option Value) : Prop where
  b_abs : mg "abs" = none
  b_all : mg "all" = none
  b_bool : mg "bool" = none
  b_dict : mg "dict" = none
  b_int : mg "int" = none
  b_len : mg "len" = none
  b_list : mg "list" = none
  b_range : mg "range" = none
  b_sorted : mg "sorted" = none
  b_str : mg "str" = none
  b_tuple : mg "tuple" = none
  b_zip : mg "zip" = none
  isinstance : mg "isinstance" = none
abbrev s_common_part : Stmt := top 1
abbrev N_common_part : List Str := ["one", "other", "left", "right"]
theorem sc_common_part : FnScope N_common_part ["one", "other"] (defScope s_common_part) := ⟨rfl, rfl, rfl, by decide +kernel, rfl, by decide +kernel, by decide +kernel⟩
abbrev s_lowest : Stmt := top 2
abbrev N_lowest : List Str := ["over", "under", "part"]
theorem sc_lowest : FnScope N_lowest ["over", "under"] (defScope s_lowest) := ⟨rfl, rfl, rfl, by decide +kernel, rfl, by decide +kernel, by decide +kernel⟩
abbrev s_middle : Stmt := top 3
abbrev N_middle : List Str := ["one", "other"]
theorem sc_middle : FnScope N_middle ["one", "other"] (defScope s_middle) := ⟨rfl, rfl, rfl, by decide +kernel, rfl, by decide +kernel, by decide +kernel⟩
abbrev s_is_below : Stmt := top 4
abbrev N_is_below : List Str := ["one", "other"]
theorem sc_is_below : FnScope N_is_below ["one", "other"] (defScope s_is_below) := ⟨rfl, rfl, rfl, by decide +kernel, rfl, by decide +kernel, by decide +kernel⟩
abbrev s_position_behind : Stmt := top 5
abbrev N_position_behind : List Str := ["one", "other"]
theorem sc_position_behind : FnScope N_position_behind ["one", "other"] (defScope s_position_behind) := ⟨rfl, rfl, rfl, by decide +kernel, rfl, by decide +kernel, by decide +kernel⟩
abbrev s_ordered : Stmt := top 6
abbrev N_ordered : List Str := ["pairs", "whole", "position", "_", "keyed", "thing"]
theorem sc_ordered : FnScope N_ordered ["pairs"] (defScope s_ordered) := ⟨rfl, rfl, rfl, by decide +kernel, rfl, by decide +kernel, by decide +kernel⟩
abbrev s__law_bag : Stmt := top 8
abbrev N__law_bag : List Str := ["_law_script", "_law_mixed_here", "_law_cell"]
theorem sc__law_bag : FnScope N__law_bag ["_law_script"] (defScope s__law_bag) := ⟨rfl, rfl, rfl, by decide +kernel, rfl, by decide +kernel, by decide +kernel⟩
abbrev s__law_draw : Stmt := top 9
abbrev N__law_draw : List Str := ["_law_bag_here", "_law_many", "_law_cell", "_law_digit", "_law_seed"]
theorem sc__law_draw : FnScope N__law_draw ["_law_bag_here", "_law_many"] (defScope s__law_draw) := ⟨rfl, rfl, rfl, by decide +kernel, rfl, by decide +kernel, by decide +kernel⟩
abbrev s__law_of : Stmt := top 10
abbrev N__law_of : List Str := ["_law_bag_here", "_law_some"]
theorem sc__law_of : FnScope N__law_of ["_law_bag_here", "_law_some"] (defScope s__law_of) := ⟨rfl, rfl, rfl, by decide +kernel, rfl, by decide +kernel, by decide +kernel⟩
abbrev s__law_mixed : Stmt := top 11
abbrev N__law_mixed : List Str := ["_law_bag_here", "_law_some", "_law_found", "_law_item"]
theorem sc__law_mixed : FnScope N__law_mixed ["_law_bag_here", "_law_some"] (defScope s__law_mixed) := ⟨rfl, rfl, rfl, by decide +kernel, rfl, by decide +kernel, by decide +kernel⟩
abbrev s__law_same : Stmt := top 12
abbrev N__law_same : List Str := ["_law_found", "_law_due", "_law_key", "_law_one_z", "_law_two"]
theorem sc__law_same : FnScope N__law_same ["_law_found", "_law_due"] (defScope s__law_same) := ⟨rfl, rfl, rfl, by decide +kernel, rfl, by decide +kernel, by decide +kernel⟩
abbrev s__law_divisor : Stmt := top 13
abbrev N__law_divisor : List Str := ["_law_a", "_law_b"]
theorem sc__law_divisor : FnScope N__law_divisor ["_law_a", "_law_b"] (defScope s__law_divisor) := ⟨rfl, rfl, rfl, by decide +kernel, rfl, by decide +kernel, by decide +kernel⟩
abbrev s__law_low : Stmt := top 14
abbrev N__law_low : List Str := ["_law_over_z", "_law_under_z", "_law_by"]
theorem sc__law_low : FnScope N__law_low ["_law_over_z", "_law_under_z"] (defScope s__law_low) := ⟨rfl, rfl, rfl, by decide +kernel, rfl, by decide +kernel, by decide +kernel⟩
abbrev s__law_position : Stmt := top 15
abbrev N__law_position : List Str := ["_law_bag_here"]
theorem sc__law_position : FnScope N__law_position ["_law_bag_here"] (defScope s__law_position) := ⟨rfl, rfl, rfl, by decide +kernel, rfl, by decide +kernel, by decide +kernel⟩
abbrev s__law_less : Stmt := top 16
abbrev N__law_less : List Str := ["_law_one_z", "_law_other_z"]
theorem sc__law_less : FnScope N__law_less ["_law_one_z", "_law_other_z"] (defScope s__law_less) := ⟨rfl, rfl, rfl, by decide +kernel, rfl, by decide +kernel, by decide +kernel⟩
abbrev s_law : Stmt := top 17
abbrev N_law : List Str := ["_law_script", "_law_bag_here", "_law_turn", "_law_one_z", "_law_other_z", "_law_over_z", "_law_under_z", "_law_half", "_law_told", "_law_due", "_law_low_here", "_law_high", "_law_pairs_z", "_law_held", "_law_rest", "_law_k", "_law_first", "_law_pair", "_law_here", "_law_spots"]
theorem sc_law : FnScope N_law ["_law_script"] (defScope s_law) := ⟨rfl, rfl, rfl, by decide +kernel, rfl, by decide +kernel, by decide +kernel⟩
section
variable {P : Program} {w : World} {K : PySem.W.Frag} {mg : Str → Option Value} {base : Heap}
theorem ok_common_part {f : Addr} {fd : FuncData} (F : Fun K "common_part" "common_part" s_common_part f fd) (T : Txt K mg)  : FnOk P w K mg base CX0 1 f fd ["one", "other"] (SpD ⟨K, mg⟩ false 2 S_common_part) :=
  fn_data (rw := false) (k := 0) (g := b_common_part ) F sc_common_part (by decide) fun cdv A outer s H E hr => q_scons (q_par2 2 3 sc_common_part.nd (q_tr (q_callB call_absL T.b_abs bt_abs (q_cons (q_var 0) (q_nil)))) (q_tr (q_callB call_absL T.b_abs bt_abs (q_cons (q_var 1) (q_nil)))) rfl)
      (q_scons (q_swh (q_tcmp op_gtL (q_var 3) (q_int)) (q_sone (q_par2 2 3 sc_common_part.nd (q_var 3) (q_fz (q_op op_modL (q_var 2) (q_var 3))) rfl)))
      (q_sone (q_ret (q_var 2))))
theorem ok_lowest {f : Addr} {fd : FuncData} (F : Fun K "lowest" "lowest" s_lowest f fd) (T : Txt K mg) (D_common_part : Def P w K mg base "common_part" ["one", "other"] 1 false S_common_part) : FnOk P w K mg base CX0 2 f fd ["over", "under"] (SpD ⟨K, mg⟩ false 2 S_lowest) :=
  fn_data (rw := false) (k := 1) (g := b_lowest S_common_part) F sc_lowest (by decide) fun cdv A outer s H E hr => q_scons (q_asg (i := 2) sc_lowest.nd (q_fz (q_callD D_common_part hr (q_cons (q_var 0) (q_cons (q_var 1) (q_nil))))))
      (q_sone (q_ret (q_tup (q_cons (q_op op_fdivL (q_var 0) (q_var 2)) (q_cons (q_op op_fdivL (q_var 1) (q_var 2)) (q_nil))))))
theorem ok_middle {f : Addr} {fd : FuncData} (F : Fun K "middle" "middle" s_middle f fd) (T : Txt K mg) (D_lowest : Def P w K mg base "lowest" ["over", "under"] 2 false S_lowest) : FnOk P w K mg base CX0 3 f fd ["one", "other"] (SpD ⟨K, mg⟩ false 2 S_middle) :=
  fn_data (rw := false) (k := 2) (g := b_middle S_lowest) F sc_middle (by decide) fun cdv A outer s H E hr => q_sone (q_ret (q_callD D_lowest hr (q_cons (q_op op_addL (q_op op_mulL (q_ix hr (q_var 0) (q_int)) (q_ix hr (q_var 1) (q_int))) (q_op op_mulL (q_ix hr (q_var 1) (q_int)) (q_ix hr (q_var 0) (q_int)))) (q_cons (q_op op_mulL (q_op op_mulL (q_int) (q_ix hr (q_var 0) (q_int))) (q_ix hr (q_var 1) (q_int))) (q_nil)))))
theorem ok_is_below {f : Addr} {fd : FuncData} (F : Fun K "is_below" "is_below" s_is_below f fd) (T : Txt K mg)  : FnOk P w K mg base CX0 1 f fd ["one", "other"] (SpD ⟨K, mg⟩ false 2 S_is_below) :=
  fn_data (rw := false) (k := 0) (g := b_is_below ) F sc_is_below (by decide) fun cdv A outer s H E hr => q_sone (q_ret (q_tr (q_cmp (op_ltH hr) (q_op op_mulL (q_ix hr (q_var 0) (q_int)) (q_ix hr (q_var 1) (q_int))) (q_op op_mulL (q_ix hr (q_var 1) (q_int)) (q_ix hr (q_var 0) (q_int))))))
theorem ok_position_behind {f : Addr} {fd : FuncData} (F : Fun K "position_behind" "position_behind" s_position_behind f fd) (T : Txt K mg) (D_lowest : Def P w K mg base "lowest" ["over", "under"] 2 false S_lowest) (D_middle : Def P w K mg base "middle" ["one", "other"] 3 false S_middle) : FnOk P w K mg base CX0 4 f fd ["one", "other"] (SpD ⟨K, mg⟩ false 2 S_position_behind) :=
  fn_data (rw := false) (k := 3) (g := b_position_behind S_lowest S_middle) F sc_position_behind (by decide) fun cdv A outer s H E hr => q_scons (q_sif (q_w (q_wand (q_tcmp op_isL (q_var 0) (q_non)) (q_wand1 (q_tcmp op_isL (q_var 1) (q_non))))) (q_sone (q_ret (q_tup (q_cons (q_int) (q_cons (q_int) (q_nil)))))) (q_snil))
      (q_scons (q_sif (q_tcmp op_isL (q_var 0) (q_non)) (q_sone (q_ret (q_callD D_lowest hr (q_cons (q_ix hr (q_var 1) (q_int)) (q_cons (q_op op_mulL (q_int) (q_ix hr (q_var 1) (q_int))) (q_nil)))))) (q_snil))
      (q_scons (q_sif (q_tcmp op_isL (q_var 1) (q_non)) (q_sone (q_ret (q_callD D_lowest hr (q_cons (q_op op_addL (q_ix hr (q_var 0) (q_int)) (q_ix hr (q_var 0) (q_int))) (q_cons (q_ix hr (q_var 0) (q_int)) (q_nil)))))) (q_snil))
      (q_sone (q_ret (q_if (q_tcmp (op_eqH hr) (q_var 0) (q_var 1)) (q_non) (q_callD D_middle hr (q_cons (q_var 0) (q_cons (q_var 1) (q_nil)))))))))
theorem ok_ordered {f : Addr} {fd : FuncData} (F : Fun K "ordered" "ordered" s_ordered f fd) (T : Txt K mg) (D_common_part : Def P w K mg base "common_part" ["one", "other"] 1 false S_common_part) : FnOk P w K mg base CX0 2 f fd ["pairs"] (SpD ⟨K, mg⟩ false 1 S_ordered) :=
  fn_data (rw := false) (k := 1) (g := b_ordered S_common_part) F sc_ordered (by decide) fun cdv A outer s H E hr => q_scons (q_asg (i := 1) sc_ordered.nd (q_int))
      (q_scons (q_sfor (q_seq (q_var 0)) (q_gtup (q_gcons (q_name (i := 2) sc_ordered.nd) (q_gcons (q_name (i := 3) sc_ordered.nd) (q_gnil)))) (q_sone (q_asg (i := 1) sc_ordered.nd (q_fz (q_op op_mulL (q_op op_fdivL (q_var 1) (q_callD D_common_part hr (q_cons (q_var 1) (q_cons (q_ix hr (q_var 2) (q_int)) (q_nil))))) (q_ix hr (q_var 2) (q_int)))))))
      (q_scons (q_asgLcF (i := 4) (own := [("position", 2), ("thing", 5)]) (t := (.tup [.one 2, .one 5])) sc_ordered.nd (q_seq (q_var 0)) (blkOk_by (N := N_ordered) (sc := defScope s_ordered) (by decide +kernel)) (fun _ _ _ _ _ => q_gtup (q_gcons (q_name (i := 2) sc_ordered.nd) (q_gcons (q_name (i := 5) sc_ordered.nd) (q_gnil)))) (fun _ _ _ _ _ => q_tup (q_cons (q_op op_mulL (q_ix hr (q_var 2) (q_int)) (q_op op_fdivL (q_var 1) (q_ix hr (q_var 2) (q_int)))) (q_cons (q_var 5) (q_nil)))) (sw_true rfl rfl rfl (by decide +kernel)))
      (q_sone (q_ret (q_lc (own := [("_", 3), ("thing", 5)]) (t := (.tup [.one 3, .one 5])) sc_ordered.nd (q_seq (q_callB (call_sortedL hr) T.b_sorted bt_sorted (q_cons (q_var 4) (q_nil)))) (blkOk_by (N := N_ordered) (sc := defScope s_ordered) (by decide +kernel)) (fun _ _ _ _ _ => q_gtup (q_gcons (q_name (i := 3) sc_ordered.nd) (q_gcons (q_name (i := 5) sc_ordered.nd) (q_gnil)))) (fun _ _ _ _ _ => q_var 5))))))
theorem ok__law_bag {f : Addr} {fd : FuncData} (F : Fun K "_law_bag" "_law_bag" s__law_bag f fd) (T : Txt K mg) : FnOk P w K mg base CX0 1 f fd ["_law_script"] (spBag K) := by
  refine F.ok sc__law_bag (fun vs H Q E h => ?_) fun cdv A outer s H vs Q E hr h => ⟨_, pss_cons (ps_set (i := 1) sc__law_bag.nd rfl (Or.inl rfl) pe_int) (pss_cons (ps_for PassesOwn.never rfl (pi_list (pe_slice sl_list (pv 0) po_none (po_some pe_int))) (pg_name (i := 2) sc__law_bag.nd rfl (Or.inl rfl)) (pss_one (ps_set (i := 1) sc__law_bag.nd rfl (Or.inl rfl) (pe_op op_mod (pe_callTy call_int1 (by rfl) T.b_int bt_int (pa_cons (pe_op op_add (pe_op op_add (pe_op op_mul (pv 1) pe_int) (pe_op op_mod (pe_callTy call_int1 (by rfl) T.b_int bt_int (pa_cons (pv 2) pa_nil)) pe_int)) pe_int) pa_nil)) pe_int)))) (pss_one (ps_ret (pe_lst (pa_cons (pe_callTy call_list_of (by rfl) T.b_list bt_list (pa_cons (pe_slice sl_list (pv 0) po_none (po_some pe_int)) pa_nil)) (pa_cons pe_int (pa_cons pe_int (pa_cons (pv 1) (pa_cons pe_int pa_nil))))))))), bag_read h⟩
  obtain ⟨a, ns, rfl, _⟩ := h
  rfl
theorem ok__law_draw {f : Addr} {fd : FuncData} (F : Fun K "_law_draw" "_law_draw" s__law_draw f fd) (T : Txt K mg) : FnOk P w K mg base CX0 1 f fd ["_law_bag_here", "_law_many"] (SpD ⟨K, mg⟩ false 2 drawS) := by
  refine F.ok sc__law_draw (fun vs H Q E h => ?_) fun cdv A outer s H vs Q E hr h => ⟨_, pss_cons (ps_asg (pe_op op_add (pe_ix ix_list (pv 0) pe_int (fun _ _ => rfl)) pe_int) (pg_sub (pv 0) pe_int set_list)) (pss_cons (ps_if (PW.pt (pw_and (pt_cmpR op_eq (pe_ix ix_list (pv 0) pe_int (fun _ _ => rfl)) pe_int (nomark _)) (pw_and1 (pt_cmpR op_lt (pe_ix ix_list (pv 0) pe_int (fun _ _ => rfl)) (pe_callB call_len_seq (by rfl) T.b_len bt_len (pa_cons (pe_ix ix_list (pv 0) pe_int (fun _ _ => rfl)) pa_nil)) (nomark _))))) (pss_cons (ps_set (i := 2) sc__law_draw.nd rfl (Or.inl rfl) (pe_ix ix_list (pe_ix ix_list (pv 0) pe_int (fun _ _ => rfl)) (pe_ix ix_list (pv 0) pe_int (fun _ _ => rfl)) (fun _ _ => rfl))) (pss_cons (ps_asg (pe_op op_add (pe_ix ix_list (pv 0) pe_int (fun _ _ => rfl)) pe_int) (pg_sub (pv 0) pe_int set_list)) (pss_cons (ps_if (pt_cmpR op_ge (pv 2) (pe_op op_pow pe_int pe_int) (nomark _)) (pss_one (ps_asg (pv 2) (pg_sub (pv 0) pe_int set_list))) pss_nil) (pss_one (ps_asg (pe_op op_mod (pe_callTy call_int1 (by rfl) T.b_int bt_int (pa_cons (pe_op op_add (pe_op op_add (pe_op op_mul (pe_ix ix_list (pv 0) pe_int (fun _ _ => rfl)) pe_int) (pe_op op_mul (pe_op op_mod (pe_callTy call_int1 (by rfl) T.b_int bt_int (pa_cons (pv 2) pa_nil)) pe_int) pe_int)) pe_int) pa_nil)) pe_int) (pg_sub (pv 0) pe_int set_list)))))) pss_nil) (pss_cons (ps_if (pt_cmpR op_gt (pe_ix ix_list (pv 0) pe_int (fun _ _ => rfl)) pe_int (nomark _)) (pss_cons (ps_set (i := 3) sc__law_draw.nd rfl (Or.inl rfl) (pe_op op_mod (pe_callTy call_int1 (by rfl) T.b_int bt_int (pa_cons (pe_ix ix_list (pv 0) pe_int (fun _ _ => rfl)) pa_nil)) (pv 1))) (pss_cons (ps_asg (pe_op op_fdivW (pe_callTy call_int1 (by rfl) T.b_int bt_int (pa_cons (pe_ix ix_list (pv 0) pe_int (fun _ _ => rfl)) pa_nil)) (pv 1)) (pg_sub (pv 0) pe_int set_list)) (pss_one (ps_ret (pv 3))))) pss_nil) (pss_cons (ps_set (i := 4) sc__law_draw.nd rfl (Or.inl rfl) (pe_ix ix_list (pv 0) pe_int (fun _ _ => rfl))) (pss_cons (ps_asg (pe_op op_mod (pe_callTy call_int1 (by rfl) T.b_int bt_int (pa_cons (pe_op op_add (pe_op op_add (pe_op op_add (pe_op op_pow (pv 4) pe_int) (pe_op op_mul (pv 4) pe_int)) (pe_op op_mul (pe_ix ix_list (pv 0) pe_int (fun _ _ => rfl)) pe_int)) pe_int) pa_nil)) pe_int) (pg_sub (pv 0) pe_int set_list)) (pss_one (ps_ret (pe_op op_mod (pe_callTy call_int1 (by rfl) T.b_int bt_int (pa_cons (pe_op op_add (pe_op op_fdivW (pe_ix ix_list (pv 0) pe_int (fun _ _ => rfl)) pe_int) (pe_op op_mul (pe_op op_mod (pe_callTy call_int1 (by rfl) T.b_int bt_int (pa_cons (pe_ix ix_list (pv 0) pe_int (fun _ _ => rfl)) pa_nil)) pe_int) pe_int)) pa_nil)) (pv 1)))))))), draw_read rfl h⟩
  obtain ⟨w2, ds, Qd, _, _, h3, h4, _⟩ := h
  rw [h3.length, h4]
  rfl
theorem ok__law_of {f : Addr} {fd : FuncData} (F : Fun K "_law_of" "_law_of" s__law_of f fd) (T : Txt K mg) (D__law_draw : Def P w K mg base "_law_draw" ["_law_bag_here", "_law_many"] 1 false S__law_draw) : FnOk P w K mg base CX0 2 f fd ["_law_bag_here", "_law_some"] (SpD ⟨K, mg⟩ false 2 S__law_of) :=
  fn_data (rw := false) (k := 1) (g := b__law_of S__law_draw) F sc__law_of (by decide) fun cdv A outer s H E hr => q_sone (q_ret (q_ix hr (q_var 1) (q_callD D__law_draw hr (q_cons (q_var 0) (q_cons (q_tr (q_callB call_lenL T.b_len bt_len (q_cons (q_var 1) (q_nil)))) (q_nil))))))
theorem ok__law_mixed {f : Addr} {fd : FuncData} (F : Fun K "_law_mixed" "_law_mixed" s__law_mixed f fd) (T : Txt K mg) (D__law_draw : Def P w K mg base "_law_draw" ["_law_bag_here", "_law_many"] 1 false S__law_draw) : FnOk P w K mg base CX0 2 f fd ["_law_bag_here", "_law_some"] (SpD ⟨K, mg⟩ false 2 S__law_mixed) :=
  fn_data (rw := false) (k := 1) (g := b__law_mixed S__law_draw) F sc__law_mixed (by decide) fun cdv A outer s H E hr => q_scons (q_asg (i := 2) sc__law_mixed.nd (q_lst (q_nil)))
      (q_scons (q_sfor (q_seq (q_var 1)) (q_name (i := 3) sc__law_mixed.nd) (q_sone (q_ins 2 (q_callD D__law_draw hr (q_cons (q_var 0) (q_cons (q_op op_addL (q_tr (q_callB call_lenL T.b_len bt_len (q_cons (q_var 2) (q_nil)))) (q_int)) (q_nil)))) (q_var 3))))
      (q_sone (q_retO 2)))
theorem okr__law_same {f : Addr} {fd : FuncData} (F : Fun K "_law_same" "_law_same" s__law_same f fd) (T : Txt K mg) (mf : mg "_law_same" = some (.ref f)) (bf : Binds K fd ["_law_found", "_law_due"] [])  : ∀ n : Nat, FnOk P w K mg base CX0 (1 + n) f fd ["_law_found", "_law_due"] (SpD ⟨K, mg⟩ false 2 (Sr__law_same n))
  | 0 => ⟨fun vs H Q E h => by obtain ⟨_, _, _, _, _, _, _, z, _⟩ := h; exact z.elim, fun A outer s H args us vs Q E hr he hb hv hs => by obtain ⟨_, _, _, _, _, _, _, z, _⟩ := hs; exact z.elim⟩
  | n + 1 => by
    have ih := okr__law_same F T mf bf  n
    have D__law_same : Def P w K mg base "_law_same" ["_law_found", "_law_due"] (1 + n) false (Sr__law_same n) := ⟨fun ds M Q h => by cases n with | zero => exact h.elim | succ m => exact bodyS_len h, f, fd, ih, mf, F.kp, bf⟩
    exact fn_data (rw := false) (k := 1 + n) (g := b__law_same (Sr__law_same n)) F sc__law_same (by decide) fun cdv A outer s H E hr => q_scons (q_sif (q_t (q_isi 6 (q_var 1) T.isinstance T.b_dict bt_dict)) (q_ssnever) (q_snil))
      (q_scons (q_sif (q_t (q_isi2 4 5 (q_var 1) T.isinstance T.b_list bt_list T.b_tuple bt_tuple)) (q_scons (q_sif (q_w (q_wor (q_tcmp (op_neH hr) (q_isi 4 (q_var 0) T.isinstance T.b_list bt_list) (q_isi 4 (q_var 1) T.isinstance T.b_list bt_list)) (q_wor1 (q_tcmp (op_neH hr) (q_isi 5 (q_var 0) T.isinstance T.b_tuple bt_tuple) (q_isi 5 (q_var 1) T.isinstance T.b_tuple bt_tuple))))) (q_sone (q_ret (q_bl))) (q_snil))
      (q_sone (q_ret (q_and (q_tr (q_cmp (op_eqH hr) (q_tr (q_callB call_lenL T.b_len bt_len (q_cons (q_var 0) (q_nil)))) (q_tr (q_callB call_lenL T.b_len bt_len (q_cons (q_var 1) (q_nil)))))) (q_one (q_tr (q_callB (call_allL rfl) T.b_all bt_all (q_cons (q_lc (own := [("_law_one_z", 3), ("_law_two", 4)]) (t := (.tup [.one 3, .one 4])) sc__law_same.nd (q_zp (q_var 0) (q_var 1) T.b_zip) (blkOk_by (N := N__law_same) (sc := defScope s__law_same) (by decide +kernel)) (fun _ _ _ _ _ => q_gtup (q_gcons (q_name (i := 3) sc__law_same.nd) (q_gcons (q_name (i := 4) sc__law_same.nd) (q_gnil)))) (fun _ _ _ _ _ => q_tr (q_callD D__law_same hr (q_cons (q_var 3) (q_cons (q_var 4) (q_nil)))))) (q_nil))))))))) (q_snil))
      (q_scons (q_sif (q_w (q_wor (q_tcmp op_isL (q_var 1) (q_non)) (q_wor1 (q_tcmp op_isL (q_var 0) (q_non))))) (q_sone (q_ret (q_and (q_tr (q_cmp op_isL (q_var 1) (q_non))) (q_one (q_tr (q_cmp op_isL (q_var 0) (q_non))))))) (q_snil))
      (q_scons (q_sif (q_w (q_wor (q_tcmp (op_neH hr) (q_isi 1 (q_var 0) T.isinstance T.b_bool bt_bool) (q_isi 1 (q_var 1) T.isinstance T.b_bool bt_bool)) (q_wor1 (q_tcmp (op_neH hr) (q_isi 2 (q_var 0) T.isinstance T.b_int bt_int) (q_isi 2 (q_var 1) T.isinstance T.b_int bt_int))))) (q_sone (q_ret (q_bl))) (q_snil))
      (q_sone (q_ret (q_and (q_tr (q_cmp (op_eqH hr) (q_isi 3 (q_var 0) T.isinstance T.b_str bt_str) (q_isi 3 (q_var 1) T.isinstance T.b_str bt_str))) (q_one (q_tr (q_cmp (op_eqH hr) (q_var 0) (q_var 1))))))))))
theorem ok__law_divisor {f : Addr} {fd : FuncData} (F : Fun K "_law_divisor" "_law_divisor" s__law_divisor f fd) (T : Txt K mg)  : FnOk P w K mg base CX0 1 f fd ["_law_a", "_law_b"] (SpD ⟨K, mg⟩ false 2 S__law_divisor) :=
  fn_data (rw := false) (k := 0) (g := b__law_divisor ) F sc__law_divisor (by decide) fun cdv A outer s H E hr => q_scons (q_swh (q_tcmp op_gtL (q_var 1) (q_int)) (q_sone (q_par2 0 1 sc__law_divisor.nd (q_var 1) (q_fz (q_op op_modL (q_tr (q_callTy call_intL T.b_int bt_int (q_cons (q_var 0) (q_nil)))) (q_var 1))) rfl)))
      (q_sone (q_ret (q_var 0)))
theorem ok__law_low {f : Addr} {fd : FuncData} (F : Fun K "_law_low" "_law_low" s__law_low f fd) (T : Txt K mg) (D__law_divisor : Def P w K mg base "_law_divisor" ["_law_a", "_law_b"] 1 false S__law_divisor) : FnOk P w K mg base CX0 2 f fd ["_law_over_z", "_law_under_z"] (SpD ⟨K, mg⟩ false 2 S__law_low) :=
  fn_data (rw := false) (k := 1) (g := b__law_low S__law_divisor) F sc__law_low (by decide) fun cdv A outer s H E hr => q_scons (q_asg (i := 2) sc__law_low.nd (q_fz (q_callD D__law_divisor hr (q_cons (q_var 0) (q_cons (q_var 1) (q_nil))))))
      (q_sone (q_ret (q_tup (q_cons (q_op op_fdivL (q_var 0) (q_var 2)) (q_cons (q_op op_fdivL (q_var 1) (q_var 2)) (q_nil))))))
theorem ok__law_position {f : Addr} {fd : FuncData} (F : Fun K "_law_position" "_law_position" s__law_position f fd) (T : Txt K mg) (D__law_low : Def P w K mg base "_law_low" ["_law_over_z", "_law_under_z"] 2 false S__law_low) (D__law_draw : Def P w K mg base "_law_draw" ["_law_bag_here", "_law_many"] 1 false S__law_draw) (D__law_of : Def P w K mg base "_law_of" ["_law_bag_here", "_law_some"] 2 false S__law_of) : FnOk P w K mg base CX0 3 f fd ["_law_bag_here"] (SpD ⟨K, mg⟩ false 1 S__law_position) :=
  fn_data (rw := false) (k := 2) (g := b__law_position S__law_low S__law_draw S__law_of) F sc__law_position (by decide) fun cdv A outer s H E hr => q_sone (q_ret (q_callD D__law_low hr (q_cons (q_op op_addL (q_int) (q_callD D__law_draw hr (q_cons (q_var 0) (q_cons (q_callD D__law_of hr (q_cons (q_var 0) (q_cons (q_lst (q_cons (q_int) (q_cons (q_int) (q_cons (q_int) (q_nil))))) (q_nil)))) (q_nil))))) (q_cons (q_op op_shlL (q_int) (q_callD D__law_of hr (q_cons (q_var 0) (q_cons (q_lst (q_cons (q_int) (q_cons (q_int) (q_cons (q_int) (q_cons (q_int) (q_cons (q_int) (q_cons (q_int) (q_nil)))))))) (q_nil))))) (q_nil)))))
theorem ok__law_less {f : Addr} {fd : FuncData} (F : Fun K "_law_less" "_law_less" s__law_less f fd) (T : Txt K mg)  : FnOk P w K mg base CX0 1 f fd ["_law_one_z", "_law_other_z"] (SpD ⟨K, mg⟩ false 2 S__law_less) :=
  fn_data (rw := false) (k := 0) (g := b__law_less ) F sc__law_less (by decide) fun cdv A outer s H E hr => q_sone (q_ret (q_tr (q_cmp (op_ltH hr) (q_op op_mulL (q_ix hr (q_var 0) (q_int)) (q_ix hr (q_var 1) (q_int))) (q_op op_mulL (q_ix hr (q_var 1) (q_int)) (q_ix hr (q_var 0) (q_int))))))
theorem ok_law {f : Addr} {fd : FuncData} (F : Fun K "law" "law" s_law f fd) (T : Txt K mg) {fb : Addr} {fdb : FuncData} (GB : FnOk P w K mg base CX0 1 fb fdb ["_law_script"] (spBag K)) (mB : mg "_law_bag" = some (.ref fb)) (kB : PySem.W.keepIn K (.ref fb) = true) (bB : Binds K fdb ["_law_script"] []) (D__law_of : Def P w K mg base "_law_of" ["_law_bag_here", "_law_some"] 2 false S__law_of) (D__law_low : Def P w K mg base "_law_low" ["_law_over_z", "_law_under_z"] 2 false S__law_low) (D__law_mixed : Def P w K mg base "_law_mixed" ["_law_bag_here", "_law_some"] 2 false S__law_mixed) (D__law_same : Def P w K mg base "_law_same" ["_law_found", "_law_due"] 9 false S__law_same) (D__law_position : Def P w K mg base "_law_position" ["_law_bag_here"] 3 false S__law_position) (D_lowest : Def P w K mg base "lowest" ["over", "under"] 2 false S_lowest) (D_middle : Def P w K mg base "middle" ["one", "other"] 3 false S_middle) (D_is_below : Def P w K mg base "is_below" ["one", "other"] 1 false S_is_below) (D__law_less : Def P w K mg base "_law_less" ["_law_one_z", "_law_other_z"] 1 false S__law_less) (D_position_behind : Def P w K mg base "position_behind" ["one", "other"] 4 false S_position_behind) (D__law_draw : Def P w K mg base "_law_draw" ["_law_bag_here", "_law_many"] 1 false S__law_draw) (D_ordered : Def P w K mg base "ordered" ["pairs"] 2 false S_ordered) (K_is_below_0 : DefK P w K mg base "is_below" ["one", "other"] 1 false S_is_below 0 ["other", "one"] [1, 0]) (K_middle_0 : DefK P w K mg base "middle" ["one", "other"] 3 false S_middle 0 ["other", "one"] [1, 0]) (K_lowest_0 : DefK P w K mg base "lowest" ["over", "under"] 2 false S_lowest 0 ["under", "over"] [1, 0]) (K_position_behind_0 : DefK P w K mg base "position_behind" ["one", "other"] 4 false S_position_behind 0 ["other", "one"] [1, 0]) (K_ordered_0 : DefK P w K mg base "ordered" ["pairs"] 2 false S_ordered 0 ["pairs"] [0]) (hL : lawS 20 (b_law S__law_of S__law_low S__law_mixed S__law_same S__law_position S_lowest S_middle S_is_below S__law_less S_position_behind S__law_draw S_ordered)) : FnOk P w K mg base CX0 10 f fd ["_law_script"] (spLaw K) := by
  refine F.ok (k := 9) sc_law (fun vs H Q E h => ?_) fun cdv A outer s H vs Q E hr h => ⟨_, pss_cons (ps_set (i := 1) sc_law.nd rfl (Or.inr rfl) (pe_call GB (hr.mono (by omega)) (by rfl) mB kB bB .nil pass0 (pa_cons (pv 0) pa_nil))) (QSs.pss (rw := true) (f := b_law S__law_of S__law_low S__law_mixed S__law_same S__law_position S_lowest S_middle S_is_below S__law_less S_position_behind S__law_draw S_ordered) (q_scons (q_sfor (q_rg1 (q_int) T.b_range) (q_name (i := 2) sc_law.nd) (q_scons (q_par2T 3 4 (q_fz (q_callD D__law_position hr (q_cons (q_var 1) (q_nil)))) (q_fz (q_callD D__law_position hr (q_cons (q_var 1) (q_nil)))) (q_gtup (q_gcons (q_name (i := 3) sc_law.nd) (q_gcons (q_name (i := 4) sc_law.nd) (q_gnil)))))
      (q_scons (q_asg (i := 4) sc_law.nd (q_fz (q_callD D__law_of hr (q_cons (q_var 1) (q_cons (q_lst (q_cons (q_var 4) (q_cons (q_var 3) (q_cons (q_tup (q_cons (q_op op_addL (q_ix hr (q_var 3) (q_int)) (q_ix hr (q_var 3) (q_int))) (q_cons (q_ix hr (q_var 3) (q_int)) (q_nil)))) (q_cons (q_var 4) (q_nil)))))) (q_nil))))))
      (q_scons (q_par2 5 6 sc_law.nd (q_fz (q_op op_addL (q_int) (q_callD D__law_draw hr (q_cons (q_var 1) (q_cons (q_op op_powL (q_int) (q_int)) (q_nil)))))) (q_fz (q_op op_addL (q_int) (q_callD D__law_draw hr (q_cons (q_var 1) (q_cons (q_op op_powL (q_int) (q_int)) (q_nil)))))) rfl)
      (q_scons (q_asg (i := 7) sc_law.nd (q_fz (q_callD D__law_low hr (q_cons (q_op op_addL (q_op op_mulL (q_ix hr (q_var 3) (q_int)) (q_ix hr (q_var 4) (q_int))) (q_op op_mulL (q_ix hr (q_var 4) (q_int)) (q_ix hr (q_var 3) (q_int)))) (q_cons (q_op op_mulL (q_op op_mulL (q_int) (q_ix hr (q_var 3) (q_int))) (q_ix hr (q_var 4) (q_int))) (q_nil))))))
      (q_scons (q_asg (i := 8) sc_law.nd (q_fz (q_lst (q_cons (q_callD D_lowest hr (q_cons (q_var 5) (q_cons (q_var 6) (q_nil)))) (q_cons (q_callK0 K_lowest_0 hr (q_kcons (q_var 6) (q_kcons (q_op op_mulL (q_var 5) (q_int)) (q_knil)))) (q_cons (q_callD D_middle hr (q_cons (q_var 3) (q_cons (q_var 4) (q_nil)))) (q_cons (q_callK0 K_middle_0 hr (q_kcons (q_var 3) (q_kcons (q_var 4) (q_knil)))) (q_cons (q_callD D_is_below hr (q_cons (q_var 3) (q_cons (q_var 4) (q_nil)))) (q_cons (q_callK0 K_is_below_0 hr (q_kcons (q_var 3) (q_kcons (q_var 4) (q_knil)))) (q_nil))))))))))
      (q_scons (q_asg (i := 9) sc_law.nd (q_lst (q_cons (q_callD D__law_low hr (q_cons (q_var 5) (q_cons (q_var 6) (q_nil)))) (q_cons (q_callD D__law_low hr (q_cons (q_op op_mulL (q_var 5) (q_int)) (q_cons (q_var 6) (q_nil)))) (q_cons (q_var 7) (q_cons (q_var 7) (q_cons (q_callD D__law_less hr (q_cons (q_var 3) (q_cons (q_var 4) (q_nil)))) (q_cons (q_callD D__law_less hr (q_cons (q_var 4) (q_cons (q_var 3) (q_nil)))) (q_nil)))))))))
      (q_scons (q_sif (q_tnot (q_t (q_tr (q_callD D__law_same hr (q_cons (q_var 8) (q_cons (q_var 9) (q_nil))))))) (q_sone (q_ret (q_bl))) (q_snil))
      (q_scons (q_asgT (q_if (q_t (q_callD D__law_less hr (q_cons (q_var 3) (q_cons (q_var 4) (q_nil))))) (q_tup (q_cons (q_var 3) (q_cons (q_var 4) (q_nil)))) (q_tup (q_cons (q_var 4) (q_cons (q_var 3) (q_nil))))) (q_gtup (q_gcons (q_name (i := 10) sc_law.nd) (q_gcons (q_name (i := 11) sc_law.nd) (q_gnil)))))
      (q_scons (q_asg (i := 8) sc_law.nd (q_fz (q_lst (q_cons (q_callD D_position_behind hr (q_cons (q_var 10) (q_cons (q_var 11) (q_nil)))) (q_cons (q_callD D_position_behind hr (q_cons (q_non) (q_cons (q_var 11) (q_nil)))) (q_cons (q_callK0 K_position_behind_0 hr (q_kcons (q_non) (q_kcons (q_var 10) (q_knil)))) (q_cons (q_callD D_position_behind hr (q_cons (q_non) (q_cons (q_non) (q_nil)))) (q_nil))))))))
      (q_scons (q_asg (i := 9) sc_law.nd (q_lst (q_cons (q_if (q_tcmp (op_eqH hr) (q_var 10) (q_var 11)) (q_non) (q_var 7)) (q_cons (q_callD D__law_low hr (q_cons (q_ix hr (q_var 11) (q_int)) (q_cons (q_op op_mulL (q_int) (q_ix hr (q_var 11) (q_int))) (q_nil)))) (q_cons (q_tup (q_cons (q_op op_addL (q_ix hr (q_var 10) (q_int)) (q_ix hr (q_var 10) (q_int))) (q_cons (q_ix hr (q_var 10) (q_int)) (q_nil)))) (q_cons (q_tup (q_cons (q_int) (q_cons (q_int) (q_nil)))) (q_nil)))))))
      (q_scons (q_sif (q_tnot (q_t (q_tr (q_callD D__law_same hr (q_cons (q_var 8) (q_cons (q_var 9) (q_nil))))))) (q_sone (q_ret (q_bl))) (q_snil))
      (q_scons (q_sif (q_w (q_wand (q_tcmp (op_neH hr) (q_var 10) (q_var 11)) (q_wand1 (q_w (q_wor (q_tnot (q_t (q_callD D_is_below hr (q_cons (q_var 10) (q_cons (q_ix hr (q_var 8) (q_int)) (q_nil)))))) (q_wor (q_tnot (q_t (q_callD D_is_below hr (q_cons (q_ix hr (q_var 8) (q_int)) (q_cons (q_var 11) (q_nil)))))) (q_wor1 (q_t (q_callD D_is_below hr (q_cons (q_var 10) (q_cons (q_var 10) (q_nil)))))))))))) (q_sone (q_ret (q_bl))) (q_snil))
      (q_scons (q_asgLcF (i := 12) (own := [("_law_k", 15)]) (t := (.one 15)) sc_law.nd (q_rg1 (q_callD D__law_draw hr (q_cons (q_var 1) (q_cons (q_int) (q_nil)))) T.b_range) (blkOk_by (N := N_law) (sc := defScope s_law) (by decide +kernel)) (fun _ _ _ _ _ => q_name (i := 15) sc_law.nd) (fun _ _ _ _ _ => q_tup (q_cons (q_callD D__law_of hr (q_cons (q_var 1) (q_cons (q_lst (q_cons (q_var 10) (q_cons (q_var 11) (q_cons (q_var 3) (q_cons (q_callD D__law_position hr (q_cons (q_var 1) (q_nil))) (q_nil)))))) (q_nil)))) (q_cons (q_tup (q_cons (q_callD D__law_of hr (q_cons (q_var 1) (q_cons (q_lst (q_cons (q_str []) (q_cons (q_str [97, 110, 110]) (q_cons (q_str [98]) (q_nil))))) (q_nil)))) (q_cons (q_var 15) (q_nil)))) (q_nil)))) (sw_true rfl rfl rfl (by decide +kernel)))
      (q_scons (q_asg (i := 12) sc_law.nd (q_fz (q_callD D__law_mixed hr (q_cons (q_var 1) (q_cons (q_var 12) (q_nil))))))
      (q_scons (q_par3 13 14 9 sc_law.nd (q_fz (q_callTy (call_listL rfl) T.b_list bt_list (q_cons (q_var 12) (q_nil)))) (q_cell (q_callTy (call_listL rfl) T.b_list bt_list (q_cons (q_var 12) (q_nil)))) (q_lst (q_nil)) rfl)
      (q_scons (q_sfor (q_rg1 (q_tr (q_callB call_lenL T.b_len bt_len (q_cons (q_var 12) (q_nil)))) T.b_range) (q_name (i := 15) sc_law.nd) (q_scons (q_asg (i := 16) sc_law.nd (q_fz (q_ix hr (q_var 14) (q_int))))
      (q_scons (q_sfor (q_seq (q_var 14)) (q_name (i := 17) sc_law.nd) (q_sone (q_sif (q_w (q_wor (q_t (q_callD D__law_less hr (q_cons (q_ix hr (q_var 17) (q_int)) (q_cons (q_ix hr (q_var 16) (q_int)) (q_nil))))) (q_wor1 (q_w (q_wand (q_tcmp (op_eqH hr) (q_ix hr (q_var 17) (q_int)) (q_ix hr (q_var 16) (q_int))) (q_wand1 (q_tcmp (op_ltH hr) (q_ix hr (q_var 17) (q_int)) (q_ix hr (q_var 16) (q_int))))))))) (q_sone (q_asg (i := 16) sc_law.nd (q_var 17))) (q_snil))))
      (q_scons (q_app 9 (q_ix hr (q_var 16) (q_int)))
      (q_sone (q_cRem hr (q_var 14) (q_var 16)))))))
      (q_sone (q_sif (q_w (q_wor (q_tnot (q_t (q_tr (q_callD D__law_same hr (q_cons (q_lst (q_cons (q_callD D_ordered hr (q_cons (q_var 12) (q_nil))) (q_cons (q_callK0 K_ordered_0 hr (q_kcons (q_callTy call_tupleL T.b_tuple bt_tuple (q_cons (q_var 12) (q_nil))) (q_knil))) (q_nil)))) (q_cons (q_lst (q_cons (q_var 9) (q_cons (q_var 9) (q_nil)))) (q_nil))))))) (q_wor1 (q_tcmp (op_neH hr) (q_var 12) (q_var 13))))) (q_sone (q_ret (q_bl))) (q_snil))))))))))))))))))))
      (q_scons (q_par2 18 19 sc_law.nd (q_tup (q_cons (q_int) (q_cons (q_int) (q_nil)))) (q_lst (q_nil)) rfl)
      (q_scons (q_sfor (q_rg1 (q_op op_addL (q_int) (q_callD D__law_draw hr (q_cons (q_var 1) (q_cons (q_int) (q_nil))))) T.b_range) (q_name (i := 15) sc_law.nd) (q_scons (q_asg (i := 18) sc_law.nd (q_fz (q_if (q_tcmp (op_eqH hr) (q_op op_modL (q_var 15) (q_int)) (q_int)) (q_callD D_position_behind hr (q_cons (q_non) (q_cons (q_var 18) (q_nil)))) (q_callD D_middle hr (q_cons (q_var 18) (q_cons (q_tup (q_cons (q_int) (q_cons (q_int) (q_nil)))) (q_nil)))))))
      (q_sone (q_app 19 (q_tup (q_cons (q_var 18) (q_cons (q_tup (q_cons (q_str []) (q_cons (q_var 15) (q_nil)))) (q_nil))))))))
      (q_frz 19 (q_sone (q_ret (q_and (q_tr (q_callD D__law_same hr (q_cons (q_callB (call_sortedL hr) T.b_sorted bt_sorted (q_cons (q_callD D_ordered hr (q_cons (q_var 19) (q_nil))) (q_nil))) (q_cons (q_lc (own := [("_law_k", 15)]) (t := (.one 15)) sc_law.nd (q_rg1 (q_tr (q_callB call_lenL T.b_len bt_len (q_cons (q_var 19) (q_nil)))) T.b_range) (blkOk_by (N := N_law) (sc := defScope s_law) (by decide +kernel)) (fun _ _ _ _ _ => q_name (i := 15) sc_law.nd) (fun _ _ _ _ _ => q_tup (q_cons (q_str []) (q_cons (q_var 15) (q_nil))))) (q_nil))))) (q_one (q_tr (q_callD D__law_same hr (q_cons (q_callD D_ordered hr (q_cons (q_lst (q_nil)) (q_nil))) (q_cons (q_lst (q_nil)) (q_nil)))))))))))))), law_read (G := ⟨K, mg⟩) rfl hL (by decide) h⟩
  obtain ⟨a, ns, rfl, _⟩ := h
  rfl
end
end Law

namespace Law
open PySem PySem.Spec PyProof.Rows L2 HI
theorem all_mk {l : PySem.W.OpenLaw} {w : World} {K : PySem.W.Frag} {h : Heap} {mg : Str → Option Value} {fa : Addr} (X : K.In h) (G : h.Ns mainGlobals mg) (hfa : mg "law" = some (.ref fa)) (hL : lawS 20 (b_law S__law_of S__law_low S__law_mixed S__law_same S__law_position S_lowest S_middle S_is_below S__law_less S_position_behind S__law_draw S_ordered))
    {f0 : Addr} {od0 an0 : Option Addr} {sl0 : Array (Option Value)} {oc0 kV0 dc0 pm0 cd0 ct0 : Value}
    {f1 : Addr} {od1 an1 : Option Addr} {sl1 : Array (Option Value)} {oc1 kV1 dc1 pm1 cd1 ct1 : Value}
    {f2 : Addr} {od2 an2 : Option Addr} {sl2 : Array (Option Value)} {oc2 kV2 dc2 pm2 cd2 ct2 : Value}
    {f3 : Addr} {od3 an3 : Option Addr} {sl3 : Array (Option Value)} {oc3 kV3 dc3 pm3 cd3 ct3 : Value}
    {f4 : Addr} {od4 an4 : Option Addr} {sl4 : Array (Option Value)} {oc4 kV4 dc4 pm4 cd4 ct4 : Value}
    {f5 : Addr} {od5 an5 : Option Addr} {sl5 : Array (Option Value)} {oc5 kV5 dc5 pm5 cd5 ct5 : Value}
    {f6 : Addr} {od6 an6 : Option Addr} {sl6 : Array (Option Value)} {oc6 kV6 dc6 pm6 cd6 ct6 : Value}
    {f7 : Addr} {od7 an7 : Option Addr} {sl7 : Array (Option Value)} {oc7 kV7 dc7 pm7 cd7 ct7 : Value}
    {f8 : Addr} {od8 an8 : Option Addr} {sl8 : Array (Option Value)} {oc8 kV8 dc8 pm8 cd8 ct8 : Value}
    {f9 : Addr} {od9 an9 : Option Addr} {sl9 : Array (Option Value)} {oc9 kV9 dc9 pm9 cd9 ct9 : Value}
    {f10 : Addr} {od10 an10 : Option Addr} {sl10 : Array (Option Value)} {oc10 kV10 dc10 pm10 cd10 ct10 : Value}
    {f11 : Addr} {od11 an11 : Option Addr} {sl11 : Array (Option Value)} {oc11 kV11 dc11 pm11 cd11 ct11 : Value}
    {f12 : Addr} {od12 an12 : Option Addr} {sl12 : Array (Option Value)} {oc12 kV12 dc12 pm12 cd12 ct12 : Value}
    {f13 : Addr} {od13 an13 : Option Addr} {sl13 : Array (Option Value)} {oc13 kV13 dc13 pm13 cd13 ct13 : Value}
    {f14 : Addr} {od14 an14 : Option Addr} {sl14 : Array (Option Value)} {oc14 kV14 dc14 pm14 cd14 ct14 : Value}
    {f15 : Addr} {od15 an15 : Option Addr} {sl15 : Array (Option Value)} {oc15 kV15 dc15 pm15 cd15 ct15 : Value}
    (a0 : PySem.W.nsIn K mainGlobals "common_part" = some (some (.ref f0)))
    (l0 : K.lookup f0 = some ⟨oc0, od0, .func (PySem.W.fnOf "common_part" "common_part" (defArgs s_common_part) (defBody s_common_part) (defScope s_common_part) .none kV0 dc0 pm0 an0 cd0 ct0), sl0⟩)
    (c0 : PySem.W.codeIn K cd0 "common_part" = true)
    (k0 : PySem.W.keepIn K (.ref f0) = true)
    (a1 : PySem.W.nsIn K mainGlobals "lowest" = some (some (.ref f1)))
    (l1 : K.lookup f1 = some ⟨oc1, od1, .func (PySem.W.fnOf "lowest" "lowest" (defArgs s_lowest) (defBody s_lowest) (defScope s_lowest) .none kV1 dc1 pm1 an1 cd1 ct1), sl1⟩)
    (c1 : PySem.W.codeIn K cd1 "lowest" = true)
    (k1 : PySem.W.keepIn K (.ref f1) = true)
    (a2 : PySem.W.nsIn K mainGlobals "middle" = some (some (.ref f2)))
    (l2 : K.lookup f2 = some ⟨oc2, od2, .func (PySem.W.fnOf "middle" "middle" (defArgs s_middle) (defBody s_middle) (defScope s_middle) .none kV2 dc2 pm2 an2 cd2 ct2), sl2⟩)
    (c2 : PySem.W.codeIn K cd2 "middle" = true)
    (k2 : PySem.W.keepIn K (.ref f2) = true)
    (a3 : PySem.W.nsIn K mainGlobals "is_below" = some (some (.ref f3)))
    (l3 : K.lookup f3 = some ⟨oc3, od3, .func (PySem.W.fnOf "is_below" "is_below" (defArgs s_is_below) (defBody s_is_below) (defScope s_is_below) .none kV3 dc3 pm3 an3 cd3 ct3), sl3⟩)
    (c3 : PySem.W.codeIn K cd3 "is_below" = true)
    (k3 : PySem.W.keepIn K (.ref f3) = true)
    (a4 : PySem.W.nsIn K mainGlobals "position_behind" = some (some (.ref f4)))
    (l4 : K.lookup f4 = some ⟨oc4, od4, .func (PySem.W.fnOf "position_behind" "position_behind" (defArgs s_position_behind) (defBody s_position_behind) (defScope s_position_behind) .none kV4 dc4 pm4 an4 cd4 ct4), sl4⟩)
    (c4 : PySem.W.codeIn K cd4 "position_behind" = true)
    (k4 : PySem.W.keepIn K (.ref f4) = true)
    (a5 : PySem.W.nsIn K mainGlobals "ordered" = some (some (.ref f5)))
    (l5 : K.lookup f5 = some ⟨oc5, od5, .func (PySem.W.fnOf "ordered" "ordered" (defArgs s_ordered) (defBody s_ordered) (defScope s_ordered) .none kV5 dc5 pm5 an5 cd5 ct5), sl5⟩)
    (c5 : PySem.W.codeIn K cd5 "ordered" = true)
    (k5 : PySem.W.keepIn K (.ref f5) = true)
    (a6 : PySem.W.nsIn K mainGlobals "_law_bag" = some (some (.ref f6)))
    (l6 : K.lookup f6 = some ⟨oc6, od6, .func (PySem.W.fnOf "_law_bag" "_law_bag" (defArgs s__law_bag) (defBody s__law_bag) (defScope s__law_bag) .none kV6 dc6 pm6 an6 cd6 ct6), sl6⟩)
    (c6 : PySem.W.codeIn K cd6 "_law_bag" = true)
    (k6 : PySem.W.keepIn K (.ref f6) = true)
    (a7 : PySem.W.nsIn K mainGlobals "_law_draw" = some (some (.ref f7)))
    (l7 : K.lookup f7 = some ⟨oc7, od7, .func (PySem.W.fnOf "_law_draw" "_law_draw" (defArgs s__law_draw) (defBody s__law_draw) (defScope s__law_draw) .none kV7 dc7 pm7 an7 cd7 ct7), sl7⟩)
    (c7 : PySem.W.codeIn K cd7 "_law_draw" = true)
    (k7 : PySem.W.keepIn K (.ref f7) = true)
    (a8 : PySem.W.nsIn K mainGlobals "_law_of" = some (some (.ref f8)))
    (l8 : K.lookup f8 = some ⟨oc8, od8, .func (PySem.W.fnOf "_law_of" "_law_of" (defArgs s__law_of) (defBody s__law_of) (defScope s__law_of) .none kV8 dc8 pm8 an8 cd8 ct8), sl8⟩)
    (c8 : PySem.W.codeIn K cd8 "_law_of" = true)
    (k8 : PySem.W.keepIn K (.ref f8) = true)
    (a9 : PySem.W.nsIn K mainGlobals "_law_mixed" = some (some (.ref f9)))
    (l9 : K.lookup f9 = some ⟨oc9, od9, .func (PySem.W.fnOf "_law_mixed" "_law_mixed" (defArgs s__law_mixed) (defBody s__law_mixed) (defScope s__law_mixed) .none kV9 dc9 pm9 an9 cd9 ct9), sl9⟩)
    (c9 : PySem.W.codeIn K cd9 "_law_mixed" = true)
    (k9 : PySem.W.keepIn K (.ref f9) = true)
    (a10 : PySem.W.nsIn K mainGlobals "_law_same" = some (some (.ref f10)))
    (l10 : K.lookup f10 = some ⟨oc10, od10, .func (PySem.W.fnOf "_law_same" "_law_same" (defArgs s__law_same) (defBody s__law_same) (defScope s__law_same) .none kV10 dc10 pm10 an10 cd10 ct10), sl10⟩)
    (c10 : PySem.W.codeIn K cd10 "_law_same" = true)
    (k10 : PySem.W.keepIn K (.ref f10) = true)
    (a11 : PySem.W.nsIn K mainGlobals "_law_divisor" = some (some (.ref f11)))
    (l11 : K.lookup f11 = some ⟨oc11, od11, .func (PySem.W.fnOf "_law_divisor" "_law_divisor" (defArgs s__law_divisor) (defBody s__law_divisor) (defScope s__law_divisor) .none kV11 dc11 pm11 an11 cd11 ct11), sl11⟩)
    (c11 : PySem.W.codeIn K cd11 "_law_divisor" = true)
    (k11 : PySem.W.keepIn K (.ref f11) = true)
    (a12 : PySem.W.nsIn K mainGlobals "_law_low" = some (some (.ref f12)))
    (l12 : K.lookup f12 = some ⟨oc12, od12, .func (PySem.W.fnOf "_law_low" "_law_low" (defArgs s__law_low) (defBody s__law_low) (defScope s__law_low) .none kV12 dc12 pm12 an12 cd12 ct12), sl12⟩)
    (c12 : PySem.W.codeIn K cd12 "_law_low" = true)
    (k12 : PySem.W.keepIn K (.ref f12) = true)
    (a13 : PySem.W.nsIn K mainGlobals "_law_position" = some (some (.ref f13)))
    (l13 : K.lookup f13 = some ⟨oc13, od13, .func (PySem.W.fnOf "_law_position" "_law_position" (defArgs s__law_position) (defBody s__law_position) (defScope s__law_position) .none kV13 dc13 pm13 an13 cd13 ct13), sl13⟩)
    (c13 : PySem.W.codeIn K cd13 "_law_position" = true)
    (k13 : PySem.W.keepIn K (.ref f13) = true)
    (a14 : PySem.W.nsIn K mainGlobals "_law_less" = some (some (.ref f14)))
    (l14 : K.lookup f14 = some ⟨oc14, od14, .func (PySem.W.fnOf "_law_less" "_law_less" (defArgs s__law_less) (defBody s__law_less) (defScope s__law_less) .none kV14 dc14 pm14 an14 cd14 ct14), sl14⟩)
    (c14 : PySem.W.codeIn K cd14 "_law_less" = true)
    (k14 : PySem.W.keepIn K (.ref f14) = true)
    (a15 : PySem.W.nsIn K mainGlobals "law" = some (some (.ref f15)))
    (l15 : K.lookup f15 = some ⟨oc15, od15, .func (PySem.W.fnOf "law" "law" (defArgs s_law) (defBody s_law) (defScope s_law) .none kV15 dc15 pm15 an15 cd15 ct15), sl15⟩)
    (c15 : PySem.W.codeIn K cd15 "law" = true)
    (k15 : PySem.W.keepIn K (.ref f15) = true)
    (z_abs : PySem.W.nsIn K mainGlobals "abs" = some none)
    (z_all : PySem.W.nsIn K mainGlobals "all" = some none)
    (z_bool : PySem.W.nsIn K mainGlobals "bool" = some none)
    (z_dict : PySem.W.nsIn K mainGlobals "dict" = some none)
    (z_int : PySem.W.nsIn K mainGlobals "int" = some none)
    (z_isinstance : PySem.W.nsIn K mainGlobals "isinstance" = some none)
    (z_len : PySem.W.nsIn K mainGlobals "len" = some none)
    (z_list : PySem.W.nsIn K mainGlobals "list" = some none)
    (z_range : PySem.W.nsIn K mainGlobals "range" = some none)
    (z_sorted : PySem.W.nsIn K mainGlobals "sorted" = some none)
    (z_str : PySem.W.nsIn K mainGlobals "str" = some none)
    (z_tuple : PySem.W.nsIn K mainGlobals "tuple" = some none)
    (z_zip : PySem.W.nsIn K mainGlobals "zip" = some none) :
    ∃ fd : FuncData, (∀ (s : Shared) (v : Value), BindsTo s fd ⟨[v], []⟩ [("_law_script", v)]) ∧ ∀ base : Heap, K.In base → base.Ns mainGlobals mg → FnOk l.prog w K mg base CX0 10 fa fd ["_law_script"] (spLaw K) := by
  have e := hfa.symm.trans (PySem.W.mg_of X G a15)
  cases e
  have T : Txt K mg := { b_abs := PySem.W.mg_none_of X G z_abs, b_all := PySem.W.mg_none_of X G z_all, b_bool := PySem.W.mg_none_of X G z_bool, b_dict := PySem.W.mg_none_of X G z_dict, b_int := PySem.W.mg_none_of X G z_int, isinstance := PySem.W.mg_none_of X G z_isinstance, b_len := PySem.W.mg_none_of X G z_len, b_list := PySem.W.mg_none_of X G z_list, b_range := PySem.W.mg_none_of X G z_range, b_sorted := PySem.W.mg_none_of X G z_sorted, b_str := PySem.W.mg_none_of X G z_str, b_tuple := PySem.W.mg_none_of X G z_tuple, b_zip := PySem.W.mg_none_of X G z_zip }
  have F0 := fun_mk (st := s_common_part) l0 c0 k0
  have b0 := F0.binds (ps := ["one", "other"]) fun _ _ _ _ _ _ us hl => match us, hl with | [_, _], _ => rfl
  have F1 := fun_mk (st := s_lowest) l1 c1 k1
  have b1 := F1.binds (ps := ["over", "under"]) fun _ _ _ _ _ _ us hl => match us, hl with | [_, _], _ => rfl
  have F2 := fun_mk (st := s_middle) l2 c2 k2
  have b2 := F2.binds (ps := ["one", "other"]) fun _ _ _ _ _ _ us hl => match us, hl with | [_, _], _ => rfl
  have F3 := fun_mk (st := s_is_below) l3 c3 k3
  have b3 := F3.binds (ps := ["one", "other"]) fun _ _ _ _ _ _ us hl => match us, hl with | [_, _], _ => rfl
  have F4 := fun_mk (st := s_position_behind) l4 c4 k4
  have b4 := F4.binds (ps := ["one", "other"]) fun _ _ _ _ _ _ us hl => match us, hl with | [_, _], _ => rfl
  have F5 := fun_mk (st := s_ordered) l5 c5 k5
  have b5 := F5.binds (ps := ["pairs"]) fun _ _ _ _ _ _ us hl => match us, hl with | [_], _ => rfl
  have F6 := fun_mk (st := s__law_bag) l6 c6 k6
  have b6 := F6.binds (ps := ["_law_script"]) fun _ _ _ _ _ _ us hl => match us, hl with | [_], _ => rfl
  have F7 := fun_mk (st := s__law_draw) l7 c7 k7
  have b7 := F7.binds (ps := ["_law_bag_here", "_law_many"]) fun _ _ _ _ _ _ us hl => match us, hl with | [_, _], _ => rfl
  have F8 := fun_mk (st := s__law_of) l8 c8 k8
  have b8 := F8.binds (ps := ["_law_bag_here", "_law_some"]) fun _ _ _ _ _ _ us hl => match us, hl with | [_, _], _ => rfl
  have F9 := fun_mk (st := s__law_mixed) l9 c9 k9
  have b9 := F9.binds (ps := ["_law_bag_here", "_law_some"]) fun _ _ _ _ _ _ us hl => match us, hl with | [_, _], _ => rfl
  have F10 := fun_mk (st := s__law_same) l10 c10 k10
  have b10 := F10.binds (ps := ["_law_found", "_law_due"]) fun _ _ _ _ _ _ us hl => match us, hl with | [_, _], _ => rfl
  have F11 := fun_mk (st := s__law_divisor) l11 c11 k11
  have b11 := F11.binds (ps := ["_law_a", "_law_b"]) fun _ _ _ _ _ _ us hl => match us, hl with | [_, _], _ => rfl
  have F12 := fun_mk (st := s__law_low) l12 c12 k12
  have b12 := F12.binds (ps := ["_law_over_z", "_law_under_z"]) fun _ _ _ _ _ _ us hl => match us, hl with | [_, _], _ => rfl
  have F13 := fun_mk (st := s__law_position) l13 c13 k13
  have b13 := F13.binds (ps := ["_law_bag_here"]) fun _ _ _ _ _ _ us hl => match us, hl with | [_], _ => rfl
  have F14 := fun_mk (st := s__law_less) l14 c14 k14
  have b14 := F14.binds (ps := ["_law_one_z", "_law_other_z"]) fun _ _ _ _ _ _ us hl => match us, hl with | [_, _], _ => rfl
  have F15 := fun_mk (st := s_law) l15 c15 k15
  have kb0 : KBn K _ ["one", "other"] 0 ["other", "one"] (fun us ws => perm [1, 0] (us ++ ws)) (fun vs zs => perm [1, 0] (vs ++ zs)) := ⟨fun s us ws _ h1 h2 => (match us, ws, h1, h2 with | [], [_, _], _, _ => .of_eq rfl : BindsTo s (PySem.W.fnOf "is_below" "is_below" (defArgs s_is_below) (defBody s_is_below) (defScope s_is_below) .none kV3 dc3 pm3 an3 cd3 ct3) ⟨us, List.zip ["other", "one"] ws⟩ (List.zip ["one", "other"] (perm [1, 0] (us ++ ws)))), fun r1 r2 => perm_vals (r1.append r2) _⟩
  have kb1 : KBn K _ ["one", "other"] 0 ["other", "one"] (fun us ws => perm [1, 0] (us ++ ws)) (fun vs zs => perm [1, 0] (vs ++ zs)) := ⟨fun s us ws _ h1 h2 => (match us, ws, h1, h2 with | [], [_, _], _, _ => .of_eq rfl : BindsTo s (PySem.W.fnOf "middle" "middle" (defArgs s_middle) (defBody s_middle) (defScope s_middle) .none kV2 dc2 pm2 an2 cd2 ct2) ⟨us, List.zip ["other", "one"] ws⟩ (List.zip ["one", "other"] (perm [1, 0] (us ++ ws)))), fun r1 r2 => perm_vals (r1.append r2) _⟩
  have kb2 : KBn K _ ["over", "under"] 0 ["under", "over"] (fun us ws => perm [1, 0] (us ++ ws)) (fun vs zs => perm [1, 0] (vs ++ zs)) := ⟨fun s us ws _ h1 h2 => (match us, ws, h1, h2 with | [], [_, _], _, _ => .of_eq rfl : BindsTo s (PySem.W.fnOf "lowest" "lowest" (defArgs s_lowest) (defBody s_lowest) (defScope s_lowest) .none kV1 dc1 pm1 an1 cd1 ct1) ⟨us, List.zip ["under", "over"] ws⟩ (List.zip ["over", "under"] (perm [1, 0] (us ++ ws)))), fun r1 r2 => perm_vals (r1.append r2) _⟩
  have kb3 : KBn K _ ["one", "other"] 0 ["other", "one"] (fun us ws => perm [1, 0] (us ++ ws)) (fun vs zs => perm [1, 0] (vs ++ zs)) := ⟨fun s us ws _ h1 h2 => (match us, ws, h1, h2 with | [], [_, _], _, _ => .of_eq rfl : BindsTo s (PySem.W.fnOf "position_behind" "position_behind" (defArgs s_position_behind) (defBody s_position_behind) (defScope s_position_behind) .none kV4 dc4 pm4 an4 cd4 ct4) ⟨us, List.zip ["other", "one"] ws⟩ (List.zip ["one", "other"] (perm [1, 0] (us ++ ws)))), fun r1 r2 => perm_vals (r1.append r2) _⟩
  have kb4 : KBn K _ ["pairs"] 0 ["pairs"] (fun us ws => perm [0] (us ++ ws)) (fun vs zs => perm [0] (vs ++ zs)) := ⟨fun s us ws _ h1 h2 => (match us, ws, h1, h2 with | [], [_], _, _ => .of_eq rfl : BindsTo s (PySem.W.fnOf "ordered" "ordered" (defArgs s_ordered) (defBody s_ordered) (defScope s_ordered) .none kV5 dc5 pm5 an5 cd5 ct5) ⟨us, List.zip ["pairs"] ws⟩ (List.zip ["pairs"] (perm [0] (us ++ ws)))), fun r1 r2 => perm_vals (r1.append r2) _⟩
  refine ⟨PySem.W.fnOf "law" "law" (defArgs s_law) (defBody s_law) (defScope s_law) .none kV15 dc15 pm15 an15 cd15 ct15, fun s v => .of_eq rfl, fun base _ _ => ?_⟩
  have D_common_part : Def l.prog w K mg base "common_part" ["one", "other"] 1 false S_common_part := ⟨fun ds M Q h => bodyS_len h, _, _, ok_common_part F0 T , PySem.W.mg_of X G a0, F0.kp, b0⟩
  have D_is_below : Def l.prog w K mg base "is_below" ["one", "other"] 1 false S_is_below := ⟨fun ds M Q h => bodyS_len h, _, _, ok_is_below F3 T , PySem.W.mg_of X G a3, F3.kp, b3⟩
  have K_is_below_0 : DefK l.prog w K mg base "is_below" ["one", "other"] 1 false S_is_below 0 ["other", "one"] [1, 0] := ⟨fun ds M Q h => bodyS_len h, _, _, ok_is_below F3 T , PySem.W.mg_of X G a3, F3.kp, kb0⟩
  have GB : FnOk l.prog w K mg base CX0 1 f6 _ ["_law_script"] (spBag K) := ok__law_bag F6 T
  have D__law_draw : Def l.prog w K mg base "_law_draw" ["_law_bag_here", "_law_many"] 1 false drawS := ⟨fun ds M Q h => by obtain ⟨_, _, _, e, _⟩ := drawS_e h; rw [e]; rfl, _, _, ok__law_draw F7 T, PySem.W.mg_of X G a7, F7.kp, b7⟩
  have D__law_divisor : Def l.prog w K mg base "_law_divisor" ["_law_a", "_law_b"] 1 false S__law_divisor := ⟨fun ds M Q h => bodyS_len h, _, _, ok__law_divisor F11 T , PySem.W.mg_of X G a11, F11.kp, b11⟩
  have D__law_less : Def l.prog w K mg base "_law_less" ["_law_one_z", "_law_other_z"] 1 false S__law_less := ⟨fun ds M Q h => bodyS_len h, _, _, ok__law_less F14 T , PySem.W.mg_of X G a14, F14.kp, b14⟩
  have D_lowest : Def l.prog w K mg base "lowest" ["over", "under"] 2 false S_lowest := ⟨fun ds M Q h => bodyS_len h, _, _, ok_lowest F1 T D_common_part, PySem.W.mg_of X G a1, F1.kp, b1⟩
  have K_lowest_0 : DefK l.prog w K mg base "lowest" ["over", "under"] 2 false S_lowest 0 ["under", "over"] [1, 0] := ⟨fun ds M Q h => bodyS_len h, _, _, ok_lowest F1 T D_common_part, PySem.W.mg_of X G a1, F1.kp, kb2⟩
  have D_ordered : Def l.prog w K mg base "ordered" ["pairs"] 2 false S_ordered := ⟨fun ds M Q h => bodyS_len h, _, _, ok_ordered F5 T D_common_part, PySem.W.mg_of X G a5, F5.kp, b5⟩
  have K_ordered_0 : DefK l.prog w K mg base "ordered" ["pairs"] 2 false S_ordered 0 ["pairs"] [0] := ⟨fun ds M Q h => bodyS_len h, _, _, ok_ordered F5 T D_common_part, PySem.W.mg_of X G a5, F5.kp, kb4⟩
  have D__law_of : Def l.prog w K mg base "_law_of" ["_law_bag_here", "_law_some"] 2 false S__law_of := ⟨fun ds M Q h => bodyS_len h, _, _, ok__law_of F8 T D__law_draw, PySem.W.mg_of X G a8, F8.kp, b8⟩
  have D__law_mixed : Def l.prog w K mg base "_law_mixed" ["_law_bag_here", "_law_some"] 2 false S__law_mixed := ⟨fun ds M Q h => bodyS_len h, _, _, ok__law_mixed F9 T D__law_draw, PySem.W.mg_of X G a9, F9.kp, b9⟩
  have D__law_low : Def l.prog w K mg base "_law_low" ["_law_over_z", "_law_under_z"] 2 false S__law_low := ⟨fun ds M Q h => bodyS_len h, _, _, ok__law_low F12 T D__law_divisor, PySem.W.mg_of X G a12, F12.kp, b12⟩
  have D_middle : Def l.prog w K mg base "middle" ["one", "other"] 3 false S_middle := ⟨fun ds M Q h => bodyS_len h, _, _, ok_middle F2 T D_lowest, PySem.W.mg_of X G a2, F2.kp, b2⟩
  have K_middle_0 : DefK l.prog w K mg base "middle" ["one", "other"] 3 false S_middle 0 ["other", "one"] [1, 0] := ⟨fun ds M Q h => bodyS_len h, _, _, ok_middle F2 T D_lowest, PySem.W.mg_of X G a2, F2.kp, kb1⟩
  have D__law_position : Def l.prog w K mg base "_law_position" ["_law_bag_here"] 3 false S__law_position := ⟨fun ds M Q h => bodyS_len h, _, _, ok__law_position F13 T D__law_low D__law_draw D__law_of, PySem.W.mg_of X G a13, F13.kp, b13⟩
  have D_position_behind : Def l.prog w K mg base "position_behind" ["one", "other"] 4 false S_position_behind := ⟨fun ds M Q h => bodyS_len h, _, _, ok_position_behind F4 T D_lowest D_middle, PySem.W.mg_of X G a4, F4.kp, b4⟩
  have K_position_behind_0 : DefK l.prog w K mg base "position_behind" ["one", "other"] 4 false S_position_behind 0 ["other", "one"] [1, 0] := ⟨fun ds M Q h => bodyS_len h, _, _, ok_position_behind F4 T D_lowest D_middle, PySem.W.mg_of X G a4, F4.kp, kb3⟩
  have D__law_same : Def l.prog w K mg base "_law_same" ["_law_found", "_law_due"] 9 false S__law_same := ⟨fun ds M Q h => bodyS_len h, _, _, okr__law_same F10 T (PySem.W.mg_of X G a10) b10  8, PySem.W.mg_of X G a10, F10.kp, b10⟩
  exact ok_law F15 T GB (PySem.W.mg_of X G a6) F6.kp b6 D__law_of D__law_low D__law_mixed D__law_same D__law_position D_lowest D_middle D_is_below D__law_less D_position_behind D__law_draw D_ordered K_is_below_0 K_middle_0 K_lowest_0 K_position_behind_0 K_ordered_0 hL
end Law
open PySem PySem.W PyProof.Rows in
set_option maxRecDepth 100000 in
set_option maxHeartbeats 0 in
theorem PySem.Challenge.cw_piercednames_k03_positions_between_holds : PySem.Challenge.rw_piercednames_k03_positions_between.Holds := by
  w_on; o_law; k_head; (case hw => w_witness2)
  k_fill
  refine L2.walk_of (l := PySem.Challenge.rw_piercednames_k03_positions_between) (n := 63) (k := 10) (x := "_law_script") (CX := fun _ => L2.CX0) (sp := fun w => HI.spLaw _) rfl (by decide) rfl ⟨rfl, by decide, by decide⟩ (fun w h Y => PySem.W.kIn_of Y) ?F (fun _ _ a ns hl _ hS => ⟨a, ns, rfl, hS, hl, fun _ => rfl⟩) (fun _ _ _ _ _ h => h)
  case F =>
    intro w mg fa h KX G hmg
    refine' Law.all_mk KX G hmg Law.law_holds ?a0 ?l0 ?c0 ?k0 ?a1 ?l1 ?c1 ?k1 ?a2 ?l2 ?c2 ?k2 ?a3 ?l3 ?c3 ?k3 ?a4 ?l4 ?c4 ?k4 ?a5 ?l5 ?c5 ?k5 ?a6 ?l6 ?c6 ?k6 ?a7 ?l7 ?c7 ?k7 ?a8 ?l8 ?c8 ?k8 ?a9 ?l9 ?c9 ?k9 ?a10 ?l10 ?c10 ?k10 ?a11 ?l11 ?c11 ?k11 ?a12 ?l12 ?c12 ?k12 ?a13 ?l13 ?c13 ?k13 ?a14 ?l14 ?c14 ?k14 ?a15 ?l15 ?c15 ?k15 ?z_abs ?z_all ?z_bool ?z_dict ?z_int ?z_isinstance ?z_len ?z_list ?z_range ?z_sorted ?z_str ?z_tuple ?z_zip
    (case a0 => k_is)
    (case l0 => k_is)
    (case c0 => k_is)
    (case k0 => k_is)
    (case a1 => k_is)
    (case l1 => k_is)
    (case c1 => k_is)
    (case k1 => k_is)
    (case a2 => k_is)
    (case l2 => k_is)
    (case c2 => k_is)
    (case k2 => k_is)
    (case a3 => k_is)
    (case l3 => k_is)
    (case c3 => k_is)
    (case k3 => k_is)
    (case a4 => k_is)
    (case l4 => k_is)
    (case c4 => k_is)
    (case k4 => k_is)
    (case a5 => k_is)
    (case l5 => k_is)
    (case c5 => k_is)
    (case k5 => k_is)
    (case a6 => k_is)
    (case l6 => k_is)
    (case c6 => k_is)
    (case k6 => k_is)
    (case a7 => k_is)
    (case l7 => k_is)
    (case c7 => k_is)
    (case k7 => k_is)
    (case a8 => k_is)
    (case l8 => k_is)
    (case c8 => k_is)
    (case k8 => k_is)
    (case a9 => k_is)
    (case l9 => k_is)
    (case c9 => k_is)
    (case k9 => k_is)
    (case a10 => k_is)
    (case l10 => k_is)
    (case c10 => k_is)
    (case k10 => k_is)
    (case a11 => k_is)
    (case l11 => k_is)
    (case c11 => k_is)
    (case k11 => k_is)
    (case a12 => k_is)
    (case l12 => k_is)
    (case c12 => k_is)
    (case k12 => k_is)
    (case a13 => k_is)
    (case l13 => k_is)
    (case c13 => k_is)
    (case k13 => k_is)
    (case a14 => k_is)
    (case l14 => k_is)
    (case c14 => k_is)
    (case k14 => k_is)
    (case a15 => k_is)
    (case l15 => k_is)
    (case c15 => k_is)
    (case k15 => k_is)
    (case z_abs => k_is)
    (case z_all => k_is)
    (case z_bool => k_is)
    (case z_dict => k_is)
    (case z_int => k_is)
    (case z_isinstance => k_is)
    (case z_len => k_is)
    (case z_list => k_is)
    (case z_range => k_is)
    (case z_sorted => k_is)
    (case z_str => k_is)
    (case z_tuple => k_is)
    (case z_zip => k_is)
