import PyProof.Rows.All
import Wide.All
import OpenK.AllK
import Wide.FinOn
import HandS.ForMost
import HandS.Flow
import HandS.IsInst
import HandS.Defaults
import HandS.DictComp
import HandS.Zip
import HandS.Walk
import HandS.Deep
import HandS.TupAny
import HandS.Wide
import HandS.Conv
import HandS.TupLen
import HandS.RaiseMore
import HandS.Style
import KE.SortKeyed
import KE.DataCmp
import KE.DataFind
import KE.SortData
import PyProof.DictMoreH
import HandS.SetKeys
import HandS.Star
import HandS.OwnEq
import PyProof.Rows.Range3
import PyProof.Conv_bool
import HandS.FStr
import KE.KDictPairs
import KE.KEqDict
import HandS.Finally
import KE.KDictKeyed
import PySem.Challenge.RW_piercednames_k41_sketches_put_in
set_option Elab.async false
set_option linter.all false
set_option maxRecDepth 100000
set_option autoImplicit false
set_option pp.maxSteps 1500
set_option maxHeartbeats 8000000
/-! HI: data with shared cells over the hand layer; every reading lifted to a transformer over data and a list of cells. -/
namespace HI
open PySem L2

def tx (l : List Nat) : Str := ⟨l.toArray⟩
theorem tx_inj {a b : List Nat} (h : tx a = tx b) : a = b := by
  unfold tx at h
  injection h with h
  exact List.toArray_inj h
theorem tx_of (z : Str) : z = tx z.cps.toList := by
  cases z with
  | mk c => show (⟨c⟩ : Str) = ⟨c.toList.toArray⟩; simp
theorem tx_cps (a : List Nat) : (tx a).cps.toList = a := by simp [tx]
theorem tx_len (a : List Nat) : (tx a).length = a.length := by
  show a.toArray.size = a.length
  simp
theorem tx_app (a b : List Nat) : tx a ++ tx b = tx (a ++ b) := by
  show (⟨(a.toArray ++ b.toArray)⟩ : Str) = ⟨(a ++ b).toArray⟩
  rw [List.append_toArray]
/-- signs that may stand in a text -/
def vS (cs : List Nat) : Prop := ∀ c ∈ cs, c < 0x110000

/-- data; cell n: the n-th shared thing -/
inductive D where
  | non | bl (b : Bool) | int (i : Int) | str (cs : List Nat)
  | tup (xs : List D) | wtup (xs : List D) | lst (xs : List D) | dct (t : Bool) (kvs : List (D × D))
  | obj (c : List Nat) (fs : List (List Nat × D))
  | cell (n : Nat) | bag (b : Addr)
  /-- what a cell holds while a loop walks it -/
  | lck (d : D) (k : Obj × HO)
  /-- what a cell holds that is not looked at any more -/
  | opq

def keyD : D → Option Key
  | .int i => some (.inl i)
  | .str x => some (.inr (tx x))
  | _ => none
def keysD : List D → Option (List Key)
  | [] => some []
  | x :: xs => match keyD x, keysD xs with
    | some k, some ks => some (k :: ks)
    | _, _ => none
def tkD : D → Option (List Key)
  | .tup xs => keysD xs
  | _ => none

def vK1 : D → Prop
  | .str cs => vS cs
  | _ => True
/-- a key whose texts are good -/
def vK : D → Prop
  | .str cs => vS cs
  | .tup xs => ∀ x ∈ xs, vK1 x
  | _ => True
/-- a dict that a loop walks is as it was -/
def unl : HO → HO
  | .frz _ (.dK k) => .dK k
  | .frz _ (.dT k) => .dT k
  | o => o
/-- what is protected stands in the heap -/
def Shs (P H : Hp) : Prop := ∀ a o, P a = some o → ∃ o', H a = some o' ∧ unl o' = o

mutual
/-- the value v stands for the data d: C the cells' places, P what is protected -/
inductive Dp (K : PySem.W.Frag) (C : List Addr) (P : Hp) : V → D → Prop
  | non : Dp K C P .non .non
  | bl (b : Bool) : Dp K C P (.bl b) (.bl b)
  | int (i : Int) : Dp K C P (.int i) (.int i)
  | str (cs : List Nat) : vS cs → Dp K C P (.str (tx cs)) (.str cs)
  | tup {a : Addr} {xs : List V} {ds : List D} : P a = some (.tup xs) → DpA K C P xs ds → Dp K C P (.ref a) (.tup ds)
  | wtup {a : Addr} {xs : List V} {ds : List D} : SqT K (fun _ => none) a xs → DpA K C P xs ds → Dp K C P (.ref a) (.wtup ds)
  | con {a : Addr} {o : HO} {d : D} : P a = some o → HoD K C P o d → Dp K C P (.ref a) d
  | cell {a : Addr} {n : Nat} : C[n]? = some a → Dp K C P (.ref a) (.cell n)
inductive DpA (K : PySem.W.Frag) (C : List Addr) (P : Hp) : List V → List D → Prop
  | nil : DpA K C P [] []
  | cons {v : V} {vs : List V} {d : D} {ds : List D} : Dp K C P v d → DpA K C P vs ds → DpA K C P (v :: vs) (d :: ds)
/-- what a container holds -/
inductive HoD (K : PySem.W.Frag) (C : List Addr) (P : Hp) : HO → D → Prop
  | lst {xs : List V} {ds : List D} : DpA K C P xs ds → HoD K C P (.lst xs) (.lst ds)
  | dK {kvs : List (Key × V)} {kds : List (D × D)} : kds.map (fun p => keyD p.1) = kvs.map (fun q => some q.1) → (∀ p ∈ kds, vK p.1) → DpA K C P (kvs.map (·.2)) (kds.map (·.2)) → HoD K C P (.dK kvs) (.dct false kds)
  | dT {kvs : List (List Key × V)} {kds : List (D × D)} : kds.map (fun p => tkD p.1) = kvs.map (fun q => some q.1) → (∀ p ∈ kds, vK p.1) → DpA K C P (kvs.map (·.2)) (kds.map (·.2)) → HoD K C P (.dT kvs) (.dct true kds)
end

def Pre (C C' : List Addr) : Prop := ∃ t, C' = C ++ t
theorem Pre.refl (C : List Addr) : Pre C C := ⟨[], (List.append_nil C).symm⟩
theorem Pre.trans {A B C : List Addr} (h : Pre A B) (g : Pre B C) : Pre A C := by
  obtain ⟨t, rfl⟩ := h
  obtain ⟨u, rfl⟩ := g
  exact ⟨t ++ u, List.append_assoc _ _ _⟩
theorem Pre.at {C C' : List Addr} {n : Nat} {a : Addr} (h : Pre C C') (e : C[n]? = some a) : C'[n]? = some a := by
  obtain ⟨t, rfl⟩ := h
  have hn : n < C.length := (List.getElem?_eq_some_iff.mp e).1
  rw [List.getElem?_append_left hn]
  exact e
theorem Pre.mem {C C' : List Addr} {a : Addr} (h : Pre C C') (e : a ∈ C) : a ∈ C' := by
  obtain ⟨t, rfl⟩ := h
  exact List.mem_append_left _ e

theorem same_new {H : Hp} {p : Addr} {o : HO} (h : H p = none) : Same H (upd H p o) := fun a u e => by
  rw [upd_ne (ne_of_none e h)]
  exact e
theorem same_rd {H H' : Hp} {a : Addr} {u : HO} (e : Same H H') (h : Rd H a u) : Rd H' a u := by
  rcases h with h | ⟨o, h⟩
  · exact Or.inl (e a _ h)
  · exact Or.inr ⟨o, e a _ h⟩
theorem same_t {K : PySem.W.Frag} {H H' : Hp} {a : Addr} {xs : List V} (e : Same H H') (h : SqT K H a xs) : SqT K H' a xs := by
  rcases h with h | h
  · exact Or.inl (same_rd e h)
  · exact Or.inr h

mutual
theorem Dp.mono {K : PySem.W.Frag} {C C' : List Addr} {P P' : Hp} (c : Pre C C') (e : Same P P') : ∀ {v : V} {d : D}, Dp K C P v d → Dp K C' P' v d
  | _, _, .non => .non
  | _, _, .bl b => .bl b
  | _, _, .int i => .int i
  | _, _, .str x h => .str x h
  | _, _, .tup h a => .tup (e _ _ h) (DpA.mono c e a)
  | _, _, .wtup h a => .wtup h (DpA.mono c e a)
  | _, _, .con h a => .con (e _ _ h) (HoD.mono c e a)
  | _, _, .cell h => .cell (c.at h)
theorem DpA.mono {K : PySem.W.Frag} {C C' : List Addr} {P P' : Hp} (c : Pre C C') (e : Same P P') : ∀ {vs : List V} {ds : List D}, DpA K C P vs ds → DpA K C' P' vs ds
  | _, _, .nil => .nil
  | _, _, .cons h t => .cons (Dp.mono c e h) (DpA.mono c e t)
theorem HoD.mono {K : PySem.W.Frag} {C C' : List Addr} {P P' : Hp} (c : Pre C C') (e : Same P P') : ∀ {o : HO} {d : D}, HoD K C P o d → HoD K C' P' o d
  | _, _, .lst a => .lst (DpA.mono c e a)
  | _, _, .dK k q a => .dK k q (DpA.mono c e a)
  | _, _, .dT k q a => .dT k q (DpA.mono c e a)
end

section
variable {K : PySem.W.Frag} {C : List Addr} {P : Hp}
theorem DpA.length : ∀ {vs : List V} {ds : List D}, DpA K C P vs ds → vs.length = ds.length
  | _, _, .nil => rfl
  | _, _, .cons _ t => by rw [List.length_cons, List.length_cons, DpA.length t]
theorem DpA.append : ∀ {vs ws : List V} {ds es : List D}, DpA K C P vs ds → DpA K C P ws es → DpA K C P (vs ++ ws) (ds ++ es)
  | _, _, _, _, .nil, s => s
  | _, _, _, _, .cons h t, s => .cons h (DpA.append t s)
theorem DpA.one {v : V} {d : D} (h : Dp K C P v d) : DpA K C P [v] [d] := .cons h .nil
theorem DpA.get : ∀ {vs : List V} {ds : List D} {i : Nat} {d : D}, DpA K C P vs ds → ds[i]? = some d → ∃ v, vs[i]? = some v ∧ Dp K C P v d
  | _, _, _, _, .nil, e => by simp at e
  | _, _, 0, _, .cons h _, e => by simp at e; subst e; exact ⟨_, rfl, h⟩
  | _, _, i + 1, d, .cons _ t, e => by
    obtain ⟨v, h1, h2⟩ := DpA.get (i := i) (d := d) t (by simpa using e)
    exact ⟨v, by simpa using h1, h2⟩
theorem DpA.get' : ∀ {vs : List V} {ds : List D} {i : Nat} {v : V}, DpA K C P vs ds → vs[i]? = some v → ∃ d, ds[i]? = some d ∧ Dp K C P v d
  | _, _, _, _, .nil, e => by simp at e
  | _, _, 0, _, .cons h _, e => by simp at e; subst e; exact ⟨_, rfl, h⟩
  | _, _, i + 1, v, .cons _ t, e => by
    obtain ⟨d, h1, h2⟩ := DpA.get' (i := i) (v := v) t (by simpa using e)
    exact ⟨d, by simpa using h1, h2⟩
theorem DpA.take : ∀ {vs : List V} {ds : List D} (n : Nat), DpA K C P vs ds → DpA K C P (vs.take n) (ds.take n)
  | _, _, 0, _ => .nil
  | _, _, _ + 1, .nil => .nil
  | _, _, n + 1, .cons h t => .cons h (DpA.take n t)
theorem DpA.drop : ∀ {vs : List V} {ds : List D} (n : Nat), DpA K C P vs ds → DpA K C P (vs.drop n) (ds.drop n)
  | _, _, 0, h => h
  | _, _, _ + 1, .nil => .nil
  | _, _, n + 1, .cons _ t => DpA.drop n t
theorem DpA.set {v : V} {d : D} (h : Dp K C P v d) : ∀ {vs : List V} {ds : List D} (i : Nat), DpA K C P vs ds → DpA K C P (vs.set i v) (ds.set i d)
  | _, _, _, .nil => .nil
  | _, _, 0, .cons _ t => .cons h t
  | _, _, i + 1, .cons q t => .cons q (DpA.set h i t)
theorem DpA.replicate {vs : List V} {ds : List D} (h : DpA K C P vs ds) : ∀ n : Nat, DpA K C P (List.replicate n vs).flatten (List.replicate n ds).flatten
  | 0 => .nil
  | n + 1 => by
    rw [List.replicate_succ, List.replicate_succ, List.flatten_cons, List.flatten_cons]
    exact h.append (DpA.replicate h n)
theorem DpA.one' {vs : List V} {d : D} (z : DpA K C P vs [d]) : ∃ v, vs = [v] ∧ Dp K C P v d := by
  cases z with
  | cons h t => cases t; exact ⟨_, rfl, h⟩
theorem DpA.two' {vs : List V} {d e : D} (z : DpA K C P vs [d, e]) : ∃ v w, vs = [v, w] ∧ Dp K C P v d ∧ Dp K C P w e := by
  cases z with
  | cons h t =>
    obtain ⟨w, rfl, q⟩ := t.one'
    exact ⟨_, _, rfl, h, q⟩
end

theorem HoD.nown {K : PySem.W.Frag} {C : List Addr} {P : Hp} {o : HO} {d : D} (h : HoD K C P o d) : ∀ x, o ≠ .own x := by
  intro x e
  cases h <;> cases e
theorem HoD.unl {K : PySem.W.Frag} {C : List Addr} {P : Hp} {o : HO} {d : D} (h : HoD K C P o d) : unl o = o := by
  cases h <;> rfl
theorem HoD.ntup {K : PySem.W.Frag} {C : List Addr} {P : Hp} {o : HO} {d : D} (h : HoD K C P o d) : ∀ x, o ≠ .tup x := by
  intro x e
  cases h <;> cases e
theorem unl_ntup {o : HO} (h : ∀ x, unl o ≠ .tup x) : ∀ x, o ≠ .tup x := fun x e => h x (by subst e; rfl)
theorem unl_own {o : HO} {x : Addr} (h : o = .own x) : unl o = .own x := by subst h; rfl
theorem unl_nown {o : HO} (h : ∀ x, unl o ≠ .own x) : ∀ x, o ≠ .own x := fun x e => h x (unl_own e)
theorem unl_unl (o : HO) : unl (unl o) = unl o := by
  cases o with
  | frz od u => cases u <;> rfl
  | _ => rfl
theorem unl_lst {o : HO} {xs : List V} (h : unl o = .lst xs) : o = .lst xs := by
  cases o with
  | frz od u => cases u <;> cases h
  | lst ys => exact h
  | _ => cases h
theorem unl_tup {o : HO} {xs : List V} (h : unl o = .tup xs) : o = .tup xs := by
  cases o with
  | frz od u => cases u <;> cases h
  | tup ys => exact h
  | _ => cases h
theorem Shs.free {P H : Hp} (e : Shs P H) {l : Addr} (h : H l = none) : P l = none := by
  cases q : P l with
  | none => rfl
  | some o =>
    obtain ⟨o', h1, _⟩ := e l o q
    rw [h] at h1
    cases h1
theorem Shs.lst {P H : Hp} (e : Shs P H) {l : Addr} {xs : List V} (h : P l = some (.lst xs)) : H l = some (.lst xs) := by
  obtain ⟨o', h1, h2⟩ := e l _ h
  rw [h1, unl_lst h2]
theorem Shs.tup {P H : Hp} (e : Shs P H) {l : Addr} {xs : List V} (h : P l = some (.tup xs)) : H l = some (.tup xs) := by
  obtain ⟨o', h1, h2⟩ := e l _ h
  rw [h1, unl_tup h2]
theorem Shs.pp {P P' H : Hp} (p : Same P P') (e : Shs P' H) : Shs P H := fun a o h => e a o (p a o h)
theorem Shs.hh {P H H' : Hp} (e : Shs P H) (h : Same H H') : Shs P H' := fun a o q => by
  obtain ⟨o', h1, h2⟩ := e a o q
  exact ⟨o', h a _ h1, h2⟩
theorem rd_unl {H : Hp} {a : Addr} {o : HO} {u : HO} (h : H a = some o) (e : unl o = u) : Rd H a u := by
  cases o with
  | frz od x => cases x <;> first | (subst e; exact .inl h) | (subst e; exact .inr ⟨_, h⟩)
  | _ => subst e; exact .inl h

/-- the world of data: the cells' places, what they hold, what is protected, the heap -/
structure Wd where
  C : List Addr
  M : List D
  P : Hp
  H : Hp
/-- what is fixed -/
structure Gx where
  K : PySem.W.Frag
  mg : Str → Option Value
abbrev gx (X : Cx) : Gx := ⟨X.K, X.mg⟩

def Cont (G : Gx) (w : Wd) (a : Addr) (d : D) : Prop := ∃ o, w.H a = some o ∧ HoD G.K w.C w.P o d
/-- a dict that is being walked -/
def Lckd (G : Gx) (w : Wd) (a : Addr) (d : D) (k : Obj × HO) : Prop := ∃ od o, k = (od, o) ∧ w.H a = some (.frz od o) ∧ unl (.frz od o) = o ∧ HoD G.K w.C w.P o d
/-- an instance -/
def Inst (G : Gx) (w : Wd) (a : Addr) (c : List Nat) (fs : List (List Nat × D)) : Prop :=
  ∃ (A dx : Addr) (vs : List (Str × V)), G.mg (tx c) = some (.ref A) ∧ w.H a = some (.ins A dx vs) ∧ w.H dx = some (.own a) ∧ w.P dx = none ∧ vs.map (·.1) = fs.map (fun p => tx p.1) ∧ DpA G.K w.C w.P (vs.map (·.2)) (fs.map (·.2))
/-- the source of the drawn numbers: cells, how many were taken, the rest of a great one, a mixed number, how many draws -/
def Bago (G : Gx) (w : Wd) (a b : Addr) : Prop := ∃ (cells : List Int) (t r m n : Int), w.P b = some (.lst (cells.map V.int)) ∧ w.H a = some (.lst [.ref b, .int t, .int r, .int m, .int n]) ∧ 0 ≤ t ∧ 0 ≤ r ∧ 0 ≤ m ∧ m < 2147483648
def CellOk (G : Gx) (w : Wd) (a : Addr) : D → Prop
  | .lst ds => Cont G w a (.lst ds)
  | .dct t kvs => Cont G w a (.dct t kvs)
  | .obj c fs => Inst G w a c fs
  | .bag b => Bago G w a b
  | .lck d k => Lckd G w a d k
  | .opq => ∃ φ, w.H a = some (.ext φ)
  | _ => False
structure WOk (G : Gx) (w : Wd) : Prop where
  ex : Shs w.P w.H
  nown : ∀ a x, w.P a ≠ some (.own x)
  len : w.C.length = w.M.length
  nd : w.C.Nodup
  cell : ∀ (n : Nat) (a : Addr) (d : D), w.C[n]? = some a → w.M[n]? = some d → w.P a = none ∧ CellOk G w a d

theorem CellOk.there {G : Gx} {w : Wd} {a : Addr} {d : D} (h : CellOk G w a d) : ∃ o, w.H a = some o := by
  cases d with
  | lst ds => obtain ⟨o, h, _⟩ := h; exact ⟨o, h⟩
  | dct ds => obtain ⟨o, h, _⟩ := h; exact ⟨o, h⟩
  | obj c fs => obtain ⟨_, _, _, _, h, _⟩ := h; exact ⟨_, h⟩
  | bag => obtain ⟨_, _, _, _, _, _, h, _⟩ := h; exact ⟨_, h⟩
  | lck d k => obtain ⟨_, _, _, h, _⟩ := h; exact ⟨_, h⟩
  | opq => obtain ⟨_, h⟩ := h; exact ⟨_, h⟩
  | _ => exact h.elim
theorem WOk.at {G : Gx} {w : Wd} (o : WOk G w) {n : Nat} {a : Addr} (e : w.C[n]? = some a) : ∃ d, w.M[n]? = some d ∧ w.P a = none ∧ CellOk G w a d := by
  have hn : n < w.C.length := (List.getElem?_eq_some_iff.mp e).1
  have hm : n < w.M.length := by rw [← o.len]; exact hn
  exact ⟨w.M[n], List.getElem?_eq_getElem hm, o.cell n a _ e (List.getElem?_eq_getElem hm)⟩
theorem WOk.place {G : Gx} {w : Wd} (o : WOk G w) {n : Nat} {d : D} (e : w.M[n]? = some d) : ∃ a, w.C[n]? = some a ∧ w.P a = none ∧ CellOk G w a d := by
  have hm : n < w.M.length := (List.getElem?_eq_some_iff.mp e).1
  have hn : n < w.C.length := by rw [o.len]; exact hm
  exact ⟨w.C[n], List.getElem?_eq_getElem hn, o.cell n _ d (List.getElem?_eq_getElem hn) e⟩
theorem WOk.mem {G : Gx} {w : Wd} (o : WOk G w) {a : Addr} (e : a ∈ w.C) : w.P a = none ∧ ∃ h, w.H a = some h := by
  obtain ⟨n, e⟩ := List.mem_iff_getElem?.mp e
  obtain ⟨d, h1, h2, h3⟩ := o.at e
  exact ⟨h2, h3.there⟩
theorem at_inj {C : List Addr} (h : C.Nodup) {n m : Nat} {a : Addr} (e : C[n]? = some a) (f : C[m]? = some a) : n = m := by
  have hn : n < C.length := (List.getElem?_eq_some_iff.mp e).1
  exact (List.getElem?_inj hn h).mp (e.trans f.symm)

/-- from w to w': all is kept but the cells; rw = false: those too (but the source) -/
structure Gr (G : Gx) (rw : Bool) (w w' : Wd) : Prop where
  ok : WOk G w'
  pp : Same w.P w'.P
  cc : Pre w.C w'.C
  hh : ∀ a o, w.H a = some o → a ∉ w.C → w'.H a = some o
  off : ∀ a o, w.H a = some o → (∀ xs, o ≠ .tup xs) → w.P a = none → w'.P a = none
  fr : ∀ a, a ∈ w'.C → a ∉ w.C → w.H a = none
  ro : rw = false → w'.C = w.C ∧ w'.M = w.M ∧ ∀ (n : Nat) (a : Addr), w.C[n]? = some a → (∀ b, w.M[n]? ≠ some (.bag b)) → w'.H a = w.H a

theorem Gr.refl {G : Gx} {rw : Bool} {w : Wd} (o : WOk G w) : Gr G rw w w := ⟨o, Same.refl _, Pre.refl _, fun _ _ h _ => h, fun _ _ _ _ h => h, fun _ h n => absurd h n, fun _ => ⟨rfl, rfl, fun _ _ _ _ => rfl⟩⟩
theorem Gr.kept {G : Gx} {rw : Bool} {w w' : Wd} (g : Gr G rw w w') {a : Addr} (h : w.H a ≠ none) : w'.H a ≠ none := by
  intro z
  by_cases hc : a ∈ w.C
  · obtain ⟨_, o, e⟩ := g.ok.mem (g.cc.mem hc)
    rw [e] at z
    cases z
  · cases e : w.H a with
    | none => exact h e
    | some o =>
      rw [g.hh a o e hc] at z
      cases z
theorem Gr.fresh {G : Gx} {rw : Bool} {w w' : Wd} (g : Gr G rw w w') {a : Addr} (h : w'.H a = none) : w.H a = none := by
  cases e : w.H a with
  | none => rfl
  | some o => exact absurd h (g.kept (by rw [e]; exact Option.some_ne_none _))
/-- what is no cell before is none behind, if it was there -/
theorem Gr.noc {G : Gx} {rw : Bool} {w w' : Wd} (g : Gr G rw w w') {a : Addr} (h : w.H a ≠ none) (n : a ∉ w.C) : a ∉ w'.C := fun z => h (g.fr a z n)
theorem Gr.trans {G : Gx} {rw : Bool} {w w1 w2 : Wd} (g : Gr G rw w w1) (k : Gr G rw w1 w2) : Gr G rw w w2 :=
  ⟨k.ok, g.pp.trans k.pp, g.cc.trans k.cc, fun a o h n => k.hh a o (g.hh a o h n) (g.noc (by rw [h]; exact Option.some_ne_none _) n), fun a o h nt z => by
      by_cases hc : a ∈ w.C
      · exact (k.ok.mem (k.cc.mem (g.cc.mem hc))).1
      · exact k.off a o (g.hh a o h hc) nt (g.off a o h nt z),
    fun a h n => by
      by_cases h1 : a ∈ w1.C
      · exact g.fr a h1 n
      · exact g.fresh (k.fr a h h1),
    fun e => by
      obtain ⟨a1, a2, a3⟩ := g.ro e
      obtain ⟨b1, b2, b3⟩ := k.ro e
      refine ⟨b1.trans a1, b2.trans a2, fun n a h1 h2 => ?_⟩
      rw [b3 n a (by rw [a1]; exact h1) (by rw [a2]; exact h2), a3 n a h1 h2]⟩
theorem Gr.weak {G : Gx} {rw : Bool} {w w' : Wd} (g : Gr G false w w') : Gr G rw w w' := ⟨g.ok, g.pp, g.cc, g.hh, g.off, g.fr, fun _ => g.ro rfl⟩
theorem Gr.wk {G : Gx} {rw r2 : Bool} {w w' : Wd} (g : Gr G rw w w') (h : rw = true → r2 = true) : Gr G r2 w w' := ⟨g.ok, g.pp, g.cc, g.hh, g.off, g.fr, fun e => g.ro (by cases rw with | false => rfl | true => rw [h rfl] at e; exact e)⟩
section
variable {G : Gx} {rw : Bool} {w w' : Wd}
theorem Gr.dp (g : Gr G rw w w') {v : V} {d : D} (z : Dp G.K w.C w.P v d) : Dp G.K w'.C w'.P v d := z.mono g.cc g.pp
theorem Gr.dpa (g : Gr G rw w w') {v : List V} {d : List D} (z : DpA G.K w.C w.P v d) : DpA G.K w'.C w'.P v d := z.mono g.cc g.pp
theorem Gr.hod (g : Gr G rw w w') {v : HO} {d : D} (z : HoD G.K w.C w.P v d) : HoD G.K w'.C w'.P v d := z.mono g.cc g.pp
end

/-- a cell's content under more protection, elsewhere unchanged -/
theorem CellOk.keep {G : Gx} {w w' : Wd} {a : Addr} {d : D} (h : CellOk G w a d) (c : Pre w.C w'.C) (p : Same w.P w'.P) (q : ∀ b o, w.H b = some o → (b = a ∨ o = .own a) → w'.H b = some o) (pd : ∀ b, w.H b = some (.own a) → w.P b = none → w'.P b = none) : CellOk G w' a d := by
  cases d with
  | lst ds => obtain ⟨o, h1, h2⟩ := h; exact ⟨o, q a o h1 (.inl rfl), h2.mono c p⟩
  | dct ds => obtain ⟨o, h1, h2⟩ := h; exact ⟨o, q a o h1 (.inl rfl), h2.mono c p⟩
  | obj cl fs =>
    obtain ⟨A, dx, vs, h1, h2, h3, h4, h5, h6⟩ := h
    exact ⟨A, dx, vs, h1, q a _ h2 (.inl rfl), q dx _ h3 (.inr rfl), pd dx h3 h4, h5, h6.mono c p⟩
  | bag =>
    obtain ⟨cells, t, r, m, n, h1, h2, h3⟩ := h
    exact ⟨cells, t, r, m, n, p _ _ h1, q a _ h2 (.inl rfl), h3⟩
  | lck d k => obtain ⟨od, o, h0, h1, h2, h3⟩ := h; exact ⟨od, o, h0, q a _ h1 (.inl rfl), h2, h3.mono c p⟩
  | opq => obtain ⟨o, h⟩ := h; exact ⟨o, q a _ h (.inl rfl)⟩
  | _ => exact h.elim

/-- a new thing, protected at once -/
theorem Gr.new {G : Gx} {w : Wd} {p : Addr} {o : HO} (k : WOk G w) (hp : w.H p = none) (no : ∀ x, o ≠ .own x) (hu : unl o = o) : Gr G false w ⟨w.C, w.M, upd w.P p o, upd w.H p o⟩ := by
  have hP : w.P p = none := k.ex.free hp
  have np : ∀ a ∈ w.C, a ≠ p := fun a ha => by
    obtain ⟨_, h, e⟩ := k.mem ha
    exact ne_of_none e hp
  refine ⟨⟨fun a u h => ?_, fun a x h => ?_, k.len, k.nd, fun n a d e1 e2 => ?_⟩, same_new hP, Pre.refl _, fun a u h _ => ?_, fun a u h _ z => ?_, fun a h n => absurd h n, fun _ => ⟨rfl, rfl, fun n a e _ => ?_⟩⟩
  · by_cases ha : a = p
    · subst ha; dsimp only at h ⊢; rw [upd_same] at h; cases h; exact ⟨o, upd_same, hu⟩
    · dsimp only at h ⊢; rw [upd_ne ha] at h ⊢; exact k.ex _ _ h
  · dsimp only at h
    by_cases ha : a = p
    · subst ha; rw [upd_same] at h; exact no x (Option.some.inj h)
    · rw [upd_ne ha] at h; exact k.nown a x h
  · obtain ⟨h1, h2⟩ := k.cell n a d e1 e2
    refine ⟨?_, h2.keep (Pre.refl _) (same_new hP) (fun b u hb _ => ?_) fun b hb z => ?_⟩
    · show upd w.P p o a = none
      rw [upd_ne (np a (List.mem_of_getElem? e1))]; exact h1
    · show upd w.H p o b = some u
      rw [upd_ne (ne_of_none hb hp)]; exact hb
    · show upd w.P p o b = none
      rw [upd_ne (ne_of_none hb hp)]; exact z
  · show upd w.H p o a = some u
    rw [upd_ne (ne_of_none h hp)]; exact h
  · show upd w.P p o a = none
    rw [upd_ne (ne_of_none h hp)]; exact z
  · show upd w.H p o a = w.H a
    rw [upd_ne (np a (List.mem_of_getElem? e))]
/-- a new thing, not protected -/
theorem Gr.loose {G : Gx} {w : Wd} {p : Addr} {o : HO} (k : WOk G w) (hp : w.H p = none) : Gr G false w ⟨w.C, w.M, w.P, upd w.H p o⟩ := by
  have np : ∀ a ∈ w.C, a ≠ p := fun a ha => by
    obtain ⟨_, h, e⟩ := k.mem ha
    exact ne_of_none e hp
  refine ⟨⟨k.ex.hh (same_new hp), k.nown, k.len, k.nd, fun n a d e1 e2 => ?_⟩, Same.refl _, Pre.refl _, fun a u h _ => ?_, fun a _ _ _ z => z, fun a h n => absurd h n, fun _ => ⟨rfl, rfl, fun n a e _ => ?_⟩⟩
  · obtain ⟨h1, h2⟩ := k.cell n a d e1 e2
    refine ⟨h1, h2.keep (Pre.refl _) (Same.refl _) (fun b u hb _ => ?_) fun b hb z => z⟩
    show upd w.H p o b = some u
    rw [upd_ne (ne_of_none hb hp)]; exact hb
  · show upd w.H p o a = some u
    rw [upd_ne (ne_of_none h hp)]; exact h
  · show upd w.H p o a = w.H a
    rw [upd_ne (np a (List.mem_of_getElem? e))]

/-! ### what an expression gives: a value, or a new container that nobody else knows -/
inductive Rz where
  | val (d : D) | new (d : D)
@[reducible] def Rz.d : Rz → D
  | .val d => d
  | .new d => d
def RzOk (G : Gx) (w w' : Wd) : Rz → V → Prop
  | .val d, v => Dp G.K w'.C w'.P v d
  | .new d, v => ∃ l, v = .ref l ∧ w'.P l = none ∧ w.H l = none ∧ l ∉ w'.C ∧ Cont G w' l d

/-- a loose container is protected from here on -/
theorem Gr.frz {G : Gx} {rw : Bool} {w w1 : Wd} {l : Addr} {o : HO} (g : Gr G rw w w1) (h1 : w1.P l = none) (h2 : w.H l = none) (hc : l ∉ w1.C) (h3 : w1.H l = some o) (no : ∀ x, o ≠ .own x) : Gr G rw w ⟨w1.C, w1.M, upd w1.P l (unl o), w1.H⟩ := by
  have s1 : Same w1.P (upd w1.P l (unl o)) := same_new h1
  have no' : ∀ x, unl o ≠ .own x := fun x e => by
    cases o with
    | frz od u => cases u <;> cases e
    | own y => exact no y rfl
    | _ => cases e
  refine ⟨⟨fun a u h => ?_, fun a x h => ?_, g.ok.len, g.ok.nd, fun n a d e1 e2 => ?_⟩, g.pp.trans s1, g.cc, g.hh, fun a u h nt z => ?_, g.fr, g.ro⟩
  · by_cases ha : a = l
    · subst ha; dsimp only at h ⊢; rw [upd_same] at h; cases h; exact ⟨o, h3, rfl⟩
    · dsimp only at h ⊢; rw [upd_ne ha] at h; exact g.ok.ex _ _ h
  · dsimp only at h
    by_cases ha : a = l
    · subst ha; rw [upd_same] at h; exact no' x (Option.some.inj h)
    · rw [upd_ne ha] at h; exact g.ok.nown a x h
  · obtain ⟨k1, k2⟩ := g.ok.cell n a d e1 e2
    refine ⟨?_, k2.keep (Pre.refl _) s1 (fun b u hb _ => hb) fun b hb z => ?_⟩
    · show upd w1.P l (unl o) a = none
      rw [upd_ne (a := l) (b := a) (fun z => by subst z; exact hc (List.mem_of_getElem? e1))]; exact k1
    · show upd w1.P l (unl o) b = none
      rw [upd_ne fun e => ?_]; exact z
      subst e
      rw [h3] at hb
      exact no _ (Option.some.inj hb)
  · show upd w1.P l (unl o) a = none
    rw [upd_ne (ne_of_none h h2)]; exact g.off a u h nt z
theorem RzOk.frz {G : Gx} {rw : Bool} {w w1 : Wd} {r : Rz} {v : V} (g : Gr G rw w w1) (z : RzOk G w w1 r v) : ∃ P2, Gr G rw w ⟨w1.C, w1.M, P2, w1.H⟩ ∧ Same w1.P P2 ∧ Dp G.K w1.C P2 v r.d := by
  cases r with
  | val d => exact ⟨w1.P, g, Same.refl _, z⟩
  | new d =>
    obtain ⟨l, rfl, h1, h2, hc, o, h3, h4⟩ := z
    have s1 : Same w1.P (upd w1.P l (unl o)) := same_new h1
    exact ⟨upd w1.P l (unl o), g.frz h1 h2 hc h3 h4.nown, s1, .con upd_same (by rw [h4.unl]; exact h4.mono (Pre.refl _) (by rw [h4.unl] at s1; exact s1))⟩
theorem RzOk.back {G : Gx} {rw : Bool} {w w1 w2 : Wd} {r : Rz} {v : V} (g : Gr G rw w w1) (z : RzOk G w1 w2 r v) : RzOk G w w2 r v := by
  cases r with
  | val d => exact z
  | new d =>
    obtain ⟨l, h1, h2, h3, h4⟩ := z
    exact ⟨l, h1, h2, g.fresh h3, h4⟩

/-! ### slots -/
inductive Sl where
  | no | val (d : D) | own (d : D)
abbrev DEnv := List Sl
def Sl.frz : Sl → Sl
  | .own d => .val d
  | s => s
def frzE : DEnv → DEnv
  | [] => []
  | s :: r => s.frz :: frzE r
theorem frzE_map (δ : DEnv) : frzE δ = δ.map Sl.frz := by
  induction δ with
  | nil => rfl
  | cons s r ih => rw [frzE, ih]; rfl
structure Rep (G : Gx) (w : Wd) (σ : L2.St) (δ : DEnv) : Prop where
  ok : WOk G w
  val : ∀ (i : Nat) (d : D), δ[i]? = some (Sl.val d) → ∃ v, σ[i]? = some (some v) ∧ Dp G.K w.C w.P v d
  own : ∀ (i : Nat) (d : D), δ[i]? = some (Sl.own d) → ∃ l, σ[i]? = some (some (V.ref l)) ∧ w.P l = none ∧ l ∉ w.C ∧ Cont G w l d
  sep : ∀ (i j : Nat) (d e : D) (l : Addr), δ[i]? = some (Sl.own d) → δ[j]? = some (Sl.own e) → σ[i]? = some (some (V.ref l)) → σ[j]? = some (some (V.ref l)) → i = j
  len : σ.length = δ.length
theorem Rep.mono {G : Gx} {rw : Bool} {w w' : Wd} {σ : L2.St} {δ : DEnv} (R : Rep G w σ δ) (g : Gr G rw w w') : Rep G w' σ δ := by
  refine ⟨g.ok, fun i d h => ?_, fun i d h => ?_, R.sep, R.len⟩
  · obtain ⟨v, h1, h2⟩ := R.val i d h
    exact ⟨v, h1, g.dp h2⟩
  · obtain ⟨l, h1, h2, h3, o, h4, h5⟩ := R.own i d h
    have hn : w.H l ≠ none := by rw [h4]; exact Option.some_ne_none _
    exact ⟨l, h1, g.off l o h4 h5.ntup h2, g.noc hn h3, o, g.hh l _ h4 h3, g.hod h5⟩

abbrev Mem := List D
abbrev EV := DEnv → Mem → (Rz → Mem → Prop) → Prop
abbrev TV := DEnv → Mem → (Bool → Mem → Prop) → Prop
abbrev AV := DEnv → Mem → (List D → Mem → Prop) → Prop

def lift (G : Gx) (rw : Bool) (f : EV) : TE := fun σ H Q => ∃ w δ Qd, w.H = H ∧ Rep G w σ δ ∧ f δ w.M Qd ∧ ∀ r v w', Qd r w'.M → Gr G rw w w' → RzOk G w w' r v → Q v w'.H
def liftT (G : Gx) (rw : Bool) (f : TV) : TT := fun σ H Q => ∃ w δ Qd, w.H = H ∧ Rep G w σ δ ∧ f δ w.M Qd ∧ ∀ b w', Qd b w'.M → Gr G rw w w' → Q b w'.H
def liftA (G : Gx) (rw : Bool) (f : AV) : TA := fun σ H Q => ∃ w δ Qd, w.H = H ∧ Rep G w σ δ ∧ f δ w.M Qd ∧ ∀ ds vs w', Qd ds w'.M → Gr G rw w w' → DpA G.K w'.C w'.P vs ds → Q vs w'.H

section
variable {G : Gx} {rw : Bool} {w : Wd} {σ : L2.St} {δ : DEnv}
/-- the value frozen -/
theorem lift_d {f : EV} {Q : VK} (R : Rep G w σ δ) (Qd : D → Mem → Prop) (h : f δ w.M fun r M => Qd r.d M) (k : ∀ d v w', Qd d w'.M → Gr G rw w w' → Dp G.K w'.C w'.P v d → Q v w'.H) : lift G rw f σ w.H Q :=
  ⟨w, δ, _, rfl, R, h, fun r v w' q g z => by
    obtain ⟨P2, g2, _, z2⟩ := z.frz g
    exact k _ v ⟨w'.C, w'.M, P2, w'.H⟩ q g2 z2⟩
/-- the whole heap but the cells (and the dicts of instances) as what is protected -/
noncomputable def tot (w : Wd) : Hp := fun a => open Classical in if a ∈ w.C ∨ ∃ x, w.H a = some (.own x) then none else (w.H a).map unl
theorem tot_some {a : Addr} {o : HO} (h : tot w a = some o) : (∃ o', w.H a = some o' ∧ unl o' = o) ∧ ∀ x, w.H a ≠ some (.own x) := by
  unfold tot at h
  by_cases e : a ∈ w.C ∨ ∃ x, w.H a = some (.own x)
  · rw [if_pos e] at h; cases h
  · rw [if_neg e] at h
    refine ⟨?_, fun x z => e (.inr ⟨x, z⟩)⟩
    obtain ⟨o', h1, h2⟩ := Option.map_eq_some_iff.mp h
    exact ⟨o', h1, h2⟩
theorem tot_of {a : Addr} {o : HO} (h : w.H a = some o) (n : a ∉ w.C) (no : ∀ x, o ≠ .own x) : tot w a = some (unl o) := by
  unfold tot
  rw [if_neg]
  · rw [h]; rfl
  · rintro (e | ⟨x, e⟩)
    · exact n e
    · rw [h] at e; exact no x (Option.some.inj e)
theorem tot_none {a : Addr} (h : a ∈ w.C ∨ ∃ x, w.H a = some (.own x)) : tot w a = none := by
  unfold tot
  rw [if_pos h]
theorem Rep.same_tot (R : Rep G w σ δ) : Same w.P (tot w) := fun a o h => by
  obtain ⟨o', h1, h2⟩ := R.ok.ex a o h
  rw [← h2]
  refine tot_of h1 (fun hc => ?_) fun x e => ?_
  · rw [(R.ok.mem hc).1] at h
    cases h
  · rw [unl_own e] at h2
    rw [← h2] at h
    exact R.ok.nown a x h
theorem frz_at {δ : DEnv} {i : Nat} {s : Sl} (h : (frzE δ)[i]? = some s) : ∃ s0 : Sl, δ[i]? = some s0 ∧ s0.frz = s := by
  rw [frzE_map, List.getElem?_map] at h
  cases e : δ[i]? with
  | none => rw [e] at h; cases h
  | some s0 => rw [e] at h; exact ⟨s0, rfl, Option.some.inj h⟩
theorem Rep.tot (R : Rep G w σ δ) : Rep G ⟨w.C, w.M, tot w, w.H⟩ σ (frzE δ) := by
  have pt := R.same_tot
  refine ⟨⟨fun a o h => (tot_some h).1, fun a x h => ?_, R.ok.len, R.ok.nd, fun n a d e1 e2 => ?_⟩, fun i d h => ?_, fun i d h => ?_, fun i j d e l h => ?_, by rw [frzE_map, List.length_map]; exact R.len⟩
  · obtain ⟨⟨o', h1, h2⟩, h3⟩ := tot_some h
    cases o' with
    | frz od u => cases u <;> cases h2
    | own y => exact h3 y h1
    | _ => cases h2
  · obtain ⟨h1, h2⟩ := R.ok.cell n a d e1 e2
    exact ⟨tot_none (.inl (List.mem_of_getElem? e1)), h2.keep (Pre.refl _) pt (fun _ _ h _ => h) fun b hb _ => tot_none (.inr ⟨_, hb⟩)⟩
  · obtain ⟨s0, h1, h2⟩ := frz_at h
    cases s0 with
    | no => cases h2
    | val d0 =>
      cases h2
      obtain ⟨v, h3, h4⟩ := R.val i d h1
      exact ⟨v, h3, h4.mono (Pre.refl _) pt⟩
    | own d0 =>
      cases h2
      obtain ⟨l, h3, h4, h5, o, h6, h7⟩ := R.own i d h1
      exact ⟨.ref l, h3, .con (tot_of h6 h5 h7.nown) (by rw [h7.unl]; exact h7.mono (Pre.refl _) pt)⟩
  · obtain ⟨s0, h1, h2⟩ := frz_at h
    cases s0 <;> cases h2
  · obtain ⟨s0, h1, h2⟩ := frz_at h
    cases s0 <;> cases h2
theorem Gr.drop {w' : Wd} (R : Rep G w σ δ) (g : Gr G false ⟨w.C, w.M, HI.tot w, w.H⟩ w') : Gr G rw w ⟨w.C, w.M, w.P, w'.H⟩ := by
  have pt := R.same_tot
  obtain ⟨c1, c2, c3⟩ := g.ro rfl
  refine ⟨⟨fun a o h => g.ok.ex _ _ (g.pp _ _ (pt _ _ h)), R.ok.nown, R.ok.len, R.ok.nd, fun n a d e1 e2 => ?_⟩, Same.refl _, Pre.refl _, g.hh, fun a _ _ _ z => z, fun a h n => absurd h n, fun _ => ⟨rfl, rfl, c3⟩⟩
  obtain ⟨h1, h2⟩ := R.ok.cell n a d e1 e2
  refine ⟨h1, ?_⟩
  by_cases hb : ∃ b, d = .bag b
  · obtain ⟨b, rfl⟩ := hb
    obtain ⟨cells, t, r, m, k, q1, q2, q3⟩ := h2
    obtain ⟨_, cells', t', r', m', k', p1, p2, p3⟩ := g.ok.cell n a (.bag b) (by rw [c1]; exact e1) (by rw [c2]; exact e2)
    exact ⟨cells, t', r', m', k', q1, p2, p3⟩
  · have e3 : w'.H a = w.H a := c3 n a e1 fun b z => hb ⟨b, Option.some.inj (e2.symm.trans z)⟩
    refine h2.keep (Pre.refl _) (Same.refl _) (fun b o hbo hb2 => ?_) fun b _ z => z
    show w'.H b = some o
    rcases hb2 with e | e
    · subst e; rw [e3]; exact hbo
    · subst e
      refine g.hh b _ hbo fun hc => ?_
      obtain ⟨m, hm⟩ := List.mem_iff_getElem?.mp hc
      obtain ⟨d', _, _, q⟩ := R.ok.at hm
      cases d' with
      | lst ds => obtain ⟨o', q1, q2⟩ := q; rw [hbo] at q1; exact q2.nown _ (Option.some.inj q1).symm
      | dct ds => obtain ⟨o', q1, q2⟩ := q; rw [hbo] at q1; exact q2.nown _ (Option.some.inj q1).symm
      | obj c fs => obtain ⟨_, _, _, _, q1, _⟩ := q; rw [hbo] at q1; cases q1
      | bag => obtain ⟨_, _, _, _, _, _, q1, _⟩ := q; rw [hbo] at q1; cases q1
      | lck d k => obtain ⟨_, _, _, q1, _⟩ := q; rw [hbo] at q1; cases q1
      | opq => obtain ⟨_, q1⟩ := q; rw [hbo] at q1; cases q1
      | _ => exact q.elim
end
def D.scal : D → Bool
  | .non | .bl _ | .int _ | .str _ => true
  | _ => false
theorem Dp.scal {K K' : PySem.W.Frag} {C C' : List Addr} {P P' : Hp} {v : V} {d : D} (h : Dp K C P v d) (e : d.scal = true) : Dp K' C' P' v d := by
  cases h with
  | non => exact .non
  | bl b => exact .bl b
  | int i => exact .int i
  | str x h => exact .str x h
  | con h1 h2 => cases h2 <;> cases e
  | _ => cases e

/-! ### the judgements -/
structure QE (X : Cx) (rw : Bool) (e : Expr) (f : EV) : Prop where
  pe : PE X e (lift (gx X) rw f)
structure QT (X : Cx) (rw : Bool) (e : Expr) (f : TV) : Prop where
  pt : PT X e (liftT (gx X) rw f)
structure QA (X : Cx) (rw : Bool) (es : List Expr) (f : AV) : Prop where
  pa : PA X es (liftA (gx X) rw f)
theorem pe_imp {X : Cx} {e : Expr} {t t' : TE} (h : PE X e t) (i : ∀ σ H Q, t' σ H Q → t σ H Q) : PE X e t' := ⟨fun pins s σ H Q I q => h.run pins s σ H Q I (i σ H Q q)⟩
theorem pt_imp {X : Cx} {e : Expr} {t t' : TT} (h : PT X e t) (i : ∀ σ H Q, t' σ H Q → t σ H Q) : PT X e t' := ⟨fun pins s σ H Q I q => h.run pins s σ H Q I (i σ H Q q)⟩
theorem pa_imp {X : Cx} {e : List Expr} {t t' : TA} (h : PA X e t) (i : ∀ σ H Q, t' σ H Q → t σ H Q) : PA X e t' := ⟨fun pos pins s σ H Q I q => h.run pos pins s σ H Q I (i σ H Q q)⟩
theorem ps_imp {X : Cx} {e : Stmt} {t t' : TS} (h : PS X e t) (i : ∀ D σ H, t' D σ H → t D σ H) : PS X e t' := ⟨fun pins s σ H D I q => h.run pins s σ H D I (i D σ H q)⟩
theorem pss_imp {X : Cx} {e : List Stmt} {t t' : TS} (h : PSs X e t) (i : ∀ D σ H, t' D σ H → t D σ H) : PSs X e t' := ⟨fun pins s σ H D I q => h.run pins s σ H D I (i D σ H q)⟩
end HI

namespace HI
open PySem L2

/-! ### seeing through cells -/
def unK : D → D
  | .lck d _ => d
  | d => d
def view (M : Mem) : D → D
  | .cell n => match M[n]? with
    | some c => unK c
    | none => .cell n
  | d => d
def szOk (n : Nat) (q : Prop) : Prop := match Nat.ble n 1000000 with
  | true => q
  | false => False
theorem szOk_i {n : Nat} {q : Prop} (h : n ≤ 1000000) (k : q) : szOk n q := by
  unfold szOk
  rw [Nat.ble_eq_true_of_le h]
  exact k
theorem szOk_e {n : Nat} {q : Prop} (h : szOk n q) : n ≤ sizeLine ∧ q := by
  unfold szOk at h
  cases e : Nat.ble n 1000000 with
  | true => rw [e] at h; exact ⟨Nat.le_trans (Nat.le_of_ble_eq_true e) (by decide), h⟩
  | false => rw [e] at h; exact h.elim
def IF (b : Bool) (p q : Prop) : Prop := match b with
  | true => p
  | false => q
theorem IF_ite {b : Bool} {p q : Prop} (h : IF b p q) : if b = true then p else q := by
  cases b with
  | true => exact iteT h
  | false => exact iteF h

section
variable {G : Gx} {w : Wd} {v : V} {d : D}
theorem Dp.int' {K : PySem.W.Frag} {C : List Addr} {P : Hp} {i : Int} (h : Dp K C P v (.int i)) : v = .int i := by cases h with | int => rfl | con _ h => cases h
theorem Dp.str' {K : PySem.W.Frag} {C : List Addr} {P : Hp} {i : List Nat} (h : Dp K C P v (.str i)) : v = .str (tx i) ∧ vS i := by cases h with | str _ h => exact ⟨rfl, h⟩ | con _ h => cases h
theorem Dp.bl' {K : PySem.W.Frag} {C : List Addr} {P : Hp} {i : Bool} (h : Dp K C P v (.bl i)) : v = .bl i := by cases h with | bl => rfl | con _ h => cases h
theorem Dp.non' {K : PySem.W.Frag} {C : List Addr} {P : Hp} (h : Dp K C P v .non) : v = .non := by cases h with | non => rfl | con _ h => cases h
theorem Dp.cell' {K : PySem.W.Frag} {C : List Addr} {P : Hp} {n : Nat} (h : Dp K C P v (.cell n)) : ∃ a, v = .ref a ∧ C[n]? = some a := by cases h with | cell h => exact ⟨_, rfl, h⟩ | con _ h => cases h
theorem Dp.tup' {K : PySem.W.Frag} {C : List Addr} {P : Hp} {ds : List D} (h : Dp K C P v (.tup ds)) : ∃ a xs, v = .ref a ∧ P a = some (.tup xs) ∧ DpA K C P xs ds := by
  cases h with
  | tup h1 h2 => exact ⟨_, _, rfl, h1, h2⟩
  | con _ h => cases h
theorem Dp.wtup' {K : PySem.W.Frag} {C : List Addr} {P : Hp} {ds : List D} (h : Dp K C P v (.wtup ds)) : ∃ a xs, v = .ref a ∧ (∀ H, SqT K H a xs) ∧ DpA K C P xs ds := by
  cases h with
  | wtup h1 h2 => exact ⟨_, _, rfl, fun H => same_t (fun _ _ z => by cases z) h1, h2⟩
  | con _ h => cases h
/-- what a value shows -/
theorem see (o : WOk G w) (z : Dp G.K w.C w.P v d) : (view w.M d = d ∧ ∀ n, d ≠ .cell n) ∨ ∃ n a c, d = .cell n ∧ v = .ref a ∧ w.C[n]? = some a ∧ w.M[n]? = some c ∧ view w.M d = unK c ∧ w.P a = none ∧ CellOk G w a c := by
  cases d with
  | cell n =>
    obtain ⟨a, rfl, h⟩ := z.cell'
    obtain ⟨c, h1, h2, h3⟩ := o.at h
    refine .inr ⟨n, a, c, rfl, rfl, h, h1, ?_, h2, h3⟩
    show (match w.M[n]? with | some c => unK c | none => .cell n) = unK c
    rw [h1]
  | _ => exact .inl ⟨rfl, fun n e => by cases e⟩
/-- a dict that is walked shows a dict alone -/
theorem Lckd.dct {a : Addr} {c : D} {k : Obj × HO} (h : Lckd G w a c k) : ∃ t kds ho, c = .dct t kds ∧ w.H a = some ho ∧ HoD G.K w.C w.P (unl ho) (.dct t kds) := by
  obtain ⟨od, o, _, h1, h2, h3⟩ := h
  cases h3 with
  | lst _ => cases h2
  | dK a1 a2 a3 => exact ⟨_, _, _, rfl, h1, .dK a1 a2 a3⟩
  | dT a1 a2 a3 => exact ⟨_, _, _, rfl, h1, .dT a1 a2 a3⟩
/-- what stands in a cell that is not walked, or a dict that is -/
theorem cell_un {a : Addr} {c : D} (h : CellOk G w a c) : (unK c = c ∧ ∀ d k, c ≠ .lck d k) ∨ ∃ t kds ho, unK c = .dct t kds ∧ w.H a = some ho ∧ HoD G.K w.C w.P (unl ho) (.dct t kds) := by
  cases c with
  | lck d k => obtain ⟨t, kds, ho, rfl, h1, h2⟩ := Lckd.dct h; exact .inr ⟨t, kds, ho, rfl, h1, h2⟩
  | _ => exact .inl ⟨rfl, fun d k e => by cases e⟩
theorem see_lst {ds : List D} (o : WOk G w) (z : Dp G.K w.C w.P v d) (e : view w.M d = .lst ds) : ∃ a xs, v = .ref a ∧ w.H a = some (.lst xs) ∧ DpA G.K w.C w.P xs ds := by
  rcases see o z with ⟨h, _⟩ | ⟨n, a, c, rfl, rfl, _, _, h, _, q⟩
  · rw [e] at h
    subst h
    cases z with
    | con h1 h2 =>
      cases h2 with
      | lst h2 => exact ⟨_, _, rfl, o.ex.lst h1, h2⟩
  · rw [e] at h
    rcases cell_un q with ⟨h2, _⟩ | ⟨t, kds, ho, h2, _⟩
    · rw [h2] at h
      subst h
      obtain ⟨ho, h1, h2⟩ := q
      cases h2 with
      | lst h2 => exact ⟨_, _, rfl, h1, h2⟩
    · rw [h2] at h; cases h
theorem see_dct {t : Bool} {ds : List (D × D)} (o : WOk G w) (z : Dp G.K w.C w.P v d) (e : view w.M d = .dct t ds) : ∃ a ho, v = .ref a ∧ w.H a = some ho ∧ HoD G.K w.C w.P (unl ho) (.dct t ds) := by
  rcases see o z with ⟨h, _⟩ | ⟨n, a, c, rfl, rfl, _, _, h, _, q⟩
  · rw [e] at h
    subst h
    cases z with
    | con h1 h2 =>
      obtain ⟨o', q1, q2⟩ := o.ex _ _ h1
      exact ⟨_, o', rfl, q1, by rw [q2]; exact h2⟩
  · rw [e] at h
    rcases cell_un q with ⟨h2, _⟩ | ⟨t, kds, ho, h2, h3, h4⟩
    · rw [h2] at h
      subst h
      obtain ⟨ho, h1, h2⟩ := q
      exact ⟨_, ho, rfl, h1, by rw [h2.unl]; exact h2⟩
    · rw [h2] at h
      cases h
      exact ⟨_, ho, rfl, h3, h4⟩
theorem see_obj {c : List Nat} {fs : List (List Nat × D)} (o : WOk G w) (z : Dp G.K w.C w.P v d) (e : view w.M d = .obj c fs) : ∃ n a, d = .cell n ∧ v = .ref a ∧ w.C[n]? = some a ∧ w.M[n]? = some (.obj c fs) ∧ w.P a = none ∧ Inst G w a c fs := by
  rcases see o z with ⟨h, _⟩ | ⟨n, a, c', rfl, rfl, h1, h2, h, h3, q⟩
  · rw [e] at h
    subst h
    cases z with
    | con h1 h2 => cases h2
  · rw [e] at h
    rcases cell_un q with ⟨h4, _⟩ | ⟨t, kds, ho, h4, _⟩
    · rw [h4] at h
      subst h
      exact ⟨n, a, rfl, rfl, h1, h2, h3, q⟩
    · rw [h4] at h; cases h
theorem see_tup {ds : List D} (o : WOk G w) (z : Dp G.K w.C w.P v d) (e : view w.M d = .tup ds) : ∃ a xs, v = .ref a ∧ w.P a = some (.tup xs) ∧ w.H a = some (.tup xs) ∧ DpA G.K w.C w.P xs ds := by
  rcases see o z with ⟨h, _⟩ | ⟨n, a, c, rfl, rfl, _, _, h, _, q⟩
  · rw [e] at h
    subst h
    obtain ⟨a, xs, rfl, h1, h2⟩ := z.tup'
    exact ⟨a, xs, rfl, h1, o.ex.tup h1, h2⟩
  · rw [e] at h
    rcases cell_un q with ⟨h4, _⟩ | ⟨t, kds, ho, h4, _⟩
    · rw [h4] at h
      subst h
      exact q.elim
    · rw [h4] at h; cases h
theorem see_wtup {ds : List D} (o : WOk G w) (z : Dp G.K w.C w.P v d) (e : view w.M d = .wtup ds) : d = .wtup ds ∧ ∃ a xs, v = .ref a ∧ (∀ H, SqT G.K H a xs) ∧ DpA G.K w.C w.P xs ds := by
  rcases see o z with ⟨h, _⟩ | ⟨n, a, c, rfl, rfl, _, _, h, _, q⟩
  · rw [e] at h
    subst h
    exact ⟨rfl, z.wtup'⟩
  · rw [e] at h
    rcases cell_un q with ⟨h4, _⟩ | ⟨t, kds, ho, h4, _⟩
    · rw [h4] at h
      subst h
      exact q.elim
    · rw [h4] at h; cases h
theorem see_scal {c : D} (o : WOk G w) (z : Dp G.K w.C w.P v d) (e : view w.M d = c) (hs : c.scal = true) : d = c ∧ Dp G.K w.C w.P v c := by
  rcases see o z with ⟨h, _⟩ | ⟨n, a, c', rfl, rfl, _, _, h, _, q⟩
  · rw [e] at h
    subst h
    exact ⟨rfl, z⟩
  · rw [e] at h
    rcases cell_un q with ⟨h4, _⟩ | ⟨t, kds, ho, h4, _⟩
    · rw [h4] at h
      subst h
      cases c <;> first | exact q.elim | cases hs
    · rw [h4] at h; subst h; cases hs
theorem see_int {i : Int} (o : WOk G w) (z : Dp G.K w.C w.P v d) (e : view w.M d = .int i) : v = .int i := (see_scal o z e rfl).2.int'
theorem see_str {i : List Nat} (o : WOk G w) (z : Dp G.K w.C w.P v d) (e : view w.M d = .str i) : v = .str (tx i) ∧ vS i := (see_scal o z e rfl).2.str'
theorem see_bl {i : Bool} (o : WOk G w) (z : Dp G.K w.C w.P v d) (e : view w.M d = .bl i) : v = .bl i := (see_scal o z e rfl).2.bl'
theorem see_non (o : WOk G w) (z : Dp G.K w.C w.P v d) (e : view w.M d = .non) : v = .non := (see_scal o z e rfl).2.non'
end

section
variable {X : Cx} {rw : Bool} {e a b : Expr} {es : List Expr} {fa fb f g : EV} {fr : AV} {pos : Pos}
theorem qe_of {t : TE} (h : PE X e t) (i : ∀ w σ δ (Qd : Rz → Mem → Prop) (Q : VK), Rep (gx X) w σ δ → f δ w.M Qd → (∀ r v w', Qd r w'.M → Gr (gx X) rw w w' → RzOk (gx X) w w' r v → Q v w'.H) → t σ w.H Q) : QE X rw e f :=
  ⟨pe_imp h fun σ H Q ⟨w, δ, Qd, e, R, hf, k⟩ => by subst e; exact i w σ δ Qd Q R hf k⟩
/-! ### constants, names -/
def eC (d : D) : EV := fun _ M Q => Q (.val d) M
theorem q_int {i : Int} {j : Nat} : QE X rw (.Constant (.int i) j pos) (eC (.int i)) := qe_of pe_int fun w σ δ Qd Q R h k => k _ (.int i) w h (.refl R.ok) (.int i)
theorem q_bl {i : Bool} {j : Nat} : QE X rw (.Constant (.bool i) j pos) (eC (.bl i)) := qe_of pe_bl fun w σ δ Qd Q R h k => k _ (.bl i) w h (.refl R.ok) (.bl i)
theorem q_non {j : Nat} : QE X rw (.Constant .none j pos) (eC .non) := qe_of pe_non fun w σ δ Qd Q R h k => k _ .non w h (.refl R.ok) .non
theorem q_str {i : Str} {j : Nat} (cs : List Nat) (h : i = tx cs := by decide +kernel) (hv : (cs.all fun c => decide (c < 0x110000)) = true := by decide) : QE X rw (.Constant (.str i) j pos) (eC (.str cs)) :=
  qe_of pe_str fun w σ δ Qd Q R hq k => k _ (.str i) w hq (.refl R.ok) (by
    subst h
    exact .str cs fun c hc => of_decide_eq_true (List.all_eq_true.mp hv c hc))
def eV (i : Nat) : EV := fun δ M Q => match δ[i]? with
  | some (.val d) => Q (.val d) M
  | _ => False
theorem q_var (i : Nat) {x : Str} (hN : X.N[i]? = some x := by rfl) (hv : Vis X.env.scope x := by first | exact Or.inl rfl | exact Or.inr (Or.inl rfl) | exact Or.inr (Or.inr rfl)) (hd : (x == ("__debug__" : Str)) = false := by decide)
    (hcd : (x == ("__classdict__" : Str)) = false := by decide) : QE X rw (.Name x pos) (eV i) := qe_of (pe_var hN hv hd hcd) fun w σ δ Qd Q R h k => by
  unfold eV at h
  cases e : δ[i]? with
  | none => rw [e] at h; exact h.elim
  | some s =>
    rw [e] at h
    cases s with
    | no => exact h.elim
    | own ds => exact h.elim
    | val d =>
      obtain ⟨v, h1, h2⟩ := R.val i d e
      exact ⟨v, h1, k _ v w h (.refl R.ok) h2⟩
/-- a constant of the module -/
theorem q_glob {x : Str} {v : V} {u : Value} {d : D} (hm : X.mg x = some u) (r : RelV v u) (nb : ∀ C P, Dp X.K C P v d) (hg : Gl X x := by rfl) (hdb : (x == ("__debug__" : Str)) = false := by decide) : QE X rw (.Name x pos) (eC d) :=
  qe_of (pe_glob hg hm r hdb) fun w σ δ Qd Q R h k => k _ v w h (.refl R.ok) (nb _ _)

/-! ### transient: the result is a scalar, all own things may be read -/
def scalQ (d : D) (q : Prop) : Prop := match d with
  | .non | .bl _ | .int _ | .str _ => q
  | _ => False
theorem scalQ_e {d : D} {q : Prop} (h : scalQ d q) : d.scal = true ∧ q := by
  cases d <;> first | exact ⟨rfl, h⟩ | exact h.elim
def eTr (f : EV) : EV := fun δ M Q => f (frzE δ) M fun r M' => scalQ r.d (Q (.val r.d) M')
theorem q_tr (h : QE X false e f) : QE X rw e (eTr f) := qe_of h.pe fun w σ δ Qd Q R hf k =>
  lift_d (w := ⟨w.C, w.M, tot w, w.H⟩) R.tot (fun d M => scalQ d (Qd (.val d) M)) hf fun d v w' q g z => by
    obtain ⟨q1, q2⟩ := scalQ_e q
    have e2 : w'.M = w.M := (g.ro rfl).2.1
    rw [e2] at q2
    exact k _ v ⟨w.C, w.M, w.P, w'.H⟩ q2 (Gr.drop R g) (z.scal q1)
def eFz (f : EV) : EV := fun δ M Q => f δ M fun r M' => Q (.val r.d) M'
theorem q_fz (h : QE X rw e f) : QE X rw e (eFz f) := qe_of h.pe fun w σ δ Qd Q R hf k => lift_d R (fun d M => Qd (.val d) M) hf fun d v w' q g z => k _ v w' q g z
theorem lift_fz {G : Gx} {σ : L2.St} {H : Hp} {Q : VK} (h : lift G rw (eFz f) σ H Q) : lift G rw f σ H Q := by
  obtain ⟨w, δ, Qd, e, R, hf, k⟩ := h
  subst e
  exact lift_d R (fun d M => Qd (.val d) M) hf fun d v w' q g z => k _ v w' q g z
def eNever : EV := fun _ _ _ => False
theorem q_enever : QE X rw e eNever := ⟨⟨fun _ _ _ _ _ _ ⟨_, _, _, _, _, hf, _⟩ => hf.elim⟩⟩

/-! ### two-place operations -/
abbrev OpD := Mem → D → D → (Rz → Prop) → Prop
def eOp (g : OpD) (fa fb : EV) : EV := fun δ M Q => fa δ M fun x M1 => fb δ M1 fun y M2 => g M2 x.d y.d fun r => Q r M2
def OpW (X : Cx) (r : R2) (g : OpD) : Prop := ∀ w x y dx dy (Qd : Rz → Prop) (Q : VK), WOk (gx X) w → Dp X.K w.C w.P x dx → Dp X.K w.C w.P y dy → g w.M dx dy Qd →
    (∀ rz v w', Qd rz → Gr (gx X) false w w' → RzOk (gx X) w w' rz v → Q v w'.H) → r x y w.H Q
/-- an operation over data -/
def OpL (X : Cx) (f : Value → Value → Sem Value) (g : OpD) : Prop := ∃ r : R2, OpR X f r ∧ OpW X r g
theorem op_run {go : OpD} {ta tb : EV} {r : R2} (hr : OpW X r go) {w : Wd} {σ : L2.St} {δ : DEnv} {Qd : Rz → Mem → Prop} {Q : VK} (R : Rep (gx X) w σ δ) (h : eOp go ta tb δ w.M Qd) (k : ∀ rz v w', Qd rz w'.M → Gr (gx X) rw w w' → RzOk (gx X) w w' rz v → Q v w'.H) :
    tOp r (lift (gx X) rw ta) (lift (gx X) rw tb) σ w.H Q := by
  refine lift_d R (fun x M1 => tb δ M1 fun y M2 => go M2 x y.d fun r => Qd r M2) h fun dx x w1 q1 g1 z1 => ?_
  refine lift_d (R.mono g1) (fun y M2 => go M2 dx y fun r => Qd r M2) q1 fun dy y w2 q2 g2 z2 => ?_
  have g12 := g1.trans g2
  refine hr w2 x y dx dy _ Q g2.ok (g2.dp z1) z2 q2 fun rz v w3 q3 g3 z3 => ?_
  rw [← (g3.ro rfl).2.1] at q3
  exact k rz v w3 q3 (g12.trans g3.weak) (z3.back g12)
theorem q_op {op : Operator} {go : OpD} (ho : OpL X (binaryOp op) go) (ha : QE X rw a fa) (hb : QE X rw b fb) : QE X rw (.BinOp a op b pos) (eOp go fa fb) := by
  obtain ⟨r, h1, h2⟩ := ho
  exact qe_of (pe_op h1 ha.pe hb.pe) fun w σ δ Qd Q R h k => op_run h2 R h k
theorem q_cmp {op : CmpOp} {go : OpD} (ho : OpL X (compareOp op) go) (ha : QE X rw a fa) (hb : QE X rw b fb) (hm : behindInMarks op b = false := by rfl) : QE X rw (.Compare a [op] [b] pos) (eOp go fa fb) := by
  obtain ⟨r, h1, h2⟩ := ho
  exact qe_of (pe_cmpR h1 ha.pe hb.pe hm) fun w σ δ Qd Q R h k => op_run h2 R h k
theorem q_ixR {r : R2} {go : OpD} (h1 : IxR X r) (h2 : OpW X r go) (ha : QE X rw a fa) (hb : QE X rw b fb) (hs : PlainIx b) : QE X rw (.Subscript a b pos) (eOp go fa fb) :=
  qe_of (pe_ix h1 ha.pe hb.pe hs) fun w σ δ Qd Q R h k => op_run h2 R h k

/-! ### arguments, displays -/
def aNil : AV := fun _ M Q => Q [] M
def aCons (f : EV) (fr : AV) : AV := fun δ M Q => f δ M fun r M1 => fr δ M1 fun ds M2 => Q (r.d :: ds) M2
theorem qa_of {t : TA} (h : PA X es t) (i : ∀ w σ δ (Qd : List D → Mem → Prop) (Q : List V → Hp → Prop), Rep (gx X) w σ δ → fr δ w.M Qd → (∀ ds vs w', Qd ds w'.M → Gr (gx X) rw w w' → DpA X.K w'.C w'.P vs ds → Q vs w'.H) → t σ w.H Q) : QA X rw es fr :=
  ⟨pa_imp h fun σ H Q ⟨w, δ, Qd, e, R, hf, k⟩ => by subst e; exact i w σ δ Qd Q R hf k⟩
theorem q_nil : QA X rw [] aNil := qa_of pa_nil fun w σ δ Qd Q R hf k => k [] [] w hf (.refl R.ok) .nil
theorem cons_run {w : Wd} {σ : L2.St} {δ : DEnv} {Qd : List D → Mem → Prop} {Q : List V → Hp → Prop} (R : Rep (gx X) w σ δ) (hf : aCons f fr δ w.M Qd) (k : ∀ ds vs w', Qd ds w'.M → Gr (gx X) rw w w' → DpA X.K w'.C w'.P vs ds → Q vs w'.H) :
    lift (gx X) rw f σ w.H fun v H1 => liftA (gx X) rw fr σ H1 fun vs H2 => Q (v :: vs) H2 := by
  refine lift_d R (fun x M1 => fr δ M1 fun ds M2 => Qd (x :: ds) M2) hf fun dx x w1 q1 g1 z1 => ?_
  exact ⟨w1, δ, _, rfl, R.mono g1, q1, fun ds vs w2 q2 g2 z2 => k _ _ w2 q2 (g1.trans g2) (.cons (g2.dp z1) z2)⟩
theorem q_cons (ha : QE X rw e f) (hr : QA X rw es fr) (hs : starEach (e :: es) X.env = (false, eval e X.env) :: starEach es X.env := by rfl) : QA X rw (e :: es) (aCons f fr) :=
  qa_of (pa_cons ha.pe hr.pa hs) fun w σ δ Qd Q R hf k => cons_run R hf k
def eLst (fr : AV) : EV := fun δ M Q => fr δ M fun ds M1 => szOk ds.length (Q (.new (.lst ds)) M1)
def eTup (fr : AV) : EV := fun δ M Q => fr δ M fun ds M1 => szOk ds.length (Q (.val (.tup ds)) M1)
theorem notc {G : Gx} {w : Wd} {p : Addr} (o : WOk G w) (hp : w.H p = none) : p ∉ w.C := fun hc => by
  obtain ⟨_, h, e⟩ := o.mem hc
  rw [hp] at e
  cases e
theorem new_ok {G : Gx} {w w1 : Wd} {o : HO} {d : D} {p : Addr} (g : Gr G rw w w1) (hp : w1.H p = none) (z : HoD G.K w1.C w1.P o d) :
    Gr G rw w ⟨w1.C, w1.M, w1.P, upd w1.H p o⟩ ∧ RzOk G w ⟨w1.C, w1.M, w1.P, upd w1.H p o⟩ (.new d) (.ref p) :=
  ⟨g.trans (Gr.loose g.ok hp).weak, p, rfl, g.ok.ex.free hp, g.fresh hp, show p ∉ w1.C from notc g.ok hp, o, upd_same, z⟩
theorem tup_ok {G : Gx} {w w1 : Wd} {vs : List V} {ds : List D} {p : Addr} (g : Gr G rw w w1) (hp : w1.H p = none) (z : DpA G.K w1.C w1.P vs ds) :
    Gr G rw w ⟨w1.C, w1.M, upd w1.P p (.tup vs), upd w1.H p (.tup vs)⟩ ∧ RzOk G w ⟨w1.C, w1.M, upd w1.P p (.tup vs), upd w1.H p (.tup vs)⟩ (.val (.tup ds)) (.ref p) :=
  ⟨g.trans (Gr.new g.ok hp (fun _ h => by cases h) rfl).weak, .tup upd_same (z.mono (Pre.refl _) (same_new (g.ok.ex.free hp)))⟩
theorem q_lst (h : QA X rw es fr) : QE X rw (.List es pos) (eLst fr) := qe_of (pe_lst h.pa) fun w σ δ Qd Q R hf k =>
  ⟨w, δ, _, rfl, R, hf, fun ds vs w1 q g1 z1 => by
    obtain ⟨q1, q2⟩ := szOk_e q
    refine ⟨by rw [z1.length]; exact q1, fun p hp => ?_⟩
    obtain ⟨g2, z2⟩ := new_ok g1 hp (HoD.lst z1)
    exact k _ _ ⟨w1.C, w1.M, _, _⟩ q2 g2 z2⟩
theorem q_tup {n : Nat} (h : QA X rw es fr) : QE X rw (.Tuple es n pos) (eTup fr) := qe_of (pe_tup h.pa) fun w σ δ Qd Q R hf k =>
  ⟨w, δ, _, rfl, R, hf, fun ds vs w1 q g1 z1 => by
    obtain ⟨q1, q2⟩ := szOk_e q
    refine ⟨by rw [z1.length]; exact q1, fun p hp => ?_⟩
    obtain ⟨g2, z2⟩ := tup_ok g1 hp z1
    exact k _ _ ⟨w1.C, w1.M, _, _⟩ q2 g2 z2⟩

/-! ### calls of built-in things -/
abbrev CaD := Mem → List D → (Rz → Prop) → Prop
def eCallB (g : CaD) (fr : AV) : EV := fun δ M Q => fr δ M fun ds M1 => g M1 ds fun r => Q r M1
def CallW (X : Cx) (r : List V → Hp → VK → Prop) (g : CaD) : Prop := ∀ w xs ds (Qd : Rz → Prop) (Q : VK), WOk (gx X) w → DpA X.K w.C w.P xs ds → g w.M ds Qd →
    (∀ rz v w', Qd rz → Gr (gx X) false w w' → RzOk (gx X) w w' rz v → Q v w'.H) → r xs w.H Q
def CallL (X : Cx) (f : Value) (g : CaD) : Prop := ∃ r : List V → Hp → VK → Prop, CallR X f r ∧ CallW X r g
theorem call_run {go : CaD} {r : List V → Hp → VK → Prop} (hr : CallW X r go) {w : Wd} {σ : L2.St} {δ : DEnv} {Qd : Rz → Mem → Prop} {Q : VK} (R : Rep (gx X) w σ δ) (h : eCallB go fr δ w.M Qd) (k : ∀ rz v w', Qd rz w'.M → Gr (gx X) rw w w' → RzOk (gx X) w w' rz v → Q v w'.H) :
    tCB r (liftA (gx X) rw fr) σ w.H Q :=
  ⟨w, δ, _, rfl, R, h, fun ds vs w1 q1 g1 z1 => hr w1 vs ds _ Q g1.ok z1 q1 fun rz v w2 q2 g2 z2 => k rz v w2 (by rw [(g2.ro rfl).2.1]; exact q2) (g1.trans g2.weak) (z2.back g1)⟩
theorem q_callB {x : Str} {id : String} {p : Pos} {go : CaD} (hc : CallL X (.builtin id) go) (hm : X.mg x = none) (hv : bootBuiltins x = some (.builtin id)) (ha : QA X rw (e :: es) fr) (hg : Gl X x := by rfl) (hn : x ≠ "__name__" := by decide) (hdb : (x == ("__debug__" : Str)) = false := by decide)
    (he : starEach (e :: es) X.env = (false, eval e X.env) :: starEach es X.env := by rfl) (hpl : (backTo pos (starEach es X.env)).any (·.1) = false := by rfl) : QE X rw (.Call (.Name x p) (e :: es) [] pos) (eCallB go fr) := by
  obtain ⟨r, h1, h2⟩ := hc
  exact qe_of (pe_callB h1 hg hm hv ha.pa hn hdb he hpl) fun w σ δ Qd Q R h k => call_run h2 R h k
theorem q_callTy {x : Str} {T : String} {p : Pos} {go : CaD} (hc : CallL X (.type T) go) (hm : X.mg x = none) (hv : bootBuiltins x = some (.type T)) (ha : QA X rw (e :: es) fr) (hg : Gl X x := by rfl) (hn : x ≠ "__name__" := by decide) (hdb : (x == ("__debug__" : Str)) = false := by decide)
    (he : starEach (e :: es) X.env = (false, eval e X.env) :: starEach es X.env := by rfl) (hpl : (backTo pos (starEach es X.env)).any (·.1) = false := by rfl) : QE X rw (.Call (.Name x p) (e :: es) [] pos) (eCallB go fr) := by
  obtain ⟨r, h1, h2⟩ := hc
  exact qe_of (pe_callTy h1 hg hm hv ha.pa hn hdb he hpl) fun w σ δ Qd Q R h k => call_run h2 R h k

/-! ### a def of the program, by its promise over data -/
abbrev Spec := List D → Mem → (Rz → Mem → Prop) → Prop
def eCall (S : Spec) (fr : AV) : EV := fun δ M Q => fr δ M fun ds M1 => S ds M1 Q
def SpD (G : Gx) (rw : Bool) (n : Nat) (S : Spec) : Sp := fun vs H Q _ => ∃ w ds Qd, w.H = H ∧ WOk G w ∧ DpA G.K w.C w.P vs ds ∧ ds.length = n ∧ S ds w.M Qd ∧ ∀ rz v w', Qd rz w'.M → Gr G rw w w' → RzOk G w w' rz v → Q v w'.H
/-- a def of the program, as callers need it; r: whether it changes cells -/
structure Def (P : Program) (w : World) (K : PySem.W.Frag) (mg : Str → Option Value) (base : Heap) (g : Str) (ps : List Str) (j : Nat) (r : Bool) (S : Spec) : Prop where
  len : ∀ ds M Q, S ds M Q → ds.length = ps.length
  ex : ∃ (f : Addr) (fd : FuncData), FnOk P w K mg base CX0 j f fd ps (SpD ⟨K, mg⟩ r ps.length S) ∧ mg g = some (.ref f) ∧ PySem.W.keepIn K (.ref f) = true ∧ Binds K fd ps []
theorem rw_imp {r rw : Bool} (h : (!r || rw) = true) : r = true → rw = true := fun e => by subst e; simpa using h
theorem q_callD {x : Str} {p : Pos} {ps : List Str} {S : Spec} {j k : Nat} {r : Bool} (d : Def X.prog X.w X.K X.mg X.base x ps j r S) (hr : Room k X.A) (ha : QA X rw (e :: es) fr) (hw : (!r || rw) = true := by rfl) (hj : j ≤ k := by omega) (hg : Gl X x := by rfl) (hdb : (x == ("__debug__" : Str)) = false := by decide)
    (he : starEach (e :: es) X.env = (false, eval e X.env) :: starEach es X.env := by rfl) (hpl : (backTo pos (starEach es X.env)).any (·.1) = false := by rfl) : QE X rw (.Call (.Name x p) (e :: es) [] pos) (eCall S fr) := by
  obtain ⟨f, fd, F, hm, hk, hb⟩ := d.ex
  refine qe_of (pe_call F (hr.mono hj) hg hm hk hb .nil pass0 ha.pa hdb he hpl) fun w σ δ Qd Q R h k => ?_
  refine ⟨w, δ, _, rfl, R, h, fun ds vs w1 q1 g1 z1 => ?_⟩
  show SpD (gx X) r ps.length S (vs ++ []) w1.H Q E0
  rw [List.append_nil]
  exact ⟨w1, ds, Qd, rfl, g1.ok, z1, d.len _ _ _ q1, q1, fun rz v w2 q2 g2 z2 => k rz v w2 q2 (g1.trans (g2.wk (rw_imp hw))) (z2.back g1)⟩
theorem q_callD0 {x : Str} {p : Pos} {S : Spec} {j k : Nat} {r : Bool} (d : Def X.prog X.w X.K X.mg X.base x [] j r S) (hr : Room k X.A) (hw : (!r || rw) = true := by rfl) (hj : j ≤ k := by omega) (hg : Gl X x := by rfl) (hdb : (x == ("__debug__" : Str)) = false := by decide) : QE X rw (.Call (.Name x p) [] [] pos) (eCall S aNil) := by
  obtain ⟨f, fd, F, hm, hk, hb⟩ := d.ex
  refine qe_of (pe_call0 F (hr.mono hj) hg hm hk hb .nil pass0 hdb) fun w σ δ Qd Q R h k => ?_
  exact ⟨w, [], Qd, rfl, R.ok, .nil, rfl, h, fun rz v w2 q2 g2 z2 => k rz v w2 q2 (g2.wk (rw_imp hw)) z2⟩
end
/-! ### calls by keywords -/
def perm {α : Type} : List Nat → List α → List α
  | [], _ => []
  | i :: is, xs => match xs[i]? with
    | some x => x :: perm is xs
    | none => perm is xs
theorem perm_vals {xs : List V} {us : List Value} (h : Vals xs us) : ∀ is : List Nat, Vals (perm is xs) (perm is us)
  | [] => .nil
  | i :: is => by
    rw [perm, perm]
    cases e : xs[i]? with
    | none => rw [h.none_of e]; exact perm_vals h is
    | some x =>
      obtain ⟨u, h1, h2⟩ := h.get e
      rw [h1]
      exact .cons h2 (perm_vals h is)
theorem perm_dp {K : PySem.W.Frag} {C : List Addr} {P : Hp} {xs : List V} {ds : List D} (h : DpA K C P xs ds) : ∀ is : List Nat, DpA K C P (perm is xs) (perm is ds)
  | [] => .nil
  | i :: is => by
    rw [perm, perm]
    cases e : xs[i]? with
    | none =>
      have : ds[i]? = none := List.getElem?_eq_none (by rw [← h.length]; exact List.getElem?_eq_none_iff.mp e)
      rw [this]
      exact perm_dp h is
    | some x =>
      obtain ⟨u, h1, h2⟩ := h.get' e
      rw [h1]
      exact .cons h2 (perm_dp h is)
/-- n values by place, those named ks by name; is: which one is which -/
structure DefK (P : Program) (w : World) (K : PySem.W.Frag) (mg : Str → Option Value) (base : Heap) (g : Str) (ps : List Str) (j : Nat) (r : Bool) (S : Spec) (n : Nat) (ks : List Str) (is : List Nat) : Prop where
  len : ∀ ds M Q, S ds M Q → ds.length = ps.length
  ex : ∃ (f : Addr) (fd : FuncData), FnOk P w K mg base CX0 j f fd ps (SpD ⟨K, mg⟩ r ps.length S) ∧ mg g = some (.ref f) ∧ PySem.W.keepIn K (.ref f) = true ∧ KBn K fd ps n ks (fun us ws => perm is (us ++ ws)) (fun vs zs => perm is (vs ++ zs))
section
variable {X : Cx} {rw : Bool} {e : Expr} {es : List Expr} {kws : List Keyword} {fr fk : AV} {f : EV} {pos p kpos : Pos} {nm : Option Str}
structure QK (X : Cx) (rw : Bool) (kws : List Keyword) (f : AV) : Prop where
  pk : PK X kws (liftA (gx X) rw f)
theorem qk_of {t : TA} (h : PK X kws t) (i : ∀ w σ δ (Qd : List D → Mem → Prop) (Q : List V → Hp → Prop), Rep (gx X) w σ δ → fr δ w.M Qd → (∀ ds vs w', Qd ds w'.M → Gr (gx X) rw w w' → DpA X.K w'.C w'.P vs ds → Q vs w'.H) → t σ w.H Q) : QK X rw kws fr :=
  ⟨⟨fun pos pins s σ H Q I ⟨w, δ, Qd, e, R, hf, k⟩ => by subst e; exact h.run pos pins s σ w.H Q I (i w σ δ Qd Q R hf k)⟩⟩
theorem q_knil : QK X rw [] aNil := qk_of pk_nil fun w σ δ Qd Q R hf k => k [] [] w hf (.refl R.ok) .nil
theorem q_kcons (ha : QE X rw e f) (hr : QK X rw kws fk) : QK X rw (⟨nm, e, kpos⟩ :: kws) (aCons f fk) :=
  qk_of (pk_cons ha.pe hr.pk) fun w σ δ Qd Q R hf k => cons_run R hf k
/-- f(k = v, ..): no value by place -/
theorem pe_callN0 {CX : CXT} {k : Nat} {fa : Addr} {fd : FuncData} {ps ks : List Str} {sp : Sp} {E : XK} {x : Str} {tk : TA} {g : List Value → List Value → List Value} {gV : List V → List V → List V}
    (F : FnOk X.prog X.w X.K X.mg X.base CX k fa fd ps sp) (hr : Room k X.A) (hg : Gl X x) (hm : X.mg x = some (.ref fa)) (hk : PySem.W.keepIn X.K (.ref fa) = true) (hb : KBn X.K fd ps 0 ks g gV) (hx : Passes CX X E) (hkw : PK X kws tk)
    (hall : (backToKw pos (keywordEach kws X.env)).all (·.1.isSome) = true := by rfl) (hks : (backToKw pos (keywordEach kws X.env)).filterMap (·.1) = ks := by rfl) (hdb : (x == ("__debug__" : Str)) = false := by decide)
    (hpl : ((backTo pos (starEach [] X.env)).any (·.1) || (backToKw pos (keywordEach kws X.env)).any (·.1.isNone)) = false := by rfl) :
    PE X (.Call (.Name x p) [] kws pos) (fun σ H Q => tk σ H fun zs H2 => zs.length = ks.length ∧ sp (gV [] zs) H2 Q E) := by
  refine ⟨fun pins s σ H Q I h => ?_⟩
  refine wpAny_Call_Name_kw (ld_glob I hg hm ?_ hdb)
  refine PySem.W.callWith_KW0 (h₀ := X.base) I.ok.mod.kin hk hall ?_ hpl
  refine thn (hkw.run pos pins s σ H _ I h) fun ws s2 ⟨zs, H2, I2, rz, l2, q2⟩ => ⟨I2.kIn, ?_⟩
  rw [hks]
  exact run_fnN (us := []) (vs := []) F hr hb hx I2 .nil rz rfl l2 q2
def lenQ {α : Type} (xs : List α) (n : Nat) (q : Prop) : Prop := match Nat.beq xs.length n with
  | true => q
  | false => False
theorem lenQ_e {α : Type} {xs : List α} {n : Nat} {q : Prop} (h : lenQ xs n q) : xs.length = n ∧ q := by
  unfold lenQ at h
  cases e : Nat.beq xs.length n with
  | true => rw [e] at h; exact ⟨Nat.eq_of_beq_eq_true e, h⟩
  | false => rw [e] at h; exact h.elim
theorem lenQ_i {α : Type} {xs : List α} {n : Nat} {q : Prop} (h : xs.length = n) (k : q) : lenQ xs n q := by
  subst h
  unfold lenQ
  rw [show Nat.beq xs.length xs.length = true from Nat.beq_refl _]
  exact k
def eCallK (n m : Nat) (is : List Nat) (S : Spec) (fr fk : AV) : EV := fun δ M Q => fr δ M fun us M1 => fk δ M1 fun ws M2 => lenQ us n (lenQ ws m (S (perm is (us ++ ws)) M2 Q))
theorem q_callK0 {x : Str} {ps ks : List Str} {j k m : Nat} {S : Spec} {is : List Nat} {r : Bool} (d : DefK X.prog X.w X.K X.mg X.base x ps j r S 0 ks is) (hr : Room k X.A) (hkw : QK X rw kws fk) (hw : (!r || rw) = true := by rfl) (hl : ks.length = m := by rfl) (hj : j ≤ k := by omega) (hg : Gl X x := by rfl)
    (hall : (backToKw pos (keywordEach kws X.env)).all (·.1.isSome) = true := by rfl) (hks : (backToKw pos (keywordEach kws X.env)).filterMap (·.1) = ks := by rfl) (hdb : (x == ("__debug__" : Str)) = false := by decide)
    (hpl : ((backTo pos (starEach [] X.env)).any (·.1) || (backToKw pos (keywordEach kws X.env)).any (·.1.isNone)) = false := by rfl) : QE X rw (.Call (.Name x p) [] kws pos) (eCallK 0 m is S aNil fk) := by
  subst hl
  obtain ⟨fa, fd, F, h1, h2, h3⟩ := d.ex
  refine qe_of (pe_callN0 F (hr.mono hj) hg h1 h2 h3 pass0 hkw.pk hall hks hdb hpl) fun w σ δ Qd Q R h kk => ?_
  refine ⟨w, δ, _, rfl, R, h, fun ds vs w1 q g1 z1 => ?_⟩
  obtain ⟨_, q⟩ := lenQ_e q
  obtain ⟨q2, q3⟩ := lenQ_e q
  refine ⟨by rw [z1.length]; exact q2, ?_⟩
  exact ⟨w1, perm is ([] ++ ds), Qd, rfl, g1.ok, perm_dp (by simpa using z1) is, d.len _ _ _ q3, q3, fun rz v w2 q4 g2 z2 => kk rz v w2 q4 (g1.trans (g2.wk (rw_imp hw))) (z2.back g1)⟩
theorem q_callK {x : Str} {ps ks : List Str} {j k n m : Nat} {S : Spec} {is : List Nat} {r : Bool} (d : DefK X.prog X.w X.K X.mg X.base x ps j r S n ks is) (hr : Room k X.A) (ha : QA X rw (e :: es) fr) (hkw : QK X rw kws fk) (hw : (!r || rw) = true := by rfl) (hl : ks.length = m := by rfl) (hj : j ≤ k := by omega) (hg : Gl X x := by rfl)
    (hall : (backToKw pos (keywordEach kws X.env)).all (·.1.isSome) = true := by rfl) (hks : (backToKw pos (keywordEach kws X.env)).filterMap (·.1) = ks := by rfl) (hdb : (x == ("__debug__" : Str)) = false := by decide) (he : starEach (e :: es) X.env = (false, eval e X.env) :: starEach es X.env := by rfl)
    (hpl : ((backTo pos (starEach (e :: es) X.env)).any (·.1) || (backToKw pos (keywordEach kws X.env)).any (·.1.isNone)) = false := by rfl) : QE X rw (.Call (.Name x p) (e :: es) kws pos) (eCallK n m is S fr fk) := by
  subst hl
  obtain ⟨fa, fd, F, h1, h2, h3⟩ := d.ex
  refine qe_of (pe_callN F (hr.mono hj) hg h1 h2 h3 pass0 ha.pa hkw.pk hall hks hdb he hpl) fun w σ δ Qd Q R h kk => ?_
  refine ⟨w, δ, _, rfl, R, h, fun us vs w1 q1 g1 z1 => ⟨w1, δ, _, rfl, R.mono g1, q1, fun ws zs w2 q g2 z2 => ?_⟩⟩
  obtain ⟨q2, q⟩ := lenQ_e q
  obtain ⟨q3, q4⟩ := lenQ_e q
  refine ⟨by rw [z1.length]; exact q2, by rw [z2.length]; exact q3, ?_⟩
  have g := g1.trans g2
  exact ⟨w2, perm is (us ++ ws), Qd, rfl, g.ok, perm_dp ((g2.dpa z1).append z2) is, d.len _ _ _ q4, q4, fun rz v w3 q5 g3 z3 => kk rz v w3 q5 (g.trans (g3.wk (rw_imp hw))) (z3.back g)⟩
end
end HI

namespace HI
open PySem L2

/-! ### operations over data -/
def addD : OpD := fun M x y Q => match view M x, view M y with
  | .int i, .int j => Q (.val (.int (i + j)))
  | .str x, .str y => szOk (x.length + y.length) (Q (.val (.str (x ++ y))))
  | .lst x, .lst y => szOk (x.length + y.length) (Q (.new (.lst (x ++ y))))
  | .tup x, .tup y => szOk (x.length + y.length) (Q (.val (.tup (x ++ y))))
  | _, _ => False
def subD : OpD := fun M x y Q => match view M x, view M y with
  | .int i, .int j => Q (.val (.int (i - j)))
  | _, _ => False
def mulD : OpD := fun M x y Q => match view M x, view M y with
  | .int i, .int j => (CMul i j ∨ CMulW i j) ∧ Q (.val (.int (i * j)))
  | .lst x, .int k => (0 ≤ k ∧ k < 1000000 ∧ x.length * k.toNat ≤ 1000000) ∧ Q (.new (.lst (List.replicate k.toNat x).flatten))
  | _, _ => False
def fdivD : OpD := fun M x y Q => match view M x, view M y with
  | .int i, .int j => CDivW i j ∧ Q (.val (.int (i / j)))
  | _, _ => False
def modD : OpD := fun M x y Q => match view M x, view M y with
  | .int i, .int j => 0 < j ∧ Q (.val (.int (i % j)))
  | _, _ => False
def powD : OpD := fun M x y Q => match view M x, view M y with
  | .int i, .int j => CPow i j ∧ Q (.val (.int (i ^ j.toNat)))
  | _, _ => False
def shlD : OpD := fun M x y Q => match view M x, view M y with
  | .int i, .int j => CPow i j ∧ Q (.val (.int (i * 2 ^ j.toNat)))
  | _, _ => False
theorem vS_app {a b : List Nat} (ha : vS a) (hb : vS b) : vS (a ++ b) := fun c h => by
  rcases List.mem_append.mp h with h | h
  · exact ha c h
  · exact hb c h
section
variable {X : Cx}
theorem op_addL : OpL X (binaryOp .Add) addD := by
  refine ⟨_, op_add.or (op_add_str.or (op_cat.or op_catA)), fun w x y dx dy Qd Q o zx zy h k => ?_⟩
  unfold addD at h
  generalize hx : view w.M dx = cx at h
  generalize hy : view w.M dy = cy at h
  cases cx with
  | int i =>
    cases cy with
    | int j => cases see_int o zx hx; cases see_int o zy hy; exact .inl ⟨i, j, rfl, rfl, k _ _ w h (.refl o) (.int _)⟩
    | _ => exact h.elim
  | str i =>
    cases cy with
    | str j =>
      obtain ⟨rfl, v1⟩ := see_str o zx hx
      obtain ⟨rfl, v2⟩ := see_str o zy hy
      obtain ⟨q1, q2⟩ := szOk_e h
      refine .inr (.inl ⟨_, _, rfl, rfl, by rw [tx_len, tx_len]; exact q1, ?_⟩)
      rw [tx_app]
      exact k _ _ w q2 (.refl o) (.str _ (vS_app v1 v2))
    | _ => exact h.elim
  | lst i =>
    cases cy with
    | lst j =>
      obtain ⟨a1, x1, rfl, p1, z1⟩ := see_lst o zx hx
      obtain ⟨a2, x2, rfl, p2, z2⟩ := see_lst o zy hy
      obtain ⟨q1, q2⟩ := szOk_e h
      refine .inr (.inr (.inl ⟨a1, a2, x1, x2, rfl, rfl, p1, p2, by rw [z1.length, z2.length]; exact q1, fun p hp => ?_⟩))
      obtain ⟨g2, w2⟩ := new_ok (Gr.refl o) hp (HoD.lst (z1.append z2))
      exact k _ _ _ q2 g2 w2
    | _ => exact h.elim
  | tup i =>
    cases cy with
    | tup j =>
      obtain ⟨a1, x1, rfl, r1, p1, z1⟩ := see_tup o zx hx
      obtain ⟨a2, x2, rfl, r2, p2, z2⟩ := see_tup o zy hy
      obtain ⟨q1, q2⟩ := szOk_e h
      refine .inr (.inr (.inr ⟨a1, a2, x1, x2, rfl, rfl, .inl (.inl p1), .inl (.inl p2), by rw [z1.length, z2.length]; exact q1, fun q => ?_, fun q1 q2' => ?_, fun q1 q2' p hp => ?_⟩))
      · subst q
        cases z1
        exact k _ _ w q2 (.refl o) (Dp.tup r2 z2)
      · subst q2'
        cases z2
        refine k _ _ w q2 (.refl o) ?_
        rw [List.append_nil]
        exact Dp.tup r1 z1
      · obtain ⟨g2, w2⟩ := tup_ok (Gr.refl o) hp (z1.append z2)
        exact k _ _ _ q2 g2 w2
    | _ => exact h.elim
  | _ => cases cy <;> exact h.elim
/-- an operation of two ints -/
theorem op_ints {fn : Value → Value → Sem Value} {r : R2} {C : Int → Int → Prop} {g : Int → Int → D} {go : OpD} (hr : OpR X fn r) (hgo : ∀ M x y Q, go M x y Q → ∃ i j, view M x = .int i ∧ view M y = .int j ∧ C i j ∧ Q (.val (g i j)))
    (hg : ∀ i j, C i j → ∀ (H : Hp) (Q : VK), (∀ v, (∀ K Cc P, Dp K Cc P v (g i j)) → Q v H) → r (.int i) (.int j) H Q) : OpL X fn go := by
  refine ⟨r, hr, fun w x y dx dy Qd Q o zx zy h k => ?_⟩
  obtain ⟨i, j, hx, hy, hC, q⟩ := hgo _ _ _ _ h
  cases see_int o zx hx
  cases see_int o zy hy
  exact hg i j hC w.H Q fun v hv => k _ v w q (.refl o) (hv _ _ _)
theorem op_subL : OpL X (binaryOp .Sub) subD := op_ints (C := fun _ _ => True) (g := fun i j => .int (i - j)) op_sub (fun M x y Q h => by
  unfold subD at h
  generalize hx : view M x = cx at h
  generalize hy : view M y = cy at h
  cases cx <;> cases cy <;> first | exact h.elim | exact ⟨_, _, rfl, rfl, trivial, h⟩) fun i j _ H Q q => ⟨i, j, rfl, rfl, q _ fun _ _ _ => .int _⟩
theorem op_fdivL : OpL X (binaryOp .FloorDiv) fdivD := op_ints (C := CDivW) (g := fun i j => .int (i / j)) op_fdivW (fun M x y Q h => by
  unfold fdivD at h
  generalize hx : view M x = cx at h
  generalize hy : view M y = cy at h
  cases cx <;> cases cy <;> first | exact h.elim | exact ⟨_, _, rfl, rfl, h.1, h.2⟩) fun i j c H Q q => ⟨i, j, rfl, rfl, c, q _ fun _ _ _ => .int _⟩
theorem op_modL : OpL X (binaryOp .Mod) modD := op_ints (C := fun _ j => 0 < j) (g := fun i j => .int (i % j)) op_mod (fun M x y Q h => by
  unfold modD at h
  generalize hx : view M x = cx at h
  generalize hy : view M y = cy at h
  cases cx <;> cases cy <;> first | exact h.elim | exact ⟨_, _, rfl, rfl, h.1, h.2⟩) fun i j c H Q q => ⟨i, j, rfl, rfl, c, q _ fun _ _ _ => .int _⟩
theorem op_powL : OpL X (binaryOp .Pow) powD := op_ints (C := CPow) (g := fun i j => .int (i ^ j.toNat)) op_pow (fun M x y Q h => by
  unfold powD at h
  generalize hx : view M x = cx at h
  generalize hy : view M y = cy at h
  cases cx <;> cases cy <;> first | exact h.elim | exact ⟨_, _, rfl, rfl, h.1, h.2⟩) fun i j c H Q q => ⟨i, j, rfl, rfl, c, q _ fun _ _ _ => .int _⟩
theorem op_shlL : OpL X (binaryOp .LShift) shlD := op_ints (C := CPow) (g := fun i j => .int (i * 2 ^ j.toNat)) op_shl (fun M x y Q h => by
  unfold shlD at h
  generalize hx : view M x = cx at h
  generalize hy : view M y = cy at h
  cases cx <;> cases cy <;> first | exact h.elim | exact ⟨_, _, rfl, rfl, h.1, h.2⟩) fun i j c H Q q => ⟨i, j, rfl, rfl, c, q _ fun _ _ _ => .int _⟩
theorem op_mulL : OpL X (binaryOp .Mult) mulD := by
  refine ⟨_, op_mul.or (op_mulW.or op_rep), fun w x y dx dy Qd Q o zx zy h k => ?_⟩
  unfold mulD at h
  generalize hx : view w.M dx = cx at h
  generalize hy : view w.M dy = cy at h
  cases cx with
  | int i =>
    cases cy with
    | int j =>
      cases see_int o zx hx; cases see_int o zy hy
      rcases h with ⟨h1 | h1, h2⟩
      · exact .inl ⟨i, j, rfl, rfl, h1, k _ _ w h2 (.refl o) (.int _)⟩
      · exact .inr (.inl ⟨i, j, rfl, rfl, h1, k _ _ w h2 (.refl o) (.int _)⟩)
    | _ => exact h.elim
  | lst i =>
    cases cy with
    | int j =>
      cases see_int o zy hy
      obtain ⟨a1, x1, rfl, p1, z1⟩ := see_lst o zx hx
      obtain ⟨⟨h1, h2, h3⟩, h4⟩ := h
      refine .inr (.inr ⟨a1, j, x1, rfl, rfl, p1, by omega, by omega, by rw [z1.length]; exact Nat.le_trans h3 (by decide), fun p hp => ?_⟩)
      obtain ⟨g2, w2⟩ := new_ok (Gr.refl o) hp (HoD.lst (z1.replicate j.toNat))
      exact k _ _ _ h4 g2 w2
    | _ => exact h.elim
  | _ => cases cy <;> exact h.elim
end

/-! ### == and != -/
def eqN : List Nat → List Nat → Bool
  | [], [] => true
  | a :: x, b :: y => match Nat.beq a b with
    | true => eqN x y
    | false => false
  | _, _ => false
theorem eqN_iff : ∀ a b : List Nat, eqN a b = decide (a = b)
  | [], [] => rfl
  | [], _ :: _ => rfl
  | _ :: _, [] => rfl
  | a :: x, b :: y => by
    rw [eqN]
    cases e : Nat.beq a b with
    | true =>
      have := Nat.eq_of_beq_eq_true e
      subst this
      show eqN x y = _
      rw [eqN_iff x y]
      simp
    | false =>
      have : a ≠ b := fun z => by subst z; rw [show Nat.beq a a = true from Nat.beq_refl a] at e; cases e
      show false = _
      simp [this]
theorem tx_eqN (a b : List Nat) : (tx a == tx b) = eqN a b := by
  rw [eqN_iff, Bool.eq_iff_iff, beq_iff_eq, decide_eq_true_eq]
  exact ⟨tx_inj, fun h => by rw [h]⟩
def eqAll (f : D → D → Bool) : List D → List D → Bool
  | [], [] => true
  | x :: xs, y :: ys => match f x y with
    | true => eqAll f xs ys
    | false => false
  | _, _ => false
def okAll (f : D → Bool) : List D → Bool
  | [] => true
  | x :: xs => match f x with
    | true => okAll f xs
    | false => false
def okF : Nat → Mem → D → Bool
  | 0, _, _ => false
  | n + 1, M, d => match view M d with
    | .non | .bl _ | .int _ | .str _ => true
    | .lst xs | .tup xs | .wtup xs => okAll (okF n M) xs
    | _ => false
def eqF : Nat → Mem → D → D → Bool
  | 0, _, _, _ => false
  | n + 1, M, x, y => match view M x, view M y with
    | .non, .non => true
    | .bl a, .bl b => a == b
    | .bl a, .int b => (if a then 1 else 0) == b
    | .int a, .bl b => a == (if b then 1 else 0)
    | .int a, .int b => a == b
    | .str a, .str b => eqN a b
    | .lst a, .lst b => eqAll (eqF n M) a b
    | .tup a, .tup b => eqAll (eqF n M) a b
    | .wtup a, .tup b => eqAll (eqF n M) a b
    | .tup a, .wtup b => eqAll (eqF n M) a b
    | .wtup a, .wtup b => eqAll (eqF n M) a b
    | _, _ => false
def pyAll (f : D → PyData) : List D → List PyData
  | [] => []
  | x :: xs => f x :: pyAll f xs
def pyF : Nat → Mem → D → PyData
  | 0, _, _ => .none
  | n + 1, M, d => match view M d with
    | .bl b => .bool b
    | .int i => .int i
    | .str x => .str (tx x)
    | .lst xs => .list (pyAll (pyF n M) xs)
    | .tup xs | .wtup xs => .tuple (pyAll (pyF n M) xs)
    | _ => .none
theorem eqAll_py {f : D → D → Bool} {g : D → PyData} {ok : D → Bool} (h : ∀ x y, ok x = true → ok y = true → f x y = PyData.eqv (g x) (g y)) : ∀ xs ys : List D, okAll ok xs = true → okAll ok ys = true → eqAll f xs ys = PyData.eqvAll (pyAll g xs) (pyAll g ys)
  | [], [], _, _ => by rw [pyAll, PyData.eqvAll]; rfl
  | [], y :: ys, _, _ => by rw [pyAll, pyAll, PyData.eqvAll]; rfl
  | x :: xs, [], _, _ => by rw [pyAll, pyAll, PyData.eqvAll]; rfl
  | x :: xs, y :: ys, hx, hy => by
    rw [okAll] at hx hy
    cases ex : ok x with
    | false => rw [ex] at hx; cases hx
    | true =>
      cases ey : ok y with
      | false => rw [ey] at hy; cases hy
      | true =>
        rw [ex] at hx
        rw [ey] at hy
        rw [pyAll, pyAll, PyData.eqvAll, ← h x y ex ey, ← eqAll_py h xs ys hx hy, eqAll]
        cases f x y <;> rfl
theorem eqF_py : ∀ (n : Nat) (M : Mem) (x y : D), okF n M x = true → okF n M y = true → eqF n M x y = PyData.eqv (pyF n M x) (pyF n M y)
  | 0, _, _, _, h, _ => by cases h
  | n + 1, M, x, y, hx, hy => by
    have ih := fun x y => eqF_py n M x y
    unfold okF at hx hy
    unfold eqF pyF
    generalize view M x = cx at hx ⊢
    generalize view M y = cy at hy ⊢
    cases cx <;> first | (cases hx; done) | skip
    all_goals (cases cy <;> first | (cases hy; done) | skip)
    all_goals first
      | (dsimp only; rw [PyData.eqv]; done)
      | (dsimp only; rw [PyData.eqv, tx_eqN]; done)
      | (dsimp only; rw [PyData.eqv]; exact eqAll_py ih _ _ hx hy)
theorem okAll_dp {K : PySem.W.Frag} {C : List Addr} {P H : Hp} {ok : D → Bool} {g : D → PyData} {n : Nat} (h : ∀ v d, Dp K C P v d → ok d = true → L2.Dp K H v (g d) ∧ (g d).canLay0 = true ∧ (g d).depth ≤ n) : ∀ {vs : List V} {ds : List D}, DpA K C P vs ds → okAll ok ds = true → L2.DpAll K H vs (pyAll g ds) ∧ PyData.canLayAll0 (pyAll g ds) = true ∧ PyData.depthAll (pyAll g ds) ≤ n
  | _, _, .nil, _ => ⟨.nil, by rw [pyAll, PyData.canLayAll0], by rw [pyAll, PyData.depthAll]; exact Nat.zero_le _⟩
  | _, _, .cons (v := v) (d := d) z t, hq => by
    rw [okAll] at hq
    cases e : ok d with
    | false => rw [e] at hq; cases hq
    | true =>
      rw [e] at hq
      obtain ⟨h1, h2, h3⟩ := h v d z e
      obtain ⟨k1, k2, k3⟩ := okAll_dp h t hq
      refine ⟨.cons h1 k1, by rw [pyAll, PyData.canLayAll0, h2, k2]; rfl, ?_⟩
      rw [pyAll, PyData.depthAll]
      omega
theorem okF_dp {G : Gx} {w : Wd} (o : WOk G w) : ∀ (n : Nat) (v : V) (d : D), Dp G.K w.C w.P v d → okF n w.M d = true → L2.Dp G.K w.H v (pyF n w.M d) ∧ (pyF n w.M d).canLay0 = true ∧ (pyF n w.M d).depth ≤ n
  | 0, _, _, _, h => by cases h
  | n + 1, v, d, z, h => by
    have ih := fun v d => okF_dp o n v d
    unfold okF at h
    unfold pyF
    generalize hd : view w.M d = c at h ⊢
    cases c with
    | non => cases see_non o z hd; exact ⟨.non, by rw [PyData.canLay0], by rw [PyData.depth]; omega⟩
    | bl b => cases see_bl o z hd; exact ⟨.bl b, by rw [PyData.canLay0], by rw [PyData.depth]; omega⟩
    | int b => cases see_int o z hd; exact ⟨.int b, by rw [PyData.canLay0], by rw [PyData.depth]; omega⟩
    | str b =>
      obtain ⟨rfl, hv⟩ := see_str o z hd
      refine ⟨.str (tx b), ?_, by rw [PyData.depth]; omega⟩
      rw [PyData.canLay0]
      show (tx b).cps.all _ = true
      rw [Array.all_eq_true']
      intro c hc
      have : c ∈ (tx b).cps.toList := by simpa using hc
      rw [tx_cps] at this
      exact decide_eq_true (hv c this)
    | lst xs =>
      obtain ⟨a, vs, rfl, p, za⟩ := see_lst o z hd
      obtain ⟨k1, k2, k3⟩ := okAll_dp ih za h
      exact ⟨.lst (.inl (.inl p)) k1, by rw [PyData.canLay0]; exact k2, by rw [PyData.depth]; omega⟩
    | tup xs =>
      obtain ⟨a, vs, rfl, _, p, za⟩ := see_tup o z hd
      obtain ⟨k1, k2, k3⟩ := okAll_dp ih za h
      exact ⟨.tup (.inl (.inl p)) k1, by rw [PyData.canLay0]; exact k2, by rw [PyData.depth]; omega⟩
    | wtup xs =>
      obtain ⟨a, vs, rfl, p, za⟩ := (see_wtup o z hd).2
      obtain ⟨k1, k2, k3⟩ := okAll_dp ih za h
      exact ⟨.tup (p w.H) k1, by rw [PyData.canLay0]; exact k2, by rw [PyData.depth]; omega⟩
    | _ => cases h
def okQ (b : Bool) (q : Prop) : Prop := match b with
  | true => q
  | false => False
theorem okQ_e {b : Bool} {q : Prop} (h : okQ b q) : b = true ∧ q := by
  cases b with
  | true => exact ⟨rfl, h⟩
  | false => exact h.elim
theorem okQ_i {b : Bool} {q : Prop} (h : b = true) (k : q) : okQ b q := by subst h; exact k
def eqB : OpD := fun M x y Q => okQ (okF 60 M x) (okQ (okF 60 M y) (Q (.val (.bl (eqF 60 M x y)))))
def neB : OpD := fun M x y Q => okQ (okF 60 M x) (okQ (okF 60 M y) (Q (.val (.bl (!eqF 60 M x y)))))
theorem okF_shaped {G : Gx} {w : Wd} (o : WOk G w) {v : V} {d : D} (z : Dp G.K w.C w.P v d) (h : okF 60 w.M d = true) : L2.Dp G.K w.H v (pyF 60 w.M d) ∧ SeqAt.shaped (pyF 60 w.M d) = true := by
  obtain ⟨h1, h2, h3⟩ := okF_dp o 60 v d z h
  refine ⟨h1, ?_⟩
  unfold SeqAt.shaped
  rw [h2, decide_eq_true (show (pyF 60 w.M d).depth ≤ 64 by omega)]
  rfl
section
variable {X : Cx} {k : Nat}
theorem op_eqH (hr : Room k X.A) : OpL X (compareOp .Eq) eqB := by
  refine ⟨_, op_eqD (by have := hr.un; omega), fun w x y dx dy Qd Q o zx zy h kk => ?_⟩
  obtain ⟨h1, h⟩ := okQ_e h
  obtain ⟨h2, h⟩ := okQ_e h
  obtain ⟨a1, a2⟩ := okF_shaped o zx h1
  obtain ⟨b1, b2⟩ := okF_shaped o zy h2
  refine ⟨_, _, a1, b1, a2, b2, ?_⟩
  rw [← eqF_py 60 w.M dx dy h1 h2]
  exact kk _ _ w h (.refl o) (.bl _)
theorem op_neH (hr : Room k X.A) : OpL X (compareOp .NotEq) neB := by
  refine ⟨_, op_neD (by have := hr.un; omega), fun w x y dx dy Qd Q o zx zy h kk => ?_⟩
  obtain ⟨h1, h⟩ := okQ_e h
  obtain ⟨h2, h⟩ := okQ_e h
  obtain ⟨a1, a2⟩ := okF_shaped o zx h1
  obtain ⟨b1, b2⟩ := okF_shaped o zy h2
  refine ⟨_, _, a1, b1, a2, b2, ?_⟩
  rw [← eqF_py 60 w.M dx dy h1 h2]
  exact kk _ _ w h (.refl o) (.bl _)
end

/-! ### order -/
def ltB : OpD := fun M x y Q => match view M x, view M y with
  | .int i, .int j => Q (.val (.bl (decide (i < j))))
  | .str i, .str j => Q (.val (.bl (decide (i < j))))
  | _, _ => False
def leB : OpD := fun M x y Q => match view M x, view M y with
  | .int i, .int j => Q (.val (.bl (decide (i ≤ j))))
  | _, _ => False
def gtB : OpD := fun M x y Q => match view M x, view M y with
  | .int i, .int j => Q (.val (.bl (decide (j < i))))
  | _, _ => False
def geB : OpD := fun M x y Q => match view M x, view M y with
  | .int i, .int j => Q (.val (.bl (decide (j ≤ i))))
  | _, _ => False
section
variable {X : Cx}
theorem op_ltL : OpL X (compareOp .Lt) ltB := by
  refine ⟨_, op_lt.or op_lt_str, fun w x y dx dy Qd Q o zx zy h k => ?_⟩
  unfold ltB at h
  generalize hx : view w.M dx = cx at h
  generalize hy : view w.M dy = cy at h
  cases cx with
  | int i =>
    cases cy with
    | int j => cases see_int o zx hx; cases see_int o zy hy; exact .inl ⟨i, j, rfl, rfl, k _ _ w h (.refl o) (.bl _)⟩
    | _ => exact h.elim
  | str i =>
    cases cy with
    | str j =>
      obtain ⟨rfl, _⟩ := see_str o zx hx
      obtain ⟨rfl, _⟩ := see_str o zy hy
      refine .inr ⟨_, _, rfl, rfl, ?_⟩
      have e : decide ((tx i).cps.toList < (tx j).cps.toList) = decide (i < j) := by rw [tx_cps, tx_cps]
      rw [e]
      exact k _ _ w h (.refl o) (.bl _)
    | _ => exact h.elim
  | _ => cases cy <;> exact h.elim
theorem op_leL : OpL X (compareOp .LtE) leB := op_ints (C := fun _ _ => True) (g := fun i j => .bl (decide (i ≤ j))) op_le (fun M x y Q h => by
  unfold leB at h
  generalize hx : view M x = cx at h
  generalize hy : view M y = cy at h
  cases cx <;> cases cy <;> first | exact h.elim | exact ⟨_, _, rfl, rfl, trivial, h⟩) fun i j _ H Q q => ⟨i, j, rfl, rfl, q _ fun _ _ _ => .bl _⟩
theorem op_gtL : OpL X (compareOp .Gt) gtB := op_ints (C := fun _ _ => True) (g := fun i j => .bl (decide (j < i))) op_gt (fun M x y Q h => by
  unfold gtB at h
  generalize hx : view M x = cx at h
  generalize hy : view M y = cy at h
  cases cx <;> cases cy <;> first | exact h.elim | exact ⟨_, _, rfl, rfl, trivial, h⟩) fun i j _ H Q q => ⟨i, j, rfl, rfl, q _ fun _ _ _ => .bl _⟩
theorem op_geL : OpL X (compareOp .GtE) geB := op_ints (C := fun _ _ => True) (g := fun i j => .bl (decide (j ≤ i))) op_ge (fun M x y Q h => by
  unfold geB at h
  generalize hx : view M x = cx at h
  generalize hy : view M y = cy at h
  cases cx <;> cases cy <;> first | exact h.elim | exact ⟨_, _, rfl, rfl, trivial, h⟩) fun i j _ H Q q => ⟨i, j, rfl, rfl, q _ fun _ _ _ => .bl _⟩
end

/-! ### is None -/
def isNon : D → Bool
  | .non => true
  | _ => false
def isB : OpD := fun _ x y Q => match y with
  | .non => Q (.val (.bl (isNon x)))
  | _ => False
def isntB : OpD := fun _ x y Q => match y with
  | .non => Q (.val (.bl (!isNon x)))
  | _ => False
theorem isNon_V {K : PySem.W.Frag} {C : List Addr} {P : Hp} {v : V} {d : D} (h : Dp K C P v d) : decide (v = .non) = isNon d := by
  cases h with
  | con _ h2 => cases h2 <;> exact decide_eq_false (fun z => by cases z)
  | non => rfl
  | _ => exact decide_eq_false (fun z => by cases z)
theorem op_isL {X : Cx} : OpL X (compareOp .Is) isB := by
  refine ⟨_, op_isN, fun w x y dx dy Qd Q o zx zy h k => ?_⟩
  cases dy with
  | non =>
    cases zy.non'
    refine ⟨rfl, ?_⟩
    rw [isNon_V zx]
    exact k _ _ w h (.refl o) (.bl _)
  | _ => exact h.elim
theorem op_isntL {X : Cx} : OpL X (compareOp .IsNot) isntB := by
  refine ⟨_, op_notN, fun w x y dx dy Qd Q o zx zy h k => ?_⟩
  cases dy with
  | non =>
    cases zy.non'
    refine ⟨rfl, ?_⟩
    rw [isNon_V zx]
    exact k _ _ w h (.refl o) (.bl _)
  | _ => exact h.elim
end HI

namespace HI
open PySem L2

/-! ### keys of dicts -/
def kEq1 : D → D → Bool
  | .int a, .int b => a == b
  | .str a, .str b => eqN a b
  | _, _ => false
def kEqs : List D → List D → Bool
  | [], [] => true
  | x :: xs, y :: ys => match kEq1 x y with
    | true => kEqs xs ys
    | false => false
  | _, _ => false
def kEq : D → D → Bool
  | .tup a, .tup b => kEqs a b
  | x, y => kEq1 x y
def look : List (D × D) → D → Option D
  | [], _ => none
  | (k', v) :: r, k => match kEq k' k with
    | true => some v
    | false => look r k
def hasK : List (D × D) → D → Bool
  | [], _ => false
  | (k', _) :: r, k => match kEq k' k with
    | true => true
    | false => hasK r k
def updD : List (D × D) → D → D → List (D × D)
  | [], _, _ => []
  | (k', v') :: r, k, v => match kEq k' k with
    | true => (k', v) :: updD r k v
    | false => (k', v') :: updD r k v
def putD (kvs : List (D × D)) (k v : D) : List (D × D) := match hasK kvs k with
  | true => updD kvs k v
  | false => kvs ++ [(k, v)]
def dropD : List (D × D) → D → List (D × D)
  | [], _ => []
  | (k', v') :: r, k => match kEq k' k with
    | true => dropD r k
    | false => (k', v') :: dropD r k
/-- a key of a dict of that kind -/
def isKey (t : Bool) (d : D) : Bool := match t with
  | false => match d with
    | .int _ | .str _ => true
    | _ => false
  | true => match d with
    | .tup xs => allK xs
    | _ => false
where allK : List D → Bool
  | [] => true
  | .int _ :: r => allK r
  | .str _ :: r => allK r
  | _ => false
theorem keyD_some {d : D} (h : isKey false d = true) : ∃ k, keyD d = some k := by
  cases d <;> first | exact ⟨_, rfl⟩ | cases h
theorem keysD_some : ∀ {xs : List D}, isKey.allK xs = true → ∃ ks, keysD xs = some ks
  | [], _ => ⟨[], rfl⟩
  | .int i :: r, h => by
    obtain ⟨ks, e⟩ := keysD_some (xs := r) h
    refine ⟨.inl i :: ks, ?_⟩
    rw [keysD, e]
    rfl
  | .str i :: r, h => by
    obtain ⟨ks, e⟩ := keysD_some (xs := r) h
    refine ⟨.inr (tx i) :: ks, ?_⟩
    rw [keysD, e]
    rfl
  | .non :: _, h => by cases h
  | .bl _ :: _, h => by cases h
  | .tup _ :: _, h => by cases h
  | .wtup _ :: _, h => by cases h
  | .lst _ :: _, h => by cases h
  | .dct _ _ :: _, h => by cases h
  | .obj _ _ :: _, h => by cases h
  | .cell _ :: _, h => by cases h
  | .bag _ :: _, h => by cases h
  | .lck _ _ :: _, h => by cases h
theorem tkD_some {d : D} (h : isKey true d = true) : ∃ k, tkD d = some k := by
  cases d with
  | tup xs => exact keysD_some h
  | _ => cases h
theorem kEq1_key {x y : D} {k l : Key} (hx : keyD x = some k) (hy : keyD y = some l) : kEq1 x y = decide (k = l) := by
  cases x <;> first | (cases hx; done) | skip
  all_goals (cases y <;> first | (cases hy; done) | skip)
  all_goals (cases hx; cases hy)
  · rw [key_ll]; rfl
  · rfl
  · rfl
  · rename_i a b
    show eqN a b = _
    rw [key_rr, ← tx_eqN, Bool.eq_iff_iff, beq_iff_eq, decide_eq_true_eq]
theorem keysD_cons {x : D} {xs : List D} {ks : List Key} (h : keysD (x :: xs) = some ks) : ∃ k r, keyD x = some k ∧ keysD xs = some r ∧ ks = k :: r := by
  rw [keysD] at h
  cases e1 : keyD x with
  | none => rw [e1] at h; cases h
  | some k =>
    cases e2 : keysD xs with
    | none => rw [e1, e2] at h; cases h
    | some r => rw [e1, e2] at h; cases h; exact ⟨k, r, rfl, rfl, rfl⟩
theorem kEqs_key : ∀ {xs ys : List D} {k l : List Key}, keysD xs = some k → keysD ys = some l → kEqs xs ys = decide (k = l)
  | [], [], _, _, h1, h2 => by cases h1; cases h2; rfl
  | [], y :: ys, _, _, h1, h2 => by
    cases h1
    obtain ⟨k, r, _, _, rfl⟩ := keysD_cons h2
    rfl
  | x :: xs, [], _, _, h1, h2 => by
    cases h2
    obtain ⟨k, r, _, _, rfl⟩ := keysD_cons h1
    rfl
  | x :: xs, y :: ys, _, _, h1, h2 => by
    obtain ⟨k, r, a1, a2, rfl⟩ := keysD_cons h1
    obtain ⟨l, q, b1, b2, rfl⟩ := keysD_cons h2
    rw [kEqs, kEq1_key a1 b1, kEqs_key a2 b2]
    by_cases e : k = l
    · subst e; simp
    · simp [e]
theorem kEq_key {x y : D} {k l : Key} (hx : keyD x = some k) (hy : keyD y = some l) : kEq x y = decide (k = l) := by
  rw [← kEq1_key hx hy]
  cases x <;> first | (cases hx; done) | rfl
theorem kEq_tk {x y : D} {k l : List Key} (hx : tkD x = some k) (hy : tkD y = some l) : kEq x y = decide (k = l) := by
  cases x <;> first | (cases hx; done) | skip
  cases y <;> first | (cases hy; done) | skip
  exact kEqs_key hx hy
section
variable {K : PySem.W.Frag} {C : List Addr} {P : Hp}
theorem keyD_V {v : V} {d : D} {k : Key} (h : Dp K C P v d) (e : keyD d = some k) : v = kV k := by
  cases d <;> first | (cases e; done) | skip
  · cases e; exact h.int'
  · cases e; exact h.str'.1
theorem keysD_V : ∀ {vs : List V} {ds : List D} {ks : List Key}, DpA K C P vs ds → keysD ds = some ks → vs = ks.map kV
  | _, _, _, .nil, e => by
    rw [keysD] at e
    cases e
    rfl
  | _, _, ks, .cons h t, e => by
    obtain ⟨k, r, e1, e2, rfl⟩ := keysD_cons e
    rw [keyD_V h e1, keysD_V t e2]
    rfl
theorem Dp.vK1 {v : V} {d : D} (h : Dp K C P v d) : vK1 d := by
  cases d <;> first | exact h.str'.2 | trivial
theorem Dp.vK {v : V} {d : D} (h : Dp K C P v d) : vK d := by
  cases d with
  | str cs => exact h.str'.2
  | tup xs =>
    obtain ⟨a, vs, _, _, z⟩ := h.tup'
    intro x hx
    obtain ⟨i, hi⟩ := List.mem_iff_getElem?.mp hx
    obtain ⟨v, _, q⟩ := z.get hi
    exact q.vK1
  | _ => trivial
/-- a key shows itself -/
theorem key_dp {d : D} {k : Key} (e : keyD d = some k) (h : vK1 d) : Dp K C P (kV k) d := by
  cases d <;> first | (cases e; done) | skip
  · cases e; exact .int _
  · cases e; exact .str _ h
theorem keys_dp : ∀ {ds : List D} {ks : List Key}, keysD ds = some ks → (∀ x ∈ ds, HI.vK1 x) → DpA K C P (ks.map kV) ds
  | [], _, e, _ => by cases e; exact .nil
  | d :: ds, _, e, h => by
    obtain ⟨k, r, e1, e2, rfl⟩ := keysD_cons e
    exact .cons (key_dp e1 (h d List.mem_cons_self)) (keys_dp e2 fun x hx => h x (List.mem_cons_of_mem _ hx))
end
section
variable {κ : Type} [DecidableEq κ] {F : D → Option κ} {K : PySem.W.Frag} {C : List Addr} {P : Hp}
theorem look_rel (hF : ∀ x y k l, F x = some k → F y = some l → kEq x y = decide (k = l)) {d : D} {k : κ} (hd : F d = some k) : ∀ {kvs : List (κ × V)} {kds : List (D × D)}, kds.map (fun p => F p.1) = kvs.map (fun q => some q.1) → DpA K C P (kvs.map (·.2)) (kds.map (·.2)) →
    (valV kvs k = none ∧ look kds d = none) ∨ ∃ v e, valV kvs k = some v ∧ look kds d = some e ∧ Dp K C P v e
  | [], [], _, _ => .inl ⟨rfl, rfl⟩
  | [], _ :: _, h, _ => by cases h
  | _ :: _, [], h, _ => by cases h
  | (k', v) :: kvs, (d', e) :: kds, h, z => by
    rw [List.map_cons, List.map_cons] at h
    injection h with h1 h2
    cases z with
    | cons z1 z2 =>
      have e1 : kEq d' d = decide (k' = k) := hF d' d k' k h1 hd
      unfold valV
      rw [List.find?_cons, look, e1]
      by_cases q : k' = k
      · subst q
        exact .inr ⟨v, e, by simp, by simp, z1⟩
      · have ih := look_rel hF hd h2 z2
        unfold valV at ih
        simpa [q] using ih
theorem has_rel (hF : ∀ x y k l, F x = some k → F y = some l → kEq x y = decide (k = l)) {d : D} {k : κ} (hd : F d = some k) : ∀ {kvs : List (κ × V)} {kds : List (D × D)}, kds.map (fun p => F p.1) = kvs.map (fun q => some q.1) → hasK kds d = kvs.any fun kv => decide (kv.1 = k)
  | [], [], _ => rfl
  | [], _ :: _, h => by cases h
  | _ :: _, [], h => by cases h
  | (k', v) :: kvs, (d', e) :: kds, h => by
    rw [List.map_cons, List.map_cons] at h
    injection h with h1 h2
    rw [hasK, hF d' d k' k h1 hd, List.any_cons, has_rel hF hd h2]
    cases decide (k' = k) <;> rfl
theorem upd_rel (hF : ∀ x y k l, F x = some k → F y = some l → kEq x y = decide (k = l)) {d e : D} {k : κ} {v : V} (hd : F d = some k) (hv : Dp K C P v e) : ∀ {kvs : List (κ × V)} {kds : List (D × D)}, kds.map (fun p => F p.1) = kvs.map (fun q => some q.1) → DpA K C P (kvs.map (·.2)) (kds.map (·.2)) →
    (updD kds d e).map (fun p => F p.1) = (kvs.map fun kv => if kv.1 = k then (kv.1, v) else kv).map (fun q => some q.1) ∧ DpA K C P ((kvs.map fun kv => if kv.1 = k then (kv.1, v) else kv).map (·.2)) ((updD kds d e).map (·.2))
  | [], [], _, _ => ⟨rfl, .nil⟩
  | [], _ :: _, h, _ => by cases h
  | _ :: _, [], h, _ => by cases h
  | (k', v') :: kvs, (d', e') :: kds, h, z => by
    rw [List.map_cons, List.map_cons] at h
    injection h with h1 h2
    cases z with
    | cons z1 z2 =>
      obtain ⟨a1, a2⟩ := upd_rel hF hd hv h2 z2
      rw [updD, hF d' d k' k h1 hd]
      by_cases q : k' = k
      · subst q
        simp only [decide_true, List.map_cons, if_true]
        exact ⟨by rw [a1, h1], .cons hv a2⟩
      · simp only [decide_eq_false q, List.map_cons, if_neg q]
        exact ⟨by rw [a1, h1], .cons z1 a2⟩
theorem upd_mem {d e : D} : ∀ {kds : List (D × D)} {p : D × D}, p ∈ updD kds d e → ∃ q ∈ kds, q.1 = p.1
  | [], _, h => by cases h
  | (d', e') :: kds, p, h => by
    rw [updD] at h
    cases q : kEq d' d with
    | true =>
      rw [q] at h
      rcases List.mem_cons.mp h with h | h
      · subst h; exact ⟨(d', e'), List.mem_cons_self, rfl⟩
      · obtain ⟨q, h1, h2⟩ := upd_mem h
        exact ⟨q, List.mem_cons_of_mem _ h1, h2⟩
    | false =>
      rw [q] at h
      rcases List.mem_cons.mp h with h | h
      · subst h; exact ⟨(d', e'), List.mem_cons_self, rfl⟩
      · obtain ⟨q, h1, h2⟩ := upd_mem h
        exact ⟨q, List.mem_cons_of_mem _ h1, h2⟩
theorem put_rel (hF : ∀ x y k l, F x = some k → F y = some l → kEq x y = decide (k = l)) {d e : D} {k : κ} {v : V} (hd : F d = some k) (hv : Dp K C P v e) {kvs : List (κ × V)} {kds : List (D × D)} (h : kds.map (fun p => F p.1) = kvs.map (fun q => some q.1)) (z : DpA K C P (kvs.map (·.2)) (kds.map (·.2))) :
    (putD kds d e).map (fun p => F p.1) = (putK kvs k v).map (fun q => some q.1) ∧ DpA K C P ((putK kvs k v).map (·.2)) ((putD kds d e).map (·.2)) := by
  unfold putD putK
  rw [has_rel hF hd h]
  cases q : kvs.any fun kv => decide (kv.1 = k) with
  | true => rw [if_pos rfl]; exact upd_rel hF hd hv h z
  | false =>
    rw [if_neg (by decide)]
    dsimp only
    rw [List.map_append, List.map_append, List.map_append, List.map_append, h]
    refine ⟨?_, z.append (.one hv)⟩
    simp [hd]
theorem put_mem {d e : D} {kds : List (D × D)} {p : D × D} (h : p ∈ putD kds d e) : (∃ q ∈ kds, q.1 = p.1) ∨ p.1 = d := by
  unfold putD at h
  cases q : hasK kds d with
  | true => rw [q] at h; exact .inl (upd_mem h)
  | false =>
    rw [q] at h
    rcases List.mem_append.mp h with h | h
    · exact .inl ⟨p, h, rfl⟩
    · rw [List.mem_singleton] at h; subst h; exact .inr rfl
theorem updD_len (d e : D) : ∀ kds : List (D × D), (updD kds d e).length = kds.length
  | [] => rfl
  | (d', e') :: kds => by
    rw [updD]
    cases kEq d' d <;> simp [updD_len d e kds]
end
end HI

namespace HI
open PySem PySem.Spec PyProof.Rows L2

/-! ### dicts, read -/
section
variable {G : Gx} {w : Wd}
/-- what a dict says of a key -/
theorem dget_of {v y : V} {d k : D} {t : Bool} {kds : List (D × D)} (o : WOk G w) (z : Dp G.K w.C w.P v d) (e : view w.M d = .dct t kds) (zy : Dp G.K w.C w.P y k) (hk : isKey t k = true) :
    ∃ a ov, v = .ref a ∧ DGet w.H a y ov ∧ ((ov = none ∧ look kds k = none) ∨ ∃ x e, ov = some x ∧ look kds k = some e ∧ Dp G.K w.C w.P x e) := by
  obtain ⟨a, ho, rfl, h1, h2⟩ := see_dct o z e
  generalize hu : unl ho = u at h2
  cases h2 with
  | dK hks hv hz =>
    obtain ⟨kk, ek⟩ := keyD_some hk
    have ey := keyD_V zy ek
    subst ey
    refine ⟨a, _, rfl, .inl ⟨_, kk, rd_unl h1 hu, rfl, rfl⟩, ?_⟩
    exact look_rel (F := keyD) (fun x y k l => kEq_key) ek hks hz
  | dT hks hv hz =>
    obtain ⟨kk, ek⟩ := tkD_some hk
    cases k with
    | tup xs =>
      obtain ⟨b, vs, rfl, hb, zb⟩ := zy.tup'
      have ev := keysD_V zb ek
      subst ev
      refine ⟨a, _, rfl, .inr ⟨_, kk, b, rd_unl h1 hu, rfl, o.ex.tup hb, rfl⟩, ?_⟩
      exact look_rel (F := tkD) (fun x y k l => kEq_tk) ek hks hz
    | _ => cases ek
end

/-! ### in -/
def inTx (x z : List Nat) : Bool := match x with
  | [c] => memN c z
  | _ => !(Builtin.Str.occurrences (tx z) (tx x) 0 (tx z).length 1).isEmpty
where memN (c : Nat) : List Nat → Bool
  | [] => false
  | a :: r => match Nat.beq a c with
    | true => true
    | false => memN c r
theorem memN_iff (c : Nat) : ∀ l : List Nat, inTx.memN c l = decide (c ∈ l)
  | [] => rfl
  | a :: r => by
    rw [inTx.memN, memN_iff c r]
    cases e : Nat.beq a c with
    | true => have := Nat.eq_of_beq_eq_true e; subst this; simp
    | false =>
      have : a ≠ c := fun z => by subst z; rw [show Nat.beq a a = true from Nat.beq_refl a] at e; cases e
      simp [Ne.symm this]
def anyF (n : Nat) (M : Mem) (x : D) : List D → Bool
  | [] => false
  | y :: r => match eqF n M y x with
    | true => true
    | false => anyF n M x r
def allScal : List D → Bool
  | [] => true
  | x :: xs => match x.scal with
    | true => allScal xs
    | false => false
theorem allScal_cons {x : D} {xs : List D} (h : allScal (x :: xs) = true) : x.scal = true ∧ allScal xs = true := by
  rw [allScal] at h
  cases e : x.scal with
  | true => rw [e] at h; exact ⟨rfl, h⟩
  | false => rw [e] at h; cases h
def xorB (neg b : Bool) : Bool := match neg with
  | true => !b
  | false => b
def inD (neg : Bool) : OpD := fun M x y Q => match view M y with
  | .str z => match x with
    | .str c => Q (.val (.bl (xorB neg (inTx c z))))
    | _ => False
  | .lst ys => okQ (okF 60 M x) (okQ (okAll (okF 59 M) ys) (Q (.val (.bl (xorB neg (anyF 60 M x ys))))))
  | .tup ys => okQ x.scal (okQ (allScal ys) (Q (.val (.bl (xorB neg (anyF 60 M x ys))))))
  | .wtup ys => okQ x.scal (okQ (allScal ys) (Q (.val (.bl (xorB neg (anyF 60 M x ys))))))
  | .dct t kds => okQ (isKey t x) (Q (.val (.bl (xorB neg (match look kds x with | some _ => true | none => false)))))
  | _ => False
theorem eqF_scal {K : PySem.W.Frag} {C : List Addr} {P : Hp} {M : Mem} {v w : V} {d e : D} (h : Dp K C P v d) (g : Dp K C P w e) (hd : d.scal = true) (he : e.scal = true) : eqV v w = eqF 60 M d e := by
  cases d <;> first | (cases hd; done) | skip
  all_goals (cases e <;> first | (cases he; done) | skip)
  all_goals first
    | (cases h.non'; cases g.non'; rfl; done)
    | (cases h.non'; cases g.bl'; rfl; done)
    | (cases h.non'; cases g.int'; rfl; done)
    | (cases h.non'; obtain ⟨rfl, _⟩ := g.str'; rfl; done)
    | (cases h.bl'; cases g.non'; rfl; done)
    | (cases h.bl'; cases g.bl'; rfl; done)
    | (cases h.bl'; cases g.int'; rfl; done)
    | (cases h.bl'; obtain ⟨rfl, _⟩ := g.str'; rfl; done)
    | (cases h.int'; cases g.non'; rfl; done)
    | (cases h.int'; cases g.bl'; rfl; done)
    | (cases h.int'; cases g.int'; rfl; done)
    | (cases h.int'; obtain ⟨rfl, _⟩ := g.str'; rfl; done)
    | (obtain ⟨rfl, _⟩ := h.str'; cases g.non'; rfl; done)
    | (obtain ⟨rfl, _⟩ := h.str'; cases g.bl'; rfl; done)
    | (obtain ⟨rfl, _⟩ := h.str'; cases g.int'; rfl; done)
    | (obtain ⟨rfl, _⟩ := h.str'; obtain ⟨rfl, _⟩ := g.str'; exact tx_eqN _ _)
theorem scal_flat {K : PySem.W.Frag} {C : List Addr} {P : Hp} {v : V} {d : D} (h : Dp K C P v d) (e : d.scal = true) : flatV v = true := by
  cases h <;> first | rfl | (cases e; done) | skip
  rename_i h; cases h <;> cases e
theorem flat_all {K : PySem.W.Frag} {C : List Addr} {P : Hp} : ∀ {vs : List V} {ds : List D}, DpA K C P vs ds → allScal ds = true → vs.all flatV = true
  | _, _, .nil, _ => rfl
  | _, _, .cons h t, q => by
    obtain ⟨q1, q2⟩ := allScal_cons q
    rw [List.all_cons, scal_flat h q1, flat_all t q2]
    rfl
theorem inV_any {K : PySem.W.Frag} {C : List Addr} {P : Hp} {M : Mem} {v : V} {d : D} (z : Dp K C P v d) (hd : d.scal = true) : ∀ {vs : List V} {ds : List D}, DpA K C P vs ds → allScal ds = true → inV v vs = anyF 60 M d ds
  | _, _, .nil, _ => rfl
  | _, _, .cons (d := e) h t, q => by
    have hq := allScal_cons q
    have ih := inV_any (M := M) z hd t hq.2
    unfold inV at ih ⊢
    rw [List.any_cons, ih, eqF_scal (M := M) h z hq.1 hd, anyF]
    cases eqF 60 M e d <;> rfl
theorem any_py {M : Mem} {x : D} (hx : okF 60 M x = true) : ∀ ys : List D, okAll (okF 59 M) ys = true → True := fun _ _ => trivial
section
variable {X : Cx} {k : Nat}
theorem op_inDc (hu : X.A.units + 1 < cLine) : OpR X (compareOp .In) (fun y x H Q => ∃ a ov, x = .ref a ∧ DGet H a y ov ∧ Q (.bl ov.isSome) H) := by
  intro pins s σ H y x v u Q I ry rx h
  obtain ⟨a, ov, rfl, g, q⟩ := h
  obtain rfl : u = Value.ref a := rx
  exact d_in hu I g ry fun s3 I3 => ⟨.bl ov.isSome, H, I3, rfl, q⟩
theorem op_notInDc (hu : X.A.units + 1 < cLine) : OpR X (compareOp .NotIn) (fun y x H Q => ∃ a ov, x = .ref a ∧ DGet H a y ov ∧ Q (.bl (!ov.isSome)) H) := by
  intro pins s σ H y x v u Q I ry rx h
  obtain ⟨a, ov, rfl, g, q⟩ := h
  obtain rfl : u = Value.ref a := rx
  exact d_notIn hu I g ry fun s3 I3 => ⟨.bl (!ov.isSome), H, I3, rfl, q⟩
theorem okF_le : ∀ (n : Nat) (M : Mem) (d : D), okF n M d = true → okF (n + 1) M d = true ∧ pyF (n + 1) M d = pyF n M d
  | 0, _, _, h => by cases h
  | n + 1, M, d, h => by
    have all : ∀ xs : List D, okAll (okF n M) xs = true → okAll (okF (n + 1) M) xs = true ∧ pyAll (pyF (n + 1) M) xs = pyAll (pyF n M) xs := by
      intro xs
      induction xs with
      | nil => intro _; exact ⟨rfl, rfl⟩
      | cons x r ih =>
        intro hx
        rw [okAll] at hx
        cases e : okF n M x with
        | false => rw [e] at hx; cases hx
        | true =>
          rw [e] at hx
          obtain ⟨a1, a2⟩ := okF_le n M x e
          obtain ⟨b1, b2⟩ := ih hx
          exact ⟨by rw [okAll, a1]; exact b1, by rw [pyAll, pyAll, a2, b2]⟩
    unfold okF at h
    rw [okF, pyF, pyF]
    generalize view M d = c at h ⊢
    cases c <;> first | (cases h; done) | exact ⟨rfl, rfl⟩ | (obtain ⟨a1, a2⟩ := all _ h; exact ⟨a1, by dsimp only; rw [a2]⟩)
theorem okAll_le {n : Nat} {M : Mem} : ∀ {xs : List D}, okAll (okF n M) xs = true → okAll (okF (n + 1) M) xs = true ∧ pyAll (pyF (n + 1) M) xs = pyAll (pyF n M) xs
  | [], _ => ⟨rfl, rfl⟩
  | x :: r, hx => by
    rw [okAll] at hx
    cases e : okF n M x with
    | false => rw [e] at hx; cases hx
    | true =>
      rw [e] at hx
      obtain ⟨a1, a2⟩ := okF_le n M x e
      obtain ⟨b1, b2⟩ := okAll_le hx
      exact ⟨by rw [okAll, a1]; exact b1, by rw [pyAll, pyAll, a2, b2]⟩
theorem any_eqv {M : Mem} {x : D} (hx : okF 60 M x = true) : ∀ ys : List D, okAll (okF 60 M) ys = true → ((pyAll (pyF 60 M) ys).any fun z => PyData.eqv z (pyF 60 M x)) = anyF 60 M x ys
  | [], _ => rfl
  | y :: r, h => by
    rw [okAll] at h
    cases e : okF 60 M y with
    | false => rw [e] at h; cases h
    | true =>
      rw [e] at h
      rw [pyAll, List.any_cons, any_eqv hx r h, ← eqF_py 60 M y x e hx, anyF]
      cases eqF 60 M y x <;> rfl
theorem in_run {neg : Bool} {r1 r2 r3 r4 r5 : R2} (h1 : ∀ x y H Q, (∃ c z, x = .str ⟨#[c]⟩ ∧ y = .str z ∧ Q (.bl (xorB neg (decide (c ∈ z.cps.toList)))) H) → r1 x y H Q) (h2 : ∀ x y H Q, (∃ i j : Str, x = .str i ∧ y = .str j ∧ Q (.bl (xorB neg (!(Builtin.Str.occurrences j i 0 j.length 1).isEmpty))) H) → r2 x y H Q)
    (h3 : ∀ x y H (Q : VK), (∃ p xs, y = .ref p ∧ (SqL X.K H p xs ∨ SqT X.K H p xs) ∧ flatV x = true ∧ xs.all flatV = true ∧ Q (.bl (xorB neg (inV x xs))) H) → r3 x y H Q)
    (h4 : ∀ x y H (Q : VK), (∃ d ds, L2.Dp X.K H x d ∧ L2.Dp X.K H y (.list ds) ∧ SeqAt.shaped d = true ∧ SeqAt.shaped (.list ds) = true ∧ Q (.bl (xorB neg (ds.any fun z => PyData.eqv z d))) H) → r4 x y H Q)
    (h5 : ∀ y x H (Q : VK), (∃ a ov, x = .ref a ∧ DGet H a y ov ∧ Q (.bl (xorB neg ov.isSome)) H) → r5 y x H Q) : OpW X (fun x y H Q => r1 x y H Q ∨ r2 x y H Q ∨ r3 x y H Q ∨ r4 x y H Q ∨ r5 x y H Q) (inD neg) := by
  intro w x y dx dy Qd Q o zx zy h k
  have big : ∀ c : Bool, Qd (.val (.bl c)) → Q (.bl c) w.H := fun c q => k _ _ w q (.refl o) (.bl c)
  unfold inD at h
  generalize hy : view w.M dy = cy at h
  cases cy with
  | str z =>
    cases dx with
    | str c =>
      obtain ⟨rfl, _⟩ := zx.str'
      obtain ⟨rfl, _⟩ := see_str o zy hy
      dsimp only at h
      by_cases hc : ∃ a, c = [a]
      · obtain ⟨a, rfl⟩ := hc
        refine .inl (h1 _ _ _ _ ⟨a, tx z, rfl, rfl, ?_⟩)
        have e : inTx [a] z = decide (a ∈ z) := memN_iff a z
        rw [tx_cps, ← e]
        exact big _ h
      · refine .inr (.inl (h2 _ _ _ _ ⟨tx c, tx z, rfl, rfl, ?_⟩))
        have e : inTx c z = !(Builtin.Str.occurrences (tx z) (tx c) 0 (tx z).length 1).isEmpty := by
          cases c with
          | nil => rfl
          | cons a r =>
            cases r with
            | nil => exact absurd ⟨a, rfl⟩ hc
            | cons b s => rfl
        rw [← e]
        exact big _ h
    | _ => exact h.elim
  | lst ys =>
    obtain ⟨q1, h⟩ := okQ_e h
    obtain ⟨q2, h⟩ := okQ_e h
    obtain ⟨a1, a2⟩ := okF_shaped o zx q1
    have q3 := okAll_le q2
    obtain ⟨a, vs, rfl, p, za⟩ := see_lst o zy hy
    obtain ⟨b1, b2, b3⟩ := okAll_dp (okF_dp o 59) za q2
    have q1' : okF 60 w.M dx = true := q1
    refine .inr (.inr (.inr (.inl (h4 _ _ _ _ ⟨_, pyAll (pyF 59 w.M) ys, a1, .lst (.inl (.inl p)) b1, a2, ?_, ?_⟩))))
    · unfold SeqAt.shaped
      rw [PyData.canLay0, b2, PyData.depth, decide_eq_true (by omega)]
      rfl
    · rw [← q3.2, any_eqv q1 ys q3.1]
      exact big _ h
  | tup ys =>
    obtain ⟨q1, h⟩ := okQ_e h
    obtain ⟨q2, h⟩ := okQ_e h
    obtain ⟨a, vs, rfl, _, p, za⟩ := see_tup o zy hy
    refine .inr (.inr (.inl (h3 _ _ _ _ ⟨a, vs, rfl, .inr (.inl (.inl p)), scal_flat zx q1, flat_all za q2, ?_⟩)))
    rw [inV_any (M := w.M) zx q1 za q2]
    exact big _ h
  | wtup ys =>
    obtain ⟨q1, h⟩ := okQ_e h
    obtain ⟨q2, h⟩ := okQ_e h
    obtain ⟨a, vs, rfl, p, za⟩ := (see_wtup o zy hy).2
    refine .inr (.inr (.inl (h3 _ _ _ _ ⟨a, vs, rfl, .inr (p w.H), scal_flat zx q1, flat_all za q2, ?_⟩)))
    rw [inV_any (M := w.M) zx q1 za q2]
    exact big _ h
  | dct t kds =>
    obtain ⟨q1, h⟩ := okQ_e h
    obtain ⟨a, ov, rfl, g, q⟩ := dget_of o zy hy zx q1
    refine .inr (.inr (.inr (.inr (h5 _ _ _ _ ⟨a, ov, rfl, g, ?_⟩))))
    rcases q with ⟨e1, e2⟩ | ⟨v, e, e1, e2, _⟩
    · rw [e1]
      rw [e2] at h
      exact big _ h
    · rw [e1]
      rw [e2] at h
      exact big _ h
  | _ => exact h.elim
theorem op_inH (hr : Room k X.A) : OpL X (compareOp .In) (inD false) := by
  have hu : X.A.units + 65 < cLine := by have := hr.un; omega
  exact ⟨_, op_in_sign.or (op_in_str.or (op_in_seq.or ((op_inD hu).or (op_inDc (by omega))))), in_run (fun _ _ _ _ h => h) (fun _ _ _ _ h => h) (fun _ _ _ _ h => h) (fun _ _ _ _ h => h) (fun _ _ _ _ h => h)⟩
theorem op_notInH (hr : Room k X.A) : OpL X (compareOp .NotIn) (inD true) := by
  have hu : X.A.units + 65 < cLine := by have := hr.un; omega
  exact ⟨_, op_notIn_sign.or (op_notin_str.or (op_notIn_seq.or ((op_notInD hu).or (op_notInDc (by omega))))), in_run (fun _ _ _ _ h => h) (fun _ _ _ _ h => h) (fun _ _ _ _ h => h) (fun _ _ _ _ h => h) (fun _ _ _ _ h => h)⟩
end
end HI

namespace HI
open PySem PySem.Spec PyProof.Rows L2

/-! ### subscripts -/
def nthI {α : Type} (xs : List α) : Int → Option α
  | .ofNat n => xs[n]?
  | .negSucc n => match Nat.ble (n + 1) xs.length with
    | true => xs[xs.length - (n + 1)]?
    | false => none
theorem nthI_at {α : Type} (xs : List α) (i : Int) : nthI xs i = atI xs i := by
  unfold nthI atI ixN
  cases i with
  | ofNat n =>
    dsimp only
    rw [if_pos (by exact Int.natCast_nonneg n)]
    by_cases h : n < xs.length
    · rw [if_pos (by show ((n : Nat) : Int) < _; omega)]
      rfl
    · rw [if_neg (by show ¬ ((n : Nat) : Int) < _; omega), List.getElem?_eq_none (by omega)]
      rfl
  | negSucc n =>
    dsimp only
    rw [if_neg (by omega)]
    cases e : Nat.ble (n + 1) xs.length with
    | true =>
      have := Nat.le_of_ble_eq_true e
      rw [if_pos (by omega)]
      dsimp only [Option.bind]
      rw [show (Int.negSucc n + (xs.length : Int)).toNat = xs.length - (n + 1) by omega]
    | false =>
      have : ¬ (n + 1 ≤ xs.length) := fun h => by rw [Nat.ble_eq_true_of_le h] at e; cases e
      rw [if_neg (by omega)]
      rfl
def someQ {α : Type} (o : Option α) (q : α → Prop) : Prop := match o with
  | some a => q a
  | none => False
theorem someQ_e {α : Type} {o : Option α} {q : α → Prop} (h : someQ o q) : ∃ a, o = some a ∧ q a := by
  cases o with
  | some a => exact ⟨a, rfl, h⟩
  | none => exact h.elim
theorem someQ_i {α : Type} {o : Option α} {a : α} {q : α → Prop} (h : o = some a) (k : q a) : someQ o q := by subst h; exact k
def ixD : OpD := fun M x y Q => match view M x with
  | .lst xs => match y with
    | .int i => someQ (nthI xs i) fun d => Q (.val d)
    | _ => False
  | .tup xs => match y with
    | .int i => someQ (nthI xs i) fun d => Q (.val d)
    | _ => False
  | .wtup xs => match y with
    | .int i => someQ (nthI xs i) fun d => Q (.val d)
    | _ => False
  | .str z => match y with
    | .int i => szOk z.length (someQ (nthI z i) fun c => Q (.val (.str [c])))
    | _ => False
  | .dct t kds => okQ (isKey t y) (someQ (look kds y) fun d => Q (.val d))
  | _ => False
theorem atI_D {K : PySem.W.Frag} {C : List Addr} {P : Hp} {vs : List V} {ds : List D} {i : Int} {d : D} (z : DpA K C P vs ds) (h : nthI ds i = some d) : ∃ v, atI vs i = some v ∧ Dp K C P v d := by
  rw [nthI_at] at h
  unfold atI at h ⊢
  rw [z.length]
  cases e : ixN ds.length i with
  | none => rw [e] at h; cases h
  | some j =>
    rw [e] at h
    exact z.get h
theorem atI_mem {α : Type} {xs : List α} {i : Int} {a : α} (h : nthI xs i = some a) : a ∈ xs := by
  rw [nthI_at] at h
  unfold atI at h
  cases e : ixN xs.length i with
  | none => rw [e] at h; cases h
  | some j => rw [e] at h; exact List.mem_of_getElem? h
section
variable {X : Cx} {rw : Bool} {e a b c : Expr} {es : List Expr} {fa fb fc f : EV} {fr : AV} {pos p p2 : Pos} {k : Nat} {ft fu : TV}
theorem ix_dict (hu : X.A.units + 1 < cLine) : IxR X (fun x y H Q => ∃ a v, x = .ref a ∧ DGet H a y (some v) ∧ Q v H) := by
  intro value slice pins s σ H x y v u Q I rx ry h hs
  obtain ⟨a, d, rfl, g, q⟩ := h
  obtain rfl : v = Value.ref a := rx
  have hT := dict_typeIs I g
  unfold subscriptTail; refine wpAny_bind ?_; rw [getitemInPython_of_ne hT.not_modules]; refine wpAny_bind (wpAny_specialOf hT PySem.F.slot_dict_getitem.lookup ?_)
  have fin : wpAny (model X.prog X.w) X.A (subscripted slice false (.ref a) u) (fun r s₃ => wpAny (model X.prog X.w) X.A (letTemporaryGo value (.ref a) r >>= fun _ => pure r) (EP X pins σ Q) X.xe s₃) X.xe s := by
    rw [hs]
    exact wpAny_operating (wpAny_mono (d_getItem hu I g ry fun w' s3 I3 rw' => (show EP X pins σ Q w' s3 from ⟨d, H, I3, rw', q⟩)) (fun r s₃ h₃ => wpAny_bind (wpAny_letTemporaryGo (wpAny_pure h₃))) fun _ _ x => x)
  first
    | exact wpAny_pure (wpAny_bind fin)
    | exact wpAny_bind (wpAny_pure (wpAny_bind fin))
    | exact wpAny_bind fin
theorem q_ix (hr : Room k X.A) (ha : QE X rw a fa) (hb : QE X rw b fb) (hs : PlainIx b := by exact fun _ _ => rfl) : QE X rw (.Subscript a b pos) (eOp ixD fa fb) := by
  refine q_ixR (ix_seq.or (ix_dict (by have := hr.un; omega))) (fun w x y dx dy Qd Q o zx zy h kk => ?_) ha hb hs
  unfold ixD at h
  generalize hx : view w.M dx = cx at h
  cases cx with
  | lst xs =>
    cases dy with
    | int i =>
      cases zy.int'
      obtain ⟨a1, x1, rfl, p1, z1⟩ := see_lst o zx hx
      obtain ⟨d, h1, h2⟩ := someQ_e h
      obtain ⟨v, h3, h4⟩ := atI_D z1 h1
      exact .inl (.inl ⟨a1, x1, i, v, rfl, rfl, .inl (.inl p1), h3, kk _ _ w h2 (.refl o) h4⟩)
    | _ => exact h.elim
  | tup xs =>
    cases dy with
    | int i =>
      cases zy.int'
      obtain ⟨a1, x1, rfl, _, p1, z1⟩ := see_tup o zx hx
      obtain ⟨d, h1, h2⟩ := someQ_e h
      obtain ⟨v, h3, h4⟩ := atI_D z1 h1
      exact .inl (.inr (.inl ⟨a1, x1, i, v, rfl, rfl, .inl (.inl p1), h3, kk _ _ w h2 (.refl o) h4⟩))
    | _ => exact h.elim
  | wtup xs =>
    cases dy with
    | int i =>
      cases zy.int'
      obtain ⟨a1, x1, rfl, p1, z1⟩ := (see_wtup o zx hx).2
      obtain ⟨d, h1, h2⟩ := someQ_e h
      obtain ⟨v, h3, h4⟩ := atI_D z1 h1
      exact .inl (.inr (.inl ⟨a1, x1, i, v, rfl, rfl, p1 w.H, h3, kk _ _ w h2 (.refl o) h4⟩))
    | _ => exact h.elim
  | str z =>
    cases dy with
    | int i =>
      cases zy.int'
      obtain ⟨rfl, hv⟩ := see_str o zx hx
      obtain ⟨h0, h⟩ := szOk_e h
      obtain ⟨c, h1, h2⟩ := someQ_e h
      refine .inl (.inr (.inr ⟨tx z, i, c, rfl, rfl, by rw [tx_len]; exact h0, by rw [tx_cps, ← nthI_at]; exact h1, kk _ _ w h2 (.refl o) (.str [c] fun q hq => ?_)⟩))
      rw [List.mem_singleton] at hq
      subst hq
      exact hv _ (atI_mem h1)
    | _ => exact h.elim
  | dct t kds =>
    obtain ⟨q1, h⟩ := okQ_e h
    obtain ⟨d, h1, h2⟩ := someQ_e h
    obtain ⟨a, ov, rfl, g, q⟩ := dget_of o zx hx zy q1
    rcases q with ⟨_, e2⟩ | ⟨v, e, e1, e2, z⟩
    · rw [h1] at e2; cases e2
    · rw [h1] at e2
      cases e2
      subst e1
      exact .inr ⟨a, v, rfl, g, kk _ _ w h2 (.refl o) z⟩
  | _ => exact h.elim

/-! ### slices -/
def cutL {α : Type} (xs : List α) (lo hi : Option Int) : List α := (xs.drop (sI xs.length 0 lo)).take (sI xs.length xs.length hi - sI xs.length 0 lo)
where sI (n d : Nat) : Option Int → Nat
  | none => d
  | some (.ofNat k) => Nat.min k n
  | some (.negSucc k) => n - (k + 1)
theorem sI_eq (n d : Nat) (o : Option Int) : cutL.sI n d o = HT.sIx n d o := by
  cases o with
  | none => rw [cutL.sI, HT.sIx_none]
  | some i =>
    cases i with
    | ofNat k =>
      rw [cutL.sI]
      show Nat.min k n = HT.sIx n d (some ((k : Nat) : Int))
      rw [HT.sIx_nat]
    | negSucc k =>
      rw [cutL.sI]
      unfold HT.sIx
      dsimp only
      split <;> omega
theorem cutL_V (xs : List V) (lo hi : Option Int) : cutL xs lo hi = cutV xs lo hi := by
  unfold cutL cutV
  rw [sI_eq, sI_eq]
abbrev OV := DEnv → Mem → (Option Int → Mem → Prop) → Prop
def oNo : OV := fun _ M Q => Q none M
def intQ (d : D) (q : Int → Prop) : Prop := match d with
  | .int i => q i
  | _ => False
theorem intQ_e {d : D} {q : Int → Prop} (h : intQ d q) : ∃ i, d = .int i ∧ q i := by
  cases d <;> first | exact ⟨_, rfl, h⟩ | exact h.elim
def oSome (f : EV) : OV := fun δ M Q => f δ M fun r M1 => intQ r.d fun i => Q (some i) M1
def liftO (G : Gx) (rw : Bool) (f : OV) : TO := fun σ H Q => ∃ w δ Qd, w.H = H ∧ Rep G w σ δ ∧ f δ w.M Qd ∧ ∀ o w', Qd o w'.M → Gr G rw w w' → Q o w'.H
structure QO (X : Cx) (rw : Bool) (e : Option Expr) (f : OV) : Prop where
  po : PO X e (liftO (gx X) rw f)
theorem po_imp {X : Cx} {e : Option Expr} {t t' : TO} (h : PO X e t) (i : ∀ σ H Q, t' σ H Q → t σ H Q) : PO X e t' := ⟨fun pins s σ H Q I q => h.run pins s σ H Q I (i σ H Q q)⟩
theorem q_no : QO X rw none oNo := ⟨po_imp po_none fun σ H Q ⟨w, δ, Qd, e, R, hf, k⟩ => by subst e; exact k none w hf (.refl R.ok)⟩
theorem q_some (h : QE X rw e f) : QO X rw (some e) (oSome f) := ⟨po_imp (po_some h.pe) fun σ H Q ⟨w, δ, Qd, e, R, hf, k⟩ => by
  subst e
  refine lift_d R (fun d M => intQ d fun i => Qd (some i) M) hf fun d v w' q g z => ?_
  obtain ⟨i, rfl, q2⟩ := intQ_e q
  exact ⟨i, z.int', k _ w' q2 g⟩⟩
def slD (M : Mem) (x : D) (lo hi : Option Int) (Q : Rz → Prop) : Prop := match view M x with
  | .lst xs => Q (.new (.lst (cutL xs lo hi)))
  | .tup xs => Q (.val (.tup (cutL xs lo hi)))
  | .str z => szOk z.length (Q (.val (.str (cutL z lo hi))))
  | _ => False
def eSl (fa : EV) (fl fh : OV) : EV := fun δ M Q => fa δ M fun x M1 => fl δ M1 fun lo M2 => fh δ M2 fun hi M3 => slD M3 x.d lo hi fun r => Q r M3
theorem cut_dp {K : PySem.W.Frag} {C : List Addr} {P : Hp} {vs : List V} {ds : List D} (z : DpA K C P vs ds) (lo hi : Option Int) : DpA K C P (cutV vs lo hi) (cutL ds lo hi) := by
  rw [← cutL_V]
  unfold cutL
  rw [z.length]
  exact (z.drop _).take _
theorem cut_mem {α : Type} {xs : List α} {lo hi : Option Int} {a : α} (h : a ∈ cutL xs lo hi) : a ∈ xs := List.mem_of_mem_drop (List.mem_of_mem_take h)
theorem cutS_tx (cs : List Nat) (lo hi : Option Int) : cutS (tx cs) lo hi = tx (cutL cs lo hi) := by
  unfold cutS cutL
  rw [sI_eq, sI_eq, tx_len, tx_cps]
  rfl
theorem q_sl {lo hi : Option Expr} {p2 : Pos} {fl fh : OV} (ha : QE X rw a fa) (hl : QO X rw lo fl) (hh : QO X rw hi fh) : QE X rw (.Subscript a (.Slice lo hi none p2) pos) (eSl fa fl fh) := by
  refine qe_of (pe_slice (sl_list.or (sl_tupA.or sl_str)) ha.pe hl.po hh.po) fun w σ δ Qd Q R h k => ?_
  refine lift_d R (fun x M1 => fl δ M1 fun lo M2 => fh δ M2 fun hi M3 => slD M3 x lo hi fun r => Qd r M3) h fun dx x w1 q1 g1 z1 => ?_
  refine ⟨w1, δ, _, rfl, R.mono g1, q1, fun lo w2 q2 g2 => ⟨w2, δ, _, rfl, (R.mono g1).mono g2, q2, fun hi w3 q3 g3 => ?_⟩⟩
  have g13 := g2.trans g3
  have g := g1.trans g13
  have zx := g13.dp z1
  unfold slD at q3
  generalize hx : view w3.M dx = cx at q3
  cases cx with
  | lst xs =>
    obtain ⟨a1, x1, rfl, p1, u1⟩ := see_lst g.ok zx hx
    refine .inl ⟨a1, x1, rfl, .inl (.inl p1), fun p hp => ?_⟩
    obtain ⟨g4, w4⟩ := new_ok g hp (HoD.lst (cut_dp u1 lo hi))
    exact k _ _ ⟨w3.C, w3.M, _, _⟩ q3 g4 w4
  | tup xs =>
    obtain ⟨a1, x1, rfl, r1, p1, u1⟩ := see_tup g.ok zx hx
    refine .inr (.inl ⟨a1, x1, rfl, .inl (.inl p1), fun hw => ?_, fun hw p hp => ?_⟩)
    · refine k _ _ w3 q3 g ?_
      have e1 : cutL xs lo hi = xs := by
        unfold cutL
        rw [sI_eq, sI_eq, ← u1.length, hw.1, hw.2, List.drop_zero, Nat.sub_zero, u1.length]
        exact List.take_length
      show Dp X.K w3.C w3.P (.ref a1) (.tup (cutL xs lo hi))
      rw [e1]
      exact .tup r1 u1
    · obtain ⟨g4, w4⟩ := tup_ok g hp (cut_dp u1 lo hi)
      exact k _ _ ⟨w3.C, w3.M, _, _⟩ q3 g4 w4
  | str z =>
    obtain ⟨rfl, hv⟩ := see_str g.ok zx hx
    obtain ⟨q4, q5⟩ := szOk_e q3
    refine .inr (.inr ⟨tx z, rfl, by rw [tx_len]; exact q4, ?_⟩)
    rw [cutS_tx]
    exact k _ _ w3 q5 g (.str _ fun c hc => hv c (cut_mem hc))
  | _ => exact q3.elim

/-! ### built-in functions -/
/-- a list of one -/
def oneQ (ds : List D) (q : D → Prop) : Prop := match ds with
  | [d] => q d
  | _ => False
theorem oneQ_e {ds : List D} {q : D → Prop} (h : oneQ ds q) : ∃ d, ds = [d] ∧ q d := by
  match ds, h with
  | [d], h => exact ⟨d, rfl, h⟩
  | [], h => exact h.elim
  | _ :: _ :: _, h => exact h.elim
def lenD : CaD := fun M ds Q => oneQ ds fun d => match view M d with
  | .lst xs => Q (.val (.int xs.length))
  | .tup xs => Q (.val (.int xs.length))
  | .wtup xs => Q (.val (.int xs.length))
  | .str z => szOk z.length (Q (.val (.int z.length)))
  | .dct false kvs => Q (.val (.int kvs.length))
  | .dct true kvs => Q (.val (.int kvs.length))
  | _ => False
theorem call_lenR : CallR X (.builtin "len") (fun xs H Q => ∃ (a : Addr) (n : Nat), xs = [V.ref a] ∧ ((∃ kvs, Rd H a (.dK kvs) ∧ kvs.length = n) ∨ ∃ kvs, Rd H a (.dT kvs) ∧ kvs.length = n) ∧ Q (.int (n : Int)) H) := by
  intro pins s σ H xs us Q I r h
  obtain ⟨a, n, rfl, ha, q⟩ := h
  obtain ⟨u, rfl, ru⟩ := vals1 r
  cases ru
  rcases ha with ⟨kvs, ha, rfl⟩ | ⟨kvs, ha, rfl⟩
  · exact d_len I ha fun t s' I' => ⟨.int kvs.length, H, I', ⟨t, rfl⟩, q⟩
  · obtain ⟨z, hd, ys, rel, dd⟩ := dt_rd I.hok ha
    have hl : kvs.length = ys.length := Paired.length rel
    refine call_len_dictH hd dd (by rw [← hl]; rw [sizeLine_eq] at z; omega) ?_
    rw [← hl]
    exact ⟨.int ((kvs.length : Nat) : Int), H, I.tok _, ⟨_, rfl⟩, q⟩
theorem dct_rd {K : PySem.W.Frag} {C : List Addr} {P H : Hp} {a : Addr} {ho : HO} {t : Bool} {kds : List (D × D)} (h1 : H a = some ho) (h2 : HoD K C P (unl ho) (.dct t kds)) : (∃ kvs, Rd H a (.dK kvs) ∧ kvs.length = kds.length) ∨ ∃ kvs, Rd H a (.dT kvs) ∧ kvs.length = kds.length := by
  generalize hu : unl ho = u at h2
  cases h2 with
  | dK hk _ _ =>
    refine .inl ⟨_, rd_unl h1 hu, ?_⟩
    have := congrArg List.length hk
    rw [List.length_map, List.length_map] at this
    exact this.symm
  | dT hk _ _ =>
    refine .inr ⟨_, rd_unl h1 hu, ?_⟩
    have := congrArg List.length hk
    rw [List.length_map, List.length_map] at this
    exact this.symm
theorem call_lenL : CallL X (.builtin "len") lenD := by
  refine ⟨_, call_len_seq.or (call_len_str.or call_lenR), fun w xs ds Qd Q o z h k => ?_⟩
  unfold lenD at h
  obtain ⟨d, e0, h0⟩ := oneQ_e h
  subst e0
  replace h := h0
  clear h0
  obtain ⟨v, rfl, zv⟩ := z.one'
  generalize hx : view w.M d = cx at h
  cases cx with
  | lst ys =>
    obtain ⟨a1, x1, rfl, p1, w1⟩ := see_lst o zv hx
    refine .inl ⟨a1, x1, rfl, .inl (.inl (.inl p1)), ?_⟩
    rw [w1.length]
    exact k _ _ w h (.refl o) (.int _)
  | tup ys =>
    obtain ⟨a1, x1, rfl, _, p1, w1⟩ := see_tup o zv hx
    refine .inl ⟨a1, x1, rfl, .inr (.inl (.inl p1)), ?_⟩
    rw [w1.length]
    exact k _ _ w h (.refl o) (.int _)
  | wtup ys =>
    obtain ⟨a1, x1, rfl, p1, w1⟩ := (see_wtup o zv hx).2
    refine .inl ⟨a1, x1, rfl, .inr (p1 w.H), ?_⟩
    rw [w1.length]
    exact k _ _ w h (.refl o) (.int _)
  | str y =>
    obtain ⟨rfl, _⟩ := see_str o zv hx
    obtain ⟨h1, h2⟩ := szOk_e h
    refine .inr (.inl ⟨tx y, rfl, by rw [tx_len]; exact h1, ?_⟩)
    rw [tx_len]
    exact k _ _ w h2 (.refl o) (.int _)
  | dct t kvs =>
    obtain ⟨a, ho, rfl, h1, h2⟩ := see_dct o zv hx
    refine .inr (.inr ⟨a, kvs.length, rfl, dct_rd h1 h2, ?_⟩)
    cases t <;> exact k _ _ w h (.refl o) (.int _)
  | _ => exact h.elim
def listD : CaD := fun M ds Q => oneQ ds fun d => match view M d with
  | .lst xs => Q (.new (.lst xs))
  | .tup xs => Q (.new (.lst xs))
  | .wtup xs => Q (.new (.lst xs))
  | .dct t kds => Q (.new (.lst (keysOf kds)))
  | _ => False
where keysOf : List (D × D) → List D
  | [] => []
  | (k, _) :: r => k :: keysOf r
theorem keysOf_map (l : List (D × D)) : listD.keysOf l = l.map (·.1) := by
  induction l with
  | nil => rfl
  | cons p r ih => cases p; rw [listD.keysOf, ih]; rfl
/-- tuples may be protected at any time -/
theorem Gr.ptup {G : Gx} {w : Wd} {b : Addr} {xs : List V} (k : WOk G w) (hb : w.H b = some (.tup xs)) : Gr G false w ⟨w.C, w.M, upd w.P b (.tup xs), w.H⟩ := by
  have hc : b ∉ w.C := fun hc => by
    obtain ⟨n, hn⟩ := List.mem_iff_getElem?.mp hc
    obtain ⟨d, _, _, q⟩ := k.at hn
    cases d with
    | lst ds => obtain ⟨o, q1, q2⟩ := q; rw [hb] at q1; cases q1; exact q2.ntup _ rfl
    | dct t ds => obtain ⟨o, q1, q2⟩ := q; rw [hb] at q1; cases q1; exact q2.ntup _ rfl
    | obj c fs => obtain ⟨_, _, _, _, q1, _⟩ := q; rw [hb] at q1; cases q1
    | bag => obtain ⟨_, _, _, _, _, _, q1, _⟩ := q; rw [hb] at q1; cases q1
    | lck d k => obtain ⟨_, _, _, q1, _⟩ := q; rw [hb] at q1; cases q1
    | opq => obtain ⟨_, q1⟩ := q; rw [hb] at q1; cases q1
    | _ => exact q.elim
  have s1 : Same w.P (upd w.P b (.tup xs)) := fun a o h => by
    by_cases e : a = b
    · subst e
      obtain ⟨o', q1, q2⟩ := k.ex a o h
      rw [hb] at q1
      cases q1
      rw [upd_same]
      exact congrArg some q2
    · rw [upd_ne e]; exact h
  refine ⟨⟨fun a u h => ?_, fun a x h => ?_, k.len, k.nd, fun n a d e1 e2 => ?_⟩, s1, Pre.refl _, fun a u h _ => h, fun a u h nt z => ?_, fun a h n => absurd h n, fun _ => ⟨rfl, rfl, fun _ _ _ _ => rfl⟩⟩
  · dsimp only at h ⊢
    by_cases e : a = b
    · subst e; rw [upd_same] at h; cases h; exact ⟨_, hb, rfl⟩
    · rw [upd_ne e] at h; exact k.ex _ _ h
  · dsimp only at h
    by_cases e : a = b
    · subst e; rw [upd_same] at h; cases h
    · rw [upd_ne e] at h; exact k.nown _ _ h
  · obtain ⟨h1, h2⟩ := k.cell n a d e1 e2
    refine ⟨?_, h2.keep (Pre.refl _) s1 (fun _ _ h _ => h) fun c hc' z => ?_⟩
    · show upd w.P b (.tup xs) a = none
      rw [upd_ne (a := b) (b := a) (fun z => by subst z; exact hc (List.mem_of_getElem? e1))]; exact h1
    · show upd w.P b (.tup xs) c = none
      rw [upd_ne (a := b) (b := c) (fun z => by subst z; rw [hb] at hc'; cases hc')]; exact z
  · show upd w.P b (.tup xs) a = none
    rw [upd_ne (a := b) (b := a) (fun e => by subst e; rw [hb] at h; exact nt _ (Option.some.inj h).symm)]; exact z
/-- the keys of a dict with tuple keys, protected -/
theorem prot_keys {G : Gx} {kds : List (D × D)} {kvs : List (List Key × V)} : ∀ {w : Wd} (k : WOk G w) {bs : List Addr}, IsKeys w.H kvs bs → kds.map (fun p => tkD p.1) = kvs.map (fun q => some q.1) → (∀ p ∈ kds, vK p.1) → ∃ P2, Gr G false w ⟨w.C, w.M, P2, w.H⟩ ∧ DpA G.K w.C P2 (bs.map V.ref) (kds.map (·.1)) := by
  induction kds generalizing kvs with
  | nil =>
    intro w k bs hb hk _
    cases kvs with
    | nil => cases hb; exact ⟨w.P, .refl k, .nil⟩
    | cons _ _ => cases hk
  | cons p r ih =>
    intro w k bs hb hk hv
    cases kvs with
    | nil => cases hk
    | cons q s =>
      rw [List.map_cons, List.map_cons] at hk
      injection hk with k1 k2
      cases hb with
      | cons h1 h2 =>
        rename_i b bs
        have g1 := Gr.ptup k h1
        obtain ⟨P2, g2, z2⟩ := ih g1.ok (bs := bs) h2 k2 fun p hp => hv p (List.mem_cons_of_mem _ hp)
        refine ⟨P2, g1.trans g2, .cons ?_ z2⟩
        obtain ⟨d, e⟩ := p
        cases d with
        | tup xs => exact .tup (g2.pp _ _ upd_same) (keys_dp k1 (hv _ List.mem_cons_self))
        | _ => cases k1
theorem call_listR (hcalm : X.calm = true) : CallR X (.type "list") (fun xs H Q => ∃ p kvs, xs = [.ref p] ∧ Rd H p (.dK kvs) ∧ ∀ q, H q = none → Q (.ref q) (upd H q (.lst (kvs.map fun kv => kV kv.1)))) := by
  intro pins s σ H xs us Q I r h; obtain ⟨p, kvs, e, hk, q⟩ := h; subst e; obtain ⟨u, eu, rx⟩ := vals1 r; subst eu; obtain rfl : u = Value.ref p := rx
  obtain ⟨z, lo, vs, rk, hd⟩ := (show ObjOk X.prog X.w H s.heap p (.dK kvs) from hk.ok I.hok); obtain ⟨ep, hat⟩ := hd.dictAt; have hl : kvs.length = vs.length := Paired.length rk
  refine PySem.W.kdl_call (PySem.W.kdl_dict (knd := mixKind X.prog X.w) (kvs := vs) (ep := ep) lo) (I.ok.hd hcalm) hat (by rw [← hl]; exact z) fun h' tk acc' c' hkeep hS hacc => ?_
  have v1 : Vals (kvs.map fun kv => kV kv.1) acc'.toList := by
    have el : acc'.toList.length = acc'.size := by simp
    refine vals_of_at (by rw [List.length_map, el, hacc.1, hl]) fun j x w h1 h2 => ?_
    obtain ⟨k, y, hky, hi⟩ := hacc.2 j w (by rw [← Array.getElem?_toList]; exact h2); have e1 : (kvs.map (·.1))[j]? = some k := by rw [KV.keys rk, List.getElem?_map, hky] <;> rfl
    have e3 : (kvs.map fun kv => kV kv.1) = (kvs.map (·.1)).map kV := by rw [List.map_map] <;> rfl
    rw [e3, List.getElem?_map, e1] at h1
    cases h1; exact keyIs_rel hi
  exact ⟨.ref s.heap.objs.size, upd H s.heap.objs.size (.lst (kvs.map fun kv => kV kv.1)), I.laid hkeep (Nat.le_refl _) (show ObjOk X.prog X.w _ _ _ (.lst (kvs.map fun kv => kV kv.1)) from ⟨by rw [List.length_map]; exact z, acc'.toList, c', v1, by rw [Array.toArray_toList]; exact hS⟩), rfl, q _ (I.hok.fresh (Nat.le_refl _))⟩
theorem call_listL (hcalm : X.calm = true) : CallL X (.type "list") listD := by
  refine ⟨_, call_list_of.or ((call_listR hcalm).or (call_list_dT hcalm)), fun w xs ds Qd Q o z h k => ?_⟩
  unfold listD at h
  obtain ⟨d, e0, h0⟩ := oneQ_e h
  subst e0
  replace h := h0
  clear h0
  obtain ⟨v, rfl, zv⟩ := z.one'
  generalize hx : view w.M d = cx at h
  cases cx with
  | lst ys =>
    obtain ⟨a1, x1, rfl, p1, w1⟩ := see_lst o zv hx
    refine .inl ⟨a1, x1, rfl, .inl (.inl (.inl p1)), fun p hp => ?_⟩
    obtain ⟨g2, w2⟩ := new_ok (Gr.refl o) hp (HoD.lst w1)
    exact k _ _ _ h g2 w2
  | tup ys =>
    obtain ⟨a1, x1, rfl, _, p1, w1⟩ := see_tup o zv hx
    refine .inl ⟨a1, x1, rfl, .inr (.inl (.inl p1)), fun p hp => ?_⟩
    obtain ⟨g2, w2⟩ := new_ok (Gr.refl o) hp (HoD.lst w1)
    exact k _ _ _ h g2 w2
  | wtup ys =>
    obtain ⟨a1, x1, rfl, p1, w1⟩ := (see_wtup o zv hx).2
    refine .inl ⟨a1, x1, rfl, .inr (p1 w.H), fun p hp => ?_⟩
    obtain ⟨g2, w2⟩ := new_ok (Gr.refl o) hp (HoD.lst w1)
    exact k _ _ _ h g2 w2
  | dct t kds =>
    obtain ⟨a, ho, rfl, h1, h2⟩ := see_dct o zv hx
    dsimp only at h
    rw [keysOf_map] at h
    generalize hu : unl ho = u at h2
    cases h2 with
    | @dK kvs _ hk hv hz =>
      refine .inr (.inl ⟨a, kvs, rfl, rd_unl h1 hu, fun p hp => ?_⟩)
      have kz : ∀ {kds : List (D × D)} {kvs : List (Key × V)}, kds.map (fun p => keyD p.1) = kvs.map (fun q => some q.1) → (∀ p ∈ kds, vK p.1) → DpA X.K w.C w.P (kvs.map fun kv => kV kv.1) (kds.map (·.1)) := by
        intro kds
        induction kds with
        | nil => intro kvs hk _; cases kvs with | nil => exact .nil | cons _ _ => cases hk
        | cons p r ih =>
          intro kvs hk hv
          cases kvs with
          | nil => cases hk
          | cons q s =>
            rw [List.map_cons, List.map_cons] at hk
            injection hk with k1 k2
            refine .cons (key_dp k1 ?_) (ih k2 fun p hp => hv p (List.mem_cons_of_mem _ hp))
            have := hv p List.mem_cons_self
            obtain ⟨d, e⟩ := p
            cases d <;> first | exact this | trivial
      obtain ⟨g2, w2⟩ := new_ok (Gr.refl o) hp (HoD.lst (kz hk hv))
      exact k _ _ _ h g2 w2
    | @dT kvs _ hk hv hz =>
      refine .inr (.inr ⟨a, kvs, rfl, rd_unl h1 hu, fun p bs hp hb => ?_⟩)
      obtain ⟨P2, g2, z2⟩ := prot_keys o hb hk hv
      obtain ⟨g3, w3⟩ := new_ok (w1 := ⟨w.C, w.M, P2, w.H⟩) g2 hp (HoD.lst z2)
      exact k _ _ _ h g3 w3
  | _ => exact h.elim
end
end HI

namespace HI
open PySem PySem.Spec PyProof.Rows L2
section
variable {X : Cx} {rw : Bool} {e a b c : Expr} {es : List Expr} {fa fb fc f : EV} {fr : AV} {pos p p2 : Pos} {k : Nat} {ft fu : TV}
def tupleD : CaD := fun M ds Q => oneQ ds fun d => match view M d with
  | .lst xs => Q (.val (.tup xs))
  | .tup xs => Q (.val (.tup xs))
  | _ => False
theorem call_tupleL : CallL X (.type "tuple") tupleD := by
  refine ⟨_, call_tuple_of, fun w xs ds Qd Q o z h k => ?_⟩
  unfold tupleD at h
  obtain ⟨d, e0, h0⟩ := oneQ_e h
  subst e0
  obtain ⟨v, rfl, zv⟩ := z.one'
  generalize hx : view w.M d = cx at h0
  cases cx with
  | lst ys =>
    obtain ⟨a1, x1, rfl, p1, w1⟩ := see_lst o zv hx
    refine ⟨a1, x1, rfl, .inl ⟨.inl (.inl p1), fun p hp => ?_⟩⟩
    obtain ⟨g2, w2⟩ := tup_ok (Gr.refl o) hp w1
    exact k _ _ _ h0 g2 w2
  | tup ys =>
    obtain ⟨a1, x1, rfl, r1, p1, w1⟩ := see_tup o zv hx
    exact ⟨a1, x1, rfl, .inr ⟨.inl (.inl p1), k _ _ w h0 (.refl o) (Dp.tup r1 w1)⟩⟩
  | _ => exact h0.elim
def intD : CaD := fun M ds Q => oneQ ds fun d => match d with
  | .int i => Q (.val (.int i))
  | .bl b => Q (.val (.int (match b with | true => 1 | false => 0)))
  | .str x => ∃ n, PySem.intText? (tx x) = some n ∧ x.length ≤ 640 ∧ Q (.val (.int n))
  | _ => False
theorem call_intL : CallL X (.type "int") intD := by
  refine ⟨_, call_int1.or call_int_str, fun w xs ds Qd Q o z h k => ?_⟩
  unfold intD at h
  obtain ⟨d, e0, h0⟩ := oneQ_e h
  subst e0
  obtain ⟨v, rfl, zv⟩ := z.one'
  cases d with
  | int i => cases zv.int'; exact .inl (.inl ⟨i, rfl, k _ _ w h0 (.refl o) (.int _)⟩)
  | bl i =>
    cases zv.bl'
    refine .inl (.inr ⟨i, rfl, ?_⟩)
    cases i <;> exact k _ _ w h0 (.refl o) (.int _)
  | str i =>
    obtain ⟨rfl, _⟩ := zv.str'
    obtain ⟨n, h1, h2, h3⟩ := h0
    exact .inr ⟨tx i, n, rfl, h1, by rw [tx_len]; exact h2, k _ _ w h3 (.refl o) (.int _)⟩
  | _ => exact h0.elim
theorem str_num (n : Nat) : Str.ofString (toString ((n : Nat) : Int)) = tx (TL.numL n) := TL.ext_tl (by rw [TL.tl_num]; simp [TL.tl, tx])
theorem num_vS (n : Nat) : vS (TL.numL n) := fun c hc => by
  have := TL.numL_digits n c hc
  omega
theorem log_num {n : Nat} (h : n < 10 ^ 100) : n.log2 < 1920 := by
  by_cases h0 : n = 0
  · subst h0; decide
  · rw [Nat.log2_lt h0]
    exact Nat.lt_of_lt_of_le h (by decide)
/-- the text of a number from 0 on -/
def numQ (i : Int) (q : List Nat → Prop) : Prop := match i with
  | .ofNat n => n.log2 < 1920 ∧ q (TL.numL n)
  | .negSucc _ => False
theorem numQ_e {i : Int} {q : List Nat → Prop} (h : numQ i q) : ∃ n : Nat, i = (n : Int) ∧ n.log2 < 1920 ∧ q (TL.numL n) := by
  cases i with
  | ofNat n => exact ⟨n, rfl, h.1, h.2⟩
  | negSucc n => exact h.elim
theorem numQ_i {n : Nat} {q : List Nat → Prop} (h : n < 10 ^ 100) (k : q (TL.numL n)) : numQ (n : Int) q := ⟨log_num h, k⟩
def strD : CaD := fun M ds Q => oneQ ds fun d => match d with
  | .int i => numQ i fun cs => Q (.val (.str cs))
  | .str x => Q (.val (.str x))
  | _ => False
theorem call_strL : CallL X (.type "str") strD := by
  refine ⟨_, call_str_int.or SkE.call_str_str, fun w xs ds Qd Q o z h k => ?_⟩
  unfold strD at h
  obtain ⟨d, e0, h0⟩ := oneQ_e h
  subst e0
  obtain ⟨v, rfl, zv⟩ := z.one'
  cases d with
  | int i =>
    cases zv.int'
    obtain ⟨n, rfl, h1, h2⟩ := numQ_e h0
    refine .inl ⟨(n : Int), rfl, by rw [Int.natAbs_natCast]; exact h1, ?_⟩
    rw [str_num]
    exact k _ _ w h2 (.refl o) (.str _ (num_vS n))
  | str x =>
    obtain ⟨rfl, hv⟩ := zv.str'
    exact .inr ⟨tx x, rfl, k _ _ w h0 (.refl o) (.str _ hv)⟩
  | _ => exact h0.elim
def absD : CaD := fun M ds Q => oneQ ds fun d => match d with
  | .int i => Q (.val (.int (if i < 0 then -i else i)))
  | _ => False
theorem call_absL : CallL X (.builtin "abs") absD := by
  refine ⟨_, call_abs, fun w xs ds Qd Q o z h k => ?_⟩
  unfold absD at h
  obtain ⟨d, e0, h0⟩ := oneQ_e h
  subst e0
  obtain ⟨v, rfl, zv⟩ := z.one'
  cases d with
  | int i => cases zv.int'; exact ⟨i, rfl, k _ _ w h0 (.refl o) (.int _)⟩
  | _ => exact h0.elim
def minD : CaD := fun M ds Q => match ds with
  | [.int i, .int j] => Q (.val (.int (if j < i then j else i)))
  | _ => False
theorem call_minL (hc : X.calm = true) : CallL X (.builtin "min") minD := by
  refine ⟨_, call_min2 hc, fun w xs ds Qd Q o z h k => ?_⟩
  have e : ∃ i j : Int, ds = [.int i, .int j] ∧ Qd (.val (.int (if j < i then j else i))) := by
    unfold minD at h
    split at h
    · exact ⟨_, _, rfl, h⟩
    · exact h.elim
  obtain ⟨i, j, rfl, h⟩ := e
  obtain ⟨v, u, rfl, zv, zu⟩ := z.two'
  cases zv.int'
  cases zu.int'
  exact ⟨i, j, rfl, k _ _ w h (.refl o) (.int _)⟩
/-- the truths of a list of bools -/
def blsD : List D → Option (List Bool)
  | [] => some []
  | x :: r => match x with
    | .bl b => match blsD r with
      | some bs => some (b :: bs)
      | none => none
    | _ => none
theorem blsD_V {K : PySem.W.Frag} {C : List Addr} {P : Hp} : ∀ {vs : List V} {ds : List D} {bs : List Bool}, DpA K C P vs ds → blsD ds = some bs → vs = bs.map V.bl
  | _, _, _, .nil, h => by rw [blsD] at h; cases h; rfl
  | _, _, _, .cons (d := d) (ds := ds) z t, h => by
    cases d with
    | bl b =>
      have h : (match blsD ds with | some bs => some (b :: bs) | none => none) = some _ := h
      cases e : blsD ds with
      | none => rw [e] at h; cases h
      | some r =>
        rw [e] at h
        cases h
        rw [blsD_V t e]
        cases z.bl'
        rfl
    | _ => cases h
def allB : List Bool → Bool
  | [] => true
  | b :: r => match b with
    | true => allB r
    | false => false
def anyB : List Bool → Bool
  | [] => false
  | b :: r => match b with
    | true => true
    | false => anyB r
theorem allB_eq : ∀ bs : List Bool, bs.all id = allB bs
  | [] => rfl
  | b :: r => by rw [List.all_cons, allB_eq r]; cases b <;> rfl
theorem anyB_eq : ∀ bs : List Bool, bs.any id = anyB bs
  | [] => rfl
  | b :: r => by rw [List.any_cons, anyB_eq r]; cases b <;> rfl
def allD : CaD := fun M ds Q => oneQ ds fun d => match view M d with
  | .lst xs => someQ (blsD xs) fun bs => Q (.val (.bl (allB bs)))
  | _ => False
def anyD : CaD := fun M ds Q => oneQ ds fun d => match view M d with
  | .lst xs => someQ (blsD xs) fun bs => Q (.val (.bl (anyB bs)))
  | _ => False
theorem call_allL (hc : X.calm = true) : CallL X (.builtin "all") allD := by
  refine ⟨_, cr_all hc, fun w xs ds Qd Q o z h k => ?_⟩
  unfold allD at h
  obtain ⟨d, e0, h0⟩ := oneQ_e h
  subst e0
  obtain ⟨v, rfl, zv⟩ := z.one'
  generalize hx : view w.M d = cx at h0
  cases cx with
  | lst ys =>
    obtain ⟨a1, x1, rfl, p1, w1⟩ := see_lst o zv hx
    obtain ⟨bs, h1, h2⟩ := someQ_e h0
    have := blsD_V w1 h1
    subst this
    refine ⟨a1, bs, rfl, .inl (.inl p1), ?_⟩
    rw [allB_eq]
    exact k _ _ w h2 (.refl o) (.bl _)
  | _ => exact h0.elim
theorem call_anyL (hc : X.calm = true) : CallL X (.builtin "any") anyD := by
  refine ⟨_, cr_any hc, fun w xs ds Qd Q o z h k => ?_⟩
  unfold anyD at h
  obtain ⟨d, e0, h0⟩ := oneQ_e h
  subst e0
  obtain ⟨v, rfl, zv⟩ := z.one'
  generalize hx : view w.M d = cx at h0
  cases cx with
  | lst ys =>
    obtain ⟨a1, x1, rfl, p1, w1⟩ := see_lst o zv hx
    obtain ⟨bs, h1, h2⟩ := someQ_e h0
    have := blsD_V w1 h1
    subst this
    refine ⟨a1, bs, rfl, .inl (.inl p1), ?_⟩
    rw [anyB_eq]
    exact k _ _ w h2 (.refl o) (.bl _)
  | _ => exact h0.elim

/-! ### isinstance -/
/-- 0 None, 1 bool, 2 int, 3 str, 4 list, 5 tuple, 6 dict -/
def tyN : Nat → String
  | 0 => "NoneType"
  | 1 => "bool"
  | 2 => "int"
  | 3 => "str"
  | 4 => "list"
  | 5 => "tuple"
  | _ => "dict"
def tyD : D → Option Nat
  | .non => some 0
  | .bl _ => some 1
  | .int _ => some 2
  | .str _ => some 3
  | .lst _ => some 4
  | .tup _ => some 5
  | .wtup _ => some 5
  | .dct false _ => some 6
  | .dct true _ => some 6
  | _ => none
def isiN : Nat → Nat → Bool
  | 1, 2 => true
  | t, u => Nat.beq t u
theorem isiN_ok : ∀ t ≤ 6, ∀ u ≤ 6, kitB (tyN t) (tyN u) = some (isiN t u) := by decide +kernel
theorem tyD_le {d : D} {t : Nat} (h : tyD d = some t) : t ≤ 6 := by
  cases d <;> first | (cases h; decide) | (cases h; done) | skip
  rename_i b _
  cases b <;> (cases h; decide)
/-- a value's type, a dict that is walked too -/
def TyY (K : PySem.W.Frag) (H : Hp) (x : V) (t : Value) : Prop := TyX K H x t ∨ ∃ (a : Addr) (kvs : List (List Key × V)), x = .ref a ∧ Rd H a (.dT kvs) ∧ t = .type "dict"
theorem kitY {pins : List (Addr × Obj)} {σ : L2.St} {H : Hp} {s : Shared} {x : V} {u t : Value} (I : Inv X pins σ H s) (rx : RelV x u) (ty : TyY X.K H x t) : ∃ P : Heap → Prop, PySem.W.KitX X.K u t P ∧ P s.heap ∧ u ≠ .builtin "__main__.__loader__#opaque" := by
  rcases ty with ty | ⟨a, kvs, rfl, hd, rfl⟩
  · exact kit_of I rx ty
  · cases (show u = Value.ref a from rx)
    obtain ⟨_, _, xs, _, o, es, ep, h1, h2, _⟩ := (show ObjOk X.prog X.w H s.heap a (.dT kvs) from hd.ok I.hok)
    exact ⟨_, PySem.W.kitx_dict, ⟨o, h1, h2.1⟩, fun z => nomatch z⟩
theorem call_isY : CallR X (.builtin "isinstance") (fun xs H Q => ∃ (x c : V) (t u : Value) (b : Bool), xs = [x, c] ∧ ClsV c u ∧ TyY X.K H x t ∧ PySem.W.kitOne X.K t u = some b ∧ Q (.bl b) H) := by
  intro pins s σ H xs us Q I r h; obtain ⟨x, c, t, u, b, rfl, k, ty, e, q⟩ := h; obtain ⟨u1, u2, rfl, r1, r2⟩ := vals2 r; have e2 := k.eq r2; subst e2
  obtain ⟨P, Z, p, hx⟩ := kitY I r1 ty; exact PySem.W.kia_one Z I.kIn p e hx fun tk => ⟨.bl b, H, I.tok tk, rfl, q⟩
theorem call_isYT : CallR X (.builtin "isinstance") (fun xs H Q => ∃ (x : V) (tp : Addr) (cs : List V) (t : Value) (us : List Value) (b : Bool), xs = [x, .ref tp] ∧ H tp = some (.tup cs) ∧ Paired ClsV cs us ∧ TyY X.K H x t ∧ PySem.W.kitAny X.K t us = some b ∧ Q (.bl b) H) := by
  intro pins s σ H xs us Q I r h; obtain ⟨x, tp, cs, t, ws, b, rfl, hT, k, ty, e, q⟩ := h; obtain ⟨u1, u2, rfl, r1, r2⟩ := vals2 r; cases (show u2 = Value.ref tp from r2)
  obtain ⟨P, Z, p, hx⟩ := kitY I r1 ty; obtain ⟨_, its, rv, o, h1, h2, n, h3⟩ := (show ObjOk X.prog X.w H s.heap tp (.tup cs) from I.hok tp _ hT); have e3 := ClsV.all k rv
  subst e3; obtain ⟨oc, od, dt, sl⟩ := o; simp only at h2 h3; subst h2 h3
  exact PySem.W.kia_tup Z I.kIn p h1 e hx fun tk => ⟨.bl b, H, I.tok tk, rfl, q⟩
theorem tyX_of {G : Gx} {w : Wd} {v : V} {d : D} {t : Nat} (o : WOk G w) (z : Dp G.K w.C w.P v d) (h : tyD (view w.M d) = some t) : TyY G.K w.H v (.type (tyN t)) := by
  generalize hx : view w.M d = cx at h
  cases cx with
  | non => cases see_non o z hx; cases h; exact .inl (.base .non)
  | bl b => cases see_bl o z hx; cases h; exact .inl (.base (.bl b))
  | int b => cases see_int o z hx; cases h; exact .inl (.base (.int b))
  | str b => obtain ⟨rfl, _⟩ := see_str o z hx; cases h; exact .inl (.base (.str _))
  | lst ys => obtain ⟨a, xs, rfl, p, _⟩ := see_lst o z hx; cases h; exact .inl (.base (.lst p))
  | tup ys => obtain ⟨a, xs, rfl, _, p, _⟩ := see_tup o z hx; cases h; exact .inl (.base (.tup p))
  | wtup ys =>
    cases h
    have e1 := (see_wtup o z hx).1
    subst e1
    cases z with
    | wtup h1 _ =>
      rcases h1 with (h1 | ⟨o, h1⟩) | ⟨o, its, n, h1, h2, _⟩
      · cases h1
      · cases h1
      · exact .inl (.kTuple h1 h2)
    | con _ h => cases h
  | dct b kds =>
    obtain ⟨a, ho, rfl, h1, h2⟩ := see_dct o z hx
    have ht : t = 6 := by cases b <;> (cases h; rfl)
    subst ht
    generalize hu : unl ho = u at h2
    cases h2 with
    | dK _ _ _ =>
      rcases rd_unl h1 hu with q | ⟨od, q⟩
      · exact .inl (.base (.dK q))
      · exact .inl (.fDict q)
    | dT _ _ _ => exact .inr ⟨a, _, rfl, rd_unl h1 hu, rfl⟩
  | _ => cases h
def eIsi (T : Nat) (f : EV) : EV := fun δ M Q => f (frzE δ) M fun r M1 => someQ (tyD (view M1 r.d)) fun t => Q (.val (.bl (isiN t T))) M1
/-- a reading whose own things are read: back to the world ahead -/
theorem rd_run {w : Wd} {σ : L2.St} {δ : DEnv} {Q : VK} (R : Rep (gx X) w σ δ) (Qd : D → Mem → Prop) (h : f (frzE δ) w.M fun r M => Qd r.d M) (k : ∀ d v w', Qd d w.M → w'.M = w.M → WOk (gx X) w' → Dp X.K w'.C w'.P v d → Gr (gx X) rw w ⟨w.C, w.M, w.P, w'.H⟩ → Q v w'.H) : lift (gx X) false f σ w.H Q :=
  lift_d (w := ⟨w.C, w.M, tot w, w.H⟩) R.tot Qd h fun d v w' q g z => by
    have e2 : w'.M = w.M := (g.ro rfl).2.1
    rw [e2] at q
    exact k d v w' q e2 g.ok z (Gr.drop R g)
theorem q_isi {y : Str} (T : Nat) (ha : QE X false a f) (hm : X.mg "isinstance" = none) (hmT : X.mg y = none) (hv : bootBuiltins y = some (.type (tyN T))) (hT : T ≤ 6 := by decide) (hg : Gl X "isinstance" := by rfl) (hgT : Gl X y := by rfl)
    (hn : y ≠ "__name__" := by decide) (hdb : (y == ("__debug__" : Str)) = false := by decide) (hs : starEach [a, .Name y p2] X.env = (false, eval a X.env) :: starEach [.Name y p2] X.env := by rfl) :
    QE X rw (.Call (.Name "isinstance" p) [a, .Name y p2] [] pos) (eIsi T f) := by
  refine qe_of (pe_callB call_isY hg hm (by decide +kernel) (pa_cons ha.pe (pa_cons (pe_bltn (v := .ty (tyN T)) hgT hmT hv rfl hn hdb) pa_nil) hs) (he := hs)) fun w σ δ Qd Q R h k => ?_
  refine rd_run (rw := rw) R (fun d M => someQ (tyD (view M d)) fun t => Qd (.val (.bl (isiN t T))) M) h fun d v w' q e2 o z g => ?_
  obtain ⟨t, q1, q2⟩ := someQ_e q
  rw [← e2] at q1
  exact ⟨v, .ty (tyN T), .type (tyN t), .type (tyN T), isiN t T, rfl, .ty _, tyX_of o z q1, kit_ty (isiN_ok t (tyD_le q1) T hT), k _ _ ⟨w.C, w.M, w.P, w'.H⟩ q2 g (.bl _)⟩
/-- isinstance(x, (S, T)) -/
def eIsi2 (S T : Nat) (f : EV) : EV := fun δ M Q => f (frzE δ) M fun r M1 => someQ (tyD (view M1 r.d)) fun t => Q (.val (.bl (match isiN t S with | true => true | false => isiN t T))) M1
theorem q_isi2 {y z : Str} (S T : Nat) {p3 p4 : Pos} {n : Nat} (ha : QE X false a f) (hm : X.mg "isinstance" = none) (hmS : X.mg y = none) (hvS : bootBuiltins y = some (.type (tyN S))) (hmT : X.mg z = none) (hvT : bootBuiltins z = some (.type (tyN T))) (hS : S ≤ 6 := by decide) (hT : T ≤ 6 := by decide)
    (hg : Gl X "isinstance" := by rfl) (hgS : Gl X y := by rfl) (hgT : Gl X z := by rfl) (hnS : y ≠ "__name__" := by decide) (hdbS : (y == ("__debug__" : Str)) = false := by decide) (hnT : z ≠ "__name__" := by decide) (hdbT : (z == ("__debug__" : Str)) = false := by decide)
    (hs : starEach [a, .Tuple [.Name y p2, .Name z p3] n p4] X.env = (false, eval a X.env) :: starEach [.Tuple [.Name y p2, .Name z p3] n p4] X.env := by rfl) :
    QE X rw (.Call (.Name "isinstance" p) [a, .Tuple [.Name y p2, .Name z p3] n p4] [] pos) (eIsi2 S T f) := by
  refine qe_of (pe_callB call_isYT hg hm (by decide +kernel) (pa_cons ha.pe (pa_cons (pe_tup (pa_cons (pe_bltn (v := .ty (tyN S)) hgS hmS hvS rfl hnS hdbS) (pa_cons (pe_bltn (v := .ty (tyN T)) hgT hmT hvT rfl hnT hdbT) pa_nil))) pa_nil) hs) (he := hs)) fun w σ δ Qd Q R h k => ?_
  refine rd_run (rw := rw) R (fun d M => someQ (tyD (view M d)) fun t => Qd (.val (.bl (match isiN t S with | true => true | false => isiN t T))) M) h fun d v w' q e2 o z g => ?_
  obtain ⟨t, q1, q2⟩ := someQ_e q
  rw [← e2] at q1
  refine ⟨by show 2 ≤ sizeLine; decide, fun q hq => ?_⟩
  have gl := Gr.loose (p := q) (o := .tup [.ty (tyN S), .ty (tyN T)]) o hq
  refine ⟨v, q, [.ty (tyN S), .ty (tyN T)], .type (tyN t), [.type (tyN S), .type (tyN T)], (match isiN t S with | true => true | false => isiN t T), rfl, upd_same, .cons (.ty _) (.cons (.ty _) .nil), tyX_of (w := ⟨w'.C, w'.M, w'.P, upd w'.H q (.tup [.ty (tyN S), .ty (tyN T)])⟩) gl.ok z q1, ?_, ?_⟩
  · refine kitAny_cons (kit_ty (isiN_ok t (tyD_le q1) S hS)) (fun hf => ?_) fun ht => by rw [ht]
    rw [hf]
    exact kitAny_cons (kit_ty (isiN_ok t (tyD_le q1) T hT)) (fun hf => by rw [hf]; exact kitAny_nil) fun ht => ht
  · exact k _ _ ⟨w.C, w.M, w.P, _⟩ q2 (g.trans (Gr.loose g.ok hq).weak) (.bl _)

/-! ### truth, tests -/
def neL {α : Type} : List α → Bool
  | [] => false
  | _ :: _ => true
theorem ne_len {α β : Type} {xs : List α} {ys : List β} (h : xs.length = ys.length) : neL ys = !xs.isEmpty := by
  cases xs <;> cases ys <;> first | rfl | (simp at h)
def tru (M : Mem) (d : D) : Option Bool := match view M d with
  | .non => some false
  | .bl b => some b
  | .int i => some (i != 0)
  | .str y => match Nat.ble y.length 1000000 with
    | true => some (neL y)
    | false => none
  | .lst xs => some (neL xs)
  | .tup xs => some (neL xs)
  | .wtup xs => some (neL xs)
  | _ => none
theorem tru_V {G : Gx} {w : Wd} {v : V} {d : D} {k : Bool} (o : WOk G w) (z : Dp G.K w.C w.P v d) (h : tru w.M d = some k) : TruV G.K v w.H k := by
  unfold tru at h
  generalize hx : view w.M d = cx at h
  cases cx with
  | non => cases see_non o z hx; cases h; rfl
  | bl b => cases see_bl o z hx; cases h; rfl
  | int i => cases see_int o z hx; cases h; rfl
  | str x =>
    obtain ⟨rfl, _⟩ := see_str o z hx
    dsimp only at h
    cases e : Nat.ble x.length 1000000 with
    | true =>
      rw [e] at h
      cases h
      refine ⟨by rw [tx_len]; exact Nat.le_trans (Nat.le_of_ble_eq_true e) (by decide), ?_⟩
      rw [tx_len]
      cases x with
      | nil => rfl
      | cons a r =>
        show true = !decide (((a :: r).length : Int) = 0)
        simp
        omega
    | false => rw [e] at h; cases h
  | lst ys => obtain ⟨a, xs, rfl, p, u⟩ := see_lst o z hx; cases h; exact .inl ⟨_, .inl (.inl p), ne_len u.length⟩
  | tup ys => obtain ⟨a, xs, rfl, _, p, u⟩ := see_tup o z hx; cases h; exact .inr (.inl ⟨_, .inl (.inl p), ne_len u.length⟩)
  | wtup ys => obtain ⟨a, xs, rfl, p, u⟩ := (see_wtup o z hx).2; cases h; exact .inr (.inl ⟨_, p w.H, ne_len u.length⟩)
  | _ => cases h
def tE (f : EV) : TV := fun δ M Q => f (frzE δ) M fun r M1 => someQ (tru M1 r.d) fun k => Q k M1
theorem qt_of {t : TT} (h : PT X e t) (i : ∀ w σ δ (Qd : Bool → Mem → Prop) (Q : Bool → Hp → Prop), Rep (gx X) w σ δ → ft δ w.M Qd → (∀ c w', Qd c w'.M → Gr (gx X) rw w w' → Q c w'.H) → t σ w.H Q) : QT X rw e ft :=
  ⟨pt_imp h fun σ H Q ⟨w, δ, Qd, e, R, hf, k⟩ => by subst e; exact i w σ δ Qd Q R hf k⟩
theorem q_t (ha : QE X false a f) (he : ∀ whole, isTrue a X.env whole = (do let v ← whole; standAt a.pos; holding [v] (truthy v)) := by intro _; rfl) : QT X rw a (tE f) :=
  qt_of (pt_truth ha.pe he) fun w σ δ Qd Q R h k =>
    rd_run (rw := rw) R (fun d M => someQ (tru M d) fun c => Qd c M) h fun d v w' q e2 o z g => by
      obtain ⟨c, q1, q2⟩ := someQ_e q
      rw [← e2] at q1
      exact ⟨c, tru_V o z q1, k c ⟨w.C, w.M, w.P, w'.H⟩ q2 g⟩
/-- a comparison as a test: its value is a bool -/
def blQ (d : D) (q : Bool → Prop) : Prop := match d with
  | .bl b => q b
  | _ => False
theorem blQ_e {d : D} {q : Bool → Prop} (h : blQ d q) : ∃ b, d = .bl b ∧ q b := by
  cases d <;> first | exact ⟨_, rfl, h⟩ | exact h.elim
def tCmp (go : OpD) (fa fb : EV) : TV := fun δ M Q => eOp go fa fb (frzE δ) M fun r M1 => blQ r.d fun k => Q k M1
theorem q_tcmp {op : CmpOp} {go : OpD} (ho : OpL X (compareOp op) go) (ha : QE X false a fa) (hb : QE X false b fb) (hm : behindInMarks op b = false := by rfl) : QT X rw (.Compare a [op] [b] pos) (tCmp go fa fb) := by
  obtain ⟨r, h1, h2⟩ := ho
  refine qt_of (pt_cmpR h1 ha.pe hb.pe hm) fun w σ δ Qd Q R h k => ?_
  refine op_run (w := ⟨w.C, w.M, tot w, w.H⟩) h2 R.tot h fun rz v w' q g z => ?_
  obtain ⟨c, q1, q2⟩ := blQ_e q
  rw [show w'.M = w.M from (g.ro rfl).2.1] at q2
  obtain ⟨P2, g2, _, z2⟩ := z.frz g
  rw [q1] at z2
  exact ⟨c, Dp.bl' z2, k c ⟨w.C, w.M, w.P, w'.H⟩ q2 (Gr.drop R g)⟩
def notB (b : Bool) : Bool := match b with
  | true => false
  | false => true
def tNt (ft : TV) : TV := fun δ M Q => ft δ M fun c M1 => Q (notB c) M1
theorem notB_eq (b : Bool) : notB b = !b := by cases b <;> rfl
theorem q_tnot (ha : QT X rw a ft) : QT X rw (.UnaryOp .Not a pos) (tNt ft) :=
  qt_of (pt_not ha.pt) fun w σ δ Qd Q R h k => ⟨w, δ, _, rfl, R, h, fun c w' q g => by
    have q2 := k (notB c) w' q g
    rw [notB_eq] at q2
    exact q2⟩
structure QW (X : Cx) (rw : Bool) (e : Expr) (f : TV) : Prop where
  pw : PW X e (liftT (gx X) rw f)
theorem pw_imp {t t' : TT} (h : PW X e t) (i : ∀ σ H Q, t' σ H Q → t σ H Q) : PW X e t' := ⟨fun wh pins s σ H Q I q => h.run wh pins s σ H Q I (i σ H Q q)⟩
def tAn (ft fu : TV) : TV := fun δ M Q => ft δ M fun c M1 => IF c (fu δ M1 Q) (Q false M1)
def tO (ft fu : TV) : TV := fun δ M Q => ft δ M fun c M1 => IF c (Q true M1) (fu δ M1 Q)
theorem q_w (h : QW X rw e ft) : QT X rw e ft := ⟨h.pw.pt⟩
theorem q_wand1 (ha : QT X rw a ft) : QW X rw (.BoolOp .And [a] pos) ft := ⟨pw_and1 ha.pt⟩
theorem q_wor1 (ha : QT X rw a ft) : QW X rw (.BoolOp .Or [a] pos) ft := ⟨pw_or1 ha.pt⟩
theorem q_wand {rest : List Expr} (ha : QT X rw a ft) (hb : QW X rw (.BoolOp .And (b :: rest) pos) fu) : QW X rw (.BoolOp .And (a :: b :: rest) pos) (tAn ft fu) :=
  ⟨pw_imp (pw_and ha.pt hb.pw) fun σ H Q ⟨w, δ, Qd, e, R, h, k⟩ => by
    subst e
    refine ⟨w, δ, _, rfl, R, h, fun c w1 q g => ?_⟩
    cases c with
    | true => exact iteT ⟨w1, δ, Qd, rfl, R.mono g, q, fun c2 w2 q2 g2 => k c2 w2 q2 (g.trans g2)⟩
    | false => exact iteF (k false w1 q g)⟩
theorem q_wor {rest : List Expr} (ha : QT X rw a ft) (hb : QW X rw (.BoolOp .Or (b :: rest) pos) fu) : QW X rw (.BoolOp .Or (a :: b :: rest) pos) (tO ft fu) :=
  ⟨pw_imp (pw_or ha.pt hb.pw) fun σ H Q ⟨w, δ, Qd, e, R, h, k⟩ => by
    subst e
    refine ⟨w, δ, _, rfl, R, h, fun c w1 q g => ?_⟩
    cases c with
    | true => exact iteT (k true w1 q g)
    | false => exact iteF ⟨w1, δ, Qd, rfl, R.mono g, q, fun c2 w2 q2 g2 => k c2 w2 q2 (g.trans g2)⟩⟩
/-- a if t else b -/
def eIf (ft : TV) (fa fb : EV) : EV := fun δ M Q => ft δ M fun c M1 => IF c (fa δ M1 Q) (fb δ M1 Q)
theorem q_if (hc : QT X rw c ft) (ha : QE X rw a fa) (hb : QE X rw b fb) : QE X rw (.IfExp c a b pos) (eIf ft fa fb) := by
  refine qe_of (pe_ifExp hc.pt ha.pe hb.pe) fun w σ δ Qd Q R h k => ⟨w, δ, _, rfl, R, h, fun c w1 q g => ?_⟩
  cases c with
  | true => exact iteT ⟨w1, δ, Qd, rfl, R.mono g, q, fun r v w2 q2 g2 z2 => k r v w2 q2 (g.trans g2) (z2.back g)⟩
  | false => exact iteF ⟨w1, δ, Qd, rfl, R.mono g, q, fun r v w2 q2 g2 z2 => k r v w2 q2 (g.trans g2) (z2.back g)⟩
/-- values by truth -/
def eAnd (fa fb : EV) : EV := fun δ M Q => fa δ M fun x M1 => someQ (tru M1 x.d) fun k => IF k (fb δ M1 Q) (Q (.val x.d) M1)
def eOr (fa fb : EV) : EV := fun δ M Q => fa δ M fun x M1 => someQ (tru M1 x.d) fun k => IF k (Q (.val x.d) M1) (fb δ M1 Q)
def eNot (fa : EV) : EV := fun δ M Q => fa (frzE δ) M fun x M1 => someQ (tru M1 x.d) fun k => Q (.val (.bl (notB k))) M1
theorem q_one {op : BoolOp} (ha : QE X rw a fa) : QE X rw (.BoolOp op [a] pos) fa := ⟨pe_one ha.pe⟩
theorem q_and {rest : List Expr} (ha : QE X rw a fa) (hb : QE X rw (.BoolOp .And (b :: rest) pos) fb) : QE X rw (.BoolOp .And (a :: b :: rest) pos) (eAnd fa fb) := by
  refine qe_of (pe_andT ha.pe hb.pe) fun w σ δ Qd Q R h k => ?_
  refine lift_d R (fun d M1 => someQ (tru M1 d) fun c => IF c (fb δ M1 Qd) (Qd (.val d) M1)) h fun d v w1 q g z => ?_
  obtain ⟨c, q1, q2⟩ := someQ_e q
  refine ⟨c, tru_V g.ok z q1, ?_⟩
  cases c with
  | true => exact iteT ⟨w1, δ, Qd, rfl, R.mono g, q2, fun r v w2 q2 g2 z2 => k r v w2 q2 (g.trans g2) (z2.back g)⟩
  | false => exact iteF (k _ v w1 q2 g z)
theorem q_or {rest : List Expr} (ha : QE X rw a fa) (hb : QE X rw (.BoolOp .Or (b :: rest) pos) fb) : QE X rw (.BoolOp .Or (a :: b :: rest) pos) (eOr fa fb) := by
  refine qe_of (pe_orT ha.pe hb.pe) fun w σ δ Qd Q R h k => ?_
  refine lift_d R (fun d M1 => someQ (tru M1 d) fun c => IF c (Qd (.val d) M1) (fb δ M1 Qd)) h fun d v w1 q g z => ?_
  obtain ⟨c, q1, q2⟩ := someQ_e q
  refine ⟨c, tru_V g.ok z q1, ?_⟩
  cases c with
  | true => exact iteT (k _ v w1 q2 g z)
  | false => exact iteF ⟨w1, δ, Qd, rfl, R.mono g, q2, fun r v w2 q2 g2 z2 => k r v w2 q2 (g.trans g2) (z2.back g)⟩
theorem q_not (ha : QE X false a fa) : QE X rw (.UnaryOp .Not a pos) (eNot fa) :=
  qe_of (pe_notT ha.pe) fun w σ δ Qd Q R h k =>
    rd_run (rw := rw) R (fun d M => someQ (tru M d) fun c => Qd (.val (.bl (notB c))) M) h fun d v w' q e2 o z g => by
      obtain ⟨c, q1, q2⟩ := someQ_e q
      rw [← e2] at q1
      refine ⟨c, tru_V o z q1, ?_⟩
      rw [notB_eq] at q2
      exact k _ _ ⟨w.C, w.M, w.P, w'.H⟩ q2 g (.bl _)
def eNeg (fa : EV) : EV := fun δ M Q => fa δ M fun x M1 => intQ x.d fun i => Q (.val (.int (-i))) M1
theorem q_neg (ha : QE X rw a fa) : QE X rw (.UnaryOp .USub a pos) (eNeg fa) :=
  qe_of (pe_un un_neg ha.pe) fun w σ δ Qd Q R h k =>
    lift_d R (fun d M => intQ d fun i => Qd (.val (.int (-i))) M) h fun d v w' q g z => by
      obtain ⟨i, rfl, q2⟩ := intQ_e q
      cases z.int'
      exact ⟨i, rfl, k _ _ w' q2 g (.int _)⟩
/-! ### a < b < c -/
def eCh (g g' : OpD) (fa fb fc : EV) : EV := fun δ M Q => fa δ M fun x M1 => fb δ M1 fun y M2 => g M2 x.d y.d fun r => blQ r.d fun k => IF k (fc δ M2 fun z M3 => g' M3 y.d z.d fun r => Q r M3) (Q (.val (.bl false)) M2)
theorem chain_run {r r' : R2} {g g' : OpD} (h2 : OpW X r g) (h4 : OpW X r' g') {w : Wd} {σ : L2.St} {δ : DEnv} {Qd : Rz → Mem → Prop} {Q : VK} (R : Rep (gx X) w σ δ) (h : eCh g g' fa fb fc δ w.M Qd) (k : ∀ rz v w', Qd rz w'.M → Gr (gx X) rw w w' → RzOk (gx X) w w' rz v → Q v w'.H) :
    tChain r r' (lift (gx X) rw fa) (lift (gx X) rw fb) (lift (gx X) rw fc) σ w.H Q := by
  refine lift_d R (fun x M1 => fb δ M1 fun y M2 => g M2 x y.d fun r => blQ r.d fun k => IF k (fc δ M2 fun z M3 => g' M3 y.d z.d fun r => Qd r M3) (Qd (.val (.bl false)) M2)) h fun dx x w1 q1 g1 z1 => ?_
  refine lift_d (R.mono g1) (fun y M2 => g M2 dx y fun r => blQ r.d fun k => IF k (fc δ M2 fun z M3 => g' M3 y z.d fun r => Qd r M3) (Qd (.val (.bl false)) M2)) q1 fun dy y w2 q2 g2 z2 => ?_
  have g12 := g1.trans g2
  refine h2 w2 x y dx dy _ _ g2.ok (g2.dp z1) z2 q2 fun rz v w3 q3 g3 z3 => ?_
  obtain ⟨P2, g3', _, z3'⟩ := z3.frz g3
  obtain ⟨c, e3, q3⟩ := blQ_e q3
  rw [e3] at z3'
  have g13 := g12.trans g3.weak
  have eM : w3.M = w2.M := (g3.ro rfl).2.1
  refine ⟨c, Dp.bl' z3', ?_⟩
  cases c with
  | true =>
    refine iteT ?_
    have q3 : fc δ w2.M fun z M3 => g' M3 dy z.d fun r => Qd r M3 := q3
    rw [← eM] at q3
    refine lift_d (R.mono g13) (fun z M3 => g' M3 dy z fun r => Qd r M3) q3 fun dz z w4 q4 g4 z4 => ?_
    have g14 := g13.trans g4
    exact h4 w4 y z dy dz _ _ g4.ok (g4.dp (g3.dp z2)) z4 q4 fun rz v w5 q5 g5 z5 => k rz v w5 (by rw [(g5.ro rfl).2.1]; exact q5) (g14.trans g5.weak) (z5.back g14)
  | false =>
    have q3 : Qd (.val (.bl false)) w2.M := q3
    rw [← eM] at q3
    exact iteF (k _ _ w3 q3 g13 (.bl _))
theorem q_chain {op op' : CmpOp} {g g' : OpD} (ho : OpL X (compareOp op) g) (ho' : OpL X (compareOp op') g') (ha : QE X rw a fa) (hb : QE X rw b fb) (hc : QE X rw c fc) (hm : lastMarks [op, op'] [b, c] = false := by with_unfolding_all rfl) : QE X rw (.Compare a [op, op'] [b, c] pos) (eCh g g' fa fb fc) := by
  obtain ⟨r, h1, h2⟩ := ho
  obtain ⟨r', h3, h4⟩ := ho'
  exact qe_of (pe_chain h1 h3 ha.pe hb.pe hc.pe hm) fun w σ δ Qd Q R h k => chain_run h2 h4 R h k
def tCh (g g' : OpD) (fa fb fc : EV) : TV := fun δ M Q => eCh g g' fa fb fc (frzE δ) M fun r M1 => blQ r.d fun k => Q k M1
theorem q_tchain {op op' : CmpOp} {g g' : OpD} (ho : OpL X (compareOp op) g) (ho' : OpL X (compareOp op') g') (ha : QE X false a fa) (hb : QE X false b fb) (hc : QE X false c fc) (hm : lastMarks [op, op'] [b, c] = false := by with_unfolding_all rfl) : QT X rw (.Compare a [op, op'] [b, c] pos) (tCh g g' fa fb fc) := by
  obtain ⟨r, h1, h2⟩ := ho
  obtain ⟨r', h3, h4⟩ := ho'
  refine qt_of (pt_chain h1 h3 ha.pe hb.pe hc.pe hm) fun w σ δ Qd Q R h k => ?_
  refine chain_run (w := ⟨w.C, w.M, tot w, w.H⟩) h2 h4 R.tot h fun rz v w' q g z => ?_
  obtain ⟨c, q1, q2⟩ := blQ_e q
  rw [show w'.M = w.M from (g.ro rfl).2.1] at q2
  obtain ⟨P2, g2, _, z2⟩ := z.frz g
  rw [q1] at z2
  exact ⟨c, Dp.bl' z2, k c ⟨w.C, w.M, w.P, w'.H⟩ q2 (Gr.drop R g)⟩
end
end HI

namespace HI
open PySem PySem.Spec PyProof.Rows L2

/-! ### what is walked: the items, and the cell (with its content) that must stay meanwhile -/
abbrev Gd := Option (Nat × D)
def gOk (g : Gd) (M : Mem) : Prop := match g with
  | none => True
  | some (n, c) => M[n]? = some c
/-- the guard, then q -/
def gQ (g : Gd) (M : Mem) (q : Prop) : Prop := match g with
  | none => q
  | some (n, c) => M[n]? = some c ∧ q
theorem gQ_e {g : Gd} {M : Mem} {q : Prop} (h : gQ g M q) : gOk g M ∧ q := by
  cases g with
  | none => exact ⟨trivial, h⟩
  | some p => exact h
theorem gQ_i {g : Gd} {M : Mem} {q : Prop} (h : gOk g M) (k : q) : gQ g M q := by
  cases g with
  | none => exact k
  | some p => exact ⟨h, k⟩
abbrev IV := DEnv → Mem → (List D → Gd → Mem → Prop) → Prop
structure WalkD (G : Gx) (w0 : Wd) (J : It) (xs : List D) (gd : Gd) : Prop where
  go : ∀ w i, WOk G w → Same w0.P w.P → Pre w0.C w.C → gOk gd w.M → i < xs.length → J.go i w.H ∧ ∀ v H', J.yld i w.H v H' → ∃ w' d, w'.H = H' ∧ xs[i]? = some d ∧ Gr G false w w' ∧ Dp G.K w'.C w'.P v d
  stop : ∀ w, WOk G w → Same w0.P w.P → Pre w0.C w.C → gOk gd w.M → J.stop xs.length w.H
def liftI (G : Gx) (rw : Bool) (f : IV) : TI := fun σ H R => ∃ w δ Qd, w.H = H ∧ Rep G w σ δ ∧ f δ w.M Qd ∧ ∀ xs gd J w', Qd xs gd w'.M → Gr G rw w w' → WalkD G w' J xs gd → R J w'.H
structure QI (X : Cx) (rw : Bool) (tg e : Expr) (f : IV) : Prop where
  pi : PI X tg e (liftI (gx X) rw f)
theorem pi_imp {X : Cx} {tg e : Expr} {t t' : TI} (h : PI X tg e t) (i : ∀ σ H Q, t' σ H Q → t σ H Q) : PI X tg e t' := ⟨fun pins s σ H Q I q => h.run pins s σ H Q I (i σ H Q q)⟩
section
variable {X : Cx} {rw : Bool} {tg e a b : Expr} {f fa fb : EV} {fr : AV} {pos p : Pos}
theorem qi_of {t : TI} {f : IV} (h : PI X tg e t) (i : ∀ w σ δ (Qd : List D → Gd → Mem → Prop) (R : It → Hp → Prop), Rep (gx X) w σ δ → f δ w.M Qd → (∀ xs gd J w', Qd xs gd w'.M → Gr (gx X) rw w w' → WalkD (gx X) w' J xs gd → R J w'.H) → t σ w.H R) : QI X rw tg e f :=
  ⟨pi_imp h fun σ H Q ⟨w, δ, Qd, e, R, hf, k⟩ => by subst e; exact i w σ δ Qd Q R hf k⟩
/-- a list, a tuple or a text, by its value -/
theorem pi_seq {tl : TE} (hl : PE X e tl) : PI X tg e (fun σ H R => tl σ H fun x H1 => (∃ a, x = .ref a ∧ (∃ xs, SqL X.K H1 a xs) ∧ R (Itl X.K a) H1) ∨ (∃ a, x = .ref a ∧ (∃ xs, SqT X.K H1 a xs) ∧ R (Itt X.K a) H1) ∨ (∃ z, x = .str z ∧ R (Its z) H1)) := by
  refine ⟨fun pins s σ H R I h => ?_⟩
  refine thn (hl.run pins s σ H _ I h) fun v s1 ⟨x, H1, I1, r1, q1⟩ => ?_
  rcases q1 with ⟨a, e, ⟨xs, hq⟩, q⟩ | ⟨a, e, ⟨xs, hq⟩, q⟩ | ⟨x, ex, q⟩
  · subst e
    cases r1
    obtain ⟨its, rv, p, hz⟩ := I1.list hq
    refine wpAny_pyIter_list p.isList ?_
    refine ⟨s1.heap.objs.size, [s1.heap.objs.size], _, _, H1, rfl, I1.kept (t' := s1.toks) fun b o e => Heap.get?_push_of_some _ e, turn_list a _, ⟨_, Heap.get?_push_size _ rfl, rfl, rfl⟩, fun b hb => ?_, q⟩
    have e : b = s1.heap.objs.size := by simpa using hb
    subst e
    exact I1.fpOk (Nat.le_refl _) (I1.hok.fresh (Nat.le_refl _))
  · subst e
    cases r1
    obtain ⟨its, rv, p, hz⟩ := I1.tuple hq
    refine wpAny_pyIter_tuple (show s1.heap.IsTuple a its.toArray from p) ?_
    refine ⟨s1.heap.objs.size, [s1.heap.objs.size], _, _, H1, rfl, I1.kept (t' := s1.toks) fun b o e => Heap.get?_push_of_some _ e, turn_tuple a _, ⟨_, Heap.get?_push_size _ rfl, rfl, rfl⟩, fun b hb => ?_, q⟩
    have e : b = s1.heap.objs.size := by simpa using hb
    subst e
    exact I1.fpOk (Nat.le_refl _) (I1.hok.fresh (Nat.le_refl _))
  · subst ex
    obtain ⟨t, rfl⟩ := r1
    cases ha : x.cps.all (· < 128)
    · exact wpAny_pyIter_wide ha (pi_one (tk := s1.toks) I1 _ (turn_str _ x t "str_iterator" (.inr rfl)) ⟨_, Heap.get?_push_size _ rfl, rfl, rfl⟩ q)
    · exact wpAny_pyIter_ascii ha (pi_one (tk := s1.toks) I1 _ (turn_str _ x t "str_ascii_iterator" (.inl rfl)) ⟨_, Heap.get?_push_size _ rfl, rfl, rfl⟩ q)
def chs : List Nat → List D
  | [] => []
  | c :: r => .str [c] :: chs r
theorem chs_map (z : List Nat) : chs z = z.map fun c => .str [c] := by
  induction z with
  | nil => rfl
  | cons c r ih => rw [chs, ih]; rfl
/-- the items of a container, and its guard -/
def seqD (M : Mem) (d : D) : Option (List D × Gd) := match d with
  | .lst xs => some (xs, none)
  | .tup xs => some (xs, none)
  | .wtup xs => some (xs, none)
  | .str z => some (chs z, none)
  | .cell n => match M[n]? with
    | some (.lst xs) => some (xs, some (n, .lst xs))
    | _ => none
  | _ => none
def iSeq (f : EV) : IV := fun δ M Q => f δ M fun r M1 => someQ (seqD M1 r.d) fun p => Q p.1 p.2 M1
theorem walk_at {G : Gx} {w0 : Wd} {J : It} {vs : List V} {ds : List D} {gd : Gd} (hz : ∀ w, WOk G w → Same w0.P w.P → Pre w0.C w.C → gOk gd w.M → ∃ vs, DpA G.K w.C w.P vs ds ∧ (∀ i v, vs[i]? = some v → J.go i w.H) ∧ (∀ i v H', J.yld i w.H v H' → H' = w.H ∧ vs[i]? = some v) ∧ J.stop vs.length w.H) : WalkD G w0 J ds gd := by
  refine ⟨fun w i o p c g hi => ?_, fun w o p c g => ?_⟩
  · obtain ⟨vs, z, h1, h2, h3⟩ := hz w o p c g
    have hi' : i < vs.length := by rw [z.length]; exact hi
    refine ⟨h1 i vs[i] (by simp [hi']), fun v H' y => ?_⟩
    obtain ⟨rfl, h⟩ := h2 i v H' y
    obtain ⟨d, k1, k2⟩ := z.get' h
    exact ⟨w, d, rfl, k1, .refl o, k2⟩
  · obtain ⟨vs, z, h1, h2, h3⟩ := hz w o p c g
    rw [← z.length]
    exact h3
theorem q_seq (he : QE X rw e f) : QI X rw tg e (iSeq f) := by
  refine qi_of (pi_seq he.pe) fun w σ δ Qd R Rp h k => ?_
  refine lift_d Rp (fun d M => someQ (seqD M d) fun p => Qd p.1 p.2 M) h fun d v w' q g z => ?_
  obtain ⟨⟨xs, gd⟩, q1, q2⟩ := someQ_e q
  cases d with
  | lst ds =>
    cases q1
    obtain ⟨a1, x1, rfl, p1, w1⟩ := see_lst g.ok z rfl
    refine .inl ⟨a1, rfl, ⟨x1, .inl (.inl p1)⟩, k _ _ _ w' q2 g ?_⟩
    refine walk_at (vs := x1) fun w2 o p c _ => ?_
    obtain ⟨a2, x2, e2, p2, w2'⟩ := see_lst (d := .lst xs) o (z.mono c p) rfl
    cases e2
    exact ⟨x2, w2', fun i v hv => ⟨x2, v, .inl (.inl p2), hv⟩, fun i v H' y => ⟨y.1, y.2 _ (.inl (.inl p2))⟩, ⟨x2, .inl (.inl p2), Nat.le_refl _⟩⟩
  | tup ds =>
    cases q1
    obtain ⟨a1, x1, rfl, _, p1, w1⟩ := see_tup g.ok z rfl
    refine .inr (.inl ⟨a1, rfl, ⟨x1, .inl (.inl p1)⟩, k _ _ _ w' q2 g ?_⟩)
    refine walk_at (vs := x1) fun w2 o p c _ => ?_
    obtain ⟨a2, x2, e2, _, p2, w2'⟩ := see_tup (d := .tup xs) o (z.mono c p) rfl
    cases e2
    exact ⟨x2, w2', fun i v hv => ⟨x2, v, .inl (.inl p2), hv⟩, fun i v H' y => ⟨y.1, y.2 _ (.inl (.inl p2))⟩, ⟨x2, .inl (.inl p2), Nat.le_refl _⟩⟩
  | wtup ds =>
    cases q1
    obtain ⟨a1, x1, rfl, p1, w1⟩ := (see_wtup g.ok z rfl).2
    refine .inr (.inl ⟨a1, rfl, ⟨x1, p1 w'.H⟩, k _ _ _ w' q2 g ?_⟩)
    refine walk_at (vs := x1) fun w2 o p c _ => ⟨x1, w1.mono c p, fun i v hv => ⟨x1, v, p1 w2.H, hv⟩, fun i v H' y => ⟨y.1, y.2 _ (p1 w2.H)⟩, ⟨x1, p1 w2.H, Nat.le_refl _⟩⟩
  | str s =>
    cases q1
    obtain ⟨rfl, hv⟩ := z.str'
    refine .inr (.inr ⟨tx s, rfl, k _ _ _ w' q2 g ⟨fun w2 i o p c _ hi => ?_, fun w2 o p c _ => ?_⟩⟩)
    · rw [chs_map, List.length_map] at hi
      have hi' : i < (tx s).cps.size := by show i < s.toArray.size; simpa using hi
      refine ⟨hi', fun v H' y => ?_⟩
      obtain ⟨rfl, c, hc, rfl⟩ := y
      have hc' : s[i]? = some c := by
        rw [← Array.getElem?_toList, tx_cps] at hc
        exact hc
      refine ⟨w2, .str [c], rfl, ?_, .refl o, .str [c] fun q hq => ?_⟩
      · rw [chs_map, List.getElem?_map, hc']
        rfl
      · rw [List.mem_singleton] at hq
        subst hq
        exact hv _ (List.mem_of_getElem? hc')
    · show (tx s).cps.size ≤ (chs s).length
      rw [chs_map, List.length_map]
      show s.toArray.size ≤ s.length
      simp
  | cell n =>
    have q1 : (match w'.M[n]? with | some (.lst xs) => some (xs, some (n, D.lst xs)) | _ => none) = some (xs, gd) := q1
    obtain ⟨a, rfl, ha⟩ := z.cell'
    obtain ⟨c, h1, h2, h3⟩ := g.ok.at ha
    rw [h1] at q1
    cases c with
    | lst ds =>
      cases q1
      have hv : ∀ w2 : Wd, WOk (gx X) w2 → Pre w'.C w2.C → w2.M[n]? = some (.lst xs) → ∃ x2, w2.H a = some (.lst x2) ∧ DpA X.K w2.C w2.P x2 xs := fun w2 o c gm => by
        obtain ⟨_, ho, e1, e2⟩ := o.cell n a (.lst xs) (c.at ha) gm
        cases e2 with
        | lst e2 => exact ⟨_, e1, e2⟩
      obtain ⟨x1, p1, _⟩ := hv w' g.ok (Pre.refl _) h1
      refine .inl ⟨a, rfl, ⟨x1, .inl (.inl p1)⟩, k _ _ _ w' q2 g ?_⟩
      refine walk_at (vs := x1) fun w2 o p c gm => ?_
      obtain ⟨x2, p2, w2'⟩ := hv w2 o c gm
      exact ⟨x2, w2', fun i v hv => ⟨x2, v, .inl (.inl p2), hv⟩, fun i v H' y => ⟨y.1, y.2 _ (.inl (.inl p2))⟩, ⟨x2, .inl (.inl p2), Nat.le_refl _⟩⟩
    | _ => cases q1
  | _ => cases q1
/-- range(n), range(a, b) -/
def rngN (lo : Int) : Nat → Nat → List D
  | 0, _ => []
  | n + 1, i => .int (lo + (i : Nat)) :: rngN lo n (i + 1)
def rngD (lo : Int) (n : Nat) : List D := (List.range n).map fun i => .int (lo + (i : Nat))
theorem rng_len (a : Int) (n : Nat) : (rngD a n).length = n := by unfold rngD; rw [List.length_map, List.length_range]
def bnd (i : Int) (q : Prop) : Prop := (-1000000000 ≤ i ∧ i ≤ 1000000000) ∧ q
def iRg1 (f : EV) : IV := fun δ M Q => f δ M fun r M1 => intQ r.d fun j => bnd j (Q (rngD 0 j.toNat) none M1)
def iRg2 (fa fb : EV) : IV := fun δ M Q => fa δ M fun x M1 => fb δ M1 fun y M2 => intQ x.d fun i => intQ y.d fun j => bnd i (bnd j (Q (rngD i (j - i).toNat) none M2))
theorem walk_rng {G : Gx} {w0 : Wd} {lo : Int} {n : Nat} : WalkD G w0 (Itr lo n) (rngD lo n) none := by
  refine ⟨fun w i o p c _ hi => ?_, fun w o p c _ => ?_⟩
  · rw [rng_len] at hi
    refine ⟨hi, fun v H' y => ?_⟩
    obtain ⟨rfl, rfl⟩ := y
    refine ⟨w, .int (lo + i), rfl, ?_, .refl o, .int _⟩
    unfold rngD
    rw [List.getElem?_map, List.getElem?_range hi]
    rfl
  · show n ≤ (rngD lo n).length
    rw [rng_len]
    exact Nat.le_refl _
theorem q_rg1 (ha : QE X rw a f) (hm : X.mg "range" = none) (hg : Gl X "range" := by rfl) (hs : starEach [a] X.env = [(false, eval a X.env)] := by rfl) : QI X rw tg (.Call (.Name "range" p) [a] [] pos) (iRg1 f) := by
  refine qi_of (pi_range1 hg hm (pa_cons ha.pe pa_nil hs) (hs := hs)) fun w σ δ Qd R Rp h k => ?_
  refine lift_d Rp (fun d M1 => intQ d fun j => bnd j (Qd (rngD 0 j.toNat) none M1)) h fun d v w' q g z => ?_
  obtain ⟨j, rfl, ⟨q2, q3⟩, q4⟩ := intQ_e q
  cases z.int'
  exact ⟨j, rfl, by omega, by omega, k _ _ _ w' q4 g walk_rng⟩
theorem q_rg2 (ha : QE X rw a fa) (hb : QE X rw b fb) (hm : X.mg "range" = none) (hg : Gl X "range" := by rfl) (hs : starEach [a, b] X.env = (false, eval a X.env) :: starEach [b] X.env := by rfl) (hs2 : starEach [b] X.env = [(false, eval b X.env)] := by rfl) (hpl : (backTo pos (starEach [b] X.env)).any (·.1) = false := by rfl) : QI X rw tg (.Call (.Name "range" p) [a, b] [] pos) (iRg2 fa fb) := by
  refine qi_of (pi_range2 hg hm (pa_cons ha.pe (pa_cons hb.pe pa_nil hs2) hs) (hs := hs.trans (by rw [hs2])) (hs2 := hs2)) fun w σ δ Qd R Rp h k => ?_
  dsimp only [iRng2, tCons, tNil]
  refine lift_d Rp (fun x M1 => fb δ M1 fun y M2 => intQ x fun i => intQ y.d fun j => bnd i (bnd j (Qd (rngD i (j - i).toNat) none M2))) h fun d v w1 q g1 z1 => ?_
  refine lift_d (Rp.mono g1) (fun y M2 => intQ d fun i => intQ y fun j => bnd i (bnd j (Qd (rngD i (j - i).toNat) none M2))) q fun d2 v2 w2 q2 g2 z2 => ?_
  obtain ⟨i, e1, q3⟩ := intQ_e q2
  obtain ⟨j, e2, ⟨h1, h2⟩, ⟨h3, h4⟩, q7⟩ := intQ_e q3
  subst e1
  subst e2
  cases z1.int'
  cases z2.int'
  exact ⟨i, j, rfl, ⟨by omega, by omega, by omega, by omega⟩, k _ _ _ w2 q7 (g1.trans g2) walk_rng⟩
/-- zip of two lists, of two tuples -/
def zipD : List D → List D → List D
  | x :: xs, y :: ys => .tup [x, y] :: zipD xs ys
  | _, _ => []
theorem zipD_eq : ∀ xs ys : List D, zipD xs ys = (xs.zip ys).map fun p => .tup [p.1, p.2]
  | [], ys => by simp [zipD]
  | x :: xs, [] => by simp [zipD]
  | x :: xs, y :: ys => by rw [zipD, zipD_eq xs ys]; rfl
def zpD (M : Mem) (x y : D) : Option (List D × Gd) := match x, y with
  | .lst xs, .lst ys => some (zipD xs ys, none)
  | .tup xs, .tup ys => some (zipD xs ys, none)
  | .cell n, .lst ys => match M[n]? with
    | some (.lst xs) => some (zipD xs ys, some (n, .lst xs))
    | _ => none
  | _, _ => none
def iZp (fa fb : EV) : IV := fun δ M Q => fa δ M fun x M1 => fb δ M1 fun y M2 => someQ (zpD M2 x.d y.d) fun p => Q p.1 p.2 M2
theorem walk_zp {G : Gx} {w0 : Wd} {J : It} {ds es : List D} {gd : Gd} (hz : ∀ w, WOk G w → Same w0.P w.P → Pre w0.C w.C → gOk gd w.M → ∃ vs us, DpA G.K w.C w.P vs ds ∧ DpA G.K w.C w.P us es ∧ (∀ i v u, vs[i]? = some v → us[i]? = some u → J.go i w.H) ∧
    (∀ i v H', J.yld i w.H v H' → ∃ T x y, v = .ref T ∧ w.H T = none ∧ H' = upd w.H T (.tup [x, y]) ∧ vs[i]? = some x ∧ us[i]? = some y) ∧ ∀ i, (vs.length ≤ i ∨ us.length ≤ i) → J.stop i w.H) : WalkD G w0 J (zipD ds es) gd := by
  have hl : (zipD ds es).length = min ds.length es.length := by
    rw [zipD_eq, List.length_map, List.length_zip]
  refine ⟨fun w i o p c g hi => ?_, fun w o p c g => ?_⟩
  · obtain ⟨vs, us, z, y, hgo, hy, hst⟩ := hz w o p c g
    rw [hl] at hi
    have h1 : i < vs.length := by rw [z.length]; omega
    have h2 : i < us.length := by rw [y.length]; omega
    refine ⟨hgo i vs[i] us[i] (by simp [h1]) (by simp [h2]), fun v H' yy => ?_⟩
    obtain ⟨T, x, u, rfl, hT, rfl, g1, g2⟩ := hy i v H' yy
    obtain ⟨d1, k1, k2⟩ := z.get' g1
    obtain ⟨d2, l1, l2⟩ := y.get' g2
    obtain ⟨g3, z3⟩ := tup_ok (Gr.refl (rw := false) o) hT (.cons k2 (.cons l2 .nil))
    refine ⟨_, .tup [d1, d2], ?_, ?_, g3, z3⟩
    · rfl
    · rw [zipD_eq, List.getElem?_map]
      have hz : (ds.zip es)[i]? = some (d1, d2) := List.getElem?_zip_eq_some.mpr ⟨k1, l1⟩
      rw [hz]
      rfl
  · obtain ⟨vs, us, z, y, hgo, hy, hst⟩ := hz w o p c g
    exact hst _ (by rw [hl, z.length, y.length]; omega)
theorem q_zp {elts : List Expr} {kk : Nat} {tpos : Pos} (ha : QE X rw a fa) (hb : QE X rw b fb) (hm : X.mg "zip" = none) (hg : Gl X "zip" := by rfl) (hs : starEach [a, b] X.env = (false, eval a X.env) :: starEach [b] X.env := by rfl) (hs2 : starEach [b] X.env = [(false, eval b X.env)] := by rfl) (hpl : (backTo pos (starEach [b] X.env)).any (·.1) = false := by rfl) :
    QI X rw (.Tuple elts kk tpos) (.Call (.Name "zip" p) [a, b] [] pos) (iZp fa fb) := by
  refine qi_of (RZ.pi_zipA hg hm (pa_cons ha.pe (pa_cons hb.pe pa_nil hs2) hs) hs hpl) fun w σ δ Qd R Rp h k => ?_
  dsimp only [RZ.iZipA, tCons, tNil]
  refine lift_d Rp (fun x M1 => fb δ M1 fun y M2 => someQ (zpD M2 x y.d) fun p => Qd p.1 p.2 M2) h fun d v w1 q g1 z1 => ?_
  refine lift_d (Rp.mono g1) (fun y M2 => someQ (zpD M2 d y) fun p => Qd p.1 p.2 M2) q fun d2 v2 w2 q2 g2 z2 => ?_
  obtain ⟨zs, q1, q2⟩ := someQ_e q2
  have zx := g2.dp z1
  have g := g1.trans g2
  cases d with
  | lst xs =>
    cases d2 with
    | lst ys =>
      cases q1
      obtain ⟨a1, x1, rfl, p1, u1⟩ := see_lst g.ok zx rfl
      obtain ⟨a2, x2, rfl, p2, u2⟩ := see_lst g.ok z2 rfl
      refine ⟨a1, a2, x1, x2, rfl, .inl ⟨.inl (.inl p1), .inl (.inl p2), k _ _ _ w2 q2 g ?_⟩⟩
      refine walk_zp fun w3 o p c _ => ?_
      obtain ⟨b1, y1, e1, r1, t1⟩ := see_lst (d := .lst xs) o (zx.mono c p) rfl
      obtain ⟨b2, y2, e2, r2, t2⟩ := see_lst (d := .lst ys) o (z2.mono c p) rfl
      cases e1
      cases e2
      refine ⟨y1, y2, t1, t2, fun i v u h1 h2 => ⟨y1, y2, v, u, .inl (.inl r1), .inl (.inl r2), h1, h2⟩, fun i v H' y => ?_, fun i hi => ⟨y1, y2, .inl (.inl r1), .inl (.inl r2), hi⟩⟩
      obtain ⟨T, x, w, h1, h2, h3, h4, h5⟩ := y
      exact ⟨T, x, w, h1, h2, h3, h4 _ (.inl (.inl r1)), h5 _ (.inl (.inl r2))⟩
    | _ => cases q1
  | cell n =>
    cases d2 with
    | lst ys =>
      have q1 : (match w2.M[n]? with | some (.lst xs) => some (zipD xs ys, some (n, D.lst xs)) | _ => none) = some zs := q1
      obtain ⟨a, rfl, ha⟩ := zx.cell'
      obtain ⟨c, h1, h2, h3⟩ := g.ok.at ha
      rw [h1] at q1
      cases c with
      | lst xs =>
        cases q1
        have hv : ∀ w3 : Wd, WOk (gx X) w3 → Pre w2.C w3.C → w3.M[n]? = some (.lst xs) → ∃ x2, w3.H a = some (.lst x2) ∧ DpA X.K w3.C w3.P x2 xs := fun w3 o c gm => by
          obtain ⟨_, ho, e1, e2⟩ := o.cell n a (.lst xs) (c.at ha) gm
          cases e2 with
          | lst e2 => exact ⟨_, e1, e2⟩
        obtain ⟨x1, p1, _⟩ := hv w2 g.ok (Pre.refl _) h1
        obtain ⟨a2, x2, rfl, p2, u2⟩ := see_lst g.ok z2 rfl
        refine ⟨a, a2, x1, x2, rfl, .inl ⟨.inl (.inl p1), .inl (.inl p2), k _ _ _ w2 q2 g ?_⟩⟩
        refine walk_zp fun w3 o p c gm => ?_
        obtain ⟨y1, r1, t1⟩ := hv w3 o c gm
        obtain ⟨b2, y2, e2, r2, t2⟩ := see_lst (d := .lst ys) o (z2.mono c p) rfl
        cases e2
        refine ⟨y1, y2, t1, t2, fun i v u h1 h2 => ⟨y1, y2, v, u, .inl (.inl r1), .inl (.inl r2), h1, h2⟩, fun i v H' y => ?_, fun i hi => ⟨y1, y2, .inl (.inl r1), .inl (.inl r2), hi⟩⟩
        obtain ⟨T, x, w, h1, h2, h3, h4, h5⟩ := y
        exact ⟨T, x, w, h1, h2, h3, h4 _ (.inl (.inl r1)), h5 _ (.inl (.inl r2))⟩
      | _ => cases q1
    | _ => cases q1
  | tup xs =>
    cases d2 with
    | tup ys =>
      cases q1
      obtain ⟨a1, x1, rfl, _, p1, u1⟩ := see_tup g.ok zx rfl
      obtain ⟨a2, x2, rfl, _, p2, u2⟩ := see_tup g.ok z2 rfl
      refine ⟨a1, a2, x1, x2, rfl, .inr ⟨.inl (.inl p1), .inl (.inl p2), k _ _ _ w2 q2 g ?_⟩⟩
      refine walk_zp fun w3 o p c _ => ?_
      obtain ⟨b1, y1, e1, _, r1, t1⟩ := see_tup (d := .tup xs) o (zx.mono c p) rfl
      obtain ⟨b2, y2, e2, _, r2, t2⟩ := see_tup (d := .tup ys) o (z2.mono c p) rfl
      cases e1
      cases e2
      refine ⟨y1, y2, t1, t2, fun i v u h1 h2 => ⟨y1, y2, v, u, .inl (.inl r1), .inl (.inl r2), h1, h2⟩, fun i v H' y => ?_, fun i hi => ⟨y1, y2, .inl (.inl r1), .inl (.inl r2), hi⟩⟩
      obtain ⟨T, x, w, h1, h2, h3, h4, h5⟩ := y
      exact ⟨T, x, w, h1, h2, h3, h4 _ (.inl (.inl r1)), h5 _ (.inl (.inl r2))⟩
    | _ => cases q1
  | _ => cases d2 <;> cases q1
end
end HI

namespace HI
open PySem L2

/-! ### targets -/
inductive Tg where
  | one (i : Nat) | tup (ts : List Tg)
mutual
def Tg.set : Tg → D → DEnv → Option DEnv
  | .one i, d, δ => some (List.set δ i (.val d))
  | .tup ts, d, δ => match d with
    | .tup ds => Tg.setA ts ds δ
    | _ => none
def Tg.setA : List Tg → List D → DEnv → Option DEnv
  | [], [], δ => some δ
  | t :: ts, d :: ds, δ => match Tg.set t d δ with
    | some δ' => Tg.setA ts ds δ'
    | none => none
  | _, _, _ => none
end
mutual
def Tg.g (K : PySem.W.Frag) : Tg → TG
  | .one i => gName i
  | .tup ts => gTup K ts.length (Tg.gA K ts)
def Tg.gA (K : PySem.W.Frag) : List Tg → TGs
  | [] => gNil
  | t :: ts => gCons (Tg.g K t) (Tg.gA K ts)
end
mutual
def Tg.ix : Tg → List Nat
  | .one i => [i]
  | .tup ts => Tg.ixA ts
def Tg.ixA : List Tg → List Nat
  | [] => []
  | t :: ts => Tg.ix t ++ Tg.ixA ts
end
/-- bind, then q -/
def Tg.bind (t : Tg) (d : D) (δ : DEnv) (q : DEnv → Prop) : Prop := someQ (t.set d δ) q
structure QG (X : Cx) (e : Expr) (t : Tg) : Prop where
  pg : PG X e (t.g X.K)
structure QGs (X : Cx) (es : List Expr) (ts : List Tg) : Prop where
  pgs : PGs X es (Tg.gA X.K ts)
  len : es.length = ts.length
section
variable {X : Cx} {pos : Pos}
theorem q_name {i : Nat} {x : Str} (hN : X.N.Nodup) (hi : X.N[i]? = some x := by rfl) (hx : Loc X.env.scope x := by first | exact Or.inl rfl | exact Or.inr rfl) (hf : X.fn x = true ∨ X.env.scope.names.lookup x = some .local := by first | exact .inl rfl | exact .inr rfl | assumption) : QG X (.Name x pos) (.one i) := ⟨by rw [Tg.g]; exact pg_name hN hi hx hf⟩
theorem q_gnil : QGs X [] [] := ⟨by rw [Tg.gA]; exact pgs_nil, rfl⟩
theorem q_gcons {e : Expr} {es : List Expr} {t : Tg} {ts : List Tg} (h1 : QG X e t) (h2 : QGs X es ts) (hs : (assignEach (e :: es) X.env).map (·.2) = assign e X.env :: (assignEach es X.env).map (·.2) := by rfl) : QGs X (e :: es) (t :: ts) := ⟨by rw [Tg.gA]; exact pgs_cons h1.pg h2.pgs hs, by rw [List.length_cons, List.length_cons, h2.len]⟩
theorem q_gtup {es : List Expr} {n : Nat} {ts : List Tg} (h : QGs X es ts) (hc : X.calm = true := by rfl) (hn : (assignEach es X.env).length = ts.length := by rfl) (hst : (assignEach es X.env).findIdx? (·.1) = none := by rfl) : QG X (.Tuple es n pos) (.tup ts) :=
  ⟨by rw [Tg.g]; exact pg_tup hc h.pgs hn hst⟩
end
theorem set_back {δ : DEnv} {i : Nat} {x : Sl} (j : Nat) (s : Sl) (h : (δ.set i x)[j]? = some s) : (i = j ∧ s = x ∧ j < δ.length) ∨ (i ≠ j ∧ δ[j]? = some s) := by
  by_cases e : i = j
  · subst e
    by_cases hi : i < δ.length
    · rw [List.getElem?_set_self hi] at h
      exact .inl ⟨rfl, (Option.some.inj h).symm, hi⟩
    · rw [List.getElem?_eq_none (by rw [List.length_set]; omega)] at h
      cases h
  · rw [List.getElem?_set_ne e] at h
    exact .inr ⟨e, h⟩
section
variable {G : Gx} {w : Wd} {σ : L2.St} {δ : DEnv}
/-- the slots of plain values, changed -/
theorem Rep.set_val {v : V} {d : D} (R : Rep G w σ δ) (i : Nat) (z : Dp G.K w.C w.P v d) : Rep G w (σ.set i (some v)) (δ.set i (.val d)) := by
  have hl := R.len
  refine ⟨R.ok, fun j d' h => ?_, fun j d' h => ?_, fun j k d' e l h1 h2 h3 h4 => ?_, by rw [List.length_set, List.length_set]; exact hl⟩
  · rcases set_back j _ h with ⟨rfl, e, hj⟩ | ⟨ne, h⟩
    · cases e
      exact ⟨v, by rw [List.getElem?_set_self (by omega)], z⟩
    · obtain ⟨v', h1, h2⟩ := R.val j d' h
      exact ⟨v', by rw [List.getElem?_set_ne ne]; exact h1, h2⟩
  · rcases set_back j _ h with ⟨rfl, e, hj⟩ | ⟨ne, h⟩
    · cases e
    · obtain ⟨l, h1, h2⟩ := R.own j d' h
      exact ⟨l, by rw [List.getElem?_set_ne ne]; exact h1, h2⟩
  · rcases set_back j _ h1 with ⟨_, e, _⟩ | ⟨n1, h1⟩
    · cases e
    rcases set_back k _ h2 with ⟨_, e, _⟩ | ⟨n2, h2⟩
    · cases e
    rw [List.getElem?_set_ne n1] at h3
    rw [List.getElem?_set_ne n2] at h4
    exact R.sep j k d' _ l h1 h2 h3 h4
theorem Rep.set_no (R : Rep G w σ δ) (i : Nat) (s : Option V) : Rep G w (σ.set i s) (δ.set i .no) := by
  have hl := R.len
  refine ⟨R.ok, fun j d' h => ?_, fun j d' h => ?_, fun j k d' e l h1 h2 h3 h4 => ?_, by rw [List.length_set, List.length_set]; exact hl⟩
  · rcases set_back j _ h with ⟨_, e, _⟩ | ⟨ne, h⟩
    · cases e
    · obtain ⟨v', h1, h2⟩ := R.val j d' h
      exact ⟨v', by rw [List.getElem?_set_ne ne]; exact h1, h2⟩
  · rcases set_back j _ h with ⟨_, e, _⟩ | ⟨ne, h⟩
    · cases e
    · obtain ⟨l, h1, h2⟩ := R.own j d' h
      exact ⟨l, by rw [List.getElem?_set_ne ne]; exact h1, h2⟩
  · rcases set_back j _ h1 with ⟨_, e, _⟩ | ⟨n1, h1⟩
    · cases e
    rcases set_back k _ h2 with ⟨_, e, _⟩ | ⟨n2, h2⟩
    · cases e
    rw [List.getElem?_set_ne n1] at h3
    rw [List.getElem?_set_ne n2] at h4
    exact R.sep j k d' _ l h1 h2 h3 h4
/-- what binding leaves -/
structure Bnd (G : Gx) (w : Wd) (ix : List Nat) (σ σ' : L2.St) (δ δ' : DEnv) : Prop where
  rep : Rep G w σ' δ'
  out : ∀ j, j ∉ ix → σ'[j]? = σ[j]?
  own : ∀ (j : Nat) (d : D), δ'[j]? = some (Sl.own d) → δ[j]? = some (Sl.own d) ∧ j ∉ ix
mutual
theorem Tg.ok : ∀ {t : Tg} {v : V} {d : D} {σ : L2.St} {δ δ' : DEnv} {Q : L2.St → Hp → Prop}, Dp G.K w.C w.P v d → Rep G w σ δ → t.set d δ = some δ' → (∀ σ', Bnd G w t.ix σ σ' δ δ' → Q σ' w.H) → t.g G.K v σ w.H Q
  | .one i, v, d, σ, δ, δ', Q, z, R, h, k => by
    rw [Tg.set] at h
    cases h
    rw [Tg.g]
    refine k _ ⟨R.set_val i z, fun j hj => ?_, fun j d' hd => ?_⟩
    · rw [Tg.ix] at hj
      rw [List.getElem?_set_ne (fun e => hj (by rw [e]; exact List.mem_cons_self))]
    · rcases set_back j _ hd with ⟨_, e, _⟩ | ⟨ne, hd⟩
      · cases e
      · refine ⟨hd, fun hm => ?_⟩
        rw [Tg.ix, List.mem_singleton] at hm
        exact ne hm.symm
  | .tup ts, v, d, σ, δ, δ', Q, z, R, h, k => by
    cases d with
    | tup ds =>
      rw [Tg.set] at h
      obtain ⟨a, xs, rfl, hp, za⟩ := z.tup'
      rw [Tg.g]
      have hl : ∀ {ts : List Tg} {ds : List D} {δ δ' : DEnv}, Tg.setA ts ds δ = some δ' → ds.length = ts.length := by
        intro ts
        induction ts with
        | nil => intro ds δ δ' h; cases ds with | nil => rfl | cons _ _ => simp [Tg.setA] at h
        | cons t ts ih =>
          intro ds δ δ' h
          cases ds with
          | nil => simp [Tg.setA] at h
          | cons d ds =>
            rw [Tg.setA] at h
            cases e : Tg.set t d δ with
            | none => rw [e] at h; cases h
            | some δ1 => rw [e] at h; rw [List.length_cons, List.length_cons, ih h]
      refine ⟨a, xs, rfl, .inl (.inl (R.ok.ex.tup hp)), by rw [za.length]; exact hl h, ?_⟩
      exact Tg.okA za R h fun σ' b => k σ' (by rw [Tg.ix]; exact b)
    | _ => simp [Tg.set] at h
theorem Tg.okA : ∀ {ts : List Tg} {vs : List V} {ds : List D} {σ : L2.St} {δ δ' : DEnv} {Q : L2.St → Hp → Prop}, DpA G.K w.C w.P vs ds → Rep G w σ δ → Tg.setA ts ds δ = some δ' → (∀ σ', Bnd G w (Tg.ixA ts) σ σ' δ δ' → Q σ' w.H) → Tg.gA G.K ts vs σ w.H Q
  | [], _, _, σ, δ, δ', Q, .nil, R, h, k => by
    rw [Tg.setA] at h
    cases h
    rw [Tg.gA]
    exact ⟨rfl, k σ ⟨R, fun _ _ => rfl, fun j d hd => ⟨hd, by rw [Tg.ixA]; simp⟩⟩⟩
  | t :: ts, _, _, σ, δ, δ', Q, .cons (v := v) (vs := vs) (d := d) (ds := ds) z za, R, h, k => by
    rw [Tg.setA] at h
    cases e : Tg.set t d δ with
    | none => rw [e] at h; cases h
    | some δ1 =>
      rw [e] at h
      rw [Tg.gA]
      refine ⟨v, vs, rfl, Tg.ok z R e fun σ1 b1 => Tg.okA za b1.rep h fun σ2 b2 => k σ2 ⟨b2.rep, fun j hj => ?_, fun j d' hd => ?_⟩⟩
      · rw [Tg.ixA] at hj
        rw [b2.out j fun hm => hj (List.mem_append_right _ hm), b1.out j fun hm => hj (List.mem_append_left _ hm)]
      · obtain ⟨h1, h2⟩ := b2.own j d' hd
        obtain ⟨h3, h4⟩ := b1.own j d' h1
        refine ⟨h3, fun hm => ?_⟩
        rw [Tg.ixA] at hm
        rcases List.mem_append.mp hm with hm | hm
        · exact h4 hm
        · exact h2 hm
  | [], _, _, σ, δ, δ', Q, .cons _ _, R, h, k => by simp [Tg.setA] at h
  | _ :: _, _, _, σ, δ, δ', Q, .nil, R, h, k => by simp [Tg.setA] at h
end
end
/-! ### the slots of a comprehension -/
def wipeD (δ : DEnv) : List Nat → DEnv
  | [] => δ
  | v :: vs => (wipeD δ vs).set v .no
theorem Rep.wipe {G : Gx} {w : Wd} {σ : L2.St} {δ : DEnv} (R : Rep G w σ δ) : ∀ vs : List Nat, Rep G w (L2.wipe σ vs) (wipeD δ vs)
  | [] => R
  | v :: vs => by
    unfold L2.wipe wipeD
    exact (R.wipe vs).set_no v none
theorem wipe_ext {σ σ' : L2.St} {vs : List Nat} (hl : σ'.length = σ.length) (h : ∀ j, j ∉ vs → σ'[j]? = σ[j]?) : wipe σ' vs = wipe σ vs := by
  apply List.ext_getElem?
  intro j
  by_cases hj : j ∈ vs
  · have e : ∀ τ : L2.St, ∀ x, (wipe τ vs)[j]? = some x → x = none := fun τ x hx => by
      cases x with
      | none => rfl
      | some v => exact absurd hj (wipe_some hx).2
    by_cases hlt : j < σ.length
    · have h1 : j < (wipe σ vs).length := by rw [wipe_length]; exact hlt
      have h2 : j < (wipe σ' vs).length := by rw [wipe_length, hl]; exact hlt
      rw [List.getElem?_eq_getElem h1, List.getElem?_eq_getElem h2, e σ _ (List.getElem?_eq_getElem h1), e σ' _ (List.getElem?_eq_getElem h2)]
    · rw [List.getElem?_eq_none (by rw [wipe_length]; omega), List.getElem?_eq_none (by rw [wipe_length]; omega)]
  · rw [wipe_out hj, wipe_out hj, h j hj]
theorem wipe_wipe (σ : L2.St) (vs : List Nat) : wipe (wipe σ vs) vs = wipe σ vs := wipe_ext (wipe_length _ _) fun j hj => wipe_out hj
theorem Tg.set_len {t : Tg} {d : D} {δ δ' : DEnv} (h : t.set d δ = some δ') : δ'.length = δ.length :=
  (Tg.rec (motive_1 := fun t => ∀ (d : D) (δ δ' : DEnv), t.set d δ = some δ' → δ'.length = δ.length) (motive_2 := fun ts => ∀ (ds : List D) (δ δ' : DEnv), Tg.setA ts ds δ = some δ' → δ'.length = δ.length)
    (fun i d δ δ' h => by rw [Tg.set] at h; cases h; rw [List.length_set])
    (fun ts ih d δ δ' h => by
      cases d with
      | tup ds => rw [Tg.set] at h; exact ih ds δ δ' h
      | _ => simp [Tg.set] at h)
    (fun ds δ δ' h => by
      cases ds with
      | nil => rw [Tg.setA] at h; cases h; rfl
      | cons _ _ => simp [Tg.setA] at h)
    (fun t ts ih1 ih2 ds δ δ' h => by
      cases ds with
      | nil => simp [Tg.setA] at h
      | cons d ds =>
        rw [Tg.setA] at h
        cases e : Tg.set t d δ with
        | none => rw [e] at h; cases h
        | some δ1 =>
          rw [e] at h
          rw [ih2 ds δ1 δ' h, ih1 d δ δ1 e]) t) d δ δ' h
/-! ### list comprehensions -/
def lcL (δ : DEnv) (t : Tg) (ft : TV) (fe : EV) (gd : Gd) : List D → Mem → (List D → Mem → Prop) → Prop
  | [], M, Q => gQ gd M (Q [] M)
  | x :: r, M, Q => gQ gd M (t.bind x δ fun δ' => ft δ' M fun b M1 => IF b (fe δ' M1 fun y M2 => lcL δ t ft fe gd r M2 fun ys M3 => Q (y.d :: ys) M3) (lcL δ t ft fe gd r M1 Q))
def eLc (fi : IV) (t : Tg) (ft : TV) (fe : EV) (vs : List Nat) : EV := fun δ M Q => fi δ M fun xs gd M1 => szOk xs.length (lcL (wipeD δ vs) t ft fe gd xs M1 fun ds M2 => Q (.new (.lst ds)) M2)
def tTrue : TV := fun _ M Q => Q true M
/-- the object that is being made changes -/
theorem Gr.touch {G : Gx} {rw : Bool} {w w1 : Wd} {l : Addr} {o : HO} (g : Gr G rw w w1) (h0 : w.H l = none) (h1 : w1.P l = none) (hc : l ∉ w1.C) (hl : ∀ x, w1.H l ≠ some (.own x)) : Gr G rw w ⟨w1.C, w1.M, w1.P, upd w1.H l o⟩ := by
  refine ⟨⟨fun a u h => ?_, g.ok.nown, g.ok.len, g.ok.nd, fun n a d e1 e2 => ?_⟩, g.pp, g.cc, fun a u h n => ?_, g.off, g.fr, fun e => ?_⟩
  · show ∃ o', upd w1.H l o a = some o' ∧ unl o' = u
    rw [upd_ne (ne_of_none h h1)]; exact g.ok.ex _ _ h
  · obtain ⟨k1, k2⟩ := g.ok.cell n a d e1 e2
    refine ⟨k1, k2.keep (Pre.refl _) (Same.refl _) (fun b u hb q => ?_) fun b _ z => z⟩
    show upd w1.H l o b = some u
    rw [upd_ne fun e => ?_]
    · exact hb
    · subst e
      rcases q with q | q
      · subst q; exact hc (List.mem_of_getElem? e1)
      · subst q; exact hl _ hb
  · show upd w1.H l o a = some u
    rw [upd_ne (ne_of_none h h0)]; exact g.hh a u h n
  · obtain ⟨c1, c2, c3⟩ := g.ro e
    refine ⟨c1, c2, fun n a h1' h2 => ?_⟩
    show upd w1.H l o a = w.H a
    rw [upd_ne fun e => ?_]
    · exact c3 n a h1' h2
    · subst e
      exact hc (by rw [c1]; exact List.mem_of_getElem? h1')
theorem lc_run {X : Cx} {rw : Bool} {fi : IV} {t : Tg} {ft : TV} {fe : EV} {vs : List Nat} {tt : TT} (hix : ∀ i ∈ t.ix, i ∈ vs) (htt : ∀ σ H Q, liftT (gx X) rw ft σ H Q → tt σ H Q)
    {w : Wd} {σ : L2.St} {δ : DEnv} {Qd : Rz → Mem → Prop} {Q : VK} (R : Rep (gx X) w σ δ) (h : eLc fi t ft fe vs δ w.M Qd) (k : ∀ rz v w', Qd rz w'.M → Gr (gx X) rw w w' → RzOk (gx X) w w' rz v → Q v w'.H) :
    tLc (liftI (gx X) rw fi) (t.g X.K) tt (lift (gx X) rw fe) vs σ w.H Q := by
  refine ⟨w, δ, _, rfl, R, h, fun xs gd J w1 q1 g1 u1 => fun A hA => ?_⟩
  obtain ⟨hsz, q1⟩ := szOk_e q1
  have hAH : w.H A = none := g1.fresh hA
  have R1 := (R.mono g1).wipe vs
  have notown : ∀ {H : Hp} {us : List V}, H A = some (.lst us) → ∀ x, H A ≠ some (.own x) := fun e x z => by rw [e] at z; cases z
  refine ⟨fun i m H' => m = xs.length - i ∧ i ≤ xs.length ∧ ∃ w' us ds, w'.H = H' ∧ Gr (gx X) rw w1 w' ∧ w'.P A = none ∧ A ∉ w'.C ∧ w'.H A = some (.lst us) ∧ DpA X.K w'.C w'.P us ds ∧ ds.length ≤ i ∧ lcL (wipeD δ vs) t ft fe gd (xs.drop i) w'.M fun ys M => Qd (.new (.lst (ds ++ ys))) M, ⟨xs.length, by simp, Nat.zero_le _, ⟨w1.C, w1.M, w1.P, upd w1.H A (.lst [])⟩, [], [], rfl, (Gr.loose g1.ok hA).weak, g1.ok.ex.free hA, (show A ∉ w1.C from notc g1.ok hA), upd_same, .nil, Nat.le_refl _, q1⟩, ?_⟩
  rintro i m H' ⟨rfl, hi, w2, us, ds, rfl, g2, hPA, hCA, hHA, z, hlen, q⟩
  by_cases hlt : i < xs.length
  · have ed : xs.drop i = xs[i] :: xs.drop (i + 1) := List.drop_eq_getElem_cons hlt
    rw [ed] at q
    obtain ⟨gm, q⟩ := gQ_e q
    obtain ⟨go, yl⟩ := u1.go w2 i g2.ok g2.pp g2.cc gm hlt
    refine .inr ⟨go, fun H'' => ∃ w' us' ds', w'.H = H'' ∧ Gr (gx X) rw w1 w' ∧ w'.P A = none ∧ A ∉ w'.C ∧ w'.H A = some (.lst us') ∧ DpA X.K w'.C w'.P us' ds' ∧ ds'.length ≤ i + 1 ∧ lcL (wipeD δ vs) t ft fe gd (xs.drop (i + 1)) w'.M fun ys M => Qd (.new (.lst (ds' ++ ys))) M, fun H'' hN => ⟨xs.length - (i + 1), by omega, rfl, hlt, hN⟩, fun x H'' hy => ?_⟩
    obtain ⟨w3, d, rfl, hd, g3, zx⟩ := yl x H'' hy
    have hd : xs[i] = d := by
      rw [List.getElem?_eq_getElem hlt] at hd
      exact Option.some.inj hd
    rw [hd] at q
    have g13 := g2.trans g3.weak
    have nt : ∀ {us : List V}, ∀ xs, HO.lst us ≠ .tup xs := fun _ e => by cases e
    have nn : ∀ {H : Hp} {us : List V}, H A = some (.lst us) → H A ≠ none := fun e => by rw [e]; exact Option.some_ne_none _
    have hA3 := g3.off A _ hHA nt hPA
    have hH3 := g3.hh A _ hHA hCA
    have hC3 := g3.noc (nn hHA) hCA
    have eM3 : w3.M = w2.M := (g3.ro rfl).2.1
    obtain ⟨δ', hset, q⟩ := someQ_e q
    refine Tg.ok zx (R1.mono g13) hset fun σ' b => ⟨?_, htt _ _ _ ?_⟩
    · rw [wipe_ext (σ := wipe σ vs) (by rw [b.rep.len, Tg.set_len hset, ← (R1.mono g13).len]) fun j hj => b.out j fun hm => hj (hix j hm), wipe_wipe]
    · rw [← eM3] at q
      refine ⟨w3, δ', _, rfl, b.rep, q, fun b4 w4 q4 g4 => ?_⟩
      have hA4 := g4.off A _ hH3 nt hA3
      have hH4 := g4.hh A _ hH3 hC3
      have hC4 := g4.noc (nn hH3) hC3
      have g14 := g13.trans g4
      cases b4 with
      | false => exact iteF ⟨w4, us, ds, rfl, g14, hA4, hC4, hH4, g4.dpa (g3.dpa z), by omega, q4⟩
      | true =>
        refine iteT ?_
        refine lift_d (b.rep.mono g4) (fun y M2 => lcL (wipeD δ vs) t ft fe gd (xs.drop (i + 1)) M2 fun ys M => Qd (.new (.lst (ds ++ y :: ys))) M) q4 fun y v w5 q5 g5 z5 => ?_
        have hA5 := g5.off A _ hH4 nt hA4
        have hH5 := g5.hh A _ hH4 hC4
        have hC5 := g5.noc (nn hH4) hC4
        have g15 := g14.trans g5
        refine ⟨us, hH5, by rw [z.length]; omega, ⟨w5.C, w5.M, w5.P, upd w5.H A (.lst (us ++ [v]))⟩, us ++ [v], ds ++ [y], rfl, g15.touch hA hA5 hC5 (notown hH5), hA5, hC5, upd_same, (g5.dpa (g4.dpa (g3.dpa z))).append (.one z5), by rw [List.length_append]; simp; omega, ?_⟩
        have e2 : (fun ys M => Qd (.new (.lst (ds ++ y :: ys))) M) = fun ys M => Qd (.new (.lst ((ds ++ [y]) ++ ys))) M := by
          funext ys
          rw [List.append_assoc]
          rfl
        rw [e2] at q5
        exact q5
  · have e : i = xs.length := by omega
    subst e
    rw [List.drop_length] at q
    obtain ⟨gm, q⟩ := gQ_e q
    refine .inl ⟨u1.stop w2 g2.ok g2.pp g2.cc gm, ?_⟩
    rw [List.append_nil] at q
    exact k _ _ w2 q (g1.trans g2) ⟨A, rfl, hPA, hAH, hCA, .lst us, hHA, HoD.lst z⟩
end HI

namespace HI
open PySem PySem.Spec PyProof.Rows L2
/-! ### statements -/
structure KD where
  nx : DEnv → Mem → Prop
  rt : Rz → Mem → Prop
  bk : DEnv → Mem → Prop := fun _ _ => False
  ct : DEnv → Mem → Prop := fun _ _ => False
abbrev SV := KD → DEnv → Mem → Prop
abbrev OwnF (H0 : Hp) (σ : L2.St) (δ : DEnv) : Prop := ∀ (i : Nat) (d : D) (l : Addr), δ[i]? = some (Sl.own d) → σ[i]? = some (some (V.ref l)) → H0 l = none
/-- the state between two statements: w0 the def's entry, wc what is to stay protected -/
structure StD (G : Gx) (rw : Bool) (w0 wc w : Wd) (σ : L2.St) (δ : DEnv) : Prop where
  gr : Gr G rw w0 w
  pc : Same wc.P w.P
  cc : Pre wc.C w.C
  rep : Rep G w σ δ
  ho : OwnF w0.H σ δ
structure KOk (G : Gx) (rw : Bool) (w0 wc : Wd) (Kd : KD) (D : Ends) : Prop where
  nx : ∀ δ σ w, Kd.nx δ w.M → StD G rw w0 wc w σ δ → D.nx σ w.H
  bk : ∀ δ σ w, Kd.bk δ w.M → StD G rw w0 wc w σ δ → D.bk σ w.H
  ct : ∀ δ σ w, Kd.ct δ w.M → StD G rw w0 wc w σ δ → D.ct σ w.H
  rt : ∀ r v w', Kd.rt r w'.M → Gr G rw w0 w' → RzOk G w0 w' r v → D.rt v w'.H
def liftS (G : Gx) (rw : Bool) (f : SV) : TS := fun D σ H => ∃ w0 wc w δ Kd, w.H = H ∧ StD G rw w0 wc w σ δ ∧ f Kd δ w.M ∧ KOk G rw w0 wc Kd D
structure QS (X : Cx) (rw : Bool) (s : Stmt) (f : SV) : Prop where
  ps : PS X s (liftS (gx X) rw f)
structure QSs (X : Cx) (rw : Bool) (ss : List Stmt) (f : SV) : Prop where
  pss : PSs X ss (liftS (gx X) rw f)
section
variable {G : Gx} {rw : Bool} {w0 wc w w1 : Wd} {σ : L2.St} {δ : DEnv}
/-- behind an expression's value -/
theorem StD.mono (S : StD G rw w0 wc w σ δ) (g : Gr G rw w w1) : StD G rw w0 wc w1 σ δ := ⟨S.gr.trans g, S.pc.trans g.pp, S.cc.trans g.cc, S.rep.mono g, S.ho⟩
@[reducible] def Rz.sl : Rz → Sl
  | .val d => .val d
  | .new d => .own d
theorem Rep.set_own {l : Addr} {d : D} (R : Rep G w σ δ) (i : Nat) (h1 : w.P l = none) (h3 : l ∉ w.C) (h4 : Cont G w l d)
    (h5 : ∀ (j : Nat) (e : D), δ[j]? = some (Sl.own e) → i ≠ j → σ[j]? ≠ some (some (V.ref l))) : Rep G w (σ.set i (some (.ref l))) (δ.set i (.own d)) := by
  have hl := R.len
  refine ⟨R.ok, fun j d' h => ?_, fun j ds' h => ?_, fun j k ds' es l' q1 q2 q3 q4 => ?_, by rw [List.length_set, List.length_set]; exact hl⟩
  · rcases set_back j _ h with ⟨rfl, e, hj⟩ | ⟨ne, h⟩
    · cases e
    · obtain ⟨v', k1, k2⟩ := R.val j d' h
      exact ⟨v', by rw [List.getElem?_set_ne ne]; exact k1, k2⟩
  · rcases set_back j _ h with ⟨rfl, e, hj⟩ | ⟨ne, h⟩
    · cases e
      exact ⟨l, by rw [List.getElem?_set_self (by omega)], h1, h3, h4⟩
    · obtain ⟨l', k1, k2⟩ := R.own j ds' h
      exact ⟨l', by rw [List.getElem?_set_ne ne]; exact k1, k2⟩
  · rcases set_back j _ q1 with ⟨rfl, e, hj⟩ | ⟨n1, q1⟩
    · rcases set_back k _ q2 with ⟨rfl, e2, hk⟩ | ⟨n2, q2⟩
      · rfl
      · rw [List.getElem?_set_self (by omega)] at q3
        cases q3
        rw [List.getElem?_set_ne n2] at q4
        exact absurd q4 (h5 k es q2 n2)
    · rw [List.getElem?_set_ne n1] at q3
      rcases set_back k _ q2 with ⟨rfl, e2, hk⟩ | ⟨n2, q2⟩
      · rw [List.getElem?_set_self (by omega)] at q4
        cases q4
        exact absurd q3 (h5 j ds' q1 n1)
      · rw [List.getElem?_set_ne n2] at q4
        exact R.sep j k ds' es l' q1 q2 q3 q4
abbrev OwnK (H : Hp) (σ : L2.St) (δ : DEnv) : Prop := ∀ (i : Nat) (d : D) (l : Addr), δ[i]? = some (Sl.own d) → σ[i]? = some (some (V.ref l)) → H l ≠ none
theorem Rep.ownK (R : Rep G w σ δ) : OwnK w.H σ δ := fun i d l h1 h2 => by
  obtain ⟨l', k1, _, _, o, k4, _⟩ := R.own i d h1
  rw [h2] at k1
  cases k1
  rw [k4]
  exact Option.some_ne_none _
theorem RzOk.mono {wb w2 : Wd} {r : Rz} {v : V} (z : RzOk G wb w r v) (g : Gr G rw w w2) : RzOk G wb w2 r v := by
  cases r with
  | val d => exact g.dp z
  | new d =>
    obtain ⟨l, rfl, h1, h2, h3, o, h4, h5⟩ := z
    have hn : w.H l ≠ none := by rw [h4]; exact Option.some_ne_none _
    exact ⟨l, rfl, g.off l o h4 h5.ntup h1, h2, g.noc hn h3, o, g.hh l _ h4 h3, g.hod h5⟩
/-- a result is stored; wb: the world ahead of its evaluation -/
theorem put_at {H0 : Hp} {wb : Wd} {r : Rz} {v : V} (i : Nat) (R : Rep G w σ δ) (ho : OwnF H0 σ δ) (hk : OwnK wb.H σ δ) (h0 : ∀ l, wb.H l = none → H0 l = none) (z : RzOk G wb w r v) :
    Rep G w (σ.set i (some v)) (δ.set i r.sl) ∧ OwnF H0 (σ.set i (some v)) (δ.set i r.sl) := by
  cases r with
  | val d =>
    refine ⟨R.set_val i z, fun j ds l h1 h2 => ?_⟩
    rcases set_back j _ h1 with ⟨_, e, _⟩ | ⟨ne, h1⟩
    · cases e
    · rw [List.getElem?_set_ne ne] at h2
      exact ho j ds l h1 h2
  | new d =>
    obtain ⟨l, rfl, q1, q2, q3, q4⟩ := z
    refine ⟨R.set_own i q1 q3 q4 fun j es h1 _ h2 => hk j es l h1 h2 q2, fun j ds' l' h1 h2 => ?_⟩
    rcases set_back j _ h1 with ⟨rfl, e, hj⟩ | ⟨ne, h1⟩
    · have hl := R.len
      rw [List.getElem?_set_self (by omega)] at h2
      cases h2
      exact h0 l q2
    · rw [List.getElem?_set_ne ne] at h2
      exact ho j ds' l' h1 h2
/-- a result stored at a slot -/
theorem StD.put {r : Rz} {v : V} (i : Nat) (S : StD G rw w0 wc w σ δ) (g : Gr G rw w w1) (z : RzOk G w w1 r v) : StD G rw w0 wc w1 (σ.set i (some v)) (δ.set i r.sl) := by
  obtain ⟨a1, a2⟩ := put_at i (S.rep.mono g) S.ho S.rep.ownK (fun l hl => S.gr.fresh hl) z
  exact ⟨S.gr.trans g, S.pc.trans g.pp, S.cc.trans g.cc, a1, a2⟩
/-- the slot's own container changes -/
theorem StD.chg {i : Nat} {d d' : D} {l : Addr} {o' : HO} (S : StD G rw w0 wc w σ δ) (e : δ[i]? = some (Sl.own d)) (hl : σ[i]? = some (some (V.ref l))) (hz : HoD G.K w.C w.P o' d') : StD G rw w0 wc ⟨w.C, w.M, w.P, upd w.H l o'⟩ σ (δ.set i (.own d')) := by
  have R := S.rep
  obtain ⟨l2, k1, k2, k3, o, k4, k5⟩ := R.own i d e
  rw [hl] at k1
  cases k1
  have hil : i < δ.length := (List.getElem?_eq_some_iff.mp e).1
  have nown : ∀ x, w.H l ≠ some (.own x) := fun x z => by rw [k4] at z; exact k5.nown _ (Option.some.inj z)
  have g1 := S.gr.touch (o := o') (S.ho i d l e hl) k2 k3 nown
  refine ⟨g1, S.pc, S.cc, ⟨g1.ok, fun j d2 h => ?_, fun j d2 h => ?_, fun j k d1 d2 l' q1 q2 q3 q4 => ?_, by rw [List.length_set]; exact R.len⟩, fun j d2 l' h1 h2 => ?_⟩
  · rcases set_back j _ h with ⟨_, e2, _⟩ | ⟨ne, h⟩
    · cases e2
    · exact R.val j d2 h
  · rcases set_back j _ h with ⟨rfl, e2, _⟩ | ⟨ne, h⟩
    · cases e2
      exact ⟨l, hl, k2, k3, o', upd_same, hz⟩
    · obtain ⟨l2, j1, j2, j3, o2, j4, j5⟩ := R.own j d2 h
      refine ⟨l2, j1, j2, j3, o2, ?_, j5⟩
      show upd w.H l o' l2 = some o2
      rw [upd_ne fun z => ?_]
      · exact j4
      · subst z
        exact ne (R.sep i j d d2 _ e h hl j1)
  · rcases set_back j _ q1 with ⟨rfl, e2, _⟩ | ⟨n1, q1⟩
    · rcases set_back k _ q2 with ⟨rfl, e3, _⟩ | ⟨n2, q2⟩
      · rfl
      · exact R.sep i k d d2 l' e q2 q3 q4
    · rcases set_back k _ q2 with ⟨rfl, e3, _⟩ | ⟨n2, q2⟩
      · exact R.sep j i d1 d l' q1 e q3 q4
      · exact R.sep j k d1 d2 l' q1 q2 q3 q4
  · rcases set_back j _ h1 with ⟨rfl, e2, _⟩ | ⟨ne, h1⟩
    · exact S.ho i d l' e h2
    · exact S.ho j d2 l' h1 h2
/-- the slot's own container is a value from here on -/
theorem StD.frzAt {i : Nat} {d : D} (S : StD G rw w0 wc w σ δ) (e : δ[i]? = some (Sl.own d)) : ∃ P2, StD G rw w0 wc ⟨w.C, w.M, P2, w.H⟩ σ (δ.set i (.val d)) := by
  have R := S.rep
  obtain ⟨l, h1, h2, h3, o, h4, h5⟩ := R.own i d e
  have g1 := S.gr.frz h2 (S.ho i d l e h1) h3 h4 h5.nown
  have s1 : Same w.P (upd w.P l (unl o)) := same_new h2
  have hil : i < δ.length := (List.getElem?_eq_some_iff.mp e).1
  refine ⟨upd w.P l (unl o), g1, S.pc.trans s1, S.cc, ⟨g1.ok, fun j d2 h => ?_, fun j d2 h => ?_, fun j m d1 d2 l' k1 k2 k3 k4 => ?_, by rw [List.length_set]; exact R.len⟩, fun j d2 l' k1 k2 => ?_⟩
  · rcases set_back j _ h with ⟨rfl, e2, _⟩ | ⟨ne, h⟩
    · cases e2
      exact ⟨.ref l, h1, .con upd_same (by rw [h5.unl]; exact h5.mono (Pre.refl _) (by rw [h5.unl] at s1; exact s1))⟩
    · obtain ⟨v, k1, k2⟩ := R.val j d2 h
      exact ⟨v, k1, k2.mono (Pre.refl _) s1⟩
  · rcases set_back j _ h with ⟨_, e2, _⟩ | ⟨ne, h⟩
    · cases e2
    · obtain ⟨l2, k1, k2, k3, o2, k4, k5⟩ := R.own j d2 h
      refine ⟨l2, k1, ?_, k3, o2, k4, k5.mono (Pre.refl _) s1⟩
      show upd w.P l (unl o) l2 = none
      rw [upd_ne fun z => ?_]
      · exact k2
      · subst z
        exact ne (R.sep i j d d2 _ e h h1 k1)
  · rcases set_back j _ k1 with ⟨_, e2, _⟩ | ⟨_, k1⟩
    · cases e2
    rcases set_back m _ k2 with ⟨_, e2, _⟩ | ⟨_, k2⟩
    · cases e2
    exact R.sep j m d1 d2 l' k1 k2 k3 k4
  · rcases set_back j _ k1 with ⟨_, e2, _⟩ | ⟨_, k1⟩
    · cases e2
    exact S.ho j d2 l' k1 k2
end
section
variable {X : Cx} {rw : Bool} {e a b c elt tg iter : Expr} {ifs : List Expr} {scope : Scope} {own : List (Str × Nat)} {pos spos py : Pos} {fi : IV} {t : Tg} {ft : TV} {fe f fa fb : EV} {x y z : Str} {ss us : List Stmt} {g h : SV}
theorem qs_of {s : Stmt} {g : SV} {u : TS} (h : PS X s u) (i : ∀ w0 wc w σ δ (Kd : KD) (D : Ends), StD (gx X) rw w0 wc w σ δ → g Kd δ w.M → KOk (gx X) rw w0 wc Kd D → u D σ w.H) : QS X rw s g :=
  ⟨ps_imp h fun D σ H ⟨w0, wc, w, δ, Kd, e, S, hf, k⟩ => by subst e; exact i w0 wc w σ δ Kd D S hf k⟩
def sSkip : SV := fun K δ M => K.nx δ M
def sSeq (f g : SV) : SV := fun K δ M => f ⟨g K, K.rt, K.bk, K.ct⟩ δ M
theorem q_snil : QSs X rw [] sSkip := ⟨pss_imp pss_nil fun D σ H ⟨w0, wc, w, δ, Kd, e, S, hf, k⟩ => by subst e; exact k.nx δ σ w hf S⟩
theorem q_scons {s : Stmt} {f g : SV} (h1 : QS X rw s f) (h2 : QSs X rw ss g) : QSs X rw (s :: ss) (sSeq f g) :=
  ⟨pss_imp (pss_cons h1.ps h2.pss) fun D σ H ⟨w0, wc, w, δ, Kd, e, S, hf, k⟩ => by
    subst e
    exact ⟨w0, wc, w, δ, _, rfl, S, hf, ⟨fun δ' σ' w' q S' => ⟨w0, wc, w', δ', Kd, rfl, S', q, k⟩, k.bk, k.ct, k.rt⟩⟩⟩
theorem q_sone {s : Stmt} {f : SV} (h1 : QS X rw s f) : QSs X rw [s] f := ⟨pss_one h1.ps⟩
def sNever : SV := fun _ _ _ => False
theorem q_snever {s : Stmt} : QS X rw s sNever := ⟨⟨fun _ _ _ _ _ _ ⟨_, _, _, _, _, _, _, hf, _⟩ => hf.elim⟩⟩
theorem q_ssnever : QSs X rw ss sNever := ⟨⟨fun _ _ _ _ _ _ ⟨_, _, _, _, _, _, _, hf, _⟩ => hf.elim⟩⟩
/-! list comprehensions as values -/
theorem lcY {σ : L2.St} {H : Hp} {Q : Bool → Hp → Prop} (h : liftT (gx X) rw tTrue σ H Q) : tYes σ H Q := by
  obtain ⟨w, δ, Qd, e, R, h, k⟩ := h
  subst e
  exact k true w h (.refl R.ok)
theorem q_lc (hN : X.N.Nodup) (hi : QI X rw tg iter fi) (ok : BlkOk X.N X.env.scope scope own) (hg : ∀ (s : Shared) (H : Hp) (C : Addr) (cl : List (Str × Addr)) (fp : List Addr), QG (X.blk s H scope (compEnvC scope cl C X.env) fp) tg t)
    (he : ∀ (s : Shared) (H : Hp) (C : Addr) (cl : List (Str × Addr)) (fp : List Addr), QE (X.blk s H scope (compEnvC scope cl C X.env) fp) rw elt fe) (hix : ∀ i ∈ t.ix, i ∈ own.map (·.2) := by decide) (hc : X.calm = true := by rfl) (hs : ∀ x, foldedSetIterable iter X.env x = pure x := by intro _; rfl) :
    QE X rw (.ListComp elt [⟨tg, iter, [], 0⟩] scope pos) (eLc fi t tTrue fe (own.map (·.2))) :=
  qe_of (pe_lc hc hN hi.pi ok (fun s H C cl fp => (hg s H C cl fp).pg) (fun s H C cl fp => pts_nil) (fun s H C cl fp => (he s H C cl fp).pe) hs) fun w σ δ Qd Q R h k => lc_run hix (fun _ _ _ q => lcY q) R h k
theorem q_lcIf (hN : X.N.Nodup) (hi : QI X rw tg iter fi) (ok : BlkOk X.N X.env.scope scope own) (hg : ∀ (s : Shared) (H : Hp) (C : Addr) (cl : List (Str × Addr)) (fp : List Addr), QG (X.blk s H scope (compEnvC scope cl C X.env) fp) tg t)
    (ht : ∀ (s : Shared) (H : Hp) (C : Addr) (cl : List (Str × Addr)) (fp : List Addr), QT (X.blk s H scope (compEnvC scope cl C X.env) fp) rw c ft)
    (he : ∀ (s : Shared) (H : Hp) (C : Addr) (cl : List (Str × Addr)) (fp : List Addr), QE (X.blk s H scope (compEnvC scope cl C X.env) fp) rw elt fe) (hix : ∀ i ∈ t.ix, i ∈ own.map (·.2) := by decide) (hc : X.calm = true := by rfl) (hs : ∀ x, foldedSetIterable iter X.env x = pure x := by intro _; rfl) :
    QE X rw (.ListComp elt [⟨tg, iter, [c], 0⟩] scope pos) (eLc fi t ft fe (own.map (·.2))) :=
  qe_of (pe_lc hc hN hi.pi ok (fun s H C cl fp => (hg s H C cl fp).pg) (fun s H C cl fp => pts_one (ht s H C cl fp).pt) (fun s H C cl fp => (he s H C cl fp).pe) hs) fun w σ δ Qd Q R h k => lc_run hix (fun _ _ _ q => q) R h k
/-! assignments -/
def sAsg (i : Nat) (f : EV) : SV := fun K δ M => f δ M fun r M1 => K.nx (δ.set i r.sl) M1
theorem asg_run {te : TE} {i : Nat} (hte : ∀ σ H Q, lift (gx X) rw f σ H Q → te σ H Q) {w0 wc w : Wd} {σ : L2.St} {δ : DEnv} {Kd : KD} {D : Ends} (S : StD (gx X) rw w0 wc w σ δ) (h : sAsg i f Kd δ w.M) (k : KOk (gx X) rw w0 wc Kd D) : tAsg te (gName i) D σ w.H :=
  hte _ _ _ ⟨w, δ, _, rfl, S.rep, h, fun r v w1 q g z => k.nx _ _ _ q (S.put i g z)⟩
theorem q_asg {i : Nat} {pos' : Pos} (hN : X.N.Nodup) (he : QE X rw e f) (hi : X.N[i]? = some y := by rfl) (hx : Loc X.env.scope y := by first | exact Or.inl rfl | exact Or.inr rfl) (hs : swapsWith e (some (.Name y pos')) pos.line X.env = pure false := by rfl)
    (hf : X.fn y = true ∨ X.env.scope.names.lookup y = some .local := by first | exact .inl rfl | exact .inr rfl | assumption) : QS X rw (.Assign [.Name y pos'] e pos) (sAsg i f) :=
  qs_of (ps_set hN hi hx he.pe hs hf) fun w0 wc w σ δ Kd D S h k => asg_run (fun _ _ _ q => q) S h k
/-- y = [..] -/
theorem q_asgLc {i : Nat} (hN : X.N.Nodup) (hi : QI X rw tg iter fi) (ok : BlkOk X.N X.env.scope scope own) (hg : ∀ (s : Shared) (H : Hp) (C : Addr) (cl : List (Str × Addr)) (fp : List Addr), QG (X.blk s H scope (compEnvC scope cl C X.env) fp) tg t)
    (he : ∀ (s : Shared) (H : Hp) (C : Addr) (cl : List (Str × Addr)) (fp : List Addr), QE (X.blk s H scope (compEnvC scope cl C X.env) fp) rw elt fe) (hsw : swapsWith (.ListComp elt [⟨tg, iter, [], 0⟩] scope pos) (some (.Name y py)) spos.line X.env = pure true) (hix : ∀ i ∈ t.ix, i ∈ own.map (·.2) := by decide) (hc : X.calm = true := by rfl)
    (hy : X.N[i]? = some y := by rfl) (hyl : X.env.scope.names.lookup y = some .local := by rfl) (hs : ∀ x, foldedSetIterable iter X.env x = pure x := by intro _; rfl) :
    QS X rw (.Assign [.Name y py] (.ListComp elt [⟨tg, iter, [], 0⟩] scope pos) spos) (sAsg i (eLc fi t tTrue fe (own.map (·.2)))) :=
  qs_of (ps_setLc hc hN hy hyl hsw hi.pi ok (fun s H C cl fp => (hg s H C cl fp).pg) (fun s H C cl fp => pts_nil) (fun s H C cl fp => (he s H C cl fp).pe) hs) fun w0 wc w σ δ Kd D S h k =>
    asg_run (fun σ H Q ⟨w, δ, Qd, e, R, h, k⟩ => by subst e; exact lc_run hix (fun _ _ _ q => lcY q) R h k) S h k
theorem q_asgLcIf {i : Nat} (hN : X.N.Nodup) (hi : QI X rw tg iter fi) (ok : BlkOk X.N X.env.scope scope own) (hg : ∀ (s : Shared) (H : Hp) (C : Addr) (cl : List (Str × Addr)) (fp : List Addr), QG (X.blk s H scope (compEnvC scope cl C X.env) fp) tg t)
    (ht : ∀ (s : Shared) (H : Hp) (C : Addr) (cl : List (Str × Addr)) (fp : List Addr), QT (X.blk s H scope (compEnvC scope cl C X.env) fp) rw c ft)
    (he : ∀ (s : Shared) (H : Hp) (C : Addr) (cl : List (Str × Addr)) (fp : List Addr), QE (X.blk s H scope (compEnvC scope cl C X.env) fp) rw elt fe) (hsw : swapsWith (.ListComp elt [⟨tg, iter, [c], 0⟩] scope pos) (some (.Name y py)) spos.line X.env = pure true) (hix : ∀ i ∈ t.ix, i ∈ own.map (·.2) := by decide) (hc : X.calm = true := by rfl)
    (hy : X.N[i]? = some y := by rfl) (hyl : X.env.scope.names.lookup y = some .local := by rfl) (hs : ∀ x, foldedSetIterable iter X.env x = pure x := by intro _; rfl) :
    QS X rw (.Assign [.Name y py] (.ListComp elt [⟨tg, iter, [c], 0⟩] scope pos) spos) (sAsg i (eLc fi t ft fe (own.map (·.2)))) :=
  qs_of (ps_setLc hc hN hy hyl hsw hi.pi ok (fun s H C cl fp => (hg s H C cl fp).pg) (fun s H C cl fp => pts_one (ht s H C cl fp).pt) (fun s H C cl fp => (he s H C cl fp).pe) hs) fun w0 wc w σ δ Kd D S h k =>
    asg_run (fun σ H Q ⟨w, δ, Qd, e, R, h, k⟩ => by subst e; exact lc_run hix (fun _ _ _ q => q) R h k) S h k
/-- y = [..] -/
theorem q_asgLcF {i : Nat} (hN : X.N.Nodup) (hi : QI X rw tg iter fi) (ok : BlkOk X.N X.env.scope scope own) (hg : ∀ (s : Shared) (H : Hp) (C : Addr) (cl : List (Str × Addr)) (fp : List Addr), QG (X.blk s H scope (compEnvC scope cl C X.env) fp) tg t)
    (he : ∀ (s : Shared) (H : Hp) (C : Addr) (cl : List (Str × Addr)) (fp : List Addr), QE (X.blk s H scope (compEnvC scope cl C X.env) fp) rw elt fe) (hsw : swapsWith (.ListComp elt [⟨tg, iter, [], 0⟩] scope pos) (some (.Name y py)) spos.line X.env = pure true) (hix : ∀ i ∈ t.ix, i ∈ own.map (·.2) := by decide) (hc : X.calm = true := by rfl)
    (hy : X.N[i]? = some y := by rfl) (hyl : X.env.scope.names.lookup y = some .local := by rfl) (hs : ∀ x, foldedSetIterable iter X.env x = pure x := by intro _; rfl) :
    QS X rw (.Assign [.Name y py] (.ListComp elt [⟨tg, iter, [], 0⟩] scope pos) spos) (sAsg i (eFz (eLc fi t tTrue fe (own.map (·.2))))) :=
  qs_of (ps_setLc hc hN hy hyl hsw hi.pi ok (fun s H C cl fp => (hg s H C cl fp).pg) (fun s H C cl fp => pts_nil) (fun s H C cl fp => (he s H C cl fp).pe) hs) fun w0 wc w σ δ Kd D S h k =>
    asg_run (fun σ H Q q => by obtain ⟨w, δ, Qd, e, R, h, k⟩ := lift_fz q; subst e; exact lc_run hix (fun _ _ _ q => lcY q) R h k) S h k
theorem q_asgLcIfF {i : Nat} (hN : X.N.Nodup) (hi : QI X rw tg iter fi) (ok : BlkOk X.N X.env.scope scope own) (hg : ∀ (s : Shared) (H : Hp) (C : Addr) (cl : List (Str × Addr)) (fp : List Addr), QG (X.blk s H scope (compEnvC scope cl C X.env) fp) tg t)
    (ht : ∀ (s : Shared) (H : Hp) (C : Addr) (cl : List (Str × Addr)) (fp : List Addr), QT (X.blk s H scope (compEnvC scope cl C X.env) fp) rw c ft)
    (he : ∀ (s : Shared) (H : Hp) (C : Addr) (cl : List (Str × Addr)) (fp : List Addr), QE (X.blk s H scope (compEnvC scope cl C X.env) fp) rw elt fe) (hsw : swapsWith (.ListComp elt [⟨tg, iter, [c], 0⟩] scope pos) (some (.Name y py)) spos.line X.env = pure true) (hix : ∀ i ∈ t.ix, i ∈ own.map (·.2) := by decide) (hc : X.calm = true := by rfl)
    (hy : X.N[i]? = some y := by rfl) (hyl : X.env.scope.names.lookup y = some .local := by rfl) (hs : ∀ x, foldedSetIterable iter X.env x = pure x := by intro _; rfl) :
    QS X rw (.Assign [.Name y py] (.ListComp elt [⟨tg, iter, [c], 0⟩] scope pos) spos) (sAsg i (eFz (eLc fi t ft fe (own.map (·.2))))) :=
  qs_of (ps_setLc hc hN hy hyl hsw hi.pi ok (fun s H C cl fp => (hg s H C cl fp).pg) (fun s H C cl fp => pts_one (ht s H C cl fp).pt) (fun s H C cl fp => (he s H C cl fp).pe) hs) fun w0 wc w σ δ Kd D S h k =>
    asg_run (fun σ H Q q => by obtain ⟨w, δ, Qd, e, R, h, k⟩ := lift_fz q; subst e; exact lc_run hix (fun _ _ _ q => q) R h k) S h k
/-! return -/
def sRet (f : EV) : SV := fun K δ M => f δ M K.rt
theorem q_ret (he : QE X rw e f) : QS X rw (.Return (some e) pos) (sRet f) :=
  qs_of (ps_ret he.pe) fun w0 wc w σ δ Kd D S h k => ⟨w, δ, _, rfl, S.rep, h, fun r v w1 q g z => k.rt r v w1 q (S.gr.trans g) (z.back S.gr)⟩
def sRetN : SV := fun K _ M => K.rt (.val .non) M
theorem q_retN : QS X rw (.Return none pos) sRetN := qs_of ps_retN fun w0 wc w σ δ Kd D S h k => k.rt _ .non w h S.gr .non
def sRetO (i : Nat) : SV := fun K δ M => match δ[i]? with
  | some (.own d) => K.rt (.new d) M
  | some (.val d) => K.rt (.val d) M
  | _ => False
theorem q_retO (i : Nat) {x : Str} {pos' : Pos} (hN : X.N[i]? = some x := by rfl) (hv : Vis X.env.scope x := by first | exact Or.inl rfl | exact Or.inr (Or.inl rfl) | exact Or.inr (Or.inr rfl)) (hd : (x == ("__debug__" : Str)) = false := by decide) (hcd : (x == ("__classdict__" : Str)) = false := by decide) :
    QS X rw (.Return (some (.Name x pos')) pos) (sRetO i) :=
  qs_of (ps_ret (pe_var hN hv hd hcd)) fun w0 wc w σ δ Kd D S h k => by
    unfold sRetO at h
    cases e : δ[i]? with
    | none => rw [e] at h; exact h.elim
    | some s =>
      rw [e] at h
      cases s with
      | no => exact h.elim
      | val d =>
        obtain ⟨v, h1, h2⟩ := S.rep.val i d e
        exact ⟨v, h1, k.rt _ v w h S.gr h2⟩
      | own d =>
        obtain ⟨l, h1, h2, h3, h4⟩ := S.rep.own i d e
        exact ⟨.ref l, h1, k.rt _ _ w h S.gr ⟨l, rfl, h2, S.ho i d l e h1, h3, h4⟩⟩
/-! if, while, for -/
def sIf (ft : TV) (g h : SV) : SV := fun K δ M => ft δ M fun c M1 => IF c (g K δ M1) (h K δ M1)
theorem q_sif (hc : QT X rw c ft) (hs : QSs X rw ss g) (hu : QSs X rw us h) : QS X rw (.If c ss us pos) (sIf ft g h) :=
  qs_of (ps_if hc.pt hs.pss hu.pss) fun w0 wc w σ δ Kd D S q k => by
    refine ⟨w, δ, _, rfl, S.rep, q, fun c w1 q g => ?_⟩
    have S1 := S.mono g
    cases c with
    | true => exact iteT ⟨w0, wc, w1, δ, Kd, rfl, S1, q, k⟩
    | false => exact iteF ⟨w0, wc, w1, δ, Kd, rfl, S1, q, k⟩
def whN (ft : TV) (g : SV) (K : KD) : Nat → DEnv → Mem → Prop
  | 0, _, _ => False
  | n + 1, δ, M => ft δ M fun c M1 => IF c (g ⟨whN ft g K n, K.rt, K.nx, whN ft g K n⟩ δ M1) (K.nx δ M1)
def sWh (ft : TV) (g : SV) : SV := fun K δ M => ∃ n, whN ft g K n δ M
theorem q_swh (hc : QT X rw c ft) (hs : QSs X rw ss g) (hp : PassesOwn (model X.prog X.w) X.A X.env X.xe := by exact PassesOwn.never) : QS X rw (.While c ss [] pos) (sWh ft g) :=
  qs_of (ps_while hp hc.pt hs.pss) fun w0 wc w σ δ Kd D S q k => by
    obtain ⟨n, q⟩ := q
    refine ⟨fun m σ' H' => ∃ w' δ', w'.H = H' ∧ StD (gx X) rw w0 wc w' σ' δ' ∧ whN ft g Kd m δ' w'.M, ⟨n, w, δ, rfl, S, q⟩, ?_⟩
    rintro m σ' H' ⟨w', δ', rfl, S', q'⟩
    cases m with
    | zero => exact q'.elim
    | succ m =>
      refine ⟨w', δ', _, rfl, S'.rep, q', fun c w1 q1 g1 => ?_⟩
      have S1 := S'.mono g1
      cases c with
      | true => exact iteT ⟨fun σ'' H'' => ∃ w'' δ'', w''.H = H'' ∧ StD (gx X) rw w0 wc w'' σ'' δ'' ∧ whN ft g Kd m δ'' w''.M, fun σ'' H'' w => ⟨m, Nat.lt_succ_self _, w⟩, w0, wc, w1, δ', _, rfl, S1, q1, ⟨fun δ'' σ'' w'' u S2 => ⟨w'', δ'', rfl, S2, u⟩, fun δ'' σ'' w'' u S2 => k.nx δ'' σ'' w'' u S2, fun δ'' σ'' w'' u S2 => ⟨w'', δ'', rfl, S2, u⟩, k.rt⟩⟩
      | false => exact iteF (k.nx δ' σ' w1 q1 S1)
def forL (t : Tg) (g : SV) (gd : Gd) (K : KD) : List D → DEnv → Mem → Prop
  | [], δ, M => gQ gd M (K.nx δ M)
  | x :: r, δ, M => gQ gd M (t.bind x δ fun δ' => g ⟨forL t g gd K r, K.rt, K.nx, forL t g gd K r⟩ δ' M)
def sFor (fi : IV) (t : Tg) (g : SV) : SV := fun K δ M => fi δ M fun xs gd M1 => forL t g gd K xs δ M1
theorem for_run {J : It} {xs : List D} {gd : Gd} {tb : TS} (htb : ∀ D σ H, liftS (gx X) rw g D σ H → tb D σ H) {w0 wc w w1 : Wd} {σ : L2.St} {δ : DEnv} {Kd : KD} {D : Ends} (S : StD (gx X) rw w0 wc w σ δ) (k : KOk (gx X) rw w0 wc Kd D) (g1 : Gr (gx X) rw w w1) (u1 : WalkD (gx X) w1 J xs gd) (q1 : forL t g gd Kd xs δ w1.M) :
    ∃ W : Nat → Nat → L2.St → Hp → Prop, (∃ m, W 0 m σ w1.H) ∧ ∀ i m σ H, W i m σ H → (J.stop i H ∧ D.nx σ H) ∨ J.go i H ∧ ∃ N : L2.St → Hp → Prop, (∀ σ' H', N σ' H' → ∃ m', m' < m ∧ W (i + 1) m' σ' H') ∧ ∀ v H', J.yld i H v H' → t.g X.K v σ H' fun σ' H'' => tb { nx := N, rt := D.rt, bk := D.nx, ct := N } σ' H'' := by
  have S1 : StD (gx X) rw w0 w1 w1 σ δ := ⟨S.gr.trans g1, .refl _, .refl _, S.rep.mono g1, S.ho⟩
  have weak : ∀ {w' σ' δ'}, StD (gx X) rw w0 w1 w' σ' δ' → StD (gx X) rw w0 wc w' σ' δ' := fun S' => ⟨S'.gr, (S.pc.trans g1.pp).trans S'.pc, (S.cc.trans g1.cc).trans S'.cc, S'.rep, S'.ho⟩
  refine ⟨fun i m σ' H' => m = xs.length - i ∧ i ≤ xs.length ∧ ∃ w' δ', w'.H = H' ∧ StD (gx X) rw w0 w1 w' σ' δ' ∧ forL t g gd Kd (xs.drop i) δ' w'.M, ⟨xs.length, by simp, Nat.zero_le _, w1, δ, rfl, S1, q1⟩, ?_⟩
  rintro i m σ' H' ⟨rfl, hi, w2, δ', rfl, S', q'⟩
  by_cases hlt : i < xs.length
  · have ed : xs.drop i = xs[i] :: xs.drop (i + 1) := List.drop_eq_getElem_cons hlt
    rw [ed] at q'
    obtain ⟨gm, q'⟩ := gQ_e q'
    obtain ⟨go, yl⟩ := u1.go w2 i S'.gr.ok S'.pc S'.cc gm hlt
    refine .inr ⟨go, fun σ'' H'' => ∃ w' δ'', w'.H = H'' ∧ StD (gx X) rw w0 w1 w' σ'' δ'' ∧ forL t g gd Kd (xs.drop (i + 1)) δ'' w'.M, fun σ'' H'' u => ⟨xs.length - (i + 1), by omega, rfl, hlt, u⟩, fun v H'' hy => ?_⟩
    obtain ⟨w3, d, rfl, hd, g3, zx⟩ := yl v H'' hy
    have hd : xs[i] = d := by
      rw [List.getElem?_eq_getElem hlt] at hd
      exact Option.some.inj hd
    rw [hd] at q'
    obtain ⟨δ2, hset, q'⟩ := someQ_e q'
    rw [← (g3.ro rfl).2.1] at q'
    have S3 := S'.mono g3.weak
    refine Tg.ok zx S3.rep hset fun σ2 b => htb _ _ _ ?_
    refine ⟨w0, w1, w3, δ2, _, rfl, ⟨S3.gr, S3.pc, S3.cc, b.rep, fun j d l h1 h2 => ?_⟩, q', ⟨fun δ3 σ3 w4 u S4 => ⟨w4, δ3, rfl, S4, u⟩, fun δ3 σ3 w4 u S4 => k.nx δ3 σ3 w4 u (weak S4), fun δ3 σ3 w4 u S4 => ⟨w4, δ3, rfl, S4, u⟩, k.rt⟩⟩
    obtain ⟨h3, h4⟩ := b.own j d h1
    rw [b.out j h4] at h2
    exact S3.ho j d l h3 h2
  · have e : i = xs.length := by omega
    subst e
    rw [List.drop_length] at q'
    obtain ⟨gm, q'⟩ := gQ_e q'
    exact .inl ⟨u1.stop w2 S'.gr.ok S'.pc S'.cc gm, k.nx δ' σ' w2 q' (weak S')⟩
theorem q_sfor (hi : QI X rw tg iter fi) (hg : QG X tg t) (hs : QSs X rw ss g) (hc : X.calm = true := by rfl) (hp : PassesOwn (model X.prog X.w) X.A X.env X.xe := by exact PassesOwn.never) (hf : ∀ x, foldedSetIterable iter X.env x = pure x := by intro _; rfl) : QS X rw (.For tg iter ss [] pos) (sFor fi t g) :=
  qs_of (ps_for hp hc hi.pi hg.pg hs.pss hf) fun w0 wc w σ δ Kd D S q k => ⟨w, δ, _, rfl, S.rep, q, fun xs gd J w1 q1 g1 u1 => for_run (fun _ _ _ q => q) S k g1 u1 q1⟩
def sBrk : SV := fun K δ M => K.bk δ M
def sCnt : SV := fun K δ M => K.ct δ M
theorem q_brk : QS X rw (.Break pos) sBrk := qs_of ps_break fun w0 wc w σ δ Kd D S q k => k.bk δ σ w q S
theorem q_cnt : QS X rw (.Continue pos) sCnt := qs_of ps_continue fun w0 wc w σ δ Kd D S q k => k.ct δ σ w q S
theorem q_pass : QS X rw (.Pass pos) sSkip := qs_of ps_pass fun w0 wc w σ δ Kd D S q k => k.nx δ σ w q S
def sDrop (f : EV) : SV := fun K δ M => f δ M fun _ M1 => K.nx δ M1
theorem q_drop (he : QE X rw e f) (hs : swapsWith e none pos.line X.env = pure false := by rfl) : QS X rw (.Expr e pos) (sDrop f) :=
  qs_of (ps_expr he.pe hs) fun w0 wc w σ δ Kd D S q k => ⟨w, δ, _, rfl, S.rep, q, fun r v w1 q1 g1 z1 => k.nx δ σ w1 q1 (S.mono g1)⟩
/-- the own container of a slot is a value from here on -/
def ownQ (δ : DEnv) (i : Nat) (q : D → Prop) : Prop := match δ[i]? with
  | some (.own d) => q d
  | _ => False
theorem ownQ_e {δ : DEnv} {i : Nat} {q : D → Prop} (h : ownQ δ i q) : ∃ d, δ[i]? = some (Sl.own d) ∧ q d := by
  unfold ownQ at h
  cases e : δ[i]? with
  | none => rw [e] at h; exact h.elim
  | some s =>
    rw [e] at h
    cases s with
    | own d => exact ⟨d, rfl, h⟩
    | no => exact h.elim
    | val d => exact h.elim
def sFrz (i : Nat) (g : SV) : SV := fun K δ M => ownQ δ i fun d => g K (δ.set i (.val d)) M
theorem q_frz (i : Nat) (hs : QSs X rw ss g) : QSs X rw ss (sFrz i g) :=
  ⟨pss_imp hs.pss fun D σ H ⟨w0, wc, w, δ, Kd, e, S, q, k⟩ => by
    subst e
    obtain ⟨d, e, q⟩ := ownQ_e q
    obtain ⟨P2, S2⟩ := S.frzAt e
    exact ⟨w0, wc, ⟨w.C, w.M, P2, w.H⟩, _, Kd, rfl, S2, q, k⟩⟩
end
end HI

namespace HI
open PySem PySem.Spec PyProof.Rows L2
section
variable {X : Cx} {rw : Bool} {e a b c o tg : Expr} {pos : Pos} {t : Tg} {f fa fb fo : EV} {x y z : Str} {ss us : List Stmt} {g h : SV}
/-! ### a, b = e1, e2 -/
def sPar2 (i j : Nat) (fa fb : EV) : SV := fun K δ M => fa δ M fun x M1 => fb δ M1 fun y M2 => K.nx ((δ.set i x.sl).set j y.sl) M2
def sPar3 (i j l : Nat) (fa fb f : EV) : SV := fun K δ M => fa δ M fun x M1 => fb δ M1 fun y M2 => f δ M2 fun z M3 => K.nx (((δ.set i x.sl).set j y.sl).set l z.sl) M3
theorem par2_run {i j : Nat} {w0 wc w : Wd} {σ : L2.St} {δ : DEnv} {Kd : KD} {Q : List V → Hp → Prop} (S : StD (gx X) rw w0 wc w σ δ) (q : sPar2 i j fa fb Kd δ w.M)
    (k : ∀ v u w2 δ', Kd.nx δ' w2.M → StD (gx X) rw w0 wc w2 ((σ.set i (some v)).set j (some u)) δ' → Q [v, u] w2.H) :
    tCons (lift (gx X) rw fa) (tCons (lift (gx X) rw fb) tNil) σ w.H Q := by
  refine ⟨w, δ, _, rfl, S.rep, q, fun r1 v1 w1 q1 g1 z1 => ?_⟩
  have R1 := S.rep.mono g1
  refine ⟨w1, δ, _, rfl, R1, q1, fun r2 v2 w2 q2 g2 z2 => ?_⟩
  have R2 := R1.mono g2
  have g01 := S.gr.trans g1
  obtain ⟨A1, A2⟩ := put_at i R2 S.ho S.rep.ownK (fun l hl => S.gr.fresh hl) (z1.mono g2)
  obtain ⟨C1, _⟩ := put_at i R1 S.ho S.rep.ownK (fun l hl => S.gr.fresh hl) z1
  obtain ⟨B1, B2⟩ := put_at j A1 A2 C1.ownK (fun l hl => g01.fresh hl) z2
  have g12 := g1.trans g2
  exact k v1 v2 w2 _ q2 ⟨S.gr.trans g12, S.pc.trans g12.pp, S.cc.trans g12.cc, B1, B2⟩
theorem q_par2 (i j : Nat) {px py pt : Pos} {kt k2 : Nat} {pt2 : Pos} (hN : X.N.Nodup) (ha : QE X rw a fa) (hb : QE X rw b fb) (hw : swappedStores [.Tuple [.Name x px, .Name y py] kt pt] (.Tuple [a, b] k2 pt2) X.env = pure (some [x, y])) (hi : X.N[i]? = some x := by rfl) (hj : X.N[j]? = some y := by rfl) (hij : i ≠ j := by decide)
    (hx : X.env.scope.names.lookup x = some .local := by rfl) (hy : X.env.scope.names.lookup y = some .local := by rfl) (hs1 : starEach [a, b] X.env = (false, eval a X.env) :: starEach [b] X.env := by rfl) (hs2 : starEach [b] X.env = [(false, eval b X.env)] := by rfl)
    (hs : swapsWithSole [.Tuple [.Name x px, .Name y py] kt pt] (.Tuple [a, b] k2 pt2) pos.line X.env = pure false := by rfl) (hc : X.calm = true := by rfl) :
    QS X rw (.Assign [.Tuple [.Name x px, .Name y py] kt pt] (.Tuple [a, b] k2 pt2) pos) (sPar2 i j fa fb) :=
  qs_of (ps_par hc hN hi hj hij hx hy (pa_cons ha.pe (pa_cons hb.pe pa_nil hs2) hs1) hw hs) fun w0 wc w σ δ Kd D S q k => by
    show tCons (lift (gx X) rw fa) (tCons (lift (gx X) rw fb) tNil) σ w.H fun vs H1 => ∃ v u, vs = [v, u] ∧ D.nx ((σ.set i (some v)).set j (some u)) H1
    exact par2_run S q fun v u w2 δ' q' S' => ⟨v, u, rfl, k.nx δ' _ _ q' S'⟩
/-- the same where a tuple is made: a name is a cell of the def -/
theorem q_par2T (i j : Nat) {px py pt : Pos} {kt k2 : Nat} {pt2 : Pos} (ha : QE X rw a fa) (hb : QE X rw b fb) (hg : QG X (.Tuple [.Name x px, .Name y py] kt pt) (.tup [.one i, .one j])) (hs1 : starEach [a, b] X.env = (false, eval a X.env) :: starEach [b] X.env := by rfl) (hs2 : starEach [b] X.env = [(false, eval b X.env)] := by rfl)
    (hs : swapsWithSole [.Tuple [.Name x px, .Name y py] kt pt] (.Tuple [a, b] k2 pt2) pos.line X.env = pure false := by rfl) (hw : swappedStores [.Tuple [.Name x px, .Name y py] kt pt] (.Tuple [a, b] k2 pt2) X.env = pure none := by rfl)
    (h1 : (assignEach [.Tuple [.Name x px, .Name y py] kt pt] X.env).map (·.2) = [assign (.Tuple [.Name x px, .Name y py] kt pt) X.env] := by rfl) :
    QS X rw (.Assign [.Tuple [.Name x px, .Name y py] kt pt] (.Tuple [a, b] k2 pt2) pos) (sPar2 i j fa fb) :=
  qs_of (ps_asg (pe_tup (pa_cons ha.pe (pa_cons hb.pe pa_nil hs2) hs1)) hg.pg hs hw h1) fun w0 wc w σ δ Kd D S q k => by
    show tCons (lift (gx X) rw fa) (tCons (lift (gx X) rw fb) tNil) σ w.H fun xs H1 => xs.length ≤ sizeLine ∧ ∀ p, H1 p = none → Tg.g X.K (Tg.tup [.one i, .one j]) (.ref p) σ (upd H1 p (.tup xs)) D.nx
    refine par2_run S q fun v u w2 δ' q' S' => ⟨by show 2 ≤ sizeLine; decide, fun p hp => ?_⟩
    have gl : Gr (gx X) rw w2 ⟨w2.C, w2.M, w2.P, upd w2.H p (.tup [v, u])⟩ := (Gr.loose S'.gr.ok hp).weak
    rw [Tg.g, Tg.gA, Tg.gA, Tg.gA, Tg.g, Tg.g]
    exact ⟨p, [v, u], rfl, .inl (.inl upd_same), rfl, v, [u], rfl, u, [], rfl, rfl, k.nx δ' _ ⟨w2.C, w2.M, w2.P, _⟩ q' (S'.mono gl)⟩
theorem par3_run {i j l : Nat} {w0 wc w : Wd} {σ : L2.St} {δ : DEnv} {Kd : KD} {Q : List V → Hp → Prop} (S : StD (gx X) rw w0 wc w σ δ) (q : sPar3 i j l fa fb f Kd δ w.M)
    (k : ∀ v u s w2 δ', Kd.nx δ' w2.M → StD (gx X) rw w0 wc w2 (((σ.set i (some v)).set j (some u)).set l (some s)) δ' → Q [v, u, s] w2.H) :
    tCons (lift (gx X) rw fa) (tCons (lift (gx X) rw fb) (tCons (lift (gx X) rw f) tNil)) σ w.H Q := by
  refine ⟨w, δ, _, rfl, S.rep, q, fun r1 v1 w1 q1 g1 z1 => ?_⟩
  have R1 := S.rep.mono g1
  refine ⟨w1, δ, _, rfl, R1, q1, fun r2 v2 w2 q2 g2 z2 => ?_⟩
  have R2 := R1.mono g2
  refine ⟨w2, δ, _, rfl, R2, q2, fun r3 v3 w3 q3 g3 z3 => ?_⟩
  have R3 := R2.mono g3
  have g01 := S.gr.trans g1
  have g02 := g01.trans g2
  have fr0 := fun l (hl : w.H l = none) => S.gr.fresh hl
  have fr1 := fun l (hl : w1.H l = none) => g01.fresh hl
  have fr2 := fun l (hl : w2.H l = none) => g02.fresh hl
  obtain ⟨A1, A2⟩ := put_at i R3 S.ho S.rep.ownK fr0 ((z1.mono g2).mono g3)
  obtain ⟨C1, C2⟩ := put_at i R1 S.ho S.rep.ownK fr0 z1
  obtain ⟨E1, E2⟩ := put_at i R2 S.ho S.rep.ownK fr0 (z1.mono g2)
  obtain ⟨B1, B2⟩ := put_at j A1 A2 C1.ownK fr1 (z2.mono g3)
  obtain ⟨F1, F2⟩ := put_at j E1 E2 C1.ownK fr1 z2
  obtain ⟨G1, G2⟩ := put_at l B1 B2 F1.ownK fr2 z3
  have g12 := (g1.trans g2).trans g3
  exact k v1 v2 v3 w3 _ q3 ⟨S.gr.trans g12, S.pc.trans g12.pp, S.cc.trans g12.cc, G1, G2⟩
theorem q_par3 (i j l : Nat) {px py pz pt : Pos} {kt k2 : Nat} {pt2 : Pos} (hN : X.N.Nodup) (ha : QE X rw a fa) (hb : QE X rw b fb) (he : QE X rw c f) (hw : swappedStores [.Tuple [.Name x px, .Name y py, .Name z pz] kt pt] (.Tuple [a, b, c] k2 pt2) X.env = pure (some [x, y, z])) (hi : X.N[i]? = some x := by rfl) (hj : X.N[j]? = some y := by rfl) (hl : X.N[l]? = some z := by rfl) (hij : i ≠ j := by decide) (hil : i ≠ l := by decide) (hjl : j ≠ l := by decide)
    (hx : X.env.scope.names.lookup x = some .local := by rfl) (hy : X.env.scope.names.lookup y = some .local := by rfl) (hz : X.env.scope.names.lookup z = some .local := by rfl) (hs1 : starEach [a, b, c] X.env = (false, eval a X.env) :: starEach [b, c] X.env := by rfl) (hs2 : starEach [b, c] X.env = (false, eval b X.env) :: starEach [c] X.env := by rfl) (hs3 : starEach [c] X.env = [(false, eval c X.env)] := by rfl)
    (hs : swapsWithSole [.Tuple [.Name x px, .Name y py, .Name z pz] kt pt] (.Tuple [a, b, c] k2 pt2) pos.line X.env = pure false := by rfl) (hc : X.calm = true := by rfl) :
    QS X rw (.Assign [.Tuple [.Name x px, .Name y py, .Name z pz] kt pt] (.Tuple [a, b, c] k2 pt2) pos) (sPar3 i j l fa fb f) :=
  qs_of (ps_par3 hc hN hi hj hl hij hil hjl hx hy hz (pa_cons ha.pe (pa_cons hb.pe (pa_cons he.pe pa_nil hs3) hs2) hs1) hw hs) fun w0 wc w σ δ Kd D S q k => by
    show tCons (lift (gx X) rw fa) (tCons (lift (gx X) rw fb) (tCons (lift (gx X) rw f) tNil)) σ w.H fun vs H1 => ∃ v u s, vs = [v, u, s] ∧ D.nx (((σ.set i (some v)).set j (some u)).set l (some s)) H1
    exact par3_run S q fun v u s w2 δ' q' S' => ⟨v, u, s, rfl, k.nx δ' _ _ q' S'⟩
theorem q_par3T (i j l : Nat) {px py pz pt : Pos} {kt k2 : Nat} {pt2 : Pos} (ha : QE X rw a fa) (hb : QE X rw b fb) (he : QE X rw c f) (hg : QG X (.Tuple [.Name x px, .Name y py, .Name z pz] kt pt) (.tup [.one i, .one j, .one l])) (hs1 : starEach [a, b, c] X.env = (false, eval a X.env) :: starEach [b, c] X.env := by rfl) (hs2 : starEach [b, c] X.env = (false, eval b X.env) :: starEach [c] X.env := by rfl) (hs3 : starEach [c] X.env = [(false, eval c X.env)] := by rfl)
    (hs : swapsWithSole [.Tuple [.Name x px, .Name y py, .Name z pz] kt pt] (.Tuple [a, b, c] k2 pt2) pos.line X.env = pure false := by rfl) (hw : swappedStores [.Tuple [.Name x px, .Name y py, .Name z pz] kt pt] (.Tuple [a, b, c] k2 pt2) X.env = pure none := by rfl)
    (h1 : (assignEach [.Tuple [.Name x px, .Name y py, .Name z pz] kt pt] X.env).map (·.2) = [assign (.Tuple [.Name x px, .Name y py, .Name z pz] kt pt) X.env] := by rfl) :
    QS X rw (.Assign [.Tuple [.Name x px, .Name y py, .Name z pz] kt pt] (.Tuple [a, b, c] k2 pt2) pos) (sPar3 i j l fa fb f) :=
  qs_of (ps_asg (pe_tup (pa_cons ha.pe (pa_cons hb.pe (pa_cons he.pe pa_nil hs3) hs2) hs1)) hg.pg hs hw h1) fun w0 wc w σ δ Kd D S q k => by
    show tCons (lift (gx X) rw fa) (tCons (lift (gx X) rw fb) (tCons (lift (gx X) rw f) tNil)) σ w.H fun xs H1 => xs.length ≤ sizeLine ∧ ∀ p, H1 p = none → Tg.g X.K (Tg.tup [.one i, .one j, .one l]) (.ref p) σ (upd H1 p (.tup xs)) D.nx
    refine par3_run S q fun v u s w2 δ' q' S' => ⟨by show 3 ≤ sizeLine; decide, fun p hp => ?_⟩
    have gl : Gr (gx X) rw w2 ⟨w2.C, w2.M, w2.P, upd w2.H p (.tup [v, u, s])⟩ := (Gr.loose S'.gr.ok hp).weak
    rw [Tg.g, Tg.gA, Tg.gA, Tg.gA, Tg.gA, Tg.g, Tg.g, Tg.g]
    exact ⟨p, [v, u, s], rfl, .inl (.inl upd_same), rfl, v, [u, s], rfl, u, [s], rfl, s, [], rfl, rfl, k.nx δ' _ ⟨w2.C, w2.M, w2.P, _⟩ q' (S'.mono gl)⟩
/-- a, b = e, e a tuple -/
def sAsgT (t : Tg) (f : EV) : SV := fun K δ M => f δ M fun r M1 => t.bind r.d δ fun δ' => K.nx δ' M1
theorem q_asgT (he : QE X rw e f) (hg : QG X tg t) (hs : swapsWithSole [tg] e pos.line X.env = pure false := by rfl) (hw : swappedStores [tg] e X.env = pure none := by rfl)
    (h1 : (assignEach [tg] X.env).map (·.2) = [assign tg X.env] := by rfl) : QS X rw (.Assign [tg] e pos) (sAsgT t f) :=
  qs_of (ps_asg he.pe hg.pg hs hw h1) fun w0 wc w σ δ Kd D S q k => by
    refine lift_d S.rep (fun d M => t.bind d δ fun δ' => Kd.nx δ' M) q fun d v w1 q1 g1 z1 => ?_
    obtain ⟨δ', hset, q1⟩ := someQ_e q1
    have S1 := S.mono g1
    refine Tg.ok z1 S1.rep hset fun σ' b => k.nx δ' σ' w1 q1 ⟨S1.gr, S1.pc, S1.cc, b.rep, fun j d l h1 h2 => ?_⟩
    obtain ⟨h3, h4⟩ := b.own j d h1
    rw [b.out j h4] at h2
    exact S1.ho j d l h3 h2
/-- x += e of ints and texts -/
def augD (x y : D) (q : D → Prop) : Prop := match x, y with
  | .int i, .int j => q (.int (i + j))
  | .str s, .str u => szOk (s.length + u.length) (q (.str (s ++ u)))
  | _, _ => False
def sAug (i : Nat) (f : EV) : SV := fun K δ M => match δ[i]? with
  | some (.val d) => f δ M fun r M1 => augD d r.d fun d' => K.nx (δ.set i (.val d')) M1
  | _ => False
theorem ip_add2 : PIp X .Add (fun x y H Q => (∃ i j, x = .int i ∧ y = .int j ∧ Q (.int (i + j)) H) ∨ ∃ i j, x = .str i ∧ y = .str j ∧ i.length + j.length ≤ sizeLine ∧ Q (.str (i ++ j)) H) := by
  intro pins s σ H x y v u Q I rx ry h
  rcases h with h | h
  · exact iop_add pins s σ H x y v u Q I rx ry h
  · exact iop_add_str pins s σ H x y v u Q I rx ry h
theorem augD_e {K : PySem.W.Frag} {C : List Addr} {P : Hp} {v u : V} {d d2 : D} {q : D → Prop} (h : augD d d2 q) (zv : Dp K C P v d) (zu : Dp K C P u d2) : (∃ i j, v = .int i ∧ u = .int j ∧ q (.int (i + j))) ∨ ∃ i j, v = .str (tx i) ∧ u = .str (tx j) ∧ (tx i).length + (tx j).length ≤ sizeLine ∧ vS (i ++ j) ∧ q (.str (i ++ j)) := by
  unfold augD at h
  cases d with
  | int n =>
    cases d2 with
    | int m => exact .inl ⟨n, m, zv.int', zu.int', h⟩
    | _ => exact h.elim
  | str n =>
    cases d2 with
    | str m =>
      obtain ⟨q1, q2⟩ := szOk_e h
      exact .inr ⟨n, m, zv.str'.1, zu.str'.1, by rw [tx_len, tx_len]; exact q1, vS_app zv.str'.2 zu.str'.2, q2⟩
    | _ => exact h.elim
  | _ => cases d2 <;> exact h.elim
theorem q_aug (i : Nat) {pos' : Pos} (hN : X.N.Nodup) (he : QE X rw e f) (hi : X.N[i]? = some x := by rfl) (hx : Loc X.env.scope x := by first | exact Or.inl rfl | exact Or.inr rfl) (hf : X.fn x = true ∨ X.env.scope.names.lookup x = some .local := by first | exact .inl rfl | exact .inr rfl | assumption) :
    QS X rw (.AugAssign (.Name x pos') .Add e pos) (sAug i f) :=
  qs_of (ps_aug hN hi hx he.pe ip_add2 hf) fun w0 wc w σ δ Kd D S q k => by
    unfold sAug at q
    cases e : δ[i]? with
    | none => rw [e] at q; exact q.elim
    | some s =>
      rw [e] at q
      cases s with
      | no => exact q.elim
      | own ds => exact q.elim
      | val d =>
        obtain ⟨v, h1, h2⟩ := S.rep.val i d e
        refine ⟨v, h1, lift_d S.rep (fun d2 M1 => augD d d2 fun d' => Kd.nx (δ.set i (.val d')) M1) q fun d2 v2 w1 q1 g1 z1 => ?_⟩
        rcases augD_e q1 (g1.dp h2) z1 with ⟨n, m, rfl, rfl, q2⟩ | ⟨n, m, rfl, rfl, hl, hv, q2⟩
        · exact .inl ⟨n, m, rfl, rfl, k.nx _ _ _ q2 (S.put (r := .val (.int (n + m))) i g1 (.int _))⟩
        · refine .inr ⟨tx n, tx m, rfl, rfl, hl, ?_⟩
          rw [tx_app]
          exact k.nx _ _ _ q2 (S.put (r := .val (.str (n ++ m))) i g1 (.str _ hv))

/-! ### own containers -/
def lstQ (d : D) (q : List D → Prop) : Prop := match d with
  | .lst xs => q xs
  | _ => False
theorem lstQ_e {d : D} {q : List D → Prop} (h : lstQ d q) : ∃ xs, d = .lst xs ∧ q xs := by
  cases d <;> first | exact ⟨_, rfl, h⟩ | exact h.elim
theorem own_lst {G : Gx} {w : Wd} {σ : L2.St} {δ : DEnv} {i : Nat} {xs : List D} (R : Rep G w σ δ) (e : δ[i]? = some (Sl.own (.lst xs))) : ∃ l vs, σ[i]? = some (some (V.ref l)) ∧ w.P l = none ∧ l ∉ w.C ∧ w.H l = some (.lst vs) ∧ DpA G.K w.C w.P vs xs := by
  obtain ⟨l, h1, h2, h3, o, h4, h5⟩ := R.own i _ e
  cases h5 with
  | lst h5 => exact ⟨l, _, h1, h2, h3, h4, h5⟩
def sApp (i : Nat) (f : EV) : SV := fun K δ M => ownQ δ i fun d => lstQ d fun ds => f δ M fun r M1 => szOk (ds.length + 1) (K.nx (δ.set i (.own (.lst (ds ++ [r.d])))) M1)
theorem q_app (i : Nat) {x : Str} {p1 apos cpos : Pos} (he : QE X rw e f) (hN : X.N[i]? = some x := by rfl) (hv : Vis X.env.scope x := by first | exact Or.inl rfl | exact Or.inr (Or.inl rfl) | exact Or.inr (Or.inr rfl)) (hd : (x == ("__debug__" : Str)) = false := by decide) (hcd : (x == ("__classdict__" : Str)) = false := by decide)
    (hs1 : starEach [e] X.env = [(false, eval e X.env)] := by rfl) (hline : (apos.endLine == cpos.line) = true := by rfl) (hbase : attributeBase (.Name x p1) "append" X.env (eval (.Name x p1) X.env) = eval (.Name x p1) X.env := by rfl)
    (hfew : ((backTo cpos (starEach [e] X.env)).all (fun x => !x.1) && (backToKw cpos (keywordEach [] X.env)).all (fun x => x.1.isSome) && decide ([e].length + ([] : List Keyword).length + (if ([] : List Keyword).isEmpty then 0 else 1) < 30)) = true := by rfl)
    (hs : swapsWith (.Call (.Attribute (.Name x p1) "append" apos) [e] [] cpos) none pos.line X.env = pure false := by rfl) :
    QS X rw (.Expr (.Call (.Attribute (.Name x p1) "append" apos) [e] [] cpos) pos) (sApp i f) :=
  qs_of (ps_expr (pe_bm PySem.F.plainAttrs_list PySem.F.slot_list_append PySem.F.type_list_append mt_append (pe_var hN hv hd hcd) (pa_cons he.pe pa_nil hs1) hbase hfew hline hs1) hs) fun w0 wc w σ δ Kd D S q k => by
    obtain ⟨d, e, q⟩ := ownQ_e q
    obtain ⟨ds, rfl, q'⟩ := lstQ_e q
    obtain ⟨l, vs, h1, h2, h3, h4, h5⟩ := own_lst S.rep e
    refine ⟨.ref l, h1, .inl ⟨rfl, vs, .inl (.inl h4)⟩, ?_⟩
    refine lift_d S.rep (fun d M1 => szOk (ds.length + 1) (Kd.nx (δ.set i (.own (.lst (ds ++ [d])))) M1)) q' fun d v w1 q1 g z => ?_
    obtain ⟨q2, q3⟩ := szOk_e q1
    have h6 := g.hh l _ h4 h3
    refine ⟨l, vs, v, rfl, rfl, h6, by rw [h5.length]; omega, k.nx _ _ ⟨w1.C, w1.M, w1.P, _⟩ q3 ?_⟩
    exact (S.mono g).chg e h1 (HoD.lst ((g.dpa h5).append (.one z)))
/-- x.insert(k, e) -/
def sIns (i : Nat) (fa f : EV) : SV := fun K δ M => ownQ δ i fun d => lstQ d fun ds => fa δ M fun r1 M1 => f δ M1 fun r M2 => intQ r1.d fun j => (0 ≤ j ∧ j < 1000000000) ∧ szOk (ds.length + 1) (K.nx (δ.set i (.own (.lst (ds.take j.toNat ++ [r.d] ++ ds.drop j.toNat)))) M2)
theorem q_ins (i : Nat) {x : Str} {p1 apos cpos : Pos} (ha : QE X rw a fa) (he : QE X rw e f) (hN : X.N[i]? = some x := by rfl) (hv : Vis X.env.scope x := by first | exact Or.inl rfl | exact Or.inr (Or.inl rfl) | exact Or.inr (Or.inr rfl)) (hd : (x == ("__debug__" : Str)) = false := by decide) (hcd : (x == ("__classdict__" : Str)) = false := by decide)
    (hs1 : starEach [e] X.env = [(false, eval e X.env)] := by rfl) (hs2 : starEach [a, e] X.env = (false, eval a X.env) :: starEach [e] X.env := by rfl) (hpl : (backTo cpos (starEach [e] X.env)).any (·.1) = false := by rfl) (hline : (apos.endLine == cpos.line) = true := by rfl) (hbase : attributeBase (.Name x p1) "insert" X.env (eval (.Name x p1) X.env) = eval (.Name x p1) X.env := by rfl)
    (hfew : ((backTo cpos (starEach [a, e] X.env)).all (fun x => !x.1) && (backToKw cpos (keywordEach [] X.env)).all (fun x => x.1.isSome) && decide ([a, e].length + ([] : List Keyword).length + (if ([] : List Keyword).isEmpty then 0 else 1) < 30)) = true := by rfl)
    (hs : swapsWith (.Call (.Attribute (.Name x p1) "insert" apos) [a, e] [] cpos) none pos.line X.env = pure false := by rfl) :
    QS X rw (.Expr (.Call (.Attribute (.Name x p1) "insert" apos) [a, e] [] cpos) pos) (sIns i fa f) :=
  qs_of (ps_expr (pe_bm PySem.F.plainAttrs_list PySem.F.slot_list_insert PySem.F.type_list_insert mt_insert (pe_var hN hv hd hcd) (pa_cons ha.pe (pa_cons he.pe pa_nil hs1) hs2) hbase hfew hline hs2 hpl) hs) fun w0 wc w σ δ Kd D S q k => by
    obtain ⟨d, e, q⟩ := ownQ_e q
    obtain ⟨ds, rfl, q'⟩ := lstQ_e q
    obtain ⟨l, vs, h1, h2, h3, h4, h5⟩ := own_lst S.rep e
    refine ⟨.ref l, h1, .inl ⟨rfl, vs, .inl (.inl h4)⟩, ?_⟩
    refine lift_d S.rep (fun d1 M1 => f δ M1 fun r M2 => intQ d1 fun j => (0 ≤ j ∧ j < 1000000000) ∧ szOk (ds.length + 1) (Kd.nx (δ.set i (.own (.lst (ds.take j.toNat ++ [r.d] ++ ds.drop j.toNat)))) M2)) q' fun d1 v1 w1 q1 g1 z1 => ?_
    refine lift_d (S.rep.mono g1) (fun d M2 => intQ d1 fun j => (0 ≤ j ∧ j < 1000000000) ∧ szOk (ds.length + 1) (Kd.nx (δ.set i (.own (.lst (ds.take j.toNat ++ [d] ++ ds.drop j.toNat)))) M2)) q1 fun d v w2 q2 g2 z => ?_
    obtain ⟨j, e1, ⟨j0, j1⟩, q3⟩ := intQ_e q2
    subst e1
    cases z1.int'
    obtain ⟨q4, q5⟩ := szOk_e q3
    have g := g1.trans g2
    have h6 := g.hh l _ h4 h3
    refine ⟨l, vs, j, v, rfl, rfl, h6, by rw [h5.length]; omega, j0, by omega, k.nx _ _ ⟨w2.C, w2.M, w2.P, _⟩ q5 ?_⟩
    have u := g.dpa h5
    exact (S.mono g).chg e h1 (HoD.lst (((u.take _).append (.one z)).append (u.drop _)))
/-- x[k] = e, x a dict of the def's own -/
theorem dput_of {G : Gx} {w : Wd} {l : Addr} {y v : V} {k d : D} {t : Bool} {kds : List (D × D)} (o : WOk G w) {ho : HO} (h1 : w.H l = some ho) (h2 : HoD G.K w.C w.P ho (.dct t kds)) (zy : Dp G.K w.C w.P y k) (zv : Dp G.K w.C w.P v d) (hk : isKey t k = true) (hz : kds.length < 1000000) :
    ∃ o', DPut w.H l y v (upd w.H l o') ∧ HoD G.K w.C w.P o' (.dct t (putD kds k d)) := by
  have vk : ∀ {p : D × D}, (∀ p ∈ kds, vK p.1) → p ∈ putD kds k d → vK p.1 := fun hv hp => by
    rcases put_mem hp with ⟨q, q1, q2⟩ | e
    · rw [← q2]; exact hv q q1
    · rw [e]; exact zy.vK
  cases h2 with
  | @dK kvs _ hks hv hzz =>
    obtain ⟨kk, ek⟩ := keyD_some hk
    have ey := keyD_V zy ek
    subst ey
    obtain ⟨a1, a2⟩ := put_rel (F := keyD) (fun x y k l => kEq_key) ek zv hks hzz
    have hl : kvs.length = kds.length := by have := congrArg List.length hks; rw [List.length_map, List.length_map] at this; exact this.symm
    exact ⟨_, DPut.k h1 (by rw [hl]; exact Nat.lt_trans hz (by decide)), .dK a1 (fun p hp => vk hv hp) a2⟩
  | @dT kvs _ hks hv hzz =>
    obtain ⟨kk, ek⟩ := tkD_some hk
    cases k with
    | tup xs =>
      obtain ⟨b, vs, rfl, hb, zb⟩ := zy.tup'
      have ev := keysD_V zb ek
      subst ev
      obtain ⟨a1, a2⟩ := put_rel (F := tkD) (fun x y k l => kEq_tk) ek zv hks hzz
      have hl : kvs.length = kds.length := by have := congrArg List.length hks; rw [List.length_map, List.length_map] at this; exact this.symm
      exact ⟨_, DPut.t h1 (o.ex.tup hb) (by rw [hl]; exact Nat.lt_trans hz (by decide)), .dT a1 (fun p hp => vk hv hp) a2⟩
    | _ => cases ek
end
end HI

namespace HI
open PySem PySem.Spec PyProof.Rows L2
/-! ### cells -/
section
variable {G : Gx} {w w1 : Wd}
/-- a loose container becomes a cell -/
theorem Gr.cellify {l : Addr} {d : D} (g : Gr G true w w1) (h1 : w1.P l = none) (h2 : w.H l = none) (h3 : l ∉ w1.C) (h4 : CellOk G w1 l d) : Gr G true w ⟨w1.C ++ [l], w1.M ++ [d], w1.P, w1.H⟩ := by
  have pre : Pre w1.C (w1.C ++ [l]) := ⟨[l], rfl⟩
  refine ⟨⟨g.ok.ex, g.ok.nown, by rw [List.length_append, List.length_append, g.ok.len]; rfl, ?_, fun n a e h5 h6 => ?_⟩, g.pp, g.cc.trans pre, g.hh, g.off, fun a h n => ?_, fun e => by cases e⟩
  · rw [List.nodup_append]
    refine ⟨g.ok.nd, by simp, fun a ha b hb e => ?_⟩
    rw [List.mem_singleton] at hb
    subst hb
    subst e
    exact h3 ha
  · have keep : ∀ {a : Addr} {d : D}, CellOk G w1 a d → CellOk G ⟨w1.C ++ [l], w1.M ++ [d], w1.P, w1.H⟩ a d := fun k => CellOk.keep (w' := ⟨w1.C ++ [l], _, w1.P, w1.H⟩) k pre (Same.refl _) (fun _ _ h _ => h) fun _ _ z => z
    by_cases hn : n < w1.C.length
    · rw [List.getElem?_append_left hn] at h5
      rw [List.getElem?_append_left (by rw [← g.ok.len]; exact hn)] at h6
      obtain ⟨k1, k2⟩ := g.ok.cell n a e h5 h6
      exact ⟨k1, CellOk.keep (w' := ⟨w1.C ++ [l], w1.M ++ [d], w1.P, w1.H⟩) k2 pre (Same.refl _) (fun _ _ h _ => h) fun _ _ z => z⟩
    · have h5' := (List.getElem?_eq_some_iff.mp h5).1
      rw [List.length_append] at h5'
      have en : n = w1.C.length := by simp at h5'; omega
      subst en
      rw [List.getElem?_append_right (Nat.le_refl _), Nat.sub_self] at h5
      rw [List.getElem?_append_right (by rw [g.ok.len]; exact Nat.le_refl _), g.ok.len, Nat.sub_self] at h6
      cases h5
      cases h6
      exact ⟨h1, CellOk.keep (w' := ⟨w1.C ++ [l], w1.M ++ [d], w1.P, w1.H⟩) h4 pre (Same.refl _) (fun _ _ h _ => h) fun _ _ z => z⟩
  · rcases List.mem_append.mp h with h | h
    · exact g.fr a h n
    · rw [List.mem_singleton] at h
      subst h
      exact h2
/-- a cell's content changes -/
theorem Gr.setCell {n : Nat} {a : Addr} {o' : HO} {d' : D} (k : WOk G w) (hc : w.C[n]? = some a) (no : ∀ x, w.H a ≠ some (.own x)) (hok : CellOk G ⟨w.C, w.M.set n d', w.P, upd w.H a o'⟩ a d') : Gr G true w ⟨w.C, w.M.set n d', w.P, upd w.H a o'⟩ := by
  have ha : a ∈ w.C := List.mem_of_getElem? hc
  have hP := (k.mem ha).1
  refine ⟨⟨fun b u h => ?_, k.nown, by rw [List.length_set]; exact k.len, k.nd, fun m b d e1 e2 => ?_⟩, Same.refl _, Pre.refl _, fun b u h nb => ?_, fun b u h nt z => z, fun b h nb => absurd h nb, fun e => by cases e⟩
  · show ∃ o2, upd w.H a o' b = some o2 ∧ unl o2 = u
    rw [upd_ne (ne_of_none h hP)]
    exact k.ex _ _ h
  · by_cases hm : m = n
    · subst hm
      have hlt : m < w.M.length := by rw [← k.len]; exact (List.getElem?_eq_some_iff.mp hc).1
      have e2 : (w.M.set m d')[m]? = some d := e2
      rw [List.getElem?_set_self hlt] at e2
      cases e2
      have e1 : w.C[m]? = some b := e1
      rw [hc] at e1
      cases e1
      exact ⟨hP, hok⟩
    · have e2 : (w.M.set n d')[m]? = some d := e2
      rw [List.getElem?_set_ne (fun z => hm z.symm)] at e2
      obtain ⟨k1, k2⟩ := k.cell m b d e1 e2
      refine ⟨k1, k2.keep (Pre.refl _) (Same.refl _) (fun x u hx q => ?_) fun _ _ z => z⟩
      show upd w.H a o' x = some u
      rw [upd_ne fun z => ?_]
      · exact hx
      · subst z
        rcases q with q | q
        · subst q; exact hm (at_inj k.nd e1 hc)
        · subst q; exact no _ hx
  · show upd w.H a o' b = some u
    rw [upd_ne (a := a) (b := b) (fun z => by subst z; exact nb ha)]
    exact h
theorem cell_nown {n : Nat} {a : Addr} (k : WOk G w) (hc : w.C[n]? = some a) : ∀ x, w.H a ≠ some (.own x) := fun x z => by
  obtain ⟨d, _, _, q⟩ := k.at hc
  cases d with
  | lst ds => obtain ⟨o, q1, q2⟩ := q; rw [z] at q1; cases q1; exact q2.nown _ rfl
  | dct t ds => obtain ⟨o, q1, q2⟩ := q; rw [z] at q1; cases q1; exact q2.nown _ rfl
  | obj c fs => obtain ⟨_, _, _, _, q1, _⟩ := q; rw [z] at q1; cases q1
  | bag => obtain ⟨_, _, _, _, _, _, q1, _⟩ := q; rw [z] at q1; cases q1
  | lck d k => obtain ⟨_, _, _, q1, _⟩ := q; rw [z] at q1; cases q1
  | opq => obtain ⟨_, q1⟩ := q; rw [z] at q1; cases q1
  | _ => exact q.elim
end
def newQ (r : Rz) (q : D → Prop) : Prop := match r with
  | .new d => q d
  | .val _ => False
theorem newQ_e {r : Rz} {q : D → Prop} (h : newQ r q) : ∃ d, r = .new d ∧ q d := by
  cases r with
  | new d => exact ⟨d, rfl, h⟩
  | val d => exact h.elim
def eCell (f : EV) : EV := fun δ M Q => f δ M fun r M1 => newQ r fun d => Q (.val (.cell M1.length)) (M1 ++ [d])
def cellQ (d : D) (q : Nat → Prop) : Prop := match d with
  | .cell n => q n
  | _ => False
theorem cellQ_e {d : D} {q : Nat → Prop} (h : cellQ d q) : ∃ n, d = .cell n ∧ q n := by
  cases d <;> first | exact ⟨_, rfl, h⟩ | exact h.elim
theorem cont_cell {G : Gx} {w : Wd} {l : Addr} {d : D} (h : Cont G w l d) : CellOk G w l d := by
  obtain ⟨o, h1, h2⟩ := h
  cases h2 with
  | lst a1 => exact ⟨_, h1, .lst a1⟩
  | dK a1 a2 a3 => exact ⟨_, h1, .dK a1 a2 a3⟩
  | dT a1 a2 a3 => exact ⟨_, h1, .dT a1 a2 a3⟩
section
variable {X : Cx} {e a b c o tg i : Expr} {pos pos' : Pos} {f fa fb fo fi fv : EV} {x y z : Str} {ss us : List Stmt} {k : Nat}
theorem q_cell (h : QE X true e f) : QE X true e (eCell f) := qe_of h.pe fun w σ δ Qd Q R hf k =>
  ⟨w, δ, _, rfl, R, hf, fun r v w1 q g z => by
    obtain ⟨d, rfl, q⟩ := newQ_e q
    obtain ⟨l, rfl, h1, h2, h3, h4⟩ := z
    have g2 := g.cellify h1 h2 h3 (cont_cell h4)
    refine k _ _ ⟨w1.C ++ [l], w1.M ++ [d], w1.P, w1.H⟩ q g2 (Dp.cell ?_)
    show (w1.C ++ [l])[w1.M.length]? = some l
    rw [← g.ok.len, List.getElem?_append_right (Nat.le_refl _), Nat.sub_self]
    rfl⟩
/-- o.append(e), o a cell -/
def sCApp (fo f : EV) : SV := fun K δ M => fo δ M fun o M1 => cellQ o.d fun n => someQ M1[n]? fun c0 => lstQ c0 fun _ => f δ M1 fun r M2 => someQ M2[n]? fun c => lstQ c fun xs => szOk (xs.length + 1) (K.nx δ (M2.set n (.lst (xs ++ [r.d]))))
theorem cell_lst {G : Gx} {w : Wd} {n : Nat} {v : V} {xs : List D} (k : WOk G w) (z : Dp G.K w.C w.P v (.cell n)) (e : w.M[n]? = some (.lst xs)) : ∃ a vs, v = .ref a ∧ w.C[n]? = some a ∧ w.H a = some (.lst vs) ∧ DpA G.K w.C w.P vs xs := by
  obtain ⟨a, rfl, ha⟩ := z.cell'
  obtain ⟨_, o, h1, h2⟩ := k.cell n a _ ha e
  cases h2 with
  | lst h2 => exact ⟨a, _, rfl, ha, h1, h2⟩
theorem q_cApp {apos cpos : Pos} (ho : QE X true o fo) (he : QE X true e f) (hs1 : starEach [e] X.env = [(false, eval e X.env)] := by rfl) (hline : (apos.endLine == cpos.line) = true := by rfl) (hbase : attributeBase o "append" X.env (eval o X.env) = eval o X.env := by rfl)
    (hfew : ((backTo cpos (starEach [e] X.env)).all (fun x => !x.1) && (backToKw cpos (keywordEach [] X.env)).all (fun x => x.1.isSome) && decide ([e].length + ([] : List Keyword).length + (if ([] : List Keyword).isEmpty then 0 else 1) < 30)) = true := by rfl)
    (hs : swapsWith (.Call (.Attribute o "append" apos) [e] [] cpos) none pos.line X.env = pure false := by rfl) :
    QS X true (.Expr (.Call (.Attribute o "append" apos) [e] [] cpos) pos) (sCApp fo f) :=
  qs_of (ps_expr (pe_bm PySem.F.plainAttrs_list PySem.F.slot_list_append PySem.F.type_list_append mt_append ho.pe (pa_cons he.pe pa_nil hs1) hbase hfew hline hs1) hs) fun w0 wc w σ δ Kd D S q k => by
    dsimp only [tDrop, tBM, tCons, tNil]
    refine lift_d S.rep (fun d M1 => cellQ d fun n => someQ M1[n]? fun c0 => lstQ c0 fun _ => f δ M1 fun r M2 => someQ M2[n]? fun c => lstQ c fun xs => szOk (xs.length + 1) (Kd.nx δ (M2.set n (.lst (xs ++ [r.d]))))) q fun d v w1 q1 g1 z1 => ?_
    obtain ⟨n, rfl, q1⟩ := cellQ_e q1
    obtain ⟨c0, e0, q1⟩ := someQ_e q1
    obtain ⟨ys, e00, q2⟩ := lstQ_e q1
    subst e00
    obtain ⟨a, us, rfl, ha, hH, zs⟩ := cell_lst g1.ok z1 e0
    refine ⟨.inl ⟨rfl, us, .inl (.inl hH)⟩, ?_⟩
    refine lift_d (S.mono g1).rep (fun d M2 => someQ M2[n]? fun c => lstQ c fun xs => szOk (xs.length + 1) (Kd.nx δ (M2.set n (.lst (xs ++ [d]))))) q2 fun d v w2 q2 g2 z2 => ?_
    obtain ⟨c, e1, q3⟩ := someQ_e q2
    obtain ⟨xs, e2, q4⟩ := lstQ_e q3
    subst e2
    obtain ⟨q5, q6⟩ := szOk_e q4
    obtain ⟨a', vs, ea, ha', hH', zs'⟩ := cell_lst g2.ok (g2.dp z1) e1
    cases ea
    refine ⟨a, vs, v, rfl, rfl, hH', by rw [zs'.length]; omega, ?_⟩
    have g3 := Gr.setCell (o' := .lst (vs ++ [v])) (d' := .lst (xs ++ [d])) g2.ok ha' (cell_nown g2.ok ha') ⟨_, upd_same, HoD.lst (zs'.append (.one z2))⟩
    exact k.nx δ σ ⟨w2.C, w2.M.set n (.lst (xs ++ [d])), w2.P, _⟩ q6 ((S.mono g1).mono (g2.trans g3))
/-- o[i] = e, o a cell that is a dict -/
def dctQ (d : D) (q : Bool → List (D × D) → Prop) : Prop := match d with
  | .dct t kvs => q t kvs
  | _ => False
theorem dctQ_e {d : D} {q : Bool → List (D × D) → Prop} (h : dctQ d q) : ∃ t kvs, d = .dct t kvs ∧ q t kvs := by
  cases d <;> first | exact ⟨_, _, rfl, h⟩ | exact h.elim
def sCPut (fo fi fv : EV) : SV := fun K δ M => fv δ M fun r M1 => fo δ M1 fun o M2 => fi δ M2 fun i M3 => cellQ o.d fun n => someQ M3[n]? fun c => dctQ c fun t kvs => okQ (isKey t i.d) (szOk (kvs.length + 1) (K.nx δ (M3.set n (.dct t (putD kvs i.d r.d)))))
theorem q_cPut (hr : Room k X.A) (ho : QE X true o fo) (hi : QE X true i fi) (hv : QE X true e fv) (hs : swapsWith e (some (.Subscript o i pos')) pos.line X.env = pure false := by rfl) : QS X true (.Assign [.Subscript o i pos'] e pos) (sCPut fo fi fv) :=
  qs_of (ps_dput (by have := hr.un; omega) ho.pe hi.pe hv.pe hs) fun w0 wc w σ δ Kd D S q k => by
    refine lift_d S.rep (fun d M1 => fo δ M1 fun o M2 => fi δ M2 fun i M3 => cellQ o.d fun n => someQ M3[n]? fun c => dctQ c fun t kvs => okQ (isKey t i.d) (szOk (kvs.length + 1) (Kd.nx δ (M3.set n (.dct t (putD kvs i.d d)))))) q fun dv v w1 q1 g1 z1 => ?_
    have S1 := S.mono g1
    refine lift_d S1.rep (fun od M2 => fi δ M2 fun i M3 => cellQ od fun n => someQ M3[n]? fun c => dctQ c fun t kvs => okQ (isKey t i.d) (szOk (kvs.length + 1) (Kd.nx δ (M3.set n (.dct t (putD kvs i.d dv)))))) q1 fun od ov w2 q2 g2 z2 => ?_
    have S2 := S1.mono g2
    refine lift_d S2.rep (fun id M3 => cellQ od fun n => someQ M3[n]? fun c => dctQ c fun t kvs => okQ (isKey t id) (szOk (kvs.length + 1) (Kd.nx δ (M3.set n (.dct t (putD kvs id dv)))))) q2 fun id iv w3 q3 g3 z3 => ?_
    have S3 := S2.mono g3
    obtain ⟨n, rfl, q3⟩ := cellQ_e q3
    obtain ⟨c, e1, q4⟩ := someQ_e q3
    obtain ⟨t, kvs, e2, q5⟩ := dctQ_e q4
    subst e2
    obtain ⟨q6, q7⟩ := okQ_e q5
    have q8 : kvs.length + 1 ≤ 1000000 := by
      unfold szOk at q7
      cases e : Nat.ble (kvs.length + 1) 1000000 with
      | true => exact Nat.le_of_ble_eq_true e
      | false => rw [e] at q7; exact q7.elim
    have q9 := (szOk_e q7).2
    obtain ⟨a, rfl, ha⟩ := (g3.dp z2).cell'
    obtain ⟨_, ho, h1, h2⟩ := S3.gr.ok.cell n a _ ha e1
    obtain ⟨o', h3, h4⟩ := dput_of S3.gr.ok h1 h2 z3 (g3.dp (g2.dp z1)) q6 (by omega)
    refine ⟨a, _, rfl, h3, ?_⟩
    have g4 := Gr.setCell (o' := o') (d' := .dct t (putD kvs id dv)) S3.gr.ok ha (cell_nown S3.gr.ok ha) ⟨_, upd_same, h4⟩
    exact k.nx δ σ ⟨w3.C, w3.M.set n _, w3.P, _⟩ q9 (S3.mono g4)
/-- x[k] = e, x the def's own dict -/
def sOPut (j : Nat) (fi fv : EV) : SV := fun K δ M => fv δ M fun r M1 => ownQ δ j fun d => dctQ d fun t kvs => fi δ M1 fun i M2 => okQ (isKey t i.d) (szOk (kvs.length + 1) (K.nx (δ.set j (.own (.dct t (putD kvs i.d r.d)))) M2))
theorem szOk_n {n : Nat} {q : Prop} (h : szOk n q) : n ≤ 1000000 := by
  unfold szOk at h
  cases e : Nat.ble n 1000000 with
  | true => exact Nat.le_of_ble_eq_true e
  | false => rw [e] at h; exact h.elim
theorem q_oPut {rw : Bool} (j : Nat) {x : Str} {p1 : Pos} (hr : Room k X.A) (hi : QE X rw i fi) (hv : QE X rw e fv) (hN : X.N[j]? = some x := by rfl) (hvs : Vis X.env.scope x := by first | exact Or.inl rfl | exact Or.inr (Or.inl rfl) | exact Or.inr (Or.inr rfl)) (hd : (x == ("__debug__" : Str)) = false := by decide) (hcd : (x == ("__classdict__" : Str)) = false := by decide)
    (hs : swapsWith e (some (.Subscript (.Name x p1) i pos')) pos.line X.env = pure false := by rfl) : QS X rw (.Assign [.Subscript (.Name x p1) i pos'] e pos) (sOPut j fi fv) :=
  qs_of (ps_dput (by have := hr.un; omega) (pe_var hN hvs hd hcd) hi.pe hv.pe hs) fun w0 wc w σ δ Kd D S q k => by
    refine lift_d S.rep (fun d M1 => ownQ δ j fun od => dctQ od fun t kvs => fi δ M1 fun i M2 => okQ (isKey t i.d) (szOk (kvs.length + 1) (Kd.nx (δ.set j (.own (.dct t (putD kvs i.d d)))) M2))) q fun dv v w1 q1 g1 z1 => ?_
    have S1 := S.mono g1
    obtain ⟨od, e1, q2⟩ := ownQ_e q1
    obtain ⟨t, kvs, e2, q3⟩ := dctQ_e q2
    subst e2
    obtain ⟨l, h1, h2, h3, ho, h4, h5⟩ := S1.rep.own j _ e1
    refine ⟨.ref l, h1, ?_⟩
    refine lift_d S1.rep (fun id M2 => okQ (isKey t id) (szOk (kvs.length + 1) (Kd.nx (δ.set j (.own (.dct t (putD kvs id dv)))) M2))) q3 fun id iv w2 q4 g2 z2 => ?_
    have S2 := S1.mono g2
    obtain ⟨q5, q6⟩ := okQ_e q4
    have q7 := szOk_n q6
    have q8 := (szOk_e q6).2
    have h6 := g2.hh l _ h4 h3
    obtain ⟨o', h7, h8⟩ := dput_of S2.gr.ok h6 (g2.hod h5) z2 (g2.dp z1) q5 (by omega)
    exact ⟨l, _, rfl, h7, k.nx _ _ ⟨w2.C, w2.M, w2.P, _⟩ q8 (S2.chg e1 h1 h8)⟩
/-! ### new dicts -/
def eDnew (t : Bool) : EV := fun _ M Q => Q (.new (.dct t [])) M
theorem q_dnewT {rw : Bool} : QE X rw (.Dict [] [] pos) (eDnew true) := qe_of pe_dnewT fun w σ δ Qd Q R h k p hp => by
  obtain ⟨g2, z2⟩ := new_ok (Gr.refl R.ok) hp (HoD.dT (kvs := []) (kds := []) rfl (fun _ h => by cases h) .nil)
  exact k _ _ ⟨w.C, w.M, _, _⟩ h g2 z2
theorem q_dnewK {rw : Bool} : QE X rw (.Dict [] [] pos) (eDnew false) := qe_of pe_dnewK fun w σ δ Qd Q R h k p hp => by
  obtain ⟨g2, z2⟩ := new_ok (Gr.refl R.ok) hp (HoD.dK (kvs := []) (kds := []) rfl (fun _ h => by cases h) .nil)
  exact k _ _ ⟨w.C, w.M, _, _⟩ h g2 z2
/-! ### d.get(k), d.get(k, x) -/
def getQ (M : Mem) (d k x : D) (q : D → Prop) : Prop := match view M d with
  | .dct t kvs => okQ (isKey t k) (q (match look kvs k with | some e => e | none => x))
  | _ => False
def eGet1 (fo fi : EV) : EV := fun δ M Q => fo δ M fun d M1 => dctQ (view M1 d.d) fun _ _ => fi δ M1 fun i M2 => getQ M2 d.d i.d .non fun e => Q (.val e) M2
def eGet2 (fo fi fv : EV) : EV := fun δ M Q => fo δ M fun d M1 => dctQ (view M1 d.d) fun _ _ => fi δ M1 fun i M2 => fv δ M2 fun x M3 => getQ M3 d.d i.d x.d fun e => Q (.val e) M3
theorem isD_of {G : Gx} {w : Wd} {v : V} {d : D} {t : Bool} {kvs : List (D × D)} (o : WOk G w) (z : Dp G.K w.C w.P v d) (e : view w.M d = .dct t kvs) : ∃ a, v = .ref a ∧ IsD w.H a := by
  obtain ⟨a, ho, rfl, h1, h2⟩ := see_dct o z e
  rcases dct_rd h1 h2 with ⟨kvs, h, _⟩ | ⟨kvs, h, _⟩
  · exact ⟨a, rfl, .inl ⟨kvs, h⟩⟩
  · exact ⟨a, rfl, .inr ⟨kvs, h⟩⟩
theorem getQ_e {G : Gx} {w : Wd} {v y u : V} {d k x : D} {q : D → Prop} (o : WOk G w) (h : getQ w.M d k x q) (z : Dp G.K w.C w.P v d) (zy : Dp G.K w.C w.P y k) (zx : Dp G.K w.C w.P u x) : ∃ a ov r, v = .ref a ∧ DGet w.H a y ov ∧ Dp G.K w.C w.P (ov.getD u) r ∧ q r := by
  unfold getQ at h
  generalize hv : view w.M d = c at h
  cases c with
  | dct t kvs =>
    obtain ⟨h1, h2⟩ := okQ_e h
    obtain ⟨a, ov, rfl, g, hh⟩ := dget_of o z hv zy h1
    rcases hh with ⟨e1, e2⟩ | ⟨v, e, e1, e2, ze⟩
    · rw [e2] at h2
      exact ⟨a, ov, x, rfl, g, by rw [e1]; exact zx, h2⟩
    · rw [e2] at h2
      exact ⟨a, ov, e, rfl, g, by rw [e1]; exact ze, h2⟩
  | _ => exact h.elim
theorem q_get1 {rw : Bool} {apos cpos : Pos} (hr : Room k X.A) (ho : QE X rw o fo) (hi : QE X rw i fi) (m : M1 X o "get" apos i cpos := by exact ⟨rfl, rfl, rfl, rfl⟩) : QE X rw (.Call (.Attribute o "get" apos) [i] [] cpos) (eGet1 fo fi) :=
  qe_of (pe_dget1 (by have := hr.un; omega) ho.pe hi.pe m) fun w σ δ Qd Q R h kk => by
    refine lift_d R (fun d M1 => dctQ (view M1 d) fun _ _ => fi δ M1 fun i M2 => getQ M2 d i.d .non fun e => Qd (.val e) M2) h fun d v w1 q1 g1 z1 => ?_
    obtain ⟨t, kvs, e1, q2⟩ := dctQ_e q1
    obtain ⟨a, rfl, hd⟩ := isD_of g1.ok z1 e1
    refine ⟨a, rfl, hd, ?_⟩
    refine lift_d (R.mono g1) (fun id M2 => getQ M2 d id .non fun e => Qd (.val e) M2) q2 fun id iv w2 q3 g2 z2 => ?_
    obtain ⟨a', ov, r, ea, g, zr, q4⟩ := getQ_e (u := .non) g2.ok q3 (g2.dp z1) z2 .non
    cases ea
    exact ⟨ov, g, kk _ _ w2 q4 (g1.trans g2) zr⟩
theorem q_get2 {rw : Bool} {apos cpos : Pos} (hr : Room k X.A) (ho : QE X rw o fo) (hi : QE X rw i fi) (hv : QE X rw e fv) (m : M2 X o "get" apos i e cpos := by exact ⟨rfl, rfl, rfl, rfl⟩) : QE X rw (.Call (.Attribute o "get" apos) [i, e] [] cpos) (eGet2 fo fi fv) :=
  qe_of (pe_dget2 (by have := hr.un; omega) ho.pe hi.pe hv.pe m) fun w σ δ Qd Q R h kk => by
    refine lift_d R (fun d M1 => dctQ (view M1 d) fun _ _ => fi δ M1 fun i M2 => fv δ M2 fun x M3 => getQ M3 d i.d x.d fun e => Qd (.val e) M3) h fun d v w1 q1 g1 z1 => ?_
    obtain ⟨t, kvs, e1, q2⟩ := dctQ_e q1
    obtain ⟨a, rfl, hd⟩ := isD_of g1.ok z1 e1
    refine ⟨a, rfl, hd, ?_⟩
    refine lift_d (R.mono g1) (fun id M2 => fv δ M2 fun x M3 => getQ M3 d id x.d fun e => Qd (.val e) M3) q2 fun id iv w2 q3 g2 z2 => ?_
    refine lift_d ((R.mono g1).mono g2) (fun xd M3 => getQ M3 d id xd fun e => Qd (.val e) M3) q3 fun xd xv w3 q4 g3 z3 => ?_
    obtain ⟨a', ov, r, ea, g, zr, q5⟩ := getQ_e g3.ok q4 (g3.dp (g2.dp z1)) (g3.dp z2) z3
    cases ea
    exact ⟨ov, g, kk _ _ w3 q5 ((g1.trans g2).trans g3) zr⟩
end
end HI

namespace HI
open PySem PySem.Spec PyProof.Rows L2
/-! ### fields -/
def lookF : List (List Nat × D) → List Nat → Option D
  | [], _ => none
  | (g, d) :: r, f => match eqN g f with
    | true => some d
    | false => lookF r f
def putFD : List (List Nat × D) → List Nat → D → List (List Nat × D)
  | [], f, d => [(f, d)]
  | (g, x) :: r, f, d => match eqN g f with
    | true => (g, d) :: r
    | false => (g, x) :: putFD r f d
section
variable {K : PySem.W.Frag} {C : List Addr} {P : Hp}
theorem lookF_rel {f : List Nat} : ∀ {vs : List (Str × V)} {fs : List (List Nat × D)}, vs.map (·.1) = fs.map (fun p => tx p.1) → DpA K C P (vs.map (·.2)) (fs.map (·.2)) → (vs.lookup (tx f) = none ∧ lookF fs f = none) ∨ ∃ v d, vs.lookup (tx f) = some v ∧ lookF fs f = some d ∧ Dp K C P v d
  | [], [], _, _ => .inl ⟨rfl, rfl⟩
  | [], _ :: _, h, _ => by cases h
  | _ :: _, [], h, _ => by cases h
  | (g', v) :: vs, (g, d) :: fs, h, z => by
    rw [List.map_cons, List.map_cons] at h
    injection h with h1 h2
    dsimp only at h1
    subst h1
    cases z with
    | cons z1 z2 =>
      rw [lookF]
      have e1 : (tx f == tx g) = eqN g f := by rw [tx_eqN, eqN_iff, eqN_iff]; by_cases e : f = g <;> simp [e, eq_comm]
      cases e : eqN g f with
      | true =>
        rw [e] at e1
        exact .inr ⟨v, d, by simp [List.lookup, e1], rfl, z1⟩
      | false =>
        rw [e] at e1
        have ih := lookF_rel (f := f) h2 z2
        simpa [List.lookup, e1] using ih
theorem putF_rel {f : List Nat} {v : V} {d : D} (zv : Dp K C P v d) : ∀ {vs : List (Str × V)} {fs : List (List Nat × D)}, vs.map (·.1) = fs.map (fun p => tx p.1) → DpA K C P (vs.map (·.2)) (fs.map (·.2)) → (putF (tx f) v vs).map (·.1) = (putFD fs f d).map (fun p => tx p.1) ∧ DpA K C P ((putF (tx f) v vs).map (·.2)) ((putFD fs f d).map (·.2))
  | [], [], _, _ => ⟨rfl, .cons zv .nil⟩
  | [], _ :: _, h, _ => by cases h
  | _ :: _, [], h, _ => by cases h
  | (g', u) :: vs, (g, e) :: fs, h, z => by
    rw [List.map_cons, List.map_cons] at h
    injection h with h1 h2
    dsimp only at h1
    subst h1
    cases z with
    | cons z1 z2 =>
      obtain ⟨a1, a2⟩ := putF_rel zv h2 z2
      rw [putFD, putF]
      cases q : eqN g f with
      | true =>
        rw [eqN_iff, decide_eq_true_eq] at q
        subst q
        rw [if_pos rfl]
        exact ⟨by rw [List.map_cons, List.map_cons, h2], .cons zv z2⟩
      | false =>
        rw [eqN_iff, decide_eq_false_iff_not] at q
        rw [if_neg fun z => q (tx_inj z)]
        exact ⟨by rw [List.map_cons, List.map_cons, a1], .cons z1 a2⟩
end
/-- an instance of c -/
def objQ (d : D) (c : List Nat) (q : List (List Nat × D) → Prop) : Prop := match d with
  | .obj c' fs => okQ (eqN c' c) (q fs)
  | _ => False
theorem objQ_e {d : D} {c : List Nat} {q : List (List Nat × D) → Prop} (h : objQ d c q) : ∃ fs, d = .obj c fs ∧ q fs := by
  cases d with
  | obj c' fs =>
    obtain ⟨h1, h2⟩ := okQ_e h
    rw [eqN_iff, decide_eq_true_eq] at h1
    subst h1
    exact ⟨fs, rfl, h2⟩
  | _ => exact h.elim
/-- the class named c stands at A -/
structure ClsN (X : Cx) (c : List Nat) (A : Addr) : Prop where
  mg : X.mg (tx c) = some (.ref A)
  cl : Cls X.K A
theorem Inst.at {X : Cx} {w : Wd} {a A : Addr} {c : List Nat} {fs : List (List Nat × D)} (h : Inst (gx X) w a c fs) (T : ClsN X c A) : ∃ dx vs, w.H a = some (.ins A dx vs) ∧ w.H dx = some (.own a) ∧ w.P dx = none ∧ vs.map (·.1) = fs.map (fun p => tx p.1) ∧ DpA X.K w.C w.P (vs.map (·.2)) (fs.map (·.2)) := by
  obtain ⟨A', dx, vs, h1, h2, h3, h4, h5, h6⟩ := h
  have e := T.mg.symm.trans h1
  cases e
  exact ⟨dx, vs, h2, h3, h4, h5, h6⟩
section
variable {X : Cx} {rw : Bool} {e a b o : Expr} {es : List Expr} {pos pos' : Pos} {f fa fb fo fv : EV} {fr fk : AV} {x y z : Str} {ss us : List Stmt} {k j : Nat}
def eAttr (c n : List Nat) (fo : EV) : EV := fun δ M Q => fo δ M fun d M1 => objQ (view M1 d.d) c fun fs => someQ (lookF fs n) fun e => Q (.val e) M1
theorem q_attr {A : Addr} {c n : List Nat} (T : ClsN X c A) (na : NoAttr X.K A (tx n)) (ho : QE X rw o fo) (hx : x = tx n := by decide +kernel) (hb : attributeBase o x X.env (eval o X.env) = eval o X.env := by rfl) : QE X rw (.Attribute o x pos) (eAttr c n fo) :=
  qe_of (pe_fld ho.pe hb) fun w σ δ Qd Q R h kk => by
    subst hx
    refine lift_d R (fun d M1 => objQ (view M1 d) c fun fs => someQ (lookF fs n) fun e => Qd (.val e) M1) h fun d v w1 q1 g1 z1 => ?_
    obtain ⟨fs, e1, q2⟩ := objQ_e q1
    obtain ⟨m, a, rfl, rfl, h1, h2, h3, h4⟩ := see_obj g1.ok z1 e1
    obtain ⟨dx, vs, i1, i2, i3, i4, i5⟩ := h4.at T
    obtain ⟨e, e2, q3⟩ := someQ_e q2
    rcases lookF_rel (f := n) i4 i5 with ⟨_, l2⟩ | ⟨u, e', l1, l2, l3⟩
    · rw [e2] at l2; cases l2
    · rw [e2] at l2
      cases l2
      exact ⟨a, A, dx, vs, u, rfl, i1, T.cl, na, l1, kk _ _ w1 q3 g1 l3⟩
/-- a constant's instance, set -/
theorem Gr.setObj {w : Wd} {n : Nat} {a A dx : Addr} {c : List Nat} {fs : List (List Nat × D)} {vs : List (Str × V)} (k : WOk (gx X) w) (T : ClsN X c A) (hc : w.C[n]? = some a) (h2 : w.H dx = some (.own a)) (h3 : w.P dx = none) (h4 : vs.map (·.1) = fs.map (fun p => tx p.1)) (h5 : DpA X.K w.C w.P (vs.map (·.2)) (fs.map (·.2))) :
    Gr (gx X) true w ⟨w.C, w.M.set n (.obj c fs), w.P, upd w.H a (.ins A dx vs)⟩ := by
  refine Gr.setCell k hc (cell_nown k hc) ⟨A, dx, vs, T.mg, upd_same, ?_, h3, h4, h5⟩
  show upd w.H a (.ins A dx vs) dx = some (.own a)
  rw [upd_ne fun z => ?_]
  · exact h2
  · subst z
    exact cell_nown k hc _ h2
def sFld (c n : List Nat) (fo fv : EV) : SV := fun K δ M => fv δ M fun r M1 => fo δ M1 fun o M2 => cellQ o.d fun m => someQ M2[m]? fun ob => objQ ob c fun fs => okQ (Nat.blt fs.length 1000) (K.nx δ (M2.set m (.obj c (putFD fs n r.d))))
theorem q_fld {A : Addr} {c n : List Nat} (T : ClsN X c A) (na : NoAttr X.K A (tx n)) (ho : QE X true o fo) (hv : QE X true e fv) (hx : x = tx n := by decide +kernel) (hs : swapsWith e (some (.Attribute o x pos')) pos.line X.env = pure false := by rfl) : QS X true (.Assign [.Attribute o x pos'] e pos) (sFld c n fo fv) :=
  qs_of (ps_fld ho.pe hv.pe hs) fun w0 wc w σ δ Kd D S q kk => by
    subst hx
    refine lift_d S.rep (fun d M1 => fo δ M1 fun o M2 => cellQ o.d fun m => someQ M2[m]? fun ob => objQ ob c fun fs => okQ (Nat.blt fs.length 1000) (Kd.nx δ (M2.set m (.obj c (putFD fs n d))))) q fun dv v w1 q1 g1 z1 => ?_
    have S1 := S.mono g1
    refine lift_d S1.rep (fun od M2 => cellQ od fun m => someQ M2[m]? fun ob => objQ ob c fun fs => okQ (Nat.blt fs.length 1000) (Kd.nx δ (M2.set m (.obj c (putFD fs n dv))))) q1 fun od ov w2 q2 g2 z2 => ?_
    have S2 := S1.mono g2
    obtain ⟨m, rfl, q3⟩ := cellQ_e q2
    obtain ⟨ob, e1, q4⟩ := someQ_e q3
    obtain ⟨fs, e2, q5⟩ := objQ_e q4
    subst e2
    obtain ⟨q6, q7⟩ := okQ_e q5
    obtain ⟨a, rfl, ha⟩ := z2.cell'
    obtain ⟨_, hi⟩ := S2.gr.ok.cell m a _ ha e1
    obtain ⟨dx, vs, i1, i2, i3, i4, i5⟩ := Inst.at hi T
    obtain ⟨p1, p2⟩ := putF_rel (f := n) (g2.dp z1) i4 i5
    have hl : vs.length = fs.length := by have := congrArg List.length i4; rw [List.length_map, List.length_map] at this; exact this
    have hlt : fs.length < 1000 := by simpa [Nat.blt_eq] using q6
    refine ⟨a, A, dx, vs, rfl, i1, T.cl, na, by rw [hl]; exact hlt, ?_⟩
    exact kk.nx δ σ ⟨w2.C, w2.M.set m _, w2.P, _⟩ q7 (S2.mono (Gr.setObj S2.gr.ok T ha i2 i3 p1 p2))
/-- o.n += e of ints and texts -/
def sFldAug (c n : List Nat) (fo fv : EV) : SV := fun K δ M => fo δ M fun o M1 => cellQ o.d fun m => someQ M1[m]? fun ob => objQ ob c fun fs => someQ (lookF fs n) fun d0 => fv δ M1 fun r M2 => augD d0 r.d fun d' => someQ M2[m]? fun ob2 => objQ ob2 c fun fs2 => okQ (Nat.blt fs2.length 1000) (K.nx δ (M2.set m (.obj c (putFD fs2 n d'))))
theorem in_add2 : InOp X .Add (fun x y H Q => (∃ i j, x = .int i ∧ y = .int j ∧ Q (.int (i + j)) H) ∨ ∃ i j, x = .str i ∧ y = .str j ∧ i.length + j.length ≤ sizeLine ∧ Q (.str (i ++ j)) H) := ip_add2
theorem q_fldAug {A : Addr} {c n : List Nat} {tpos : Pos} (T : ClsN X c A) (na : NoAttr X.K A (tx n)) (ho : QE X true o fo) (hv : QE X true e fv) (hx : x = tx n := by decide +kernel) : QS X true (.AugAssign (.Attribute o x tpos) .Add e pos) (sFldAug c n fo fv) :=
  qs_of (ps_fldaug ho.pe hv.pe in_add2) fun w0 wc w σ δ Kd D S q kk => by
    subst hx
    refine lift_d S.rep (fun od M1 => cellQ od fun m => someQ M1[m]? fun ob => objQ ob c fun fs => someQ (lookF fs n) fun d0 => fv δ M1 fun r M2 => augD d0 r.d fun d' => someQ M2[m]? fun ob2 => objQ ob2 c fun fs2 => okQ (Nat.blt fs2.length 1000) (Kd.nx δ (M2.set m (.obj c (putFD fs2 n d'))))) q fun od ov w1 q1 g1 z1 => ?_
    have S1 := S.mono g1
    obtain ⟨m, rfl, q2⟩ := cellQ_e q1
    obtain ⟨ob, e1, q3⟩ := someQ_e q2
    obtain ⟨fs, e2, q4⟩ := objQ_e q3
    subst e2
    obtain ⟨d0, e3, q5⟩ := someQ_e q4
    obtain ⟨a, rfl, ha⟩ := z1.cell'
    obtain ⟨_, hi⟩ := S1.gr.ok.cell m a _ ha e1
    obtain ⟨dx, vs, i1, i2, i3, i4, i5⟩ := Inst.at hi T
    rcases lookF_rel (f := n) i4 i5 with ⟨_, l2⟩ | ⟨u, e', l1, l2, l3⟩
    · rw [e3] at l2; cases l2
    rw [e3] at l2
    cases l2
    refine ⟨a, A, dx, vs, u, rfl, i1, T.cl, na, l1, ?_⟩
    refine lift_d S1.rep (fun dv M2 => augD d0 dv fun d' => someQ M2[m]? fun ob2 => objQ ob2 c fun fs2 => okQ (Nat.blt fs2.length 1000) (Kd.nx δ (M2.set m (.obj c (putFD fs2 n d'))))) q5 fun dv v w2 q6 g2 z2 => ?_
    have S2 := S1.mono g2
    have fin : ∀ (d' : HI.D) (v' : V), Dp X.K w2.C w2.P v' d' → (someQ w2.M[m]? fun ob2 => objQ ob2 c fun fs2 => okQ (Nat.blt fs2.length 1000) (Kd.nx δ (w2.M.set m (.obj c (putFD fs2 n d'))))) → ∃ dx' fs', w2.H a = some (.ins A dx' fs') ∧ fs'.length < 1000 ∧ D.nx σ (upd w2.H a (.ins A dx' (putF (tx n) v' fs'))) := fun d' v' zz qq => by
      obtain ⟨ob2, f1, f2⟩ := someQ_e qq
      obtain ⟨fs2, f3, f4⟩ := objQ_e f2
      subst f3
      obtain ⟨f5, f6⟩ := okQ_e f4
      have ha2 := g2.cc.at ha
      obtain ⟨_, hi2⟩ := S2.gr.ok.cell m a _ ha2 f1
      obtain ⟨dx2, vs2, j1, j2, j3, j4, j5⟩ := Inst.at hi2 T
      obtain ⟨p1, p2⟩ := putF_rel (f := n) zz j4 j5
      have hl : vs2.length = fs2.length := by have := congrArg List.length j4; rw [List.length_map, List.length_map] at this; exact this
      have hlt : fs2.length < 1000 := by simpa [Nat.blt_eq] using f5
      exact ⟨dx2, vs2, j1, by rw [hl]; exact hlt, kk.nx δ σ ⟨w2.C, w2.M.set m _, w2.P, _⟩ f6 (S2.mono (Gr.setObj S2.gr.ok T ha2 j2 j3 p1 p2))⟩
    rcases augD_e q6 (g2.dp l3) z2 with ⟨n1, m1, rfl, rfl, q7⟩ | ⟨n1, m1, rfl, rfl, hl, hv, q7⟩
    · exact .inl ⟨n1, m1, rfl, rfl, fin _ _ (.int _) q7⟩
    · refine .inr ⟨tx n1, tx m1, rfl, rfl, hl, ?_⟩
      rw [tx_app]
      exact fin _ _ (.str _ hv) q7
/-! ### methods -/
/-- the method m of the class c, as callers need it -/
structure Met (P : Program) (w : World) (K : PySem.W.Frag) (mg : Str → Option Value) (base : Heap) (c : List Nat) (m : Str) (ps : List Str) (j : Nat) (r : Bool) (S : Spec) : Prop where
  len : ∀ ds M Q, S ds M Q → ds.length = ps.length
  ex : ∃ (A f : Addr) (fd : FuncData), mg (tx c) = some (.ref A) ∧ Cls K A ∧ Meth K A m f ∧ FnOk P w K mg base CX0 j f fd ps (SpD ⟨K, mg⟩ r ps.length S) ∧ Binds K fd ps []
def noneQ {α : Type} (o : Option α) (q : Prop) : Prop := match o with
  | some _ => False
  | none => q
theorem noneQ_e {α : Type} {o : Option α} {q : Prop} (h : noneQ o q) : o = none ∧ q := by
  cases o with
  | some a => exact h.elim
  | none => exact ⟨rfl, h⟩
def eMeth (c m : List Nat) (S : Spec) (fo : EV) (fr : AV) : EV := fun δ M Q => fo δ M fun d M1 => objQ (view M1 d.d) c fun fs => noneQ (lookF fs m) (fr δ M1 fun ds M2 => S (d.d :: ds) M2 Q)
theorem meth_run {c m : List Nat} {A : Addr} {S : Spec} {ps : List Str} {r : Bool} {t : TA} (T : ClsN X c A) (hlen : ∀ ds M Q, S ds M Q → ds.length = ps.length) (hw : (!r || rw) = true) (ht : ∀ σ H Q, liftA (gx X) rw fr σ H Q → t σ H Q)
    {w : Wd} {σ : L2.St} {δ : DEnv} {Qd : Rz → Mem → Prop} {Q : VK} (R : Rep (gx X) w σ δ) (h : eMeth c m S fo fr δ w.M Qd) (k : ∀ rz v w', Qd rz w'.M → Gr (gx X) rw w w' → RzOk (gx X) w w' rz v → Q v w'.H) :
    tMeth A (tx m) (SpD (gx X) r ps.length S) [] E0 (lift (gx X) rw fo) t σ w.H Q := by
  refine lift_d R (fun d M1 => objQ (view M1 d) c fun fs => noneQ (lookF fs m) (fr δ M1 fun ds M2 => S (d :: ds) M2 Qd)) h fun d v w1 q1 g1 z1 => ?_
  obtain ⟨fs, e1, q2⟩ := objQ_e q1
  obtain ⟨n, a, rfl, rfl, h1, h2, h3, h4⟩ := see_obj g1.ok z1 e1
  obtain ⟨dx, vs, i1, i2, i3, i4, i5⟩ := h4.at T
  obtain ⟨e2, q3⟩ := noneQ_e q2
  have l1 : vs.lookup (tx m) = none := by
    rcases lookF_rel (f := m) i4 i5 with ⟨l1, _⟩ | ⟨u, e', _, l2, _⟩
    · exact l1
    · rw [e2] at l2; cases l2
  refine ⟨a, dx, vs, rfl, i1, l1, ht _ _ _ ⟨w1, δ, _, rfl, R.mono g1, q3, fun ds us w2 q4 g2 z2 => ?_⟩⟩
  show SpD (gx X) r ps.length S (V.ref a :: (us ++ [])) w2.H Q E0
  rw [List.append_nil]
  have g12 := g1.trans g2
  exact ⟨w2, .cell n :: ds, Qd, rfl, g2.ok, .cons (g2.dp z1) z2, hlen _ _ _ q4, q4, fun rz v w3 q5 g3 z3 => k rz v w3 q5 (g12.trans (g3.wk (rw_imp hw))) (z3.back g12)⟩
theorem q_meth {c m : List Nat} {S : Spec} {ps : List Str} {r : Bool} {apos : Pos} {pl : Sem Bool} (d : Met X.prog X.w X.K X.mg X.base c x ps j r S) (hr : Room k X.A) (ho : QE X rw o fo) (ha : QA X rw (e :: es) fr) (hx : x = tx m := by decide +kernel) (hw : (!r || rw) = true := by rfl) (hj : j ≤ k := by omega)
    (hst : starEach (e :: es) X.env = (false, eval e X.env) :: starEach es X.env := by rfl) (hpl : (backTo pos (starEach es X.env)).any (·.1) = false := by rfl)
    (ht : eval (.Call (.Attribute o x apos) (e :: es) [] pos) X.env = (do
      let ov ← eval o X.env
      standAt apos.atName
      let (f, first) ← holding [ov] (getMethod ov x pl)
      callWith pos f first (backTo pos (starEach (e :: es) X.env)) (backToKw pos (keywordEach [] X.env))) := by rfl) :
    QE X rw (.Call (.Attribute o x apos) (e :: es) [] pos) (eMeth c m S fo fr) := by
  obtain ⟨A, f, fd, h1, h2, h3, h4, h5⟩ := d.ex
  refine qe_of (pe_meth ho.pe h2 h3 h4 (hr.mono hj) h5 .nil pass0 ha.pa hst hpl ht) fun w σ δ Qd Q R h kk => ?_
  subst hx
  exact meth_run ⟨h1, h2⟩ d.len hw (fun _ _ _ q => q) R h kk
theorem q_meth0 {c m : List Nat} {S : Spec} {ps : List Str} {r : Bool} {apos : Pos} {pl : Sem Bool} (d : Met X.prog X.w X.K X.mg X.base c x ps j r S) (hr : Room k X.A) (ho : QE X rw o fo) (hx : x = tx m := by decide +kernel) (hw : (!r || rw) = true := by rfl) (hj : j ≤ k := by omega)
    (ht : eval (.Call (.Attribute o x apos) [] [] pos) X.env = (do
      let ov ← eval o X.env
      standAt apos.atName
      let (f, first) ← holding [ov] (getMethod ov x pl)
      callWith pos f first (backTo pos (starEach [] X.env)) (backToKw pos (keywordEach [] X.env))) := by rfl) :
    QE X rw (.Call (.Attribute o x apos) [] [] pos) (eMeth c m S fo aNil) := by
  obtain ⟨A, f, fd, h1, h2, h3, h4, h5⟩ := d.ex
  refine qe_of (pe_meth0 ho.pe h2 h3 h4 (hr.mono hj) h5 .nil pass0 ht) fun w σ δ Qd Q R h kk => ?_
  subst hx
  exact meth_run (t := tNil) ⟨h1, h2⟩ d.len hw (fun σ H Q q => by
    obtain ⟨w, δ, Qd, e, R, h, k⟩ := q
    subst e
    exact k [] [] w h (.refl R.ok) .nil) R h kk
/-! ### C(..) -/
structure Mak (P : Program) (w : World) (K : PySem.W.Frag) (mg : Str → Option Value) (base : Heap) (c : List Nat) (ps : List Str) (j : Nat) (S : Spec) : Prop where
  len : ∀ ds M Q, S ds M Q → ds.length = ps.length
  ex : ∃ (A f : Addr) (fd : FuncData), mg (tx c) = some (.ref A) ∧ Mk K A f ∧ FnOk P w K mg base CX0 j f fd ps (SpD ⟨K, mg⟩ true ps.length S) ∧ Binds K fd ps []
def nonQ (d : D) (q : Prop) : Prop := match d with
  | .non => q
  | _ => False
theorem nonQ_e {d : D} {q : Prop} (h : nonQ d q) : d = .non ∧ q := by
  cases d <;> first | exact ⟨rfl, h⟩ | exact h.elim
def eMake (c : List Nat) (S : Spec) (fr : AV) : EV := fun δ M Q => fr δ M fun ds M1 => S (.cell M1.length :: ds) (M1 ++ [.obj c []]) fun r M2 => nonQ r.d (Q (.val (.cell M1.length)) M2)
theorem Gr.newObj {w : Wd} {a A dx : Addr} {c : List Nat} (k : WOk (gx X) w) (hm : X.mg (tx c) = some (.ref A)) (ha : w.H a = none) (hd : w.H dx = none) (ne : dx ≠ a) :
    Gr (gx X) true w ⟨w.C ++ [a], w.M ++ [.obj c []], w.P, upd (upd w.H dx (.own a)) a (.ins A dx [])⟩ := by
  have hh : ∀ b u, w.H b = some u → upd (upd w.H dx (.own a)) a (.ins A dx []) b = some u := fun b u h => by
    rw [upd_ne (ne_of_none h ha), upd_ne (ne_of_none h hd)]; exact h
  have g1 : Gr (gx X) true w ⟨w.C, w.M, w.P, upd (upd w.H dx (.own a)) a (.ins A dx [])⟩ := by
    refine ⟨⟨fun b u h => ?_, k.nown, k.len, k.nd, fun n b d e1 e2 => ?_⟩, Same.refl _, Pre.refl _, fun b u h _ => hh b u h, fun b u h nt z => z, fun b h nb => absurd h nb, fun e => by cases e⟩
    · obtain ⟨o', q1, q2⟩ := k.ex b u h
      exact ⟨o', hh b o' q1, q2⟩
    · obtain ⟨h1, h2⟩ := k.cell n b d e1 e2
      exact ⟨h1, h2.keep (Pre.refl _) (Same.refl _) (fun x u hx _ => hh x u hx) fun _ _ z => z⟩
  refine g1.cellify (k.ex.free ha) ha (show a ∉ w.C from notc k ha) ⟨A, dx, [], hm, upd_same, ?_, k.ex.free hd, rfl, .nil⟩
  show upd (upd w.H dx (.own a)) a (.ins A dx []) dx = some (.own a)
  rw [upd_ne ne, upd_same]
theorem make_run {c : List Nat} {A : Addr} {S : Spec} {ps : List Str} {t : TA} (hm : X.mg (tx c) = some (.ref A)) (hlen : ∀ ds M Q, S ds M Q → ds.length = ps.length) (ht : ∀ σ H Q, liftA (gx X) true fr σ H Q → t σ H Q)
    {w : Wd} {σ : L2.St} {δ : DEnv} {Qd : Rz → Mem → Prop} {Q : VK} (R : Rep (gx X) w σ δ) (h : eMake c S fr δ w.M Qd) (k : ∀ rz v w', Qd rz w'.M → Gr (gx X) true w w' → RzOk (gx X) w w' rz v → Q v w'.H) :
    tMake A (SpD (gx X) true ps.length S) [] E0 t σ w.H Q := by
  refine ht _ _ _ ⟨w, δ, _, rfl, R, h, fun ds vs w1 q1 g1 z1 => fun a dx ha hd ne => ?_⟩
  rw [List.append_nil]
  have g2 := Gr.newObj (X := X) g1.ok hm ha hd ne
  have zc : Dp X.K (w1.C ++ [a]) w1.P (.ref a) (.cell w1.M.length) := .cell (by rw [← g1.ok.len, List.getElem?_append_right (Nat.le_refl _), Nat.sub_self]; rfl)
  refine ⟨⟨w1.C ++ [a], w1.M ++ [.obj c []], w1.P, _⟩, .cell w1.M.length :: ds, _, rfl, g2.ok, .cons zc (g2.dpa z1), hlen _ _ _ q1, q1, fun rz v w3 q3 g3 z3 => ?_⟩
  obtain ⟨e3, q4⟩ := nonQ_e q3
  obtain ⟨P2, g4, s4, z4⟩ := z3.frz g3
  rw [e3] at z4
  have g := (g1.trans g2).trans g3
  exact ⟨z4.non', k _ _ w3 q4 g (g3.dp zc)⟩
theorem q_make {c : List Nat} {S : Spec} {ps : List Str} {p : Pos} (d : Mak X.prog X.w X.K X.mg X.base c ps j S) (hr : Room k X.A) (ha : QA X true (e :: es) fr) (hx : x = tx c := by decide +kernel) (hj : j + 1 ≤ k := by omega) (hg : Gl X x := by rfl) (hdb : (x == ("__debug__" : Str)) = false := by decide)
    (he : starEach (e :: es) X.env = (false, eval e X.env) :: starEach es X.env := by rfl) (hpl : (backTo pos (starEach es X.env)).any (·.1) = false := by rfl) : QE X true (.Call (.Name x p) (e :: es) [] pos) (eMake c S fr) := by
  subst hx
  obtain ⟨A, f, fd, h1, h2, h3, h4⟩ := d.ex
  exact qe_of (pe_make h2 h3 (hr.mono hj) hg h1 h4 .nil pass0 ha.pa hdb he hpl) fun w σ δ Qd Q R h kk => make_run h1 d.len (fun _ _ _ q => q) R h kk
theorem q_make0 {c : List Nat} {S : Spec} {ps : List Str} {p : Pos} (d : Mak X.prog X.w X.K X.mg X.base c ps j S) (hr : Room k X.A) (hx : x = tx c := by decide +kernel) (hj : j + 1 ≤ k := by omega) (hg : Gl X x := by rfl) (hdb : (x == ("__debug__" : Str)) = false := by decide) : QE X true (.Call (.Name x p) [] [] pos) (eMake c S aNil) := by
  subst hx
  obtain ⟨A, f, fd, h1, h2, h3, h4⟩ := d.ex
  exact qe_of (pe_make0 h2 h3 (hr.mono hj) hg h1 h4 .nil pass0 hdb) fun w σ δ Qd Q R h kk => make_run (t := tNil) h1 d.len (fun σ H Q q => by
    obtain ⟨w, δ, Qd, e, R, h, k⟩ := q
    subst e
    exact k [] [] w h (.refl R.ok) .nil) R h kk
end
/-! ### a def -/
/-- the slots at a def's start -/
def startD : Nat → List D → DEnv
  | n, d :: ds => .val d :: startD (n - 1) ds
  | n, [] => nos n
where nos : Nat → DEnv
  | 0 => []
  | n + 1 => .no :: nos n
def bodyS (N ps : Nat) (f : SV) : Spec := fun ds M Q => lenQ ds ps (f ⟨fun _ M1 => Q (.val .non) M1, Q, fun _ _ => False, fun _ _ => False⟩ (startD N ds) M)
theorem nos_eq (n : Nat) : startD.nos n = List.replicate n .no := by
  induction n with
  | zero => rfl
  | succ n ih => rw [startD.nos, ih]; rfl
theorem startD_eq : ∀ (n : Nat) (ds : List D), ds.length ≤ n → startD n ds = ds.map Sl.val ++ List.replicate (n - ds.length) .no
  | n, [], _ => by
    show startD.nos n = _
    rw [nos_eq]
    simp
  | 0, d :: ds, h => by simp at h
  | n + 1, d :: ds, h => by
    rw [startD, Nat.add_sub_cancel, startD_eq n ds (by simpa using h)]
    simp
theorem start_rep {G : Gx} {w : Wd} {N : List Str} {vs : List V} {ds : List D} (o : WOk G w) (z : DpA G.K w.C w.P vs ds) (h : vs.length ≤ N.length) : Rep G w (L2.start N vs) (startD N.length ds) ∧ ∀ (i : Nat) (d : D), (startD N.length ds)[i]? ≠ some (Sl.own d) := by
  rw [startD_eq _ _ (by rw [← z.length]; exact h)]
  have no : ∀ (i : Nat) (s : Sl), (ds.map Sl.val ++ List.replicate (N.length - ds.length) Sl.no)[i]? = some s → (∃ d, s = .val d ∧ ds[i]? = some d) ∨ s = .no := fun i s hs => by
    rw [List.getElem?_append] at hs
    split at hs
    · rw [List.getElem?_map] at hs
      cases e : ds[i]? with
      | none => rw [e] at hs; cases hs
      | some d => rw [e] at hs; exact .inl ⟨d, (Option.some.inj hs).symm, rfl⟩
    · rw [List.getElem?_replicate] at hs
      split at hs
      · exact .inr (Option.some.inj hs).symm
      · cases hs
  refine ⟨⟨o, fun i d h1 => ?_, fun i es h1 => ?_, fun i j es fs l h1 => ?_, ?_⟩, fun i d h1 => ?_⟩
  · rcases no i _ h1 with ⟨d', e1, h2⟩ | e1
    · cases e1
      obtain ⟨v, k1, k2⟩ := z.get h2
      refine ⟨v, ?_, k2⟩
      unfold L2.start
      rw [List.getElem?_append, if_pos (by rw [List.length_map]; exact (List.getElem?_eq_some_iff.mp k1).1), List.getElem?_map, k1]
      rfl
    · cases e1
  · rcases no i _ h1 with ⟨d', e1, _⟩ | e1 <;> cases e1
  · rcases no i _ h1 with ⟨d', e1, _⟩ | e1 <;> cases e1
  · unfold L2.start
    rw [List.length_append, List.length_append, List.length_map, List.length_map, List.length_replicate, List.length_replicate, z.length]
  · rcases no i _ h1 with ⟨d', e1, _⟩ | e1 <;> cases e1
/-- THE RULE for a def -/
theorem fn_data {P : Program} {w : World} {K : PySem.W.Frag} {mg : Str → Option Value} {base : Heap} {x qual : Str} {st : Stmt} {f : Addr} {fd : FuncData} {N ps : List Str} {k : Nat} {rw : Bool} {g : SV} (F : Fun K x qual st f fd) (S : FnScope N ps (defScope st)) (hlen : ps.length ≤ N.length)
    (hb : ∀ (cdv : Value) (A : Around) (outer : List Env) (s : Shared) (H : Hp) (E : XK), Room k (A.deeper (envOfC qual (defScope st) s.heap.objs.size f cdv)) → QSs (cxOf CX0 P w K mg base N qual (defScope st) f cdv A outer s H E).nox rw (defBody st) g) :
    FnOk P w K mg base CX0 (k + 1) f fd ps (SpD ⟨K, mg⟩ rw ps.length (bodyS N.length ps.length g)) := by
  refine F.ok S (fun vs H Q E h => ?_) fun cdv A outer s H vs Q E hr h => ?_
  · obtain ⟨w', ds, Qd, h1, h2, h3, h4, _⟩ := h
    rw [h3.length, h4]
  · obtain ⟨w', ds, Qd, h1, h2, h3, h4, h5, kk⟩ := h
    subst h1
    obtain ⟨_, h5⟩ := lenQ_e h5
    obtain ⟨R, nown⟩ := start_rep (N := N) h2 h3 (by rw [h3.length, h4]; exact hlen)
    refine ⟨_, (hb cdv A outer s w'.H E hr).pss, w', w', w', startD N.length ds, _, rfl, ⟨.refl h2, .refl _, .refl _, R, fun i d l q1 => absurd q1 (nown i d)⟩, h5, ⟨fun δ σ w2 q S' => ?_, fun δ σ w2 q S' => q.elim, fun δ σ w2 q S' => q.elim, kk⟩⟩
    exact kk (.val .non) .non w2 q S'.gr .non
theorem bodyS_len {N ps : Nat} {g : SV} {ds : List D} {M : Mem} {Q : Rz → Mem → Prop} (h : bodyS N ps g ds M Q) : ds.length = ps := (lenQ_e h).1
end HI

namespace HI
open PySem PySem.Spec PyProof.Rows L2
/-! ### the laws' own draws -/
def bagQ (d : D) (q : Prop) : Prop := match d with
  | .bag _ => q
  | _ => False
theorem bagQ_e {d : D} {q : Prop} (h : bagQ d q) : ∃ b, d = .bag b ∧ q := by
  cases d with
  | bag b => exact ⟨b, rfl, h⟩
  | _ => exact h.elim
def drawS : Spec := fun ds M Q => match ds with
  | [.cell i, .int n] => someQ M[i]? fun c => bagQ c (0 < n ∧ n < 1000000000000000000000 ∧ ∀ k : Int, 0 ≤ k → k < n → Q (.val (.int k)) M)
  | _ => False
theorem drawS_e {ds : List D} {M : Mem} {Q : Rz → Mem → Prop} (h : drawS ds M Q) : ∃ i n b, ds = [.cell i, .int n] ∧ M[i]? = some (.bag b) ∧ 0 < n ∧ n < 1000000000000000000000 ∧ ∀ k : Int, 0 ≤ k → k < n → Q (.val (.int k)) M := by
  unfold drawS at h
  split at h
  · obtain ⟨c, h1, h2⟩ := someQ_e h
    obtain ⟨b, rfl, h3⟩ := bagQ_e h2
    exact ⟨_, _, b, rfl, h1, h3⟩
  · exact h.elim
abbrev ixc (K : PySem.W.Frag) (i : Int) : TE := tOp (rIxL K) (tVar 0) (tC (.int i))
abbrev rAddI : R2 := rI0 fun i j => .int (i + j)
abbrev rMulI : R2 := rI CMul fun i j => .int (i * j)
abbrev rModI : R2 := rI (fun _ j => 0 < j) fun i j => .int (i % j)
abbrev rDivI : R2 := rI CDivW fun i j => .int (i / j)
abbrev rPowI : R2 := rI CPow fun i j => .int (i ^ j.toNat)
abbrev rInt1 : List V → Hp → VK → Prop := fun xs H Q => (∃ i, xs = [.int i] ∧ Q (.int i) H) ∨ ∃ k, xs = [.bl k] ∧ Q (.int (if k then 1 else 0)) H
abbrev rLenQ (K : PySem.W.Frag) : List V → Hp → VK → Prop := fun xs H Q => ∃ p ys, xs = [.ref p] ∧ (SqL K H p ys ∨ SqT K H p ys) ∧ Q (.int ys.length) H
abbrev tInt (t : TE) : TE := tCB rInt1 (tCons t tNil)
abbrev setc (i : Int) (t : TE) : TS := tAsg t (gSub (tVar 0) (tC (.int i)) rSetL)
abbrev rLtI : R2 := rI0 fun i j => .bl (decide (i < j))
abbrev rGeI : R2 := rI0 fun i j => .bl (decide (j ≤ i))
abbrev rGtI : R2 := rI0 fun i j => .bl (decide (j < i))
/-- the reading of _law_draw's body: slots bag, many, cell, digit, seed -/
abbrev drawM (K : PySem.W.Frag) : TS := setc 3 (tOp rModI (tInt (tOp rAddI (tOp rAddI (tOp rMulI (ixc K 3) (tC (.int 40014))) (tOp rMulI (tOp rModI (tInt (tVar 2)) (tC (.int 2147483563))) (tC (.int 617)))) (tC (.int 31)))) (tC (.int 2147483629)))
abbrev drawR (K : PySem.W.Frag) : TS := tRet (tOp rModI (tInt (tOp rAddI (tOp rDivI (ixc K 3) (tC (.int 89))) (tOp rMulI (tOp rModI (tInt (ixc K 3)) (tC (.int 7907))) (tC (.int 61))))) (tVar 1))
abbrev drawE (K : PySem.W.Frag) : TS := tSeq (tIfS (tTest (tOp rGtI (ixc K 2) (tC (.int 0))))
    (tSeq (tAsg (tOp rModI (tInt (ixc K 2)) (tVar 1)) (gName 3))
    (tSeq (setc 2 (tOp rDivI (tInt (ixc K 2)) (tVar 1)))
      (tRet (tVar 3))))
    tNext)
  (tSeq (tAsg (ixc K 3) (gName 4))
  (tSeq (setc 3 (tOp rModI (tInt (tOp rAddI (tOp rAddI (tOp rAddI (tOp rPowI (tVar 4) (tC (.int 3))) (tOp rMulI (tVar 4) (tC (.int 36979)))) (tOp rMulI (ixc K 4) (tC (.int 1299721)))) (tC (.int 50033)))) (tC (.int 2147483629))))
    (drawR K)))
abbrev drawT (K : PySem.W.Frag) : TS :=
  tSeq (setc 4 (tOp rAddI (ixc K 4) (tC (.int 1))))
  (tSeq (tIfS (tAnd (tTest (tOp rEq (ixc K 2) (tC (.int 0)))) (tTest (tOp rLtI (ixc K 1) (tCB (rLenQ K) (tCons (ixc K 0) tNil)))))
    (tSeq (tAsg (tOp (rIxL K) (ixc K 0) (ixc K 1)) (gName 2))
    (tSeq (setc 1 (tOp rAddI (ixc K 1) (tC (.int 1))))
    (tSeq (tIfS (tTest (tOp rGeI (tVar 2) (tOp rPowI (tC (.int 10)) (tC (.int 18))))) (setc 2 (tVar 2)) tNext)
      (drawM K))))
    tNext)
  (drawE K))
def bagL (c : Addr) (t r m n : Int) : List V := [.ref c, .int t, .int r, .int m, .int n]
theorem bag_up {G : Gx} {w : Wd} {n : Nat} {b c : Addr} (k : WOk G w) (hc : w.C[n]? = some b) (hm : w.M[n]? = some (.bag c)) {H' : Hp} {t' r' m' n' : Int} (hH : H' = upd w.H b (.lst (bagL c t' r' m' n'))) (h : 0 ≤ t' ∧ 0 ≤ r' ∧ 0 ≤ m' ∧ m' < 2147483648) : Gr G false w ⟨w.C, w.M, w.P, H'⟩ := by
  subst hH
  obtain ⟨_, cells, t, r, m, d, h1, h2, _⟩ := k.cell n b _ hc hm
  have e : w.M.set n (.bag c) = w.M := by
    apply List.ext_getElem?
    intro i
    rw [List.getElem?_set]
    split
    · rename_i e
      subst e
      have hlt : n < w.M.length := (List.getElem?_eq_some_iff.mp hm).1
      rw [if_pos hlt, hm]
    · rfl
  have g := Gr.setCell (o' := .lst (bagL c t' r' m' n')) (d' := .bag c) k hc (cell_nown k hc) ⟨cells, t', r', m', n', h1, upd_same, h⟩
  rw [e] at g
  refine ⟨g.ok, g.pp, g.cc, g.hh, g.off, g.fr, fun _ => ⟨rfl, rfl, fun i a e1 e2 => ?_⟩⟩
  show upd w.H b _ a = w.H a
  rw [upd_ne fun z => ?_]
  subst z
  have := at_inj k.nd e1 hc
  subst this
  exact e2 c hm
theorem div_wide {n : Int} (h : 0 < n) (h2 : n < 1000000000000000000000) (i : Int) : CDivW i n := ⟨h, by
  have : n.natAbs < 2 ^ 70 := by omega
  exact Nat.lt_of_lt_of_le (PySem.Flt.log2_lt_of (by decide) this) (by decide)⟩
theorem mulR (i j : Int) (h : -(2 ^ 64) < j ∧ j < 2 ^ 64) : CMul i j := .inr h
/-- a cell of the bag read -/
theorem ixc_ok {K : PySem.W.Frag} {σ : L2.St} {H : Hp} {Q : VK} {b : Addr} {xs : List V} {v : V} (i : Nat) (hs : σ[0]? = some (some (.ref b))) (hb : H b = some (.lst xs)) (hv : xs[i]? = some v) (q : Q v H) : ixc K (i : Int) σ H Q :=
  ⟨.ref b, hs, b, xs, i, v, rfl, rfl, .inl (.inl hb), atI_nat hv, q⟩
theorem setc_ok {σ : L2.St} {H : Hp} {D : Ends} {b : Addr} {xs : List V} {v : V} {t : TE} (i : Nat) (hs : σ[0]? = some (some (.ref b))) (hi : i < xs.length) (ht : t σ H fun x H1 => x = v ∧ H1 = H) (hb : H b = some (.lst xs)) (hm : ∀ Q : VK, (∀ x H1, (x = v ∧ H1 = H) → Q x H1) → t σ H Q) (q : D.nx σ (upd H b (.lst (xs.set i v)))) : setc (i : Int) t D σ H := by
  refine hm _ fun x H1 ⟨e1, e2⟩ => ?_
  subst e1
  subst e2
  refine ⟨.ref b, hs, b, xs, i, i, rfl, rfl, hb, ?_, q⟩
  unfold ixN
  rw [if_pos (by omega), if_pos (by omega)]
  simp
theorem draw_read {G : Gx} {K : PySem.W.Frag} (eK : G.K = K) {H : Hp} {vs : List V} {Q : VK} {E : XK} (h : SpD G false 2 drawS vs H Q E) : drawT K { nx := fun _ H' => Q .non H', rt := Q } (L2.start ["", "", "", "", ""] vs) H := by
  obtain ⟨w, ds, Qd, e0, ok, z, _, hd, k⟩ := h
  subst e0
  obtain ⟨i, n, c, rfl, hm, n0, n1, hq⟩ := drawS_e hd
  obtain ⟨v, v2, rfl, zb, zn⟩ := z.two'
  cases zn.int'
  obtain ⟨b, rfl, hC⟩ := zb.cell'
  obtain ⟨hP, cells, t, r, m, d, hc, hb, t0, r0, m0, m1⟩ := ok.cell i b _ hC hm
  have hc' : w.H c = some (.lst (cells.map V.int)) := ok.ex.lst hc
  have ncb : c ≠ b := fun z => by rw [z, hP] at hc; cases hc
  have up : ∀ {H' : Hp} {t' r' m' d' : Int} (kk : Int), H' = upd w.H b (.lst (bagL c t' r' m' d')) → (0 ≤ t' ∧ 0 ≤ r' ∧ 0 ≤ m' ∧ m' < 2147483648) → 0 ≤ kk → kk < n → Q (.int kk) H' := fun kk hH hh k0 k1 =>
    k _ _ ⟨w.C, w.M, w.P, _⟩ (hq kk k0 k1) (bag_up ok hC hm hH hh) (.int kk)
  have hcH : ∀ xs : List V, (upd w.H b (.lst xs)) c = some (.lst (cells.map V.int)) := fun xs => by rw [upd_ne ncb]; exact hc'
  have md : ∀ x : Int, 0 ≤ x % 2147483629 ∧ x % 2147483629 < 2147483648 := fun x => ⟨Int.emod_nonneg _ (by decide), Int.lt_trans (Int.emod_lt_of_pos _ (by decide)) (by decide)⟩
  -- the end of the body, from a state of the bag
  have last : ∀ (t r m d : Int) (y2 y3 : Option V), 0 ≤ t → 0 ≤ r → 0 ≤ m → m < 2147483648 →
      drawE K { nx := fun _ H' => Q .non H', rt := Q } [some (.ref b), some (.int n), y2, y3, none] (upd w.H b (.lst (bagL c t r m d))) := by
    intro t r m d y2 y3 t0 r0 m0 m1
    have rd : ∀ {t r m d : Int} (i : Nat) (v : V), (bagL c t r m d)[i]? = some v → atI (bagL c t r m d) (i : Int) = some v := fun i v h => atI_nat h
    refine ⟨_, rfl, b, bagL c t r m d, 2, .int r, rfl, rfl, .inl (.inl upd_same), rd 2 _ rfl, r, 0, rfl, rfl, _, rfl, ite2 (fun h1 => ?_) (fun h1 => ?_)⟩
    · -- a digit of a great cell
      refine ⟨_, rfl, b, bagL c t r m d, 2, .int r, rfl, rfl, .inl (.inl upd_same), rd 2 _ rfl, .inl ⟨r, rfl, _, rfl, r, n, rfl, rfl, n0, ?_⟩⟩
      refine ⟨_, rfl, b, bagL c t r m d, 2, .int r, rfl, rfl, .inl (.inl upd_same), rd 2 _ rfl, .inl ⟨r, rfl, _, rfl, r, n, rfl, rfl, div_wide n0 n1 r, ?_⟩⟩
      refine ⟨_, rfl, b, bagL c t r m d, 2, 2, rfl, rfl, upd_same, rfl, ?_⟩
      refine ⟨.int (r % n), rfl, ?_⟩
      rw [upd_upd]
      exact up (t' := t) (r' := r / n) (m' := m) (d' := d) _ rfl ⟨t0, Int.ediv_nonneg r0 (by omega), m0, m1⟩ (Int.emod_nonneg _ (by omega)) (Int.emod_lt_of_pos _ n0)
    · refine ⟨_, rfl, b, bagL c t r m d, 3, .int m, rfl, rfl, .inl (.inl upd_same), rd 3 _ rfl, ?_⟩
      refine ⟨.int m, rfl, m, 3, rfl, rfl, ⟨by decide, by decide, by omega⟩, .int m, rfl, m, 36979, rfl, rfl, mulR _ _ (by decide), _, _, rfl, rfl, ?_⟩
      refine ⟨_, rfl, b, bagL c t r m d, 4, .int d, rfl, rfl, .inl (.inl upd_same), rd 4 _ rfl, d, 1299721, rfl, rfl, mulR _ _ (by decide), _, _, rfl, rfl, _, _, rfl, rfl, .inl ⟨_, rfl, _, _, rfl, rfl, by show (0 : Int) < 2147483629; decide, ?_⟩⟩
      refine ⟨_, rfl, b, bagL c t r m d, 3, 3, rfl, rfl, upd_same, rfl, ?_⟩
      rw [upd_upd]
      obtain ⟨a1, a2⟩ := md (m ^ (3 : Int).toNat + m * 36979 + d * 1299721 + 50033)
      suffices h : ∀ m2 : Int, 0 ≤ m2 → m2 < 2147483648 → drawR K { nx := fun _ H' => Q .non H', rt := Q } [some (.ref b), some (.int n), y2, y3, some (.int m)] (upd w.H b (.lst (bagL c t r m2 d))) from h _ a1 a2
      clear a1 a2
      intro m2 a1 a2
      refine ⟨_, rfl, b, bagL c t r m2 d, 3, .int m2, rfl, rfl, .inl (.inl upd_same), rd 3 _ rfl, m2, 89, rfl, rfl, div_wide (by decide) (by decide) m2, ?_⟩
      refine ⟨_, rfl, b, bagL c t r m2 d, 3, .int m2, rfl, rfl, .inl (.inl upd_same), rd 3 _ rfl, .inl ⟨m2, rfl, m2, 7907, rfl, rfl, by show (0 : Int) < 7907; decide, _, 61, rfl, rfl, mulR _ _ (by decide), _, _, rfl, rfl, .inl ⟨_, rfl, .int n, rfl, _, n, rfl, rfl, n0, ?_⟩⟩⟩
      exact up (t' := t) (r' := r) (m' := m2) (d' := d) _ rfl ⟨t0, r0, a1, a2⟩ (Int.emod_nonneg _ (by omega)) (Int.emod_lt_of_pos _ n0)
  have rd : ∀ {t r m d : Int} (i : Nat) (v : V), (bagL c t r m d)[i]? = some v → atI (bagL c t r m d) (i : Int) = some v := fun i v h => atI_nat h
  have hb : w.H b = some (.lst (bagL c t r m d)) := hb
  refine ⟨_, rfl, b, bagL c t r m d, 4, .int d, rfl, rfl, .inl (.inl hb), rd 4 _ rfl, d, 1, rfl, rfl, ?_⟩
  refine ⟨_, rfl, b, bagL c t r m d, 4, 4, rfl, rfl, hb, rfl, ?_⟩
  show (tSeq _ _ : TS) _ [some (.ref b), some (.int n), none, none, none] (upd w.H b (.lst (bagL c t r m (d + 1))))
  generalize d + 1 = d
  refine ⟨_, rfl, b, bagL c t r m d, 2, .int r, rfl, rfl, .inl (.inl upd_same), rd 2 _ rfl, rfl, _, rfl, ite2 (fun h1 => ?_) (fun h1 => ?_)⟩
  · refine ⟨_, rfl, b, bagL c t r m d, 1, .int t, rfl, rfl, .inl (.inl upd_same), rd 1 _ rfl, ?_⟩
    refine ⟨_, rfl, b, bagL c t r m d, 0, .ref c, rfl, rfl, .inl (.inl upd_same), rd 0 _ rfl, c, cells.map V.int, rfl, .inl (.inl (.inl (hcH _))), t, _, rfl, rfl, _, rfl, ite2 (fun h2 => ?_) (fun h2 => last t r m d none none t0 r0 m0 m1)⟩
    have h2 : t < ((cells.map V.int).length : Int) := of_decide_eq_true h2
    rw [List.length_map] at h2
    obtain ⟨cell, hcell⟩ : ∃ x, cells[t.toNat]? = some x := ⟨_, List.getElem?_eq_getElem (by omega)⟩
    have hat : atI (cells.map V.int) t = some (.int cell) := by
      have e1 : t = ((t.toNat : Nat) : Int) := by omega
      rw [e1]
      exact atI_nat (by rw [List.getElem?_map, hcell]; rfl)
    refine ⟨_, rfl, b, bagL c t r m d, 0, .ref c, rfl, rfl, .inl (.inl upd_same), rd 0 _ rfl, ?_⟩
    refine ⟨_, rfl, b, bagL c t r m d, 1, .int t, rfl, rfl, .inl (.inl upd_same), rd 1 _ rfl, c, cells.map V.int, t, .int cell, rfl, rfl, .inl (.inl (hcH _)), hat, ?_⟩
    refine ⟨_, rfl, b, bagL c t r m d, 1, .int t, rfl, rfl, .inl (.inl upd_same), rd 1 _ rfl, t, 1, rfl, rfl, ?_⟩
    refine ⟨_, rfl, b, bagL c t r m d, 1, 1, rfl, rfl, upd_same, rfl, ?_⟩
    rw [upd_upd]
    show (tSeq _ _ : TS) _ [some (.ref b), some (.int n), some (.int cell), none, none] (upd w.H b (.lst (bagL c (t + 1) r m d)))
    have t1 : 0 ≤ t + 1 := by omega
    generalize t + 1 = t at t1
    have rest : ∀ r : Int, 0 ≤ r → drawM K { nx := drawE K { nx := fun _ H' => Q .non H', rt := Q }, rt := Q } [some (.ref b), some (.int n), some (.int cell), none, none] (upd w.H b (.lst (bagL c t r m d))) := by
      intro r r0
      refine ⟨_, rfl, b, bagL c t r m d, 3, .int m, rfl, rfl, .inl (.inl upd_same), rd 3 _ rfl, m, 40014, rfl, rfl, mulR _ _ (by decide), .int cell, rfl, .inl ⟨cell, rfl, cell, 2147483563, rfl, rfl, by show (0 : Int) < 2147483563; decide, _, 617, rfl, rfl, mulR _ _ (by decide), _, _, rfl, rfl, _, _, rfl, rfl, .inl ⟨_, rfl, _, _, rfl, rfl, by show (0 : Int) < 2147483629; decide, ?_⟩⟩⟩
      refine ⟨_, rfl, b, bagL c t r m d, 3, 3, rfl, rfl, upd_same, rfl, ?_⟩
      rw [upd_upd]
      obtain ⟨a1, a2⟩ := md (m * 40014 + cell % 2147483563 * 617 + 31)
      exact last t r ((m * 40014 + cell % 2147483563 * 617 + 31) % 2147483629) d (some (.int cell)) none t1 r0 a1 a2
    refine ⟨.int cell, rfl, 10, 18, rfl, rfl, ⟨by decide, by decide, by decide⟩, cell, _, rfl, rfl, _, rfl, ite2 (fun h3 => ?_) (fun h3 => ?_)⟩
    · have h3 : ((10 : Int) ^ (18 : Int).toNat) ≤ cell := of_decide_eq_true h3
      have h4 : (0 : Int) ≤ (10 : Int) ^ (18 : Int).toNat := by decide
      refine ⟨.int cell, rfl, .ref b, rfl, b, bagL c t r m d, 2, 2, rfl, rfl, upd_same, rfl, ?_⟩
      rw [upd_upd]
      exact rest cell (by omega)
    · exact rest r r0
  · exact last t r m d none none t0 r0 m0 m1

/-! ### the bag itself -/
def spBag (K : PySem.W.Frag) : Sp := fun vs H Q _ => ∃ (a : Addr) (ns : List Int), vs = [.ref a] ∧ SqL K H a (ns.map V.int) ∧ ns.length ≤ 63 ∧
  ∀ (b c : Addr) (H' : Hp) (cells : List Int) (m : Int), Same H H' → H' c = some (.lst (cells.map V.int)) → H' b = some (.lst (bagL c 0 0 m 0)) → 0 ≤ m → m < 2147483629 → Q (.ref b) H'
abbrev bagF (K : PySem.W.Frag) : TE := tSl (rSlL K) (tVar 0) tNoPart (tPart (tC (.int 63)))
abbrev rListQ (K : PySem.W.Frag) : List V → Hp → VK → Prop := fun xs H Q => ∃ p ys, xs = [.ref p] ∧ (SqL K H p ys ∨ SqT K H p ys) ∧ ∀ l, H l = none → Q (.ref l) (upd H l (.lst ys))
abbrev bagT (K : PySem.W.Frag) : TS :=
  tSeq (tAsg (tC (.int 12028)) (gName 1))
  (tSeq (tFor (iList K (bagF K)) (gName 2) (tAsg (tOp rModI (tInt (tOp rAddI (tOp rAddI (tOp rMulI (tVar 1) (tC (.int 39373))) (tOp rModI (tInt (tVar 2)) (tC (.int 2147483563)))) (tC (.int 23)))) (tC (.int 2147483629))) (gName 1)))
    (tRet (tLst (tCons (tCB (rListQ K) (tCons (bagF K) tNil)) (tCons (tC (.int 0)) (tCons (tC (.int 0)) (tCons (tVar 1) (tCons (tC (.int 0)) tNil))))))))
theorem cutV_int (ns : List Int) (lo hi : Option Int) : ∃ ms : List Int, cutV (ns.map V.int) lo hi = ms.map V.int := by
  unfold cutV
  exact ⟨(ns.drop (HT.sIx (ns.map V.int).length 0 lo)).take (HT.sIx (ns.map V.int).length (ns.map V.int).length hi - HT.sIx (ns.map V.int).length 0 lo), by rw [List.map_take, List.map_drop]⟩
theorem bag_read {K : PySem.W.Frag} {H : Hp} {vs : List V} {Q : VK} {E : XK} (h : spBag K vs H Q E) : bagT K { nx := fun _ H' => Q .non H', rt := Q } (L2.start ["", "", ""] vs) H := by
  obtain ⟨a, ns, rfl, hS, hl, q⟩ := h
  obtain ⟨ms, hms⟩ := cutV_int ns none (some 63)
  have md : ∀ x : Int, 0 ≤ x % 2147483629 ∧ x % 2147483629 < 2147483629 := fun x => ⟨Int.emod_nonneg _ (by decide), Int.emod_lt_of_pos _ (by decide)⟩
  refine ⟨.ref a, rfl, 63, rfl, a, ns.map V.int, rfl, hS, fun p hp => ?_⟩
  have s1 : Same H (upd H p (.lst (cutV (ns.map V.int) none (some 63)))) := same_new hp
  have hp1 : (upd H p (.lst (cutV (ns.map V.int) none (some 63)))) p = some (.lst (ms.map V.int)) := by rw [upd_same, hms]
  generalize upd H p (.lst (cutV (ns.map V.int) none (some 63))) = H1 at s1 hp1
  refine ⟨p, rfl, ⟨_, .inl (.inl hp1)⟩, for_list (K := K) (a := p) (xs := ms.map V.int) (fun i σ H' => ∃ (m : Int) (y : Option V), σ = [some (.ref a), some (.int m), y] ∧ H' = H1 ∧ 0 ≤ m ∧ m < 2147483629) ⟨12028, none, rfl, rfl, by decide, by decide⟩ (fun i σ H' _ ⟨_, _, _, e, _⟩ => by rw [e]; exact .inl (.inl hp1)) ?_ ?_⟩
  · rintro i x σ H' hx ⟨m, y, rfl, rfl, m0, m1⟩
    obtain ⟨u, rfl⟩ : ∃ u, x = V.int u := by
      rw [List.getElem?_map] at hx
      cases e : ms[i]? with
      | none => rw [e] at hx; cases hx
      | some u => rw [e] at hx; exact ⟨u, (Option.some.inj hx).symm⟩
    refine ⟨.int m, rfl, m, 39373, rfl, rfl, mulR _ _ (by decide), .int u, rfl, .inl ⟨u, rfl, u, 2147483563, rfl, rfl, by show (0 : Int) < 2147483563; decide, _, _, rfl, rfl, _, _, rfl, rfl, .inl ⟨_, rfl, _, _, rfl, rfl, by show (0 : Int) < 2147483629; decide, ?_⟩⟩⟩
    obtain ⟨a1, a2⟩ := md (m * 39373 + u % 2147483563 + 23)
    exact ⟨_, some (.int u), rfl, rfl, a1, a2⟩
  · rintro σ H' ⟨m, y, rfl, rfl, m0, m1⟩
    refine ⟨.ref a, rfl, 63, rfl, a, ns.map V.int, rfl, s1.seq hS, fun p2 hp2 => ?_⟩
    have s2 : Same H' (upd H' p2 (.lst (cutV (ns.map V.int) none (some 63)))) := same_new hp2
    have hp3 : (upd H' p2 (.lst (cutV (ns.map V.int) none (some 63)))) p2 = some (.lst (ms.map V.int)) := by rw [upd_same, hms]
    generalize upd H' p2 (.lst (cutV (ns.map V.int) none (some 63))) = H2 at s2 hp3
    refine ⟨p2, ms.map V.int, rfl, .inl (.inl (.inl hp3)), fun c hc => ?_⟩
    have s3 : Same H2 (upd H2 c (.lst (ms.map V.int))) := same_new hc
    refine ⟨.int m, rfl, by show 5 ≤ sizeLine; decide, fun b hb => ?_⟩
    have s4 : Same (upd H2 c (.lst (ms.map V.int))) (upd (upd H2 c (.lst (ms.map V.int))) b (.lst (bagL c 0 0 m 0))) := same_new hb
    exact q b c _ ms m (((s1.trans s2).trans s3).trans s4) (s4 _ _ upd_same) upd_same m0 m1
/-! ### the law's call -/
def spLaw (K : PySem.W.Frag) : Sp := fun vs H Q _ => ∃ (a : Addr) (ns : List Int), vs = [.ref a] ∧ SqL K H a (ns.map V.int) ∧ ns.length ≤ 63 ∧ ∀ H', Q (.bl true) H'
/-- what is asked of a law's body behind its bag: slots script, bag, .. -/
def lawS (N : Nat) (g : SV) : Prop := ∀ b : Addr, g ⟨fun _ _ => False, fun r _ => r = .val (.bl true), fun _ _ => False, fun _ _ => False⟩ (.no :: .val (.cell 0) :: startD.nos (N - 2)) [.bag b]
theorem law_read {G : Gx} {K : PySem.W.Frag} (eK : G.K = K) {H : Hp} {vs : List V} {Q : VK} {E : XK} {N : List Str} {g : SV} (hg : lawS N.length g) (hN : 2 ≤ N.length) (h : spLaw K vs H Q E) :
    tSeq (tAsg (tCall (spBag K) [] E0 (tCons (tVar 0) tNil)) (gName 1)) (liftS G true g) { nx := fun _ H' => Q .non H', rt := Q } (L2.start N vs) H := by
  obtain ⟨a, ns, rfl, hS, hl, q⟩ := h
  refine ⟨.ref a, rfl, a, ns, rfl, hS, hl, fun b c H' cells m s1 hc hb m0 m1 => ?_⟩
  have ncb : c ≠ b := fun z => by
    rw [z, hb] at hc
    cases cells with
    | nil => cases hc
    | cons x r => cases hc
  let P0 : Hp := fun x => if x = c then some (.lst (cells.map V.int)) else none
  have pc : P0 c = some (.lst (cells.map V.int)) := if_pos rfl
  have pb : P0 b = none := if_neg ncb.symm
  have sP : Shs P0 H' := fun x o hx => by
    by_cases e : x = c
    · subst e; rw [pc] at hx; exact ⟨o, by rw [← hx]; exact hc, by cases hx; rfl⟩
    · rw [show P0 x = none from if_neg e] at hx; cases hx
  have nP : ∀ a x, P0 a ≠ some (.own x) := fun a x z => by
    by_cases e : a = c
    · subst e; rw [pc] at z; cases z
    · rw [show P0 a = none from if_neg e] at z; cases z
  have key : ∀ (i : Nat) (s : Sl), (Sl.no :: Sl.val (.cell 0) :: startD.nos (N.length - 2))[i]? = some s → s = .no ∨ (i = 1 ∧ s = .val (.cell 0)) := fun i s h => by
    match i, h with
    | 0, h => exact .inl (Option.some.inj h).symm
    | 1, h => exact .inr ⟨rfl, (Option.some.inj h).symm⟩
    | i + 2, h =>
      rw [nos_eq, List.getElem?_cons_succ, List.getElem?_cons_succ, List.getElem?_replicate] at h
      split at h
      · exact .inl (Option.some.inj h).symm
      · cases h
  have ok : WOk G ⟨[b], [.bag c], P0, H'⟩ := ⟨sP, nP, rfl, by simp, fun n a d e1 e2 => by
    match n, e1, e2 with
    | 0, e1, e2 => cases e1; cases e2; exact ⟨pb, cells, 0, 0, m, 0, pc, hb, by decide, by decide, m0, Int.lt_trans m1 (by decide)⟩⟩
  have noown : ∀ (i : Nat) (d : D), (Sl.no :: Sl.val (.cell 0) :: startD.nos (N.length - 2))[i]? ≠ some (.own d) := fun i d h => by
    rcases key i _ h with e | ⟨_, e⟩ <;> cases e
  refine ⟨⟨[b], [.bag c], P0, H'⟩, ⟨[b], [.bag c], P0, H'⟩, ⟨[b], [.bag c], P0, H'⟩, _, _, rfl, ⟨.refl ok, Same.refl _, Pre.refl _, ⟨ok, fun i d h => ?_, fun i d h => absurd h (noown i d), fun i j d e l h => absurd h (noown i d), ?_⟩, fun i d l h => absurd h (noown i d)⟩, hg c, ⟨fun δ σ H2 qq _ => qq.elim, fun δ σ H2 qq _ => qq.elim, fun δ σ H2 qq _ => qq.elim, fun r v w' qq g2 z => ?_⟩⟩
  · rcases key i _ h with e | ⟨rfl, e⟩
    · cases e
    · cases e
      refine ⟨.ref b, ?_, .cell rfl⟩
      show (List.set (L2.start N [.ref a]) 1 (some (.ref b)))[1]? = _
      rw [List.getElem?_set_self]
      unfold L2.start
      rw [List.length_append, List.length_replicate]
      simp
      omega
  · show (List.set (L2.start N [.ref a]) 1 (some (.ref b))).length = _
    rw [List.length_set, nos_eq]
    unfold L2.start
    rw [List.length_append, List.length_replicate]
    simp
    omega
  · subst qq
    cases Dp.bl' z
    exact q w'.H
end HI

namespace HI
open PySem PySem.Spec PyProof.Rows L2
/-! ### the order of texts, whole numbers and tuples of these -/
def alkAll (f : D → D → Bool) : List D → List D → Bool
  | x :: xs, y :: ys => match f x y with
    | true => alkAll f xs ys
    | false => false
  | _, _ => true
def alkF : Nat → Mem → D → D → Bool
  | 0, _, _, _ => false
  | n + 1, M, x, y => match view M x, view M y with
    | .int _, .int _ => true
    | .str _, .str _ => true
    | .tup a, .tup b => alkAll (alkF n M) a b
    | .tup a, .wtup b => alkAll (alkF n M) a b
    | .wtup a, .tup b => alkAll (alkF n M) a b
    | .wtup a, .wtup b => alkAll (alkF n M) a b
    | _, _ => false
def ltAll (e f : D → D → Bool) : List D → List D → Bool
  | x :: xs, y :: ys => match e x y with
    | true => ltAll e f xs ys
    | false => f x y
  | [], _ :: _ => true
  | _, [] => false
def ltF : Nat → Mem → D → D → Bool
  | 0, _, _, _ => false
  | n + 1, M, x, y => match view M x, view M y with
    | .int i, .int j => decide (i < j)
    | .str a, .str b => decide (a < b)
    | .tup a, .tup b => ltAll (eqF n M) (ltF n M) a b
    | .tup a, .wtup b => ltAll (eqF n M) (ltF n M) a b
    | .wtup a, .tup b => ltAll (eqF n M) (ltF n M) a b
    | .wtup a, .wtup b => ltAll (eqF n M) (ltF n M) a b
    | _, _ => false
theorem alkAll_py {f : D → D → Bool} {g : D → PyData} (h : ∀ x y, f x y = true → PySem.W.alike (g x) (g y) = true) : ∀ xs ys : List D, alkAll f xs ys = true → PySem.W.alikeAll (pyAll g xs) (pyAll g ys) = true
  | [], ys, _ => by rw [pyAll, PySem.W.alikeAll]
  | x :: xs, [], _ => by rw [pyAll, pyAll, PySem.W.alikeAll]
  | x :: xs, y :: ys, q => by
    rw [alkAll] at q
    cases e : f x y with
    | false => rw [e] at q; cases q
    | true =>
      rw [e] at q
      rw [pyAll, pyAll, PySem.W.alikeAll, h x y e, alkAll_py h xs ys q]
      rfl
theorem alkF_py : ∀ (n : Nat) (M : Mem) (x y : D), alkF n M x y = true → PySem.W.alike (pyF n M x) (pyF n M y) = true ∧ pyF n M x ≠ .none
  | 0, _, _, _, h => by cases h
  | n + 1, M, x, y, h => by
    have ih := fun x y h => (alkF_py n M x y h).1
    unfold alkF at h
    unfold pyF
    generalize view M x = cx at h ⊢
    generalize view M y = cy at h ⊢
    cases cx <;> first | (cases h; done) | skip
    all_goals (cases cy <;> first | (cases h; done) | skip)
    all_goals first
      | (refine ⟨?_, fun z => by cases z⟩; dsimp only; rw [PySem.W.alike]; done)
      | (refine ⟨?_, fun z => by cases z⟩; dsimp only; rw [PySem.W.alike]; exact alkAll_py ih _ _ h)
theorem okAll_cons {f : D → Bool} {x : D} {xs : List D} (h : okAll f (x :: xs) = true) : f x = true ∧ okAll f xs = true := by
  rw [okAll] at h
  cases e : f x with
  | false => rw [e] at h; cases h
  | true => rw [e] at h; exact ⟨rfl, h⟩
theorem ltAll_py {n : Nat} {M : Mem} (h : ∀ x y, okF n M x = true → okF n M y = true → alkF n M x y = true → ltF n M x y = PySem.W.dataLt (pyF n M x) (pyF n M y)) : ∀ xs ys : List D, okAll (okF n M) xs = true → okAll (okF n M) ys = true → alkAll (alkF n M) xs ys = true →
    ltAll (eqF n M) (ltF n M) xs ys = PyProof.Rows.lexLt itemOrd (PySem.W.keyToksAll (pyAll (pyF n M) xs)) (PySem.W.keyToksAll (pyAll (pyF n M) ys))
  | [], [], _, _, _ => by rw [pyAll, lex_irrefl]; rfl
  | [], y :: ys, _, _, _ => by
    rw [pyAll, pyAll, PySem.W.toks_all_cons]
    simp only [PySem.W.keyToksAll]
    rw [lex_diff (O := itemOrd) (by simp)]
    rfl
  | x :: xs, [], _, _, _ => by
    rw [pyAll, pyAll, PySem.W.toks_all_cons]
    simp only [PySem.W.keyToksAll]
    rw [lex_diff (O := itemOrd) (by simp)]
    rfl
  | x :: xs, y :: ys, hx, hy, q => by
    obtain ⟨x1, x2⟩ := okAll_cons hx
    obtain ⟨y1, y2⟩ := okAll_cons hy
    rw [alkAll] at q
    cases e : alkF n M x y with
    | false => rw [e] at q; cases q
    | true =>
      rw [e] at q
      obtain ⟨a1, a2⟩ := alkF_py n M x y e
      rw [pyAll, pyAll, ltAll]
      cases ee : eqF n M x y with
      | true =>
        rw [PySem.W.dataLt_all_yes a1 (by rw [← eqF_py n M x y x1 y1]; exact ee)]
        exact ltAll_py h xs ys x2 y2 q
      | false =>
        rw [PySem.W.dataLt_all_no a1 (by rw [← eqF_py n M x y x1 y1]; exact ee)]
        exact h x y x1 y1 e
theorem ltF_py : ∀ (n : Nat) (M : Mem) (x y : D), okF n M x = true → okF n M y = true → alkF n M x y = true → ltF n M x y = PySem.W.dataLt (pyF n M x) (pyF n M y)
  | 0, _, _, _, h, _, _ => by cases h
  | n + 1, M, x, y, hx, hy, h => by
    have ih := fun x y => ltF_py n M x y
    unfold okF at hx hy
    unfold alkF at h
    unfold ltF pyF
    generalize view M x = cx at hx h ⊢
    generalize view M y = cy at hy h ⊢
    cases cx <;> first | (cases h; done) | skip
    all_goals (cases cy <;> first | (cases h; done) | skip)
    all_goals first
      | (dsimp only; rw [PySem.W.dataLt_int]; done)
      | (dsimp only; rw [PySem.W.dataLt_str, tx_cps, tx_cps]; done)
      | (dsimp only; rw [PySem.W.dataLt_tuple]; exact ltAll_py ih _ _ hx hy h)
def ltH : OpD := fun M x y Q => okQ (okF 60 M x) (okQ (okF 60 M y) (okQ (alkF 60 M x y) (Q (.val (.bl (ltF 60 M x y))))))
section
variable {X : Cx} {k : Nat}
def rLtD (K : PySem.W.Frag) : R2 := fun x y H Q => ∃ d e, L2.Dp K H x d ∧ L2.Dp K H y e ∧ PySem.W.alike d e = true ∧ d ≠ .none ∧ d.depth ≤ 60 ∧ Q (.bl (PySem.W.dataLt d e)) H
theorem op_ltD (hu : X.A.units + 64 < cLine) : OpR X (compareOp .Lt) (rLtD X.K) := by
  intro pins s σ H x y v u Q I rx ry h
  obtain ⟨d, e, hd, he, ha, hn, hp, q⟩ := h
  obtain ⟨as, r1⟩ := Dp.reads I d x v hd rx
  obtain ⟨bs, r2⟩ := Dp.reads I e y u he ry
  exact PySem.W.lt_data r1 r2 ha hn (by omega) ⟨.bl _, H, I, rfl, q⟩
theorem op_ltH (hr : Room k X.A) : OpL X (compareOp .Lt) ltH := by
  refine ⟨_, op_ltD (by have := hr.un; omega), fun w x y dx dy Qd Q o zx zy h kk => ?_⟩
  obtain ⟨h1, h⟩ := okQ_e h
  obtain ⟨h2, h⟩ := okQ_e h
  obtain ⟨h3, h⟩ := okQ_e h
  obtain ⟨a1, a2, a3⟩ := okF_dp o 60 x dx zx h1
  obtain ⟨b1, b2, b3⟩ := okF_dp o 60 y dy zy h2
  obtain ⟨c1, c2⟩ := alkF_py 60 w.M dx dy h3
  refine ⟨_, _, a1, b1, c1, c2, a3, ?_⟩
  rw [← ltF_py 60 w.M dx dy h1 h2 h3]
  exact kk _ _ w h (.refl o) (.bl _)
end
end HI

namespace HI
open PySem PySem.Spec PyProof.Rows L2
/-! ### sorted(xs) -/
def srtV (ys : List V) (ds : List PyData) : List V := ((ys.zip ds).mergeSort (PySem.W.dataLe false Prod.snd)).map Prod.fst
def rSrtD (K : PySem.W.Frag) : List V → Hp → VK → Prop := fun vs H Q => ∃ a ys ds, vs = [V.ref a] ∧ SqL K H a ys ∧ L2.DpAll K H ys ds ∧ PySem.W.AllAlike ds ∧ PySem.W.Sortable ds ∧ (∀ d, d ∈ ds → d.depth ≤ 60) ∧ ∀ p, H p = none → Q (.ref p) (upd H p (.lst (srtV ys ds)))
theorem each_vals : ∀ {ys : List V} {ds : List PyData} {its : List Value}, ys.length = ds.length → Vals ys its → PySem.W.EachIs (fun v (b : V × PyData) => RelV b.1 v) its (ys.zip ds)
  | _, [], _, hl, .nil => .nil
  | _, d :: ds, _, hl, .nil => by cases hl
  | _, [], _, hl, .cons _ _ => by cases hl
  | _, d :: ds, _, hl, .cons r t => .cons r (each_vals (Nat.succ.inj hl) t)
theorem vals_each : ∀ {its : List Value} {bs : List (V × PyData)}, PySem.W.EachIs (fun v (b : V × PyData) => RelV b.1 v) its bs → Vals (bs.map Prod.fst) its
  | _, _, .nil => .nil
  | _, _, .cons r t => .cons r (vals_each t)
theorem DpAll.len {K : PySem.W.Frag} {H : Hp} : ∀ {ys : List V} {ds : List PyData}, L2.DpAll K H ys ds → ys.length = ds.length
  | _, _, .nil => rfl
  | _, _, .cons _ t => by rw [List.length_cons, List.length_cons, DpAll.len t]
section
variable {X : Cx} {k : Nat}
theorem cr_sortedD (hu : X.A.units + 66 < cLine) : CallR X (.builtin "sorted") (rSrtD X.K) := by
  intro pins s σ H vs us Q I r h
  obtain ⟨a, ys, ds, rfl, hs, hd, hal, hso, hdp, q⟩ := h
  obtain ⟨its, rv, hl, hz⟩ := I.list hs
  rw [Vals.ref1 r]
  obtain ⟨as, hra⟩ := Dp.readsAll I ds ys its hd rv
  have hlen := DpAll.len hd
  have em : (ys.zip ds).map Prod.snd = ds := List.map_snd_zip (by omega)
  have kp : ∀ b o, s.heap.get? b = some o → (PySem.W.sortingHeap (PySem.W.copyHeap s.heap its) (s.heap.objs.size + 1) its).get? b = some o := fun b o e => PySem.W.sorting_copy_old e
  have er : PySem.W.EachIs (fun v (b : V × PyData) => ∃ as, Reads (PySem.W.sortingHeap (PySem.W.copyHeap s.heap its) (s.heap.objs.size + 1) its) v b.2 as) its (ys.zip ds) :=
    PySem.W.readsAll_each Prod.snd (as := as) (by rw [em]; exact PyProof.Rows.ReadsAll.keeps kp hra)
  have hzl : its.length ≤ sizeLine := by rw [← rv.length]; exact hz
  have hal' : PySem.W.AllAlike ((ys.zip ds).map Prod.snd) := by rw [em]; exact hal
  refine PySem.W.sorted_vals (κ := PySem.W.dataKind (PySem.W.sortingHeap (PySem.W.copyHeap s.heap its) (s.heap.objs.size + 1) its) ((ys.zip ds).map Prod.snd)) hl.isList ?_ hzl ?_
  · refine PySem.W.SortsAt.data (s := { s with heap := PySem.W.sortingHeap (PySem.W.copyHeap s.heap its) (s.heap.objs.size + 1) its }) (PySem.W.each_map (R := fun v d => ∃ as, Reads (PySem.W.sortingHeap (PySem.W.copyHeap s.heap its) (s.heap.objs.size + 1) its) v d as) Prod.snd er) hal' (by rw [em]; exact hso) fun d hm => ?_
    rw [em] at hm
    have := hdp d hm
    have e1 : X.A.in1.in1.units = X.A.units + 2 := rfl
    omega
  · have e := vals_each (PySem.W.sortVals_data false (each_vals hlen rv) er hal')
    obtain ⟨ep, he⟩ := PyProof.Rows.sortedAll_at s.heap its (PySem.W.sortVals (PySem.W.dataKind (PySem.W.sortingHeap (PySem.W.copyHeap s.heap its) (s.heap.objs.size + 1) its) ((ys.zip ds).map Prod.snd)) false its its).toArray
    refine ⟨.ref _, upd H (s.heap.objs.size + 1) (.lst (srtV ys ds)), I.laid (t' := s.toks) (fun _ _ => PyProof.Rows.sortedAll_old) (Nat.le_succ _) ⟨?_, _, ep, e, he⟩, rfl, q _ (I.hok.fresh (Nat.le_succ _))⟩
    show (((ys.zip ds).mergeSort (PySem.W.dataLe false Prod.snd)).map Prod.fst).length ≤ sizeLine
    rw [List.length_map, List.length_mergeSort, List.length_zip]
    omega
/-- x not behind y -/
def leF (M : Mem) (x y : D) : Bool := !ltF 60 M y x
/-- a list that can be sorted -/
structure SrtP (M : Mem) (xs : List D) : Prop where
  ok : ∀ x ∈ xs, okF 60 M x = true
  alk : ∀ x ∈ xs, ∀ y ∈ xs, alkF 60 M x y = true
  sh : (∀ x ∈ xs, ∃ a r, view M x = .tup (a :: r)) ∨ ∀ x ∈ xs, (∃ i, view M x = .int i) ∨ ∃ c, view M x = .str c
def sortedD : CaD := fun M ds Q => oneQ ds fun x => lstQ (view M x) fun xs => SrtP M xs ∧ Q (.new (.lst (xs.mergeSort (leF M))))
theorem okAll_of {G : Gx} {w : Wd} (o : WOk G w) : ∀ {ys : List V} {xs : List D}, DpA G.K w.C w.P ys xs → (∀ x ∈ xs, okF 60 w.M x = true) → L2.DpAll G.K w.H ys (xs.map (pyF 60 w.M))
  | _, _, .nil, _ => .nil
  | _, _, .cons z t, h => .cons (okF_dp o 60 _ _ z (h _ List.mem_cons_self)).1 (okAll_of o t fun x hx => h x (List.mem_cons_of_mem _ hx))
theorem each_dpa {K : PySem.W.Frag} {C : List Addr} {P : Hp} {f : D → PyData} : ∀ {ys : List V} {xs : List D}, DpA K C P ys xs → PySem.W.EachIs (fun (b : V × PyData) d => Dp K C P b.1 d ∧ b.2 = f d) (ys.zip (xs.map f)) xs
  | _, _, .nil => .nil
  | _, _, .cons z t => .cons ⟨z, rfl⟩ (each_dpa t)
theorem dpa_each {K : PySem.W.Frag} {C : List Addr} {P : Hp} {f : D → PyData} : ∀ {bs : List (V × PyData)} {xs : List D}, PySem.W.EachIs (fun (b : V × PyData) d => Dp K C P b.1 d ∧ b.2 = f d) bs xs → DpA K C P (bs.map Prod.fst) xs
  | _, _, .nil => .nil
  | _, _, .cons z t => .cons z.1 (dpa_each t)
theorem dataLe_lt (x y : PyData) : PySem.W.dataLe false (fun p : PyData => p) x y = !PySem.W.dataLt y x := rfl
theorem call_sortedL (hr : Room k X.A) : CallL X (.builtin "sorted") sortedD := by
  refine ⟨_, cr_sortedD (by have := hr.un; omega), fun w xs ds Qd Q o za h kk => ?_⟩
  obtain ⟨x, e1, h⟩ := oneQ_e h
  subst e1
  obtain ⟨v, rfl, z⟩ := za.one'
  obtain ⟨es, e2, ⟨⟨k1, k2, k3⟩, h⟩⟩ := lstQ_e h
  obtain ⟨a, ys, rfl, ha, zs⟩ := see_lst o z e2
  have hmap : ∀ d, d ∈ es.map (pyF 60 w.M) → ∃ x ∈ es, d = pyF 60 w.M x := fun d hd => by
    obtain ⟨x, hx, rfl⟩ := List.mem_map.mp hd
    exact ⟨x, hx, rfl⟩
  refine ⟨a, ys, es.map (pyF 60 w.M), rfl, .inl (.inl ha), okAll_of o zs k1, fun d hd d' hd' => ?_, ?_, fun d hd => ?_, fun p hp => ?_⟩
  · obtain ⟨x, hx, rfl⟩ := hmap d hd
    obtain ⟨y, hy, rfl⟩ := hmap d' hd'
    exact (alkF_py 60 w.M x y (k2 x hx y hy)).1
  · rcases k3 with k3 | k3
    · refine .inl fun d hd => ?_
      obtain ⟨x, hx, rfl⟩ := hmap d hd
      obtain ⟨a, r, e⟩ := k3 x hx
      refine ⟨pyF 59 w.M a, pyAll (pyF 59 w.M) r, ?_⟩
      unfold pyF
      rw [e]
      rfl
    · refine .inr fun d hd => ?_
      obtain ⟨x, hx, rfl⟩ := hmap d hd
      unfold pyF
      rcases k3 x hx with ⟨i, e⟩ | ⟨c, e⟩
      · rw [e]
        exact ⟨(fun z => nomatch z), (fun xs z => nomatch z)⟩
      · rw [e]
        exact ⟨(fun z => nomatch z), (fun xs z => nomatch z)⟩
  · obtain ⟨x, hx, rfl⟩ := hmap d hd
    obtain ⟨v, _, zv⟩ : ∃ v, True ∧ Dp X.K w.C w.P v x := by
      obtain ⟨i, hi⟩ := List.mem_iff_getElem?.mp hx
      obtain ⟨v, _, zv⟩ := zs.get hi
      exact ⟨v, trivial, zv⟩
    exact (okF_dp o 60 v x zv (k1 x hx)).2.2
  · have e := each_dpa (f := pyF 60 w.M) zs
    have e2 := PySem.W.sort_each (r := PySem.W.dataLe false Prod.snd) (s := leF w.M) e fun p hp q hq => by
      have h1 := (e.zip p hp).2
      have h2 := (e.zip q hq).2
      have m1 := (List.of_mem_zip hp).2
      have m2 := (List.of_mem_zip hq).2
      show (!PySem.W.dataLt q.1.2 p.1.2) = !ltF 60 w.M q.2 p.2
      rw [h1, h2, ltF_py 60 w.M q.2 p.2 (k1 _ m2) (k1 _ m1) (k2 _ m2 _ m1)]
    have z2 : DpA X.K w.C w.P (srtV ys (es.map (pyF 60 w.M))) (es.mergeSort (leF w.M)) := dpa_each e2
    obtain ⟨g, zz⟩ := new_ok (rw := false) (.refl o) hp (HoD.lst z2)
    exact kk _ _ ⟨w.C, w.M, w.P, _⟩ h g zz
/-! ### xs.remove(x), x there -/
def rmD (f : D → Bool) : List D → Option (List D)
  | [] => none
  | x :: xs => match f x with
    | true => some xs
    | false => match rmD f xs with
      | some r => some (x :: r)
      | none => none
def rRemD (K : PySem.W.Frag) : V → List V → Hp → VK → Prop := fun x vs H Q => ∃ (l : Addr) (y : V) (ys : List V) (ds : List PyData) (d : PyData) (j : Nat), x = .ref l ∧ vs = [y] ∧ H l = some (.lst ys) ∧ L2.DpAll K H ys ds ∧ L2.Dp K H y d ∧ PyData.plainAll ds = true ∧ d.plain = true ∧ d.depth ≤ 60 ∧ SeqAt.dataPlace ds d = some j ∧ Q .non (upd H l (.lst (ys.eraseIdx j)))
theorem mt_removeD {X : Cx} (hu : X.A.units + 65 < cLine) : MtR X "list.remove" (rRemD X.K) := by
  intro pins s σ H x vs v us Q I rx rv h
  obtain ⟨l, y, ys, ds, d, j, rfl, rfl, hH, h1, h2, h3, h4, h5, h6, q⟩ := h
  cases rx
  obtain ⟨u, rfl, ru⟩ := rv.one
  obtain ⟨z, its, n, r, hl, e⟩ := I.lstM hH
  obtain ⟨as, hra⟩ := Dp.readsAll I ds ys its h1 r
  obtain ⟨bs, hrb⟩ := Dp.reads I d y u h2 ru
  refine SeqAt.remove_list_data (vs := its.toArray) (s := s) ⟨_, e, rfl, _, rfl⟩ (by simpa using hra) hrb h3 h4 (by omega) h6 (by rw [List.size_toArray, ← hl]; exact z) ?_
  refine ⟨.non, _, I.lset (its' := its.eraseIdx j) hH e ?_ (r.eraseIdx j) ?_, rfl, q⟩
  · show its.toArray.eraseIdxIfInBounds j = (its.eraseIdx j).toArray
    rw [List.eraseIdxIfInBounds_toArray]
  · have := len_erase ys j
    omega
def sRem (i : Nat) (f : EV) : SV := fun K δ M => ownQ δ i fun d => lstQ d fun ds => f δ M fun r M1 => okQ (okAll (okF 60 M1) ds) (okQ (okF 60 M1 r.d) (someQ (rmD (fun x => eqF 60 M1 x r.d) ds) fun es => K.nx (δ.set i (.own (.lst es))) M1))
end
section
variable {X : Cx} {rw : Bool} {e : Expr} {f : EV} {pos : Pos} {k : Nat}
theorem okAll_all {f : D → Bool} : ∀ {xs : List D}, okAll f xs = true → ∀ x ∈ xs, f x = true
  | [], _, x, hx => by cases hx
  | y :: ys, h, x, hx => by
    obtain ⟨h1, h2⟩ := okAll_cons h
    rcases List.mem_cons.mp hx with e | hx
    · rw [e]; exact h1
    · exact okAll_all h2 x hx
theorem plainAll_of {G : Gx} {w : Wd} (o : WOk G w) : ∀ {ys : List V} {xs : List D}, DpA G.K w.C w.P ys xs → (∀ x ∈ xs, okF 60 w.M x = true) → PyData.plainAll (xs.map (pyF 60 w.M)) = true
  | _, _, .nil, _ => by rw [List.map_nil, PyData.plainAll]
  | _, _, .cons z t, h => by
    have h1 := (okF_dp o 60 _ _ z (h _ List.mem_cons_self)).2.1
    rw [List.map_cons, PyData.plainAll, PyData.plain_of_canLay0 _ h1, plainAll_of o t fun x hx => h x (List.mem_cons_of_mem _ hx)]
    rfl
theorem DpA.eraseIdx {K : PySem.W.Frag} {C : List Addr} {P : Hp} : ∀ {ys : List V} {xs : List D} (j : Nat), DpA K C P ys xs → DpA K C P (ys.eraseIdx j) (xs.eraseIdx j)
  | _, _, _, .nil => .nil
  | _, _, 0, .cons _ t => t
  | _, _, j + 1, .cons z t => .cons z (DpA.eraseIdx j t)
theorem q_rem (hr : Room k X.A) (i : Nat) {x : Str} {p1 apos cpos : Pos} (he : QE X rw e f) (hN : X.N[i]? = some x := by rfl) (hv : Vis X.env.scope x := by first | exact Or.inl rfl | exact Or.inr (Or.inl rfl) | exact Or.inr (Or.inr rfl)) (hd : (x == ("__debug__" : Str)) = false := by decide) (hcd : (x == ("__classdict__" : Str)) = false := by decide)
    (hs1 : starEach [e] X.env = [(false, eval e X.env)] := by rfl) (hline : (apos.endLine == cpos.line) = true := by rfl) (hbase : attributeBase (.Name x p1) "remove" X.env (eval (.Name x p1) X.env) = eval (.Name x p1) X.env := by rfl)
    (hfew : ((backTo cpos (starEach [e] X.env)).all (fun x => !x.1) && (backToKw cpos (keywordEach [] X.env)).all (fun x => x.1.isSome) && decide ([e].length + ([] : List Keyword).length + (if ([] : List Keyword).isEmpty then 0 else 1) < 30)) = true := by rfl)
    (hs : swapsWith (.Call (.Attribute (.Name x p1) "remove" apos) [e] [] cpos) none pos.line X.env = pure false := by rfl) :
    QS X rw (.Expr (.Call (.Attribute (.Name x p1) "remove" apos) [e] [] cpos) pos) (sRem i f) :=
  qs_of (ps_expr (pe_bm PySem.F.plainAttrs_list PySem.F.slot_list_remove PySem.F.type_list_remove (mt_removeD (by have := hr.un; omega)) (pe_var hN hv hd hcd) (pa_cons he.pe pa_nil hs1) hbase hfew hline hs1) hs) fun w0 wc w σ δ Kd D S q k => by
    obtain ⟨d, e, q⟩ := ownQ_e q
    obtain ⟨ds, rfl, q'⟩ := lstQ_e q
    obtain ⟨l, vs, h1, h2, h3, h4, h5⟩ := own_lst S.rep e
    refine ⟨.ref l, h1, .inl ⟨rfl, vs, .inl (.inl h4)⟩, ?_⟩
    refine lift_d S.rep (fun d M1 => okQ (okAll (okF 60 M1) ds) (okQ (okF 60 M1 d) (someQ (rmD (fun x => eqF 60 M1 x d) ds) fun es => Kd.nx (δ.set i (.own (.lst es))) M1))) q' fun d v w1 q1 g z => ?_
    obtain ⟨a1, q2⟩ := okQ_e q1
    obtain ⟨a2, q3⟩ := okQ_e q2
    obtain ⟨es, a3, q4⟩ := someQ_e q3
    have h6 := g.hh l _ h4 h3
    have z5 := g.dpa h5
    have ok1 := okAll_all a1
    obtain ⟨j, b1, b2⟩ : ∃ j, (ds.map (pyF 60 w1.M)).findIdx? (fun y => PyData.eqv y (pyF 60 w1.M d)) = some j ∧ es = ds.eraseIdx j := by
      have key : ∀ {xs r : List HI.D}, (∀ x ∈ xs, okF 60 w1.M x = true) → rmD (fun x => eqF 60 w1.M x d) xs = some r → ∃ j, (xs.map (pyF 60 w1.M)).findIdx? (fun y => PyData.eqv y (pyF 60 w1.M d)) = some j ∧ r = xs.eraseIdx j := by
        intro xs
        induction xs with
        | nil => intro r _ e; cases e
        | cons x xs ih =>
          intro r hx e
          rw [rmD] at e
          rw [List.map_cons, List.findIdx?_cons, ← eqF_py 60 w1.M x d (hx x List.mem_cons_self) a2]
          cases q : eqF 60 w1.M x d with
          | true => rw [q] at e; cases e; exact ⟨0, rfl, rfl⟩
          | false =>
            rw [q] at e
            cases q2 : rmD (fun x => eqF 60 w1.M x d) xs with
            | none => rw [q2] at e; cases e
            | some r2 =>
              rw [q2] at e
              cases e
              obtain ⟨j, h1, h2⟩ := ih (fun y hy => hx y (List.mem_cons_of_mem _ hy)) q2
              refine ⟨j + 1, ?_, by rw [h2]; rfl⟩
              rw [h1]
              rfl
      exact key ok1 a3
    obtain ⟨c1, c2, c3⟩ := okF_dp g.ok 60 v d z a2
    refine ⟨l, v, vs, ds.map (pyF 60 w1.M), pyF 60 w1.M d, j, rfl, rfl, h6, okAll_of g.ok z5 ok1, c1, plainAll_of g.ok z5 ok1, PyData.plain_of_canLay0 _ c2, c3, b1, k.nx _ _ ⟨w1.C, w1.M, w1.P, _⟩ q4 ?_⟩
    rw [b2]
    exact (S.mono g).chg e h1 (HoD.lst (z5.eraseIdx j))
end
end HI

namespace HI
open PySem PySem.Spec PyProof.Rows L2
theorem bt_len : bootBuiltins "len" = some (.builtin "len") := by decide +kernel
theorem bt_abs : bootBuiltins "abs" = some (.builtin "abs") := by decide +kernel
theorem bt_all : bootBuiltins "all" = some (.builtin "all") := by decide +kernel
theorem bt_any : bootBuiltins "any" = some (.builtin "any") := by decide +kernel
theorem bt_min : bootBuiltins "min" = some (.builtin "min") := by decide +kernel
theorem bt_sorted : bootBuiltins "sorted" = some (.builtin "sorted") := by decide +kernel
theorem bt_list : bootBuiltins "list" = some (.type "list") := by decide +kernel
theorem bt_tuple : bootBuiltins "tuple" = some (.type "tuple") := by decide +kernel
theorem bt_int : bootBuiltins "int" = some (.type "int") := by decide +kernel
theorem bt_str : bootBuiltins "str" = some (.type "str") := by decide +kernel
theorem bt_dict : bootBuiltins "dict" = some (.type "dict") := by decide +kernel
theorem bt_bool : bootBuiltins "bool" = some (.type "bool") := by decide +kernel
/-! ### o.remove(e), o a cell -/
def sCRem (fo f : EV) : SV := fun K δ M => fo δ M fun o M1 => cellQ o.d fun n => someQ M1[n]? fun c0 => lstQ c0 fun _ => f δ M1 fun r M2 => someQ M2[n]? fun c => lstQ c fun xs => okQ (okAll (okF 60 M2) xs) (okQ (okF 60 M2 r.d) (someQ (rmD (fun x => eqF 60 M2 x r.d) xs) fun es => K.nx δ (M2.set n (.lst es))))
theorem rmD_py {M : Mem} {d : D} (a2 : okF 60 M d = true) : ∀ {xs r : List D}, (∀ x ∈ xs, okF 60 M x = true) → rmD (fun x => eqF 60 M x d) xs = some r → ∃ j, (xs.map (pyF 60 M)).findIdx? (fun y => PyData.eqv y (pyF 60 M d)) = some j ∧ r = xs.eraseIdx j := by
  intro xs
  induction xs with
  | nil => intro r _ e; cases e
  | cons x xs ih =>
    intro r hx e
    rw [rmD] at e
    rw [List.map_cons, List.findIdx?_cons, ← eqF_py 60 M x d (hx x List.mem_cons_self) a2]
    cases q : eqF 60 M x d with
    | true => rw [q] at e; cases e; exact ⟨0, rfl, rfl⟩
    | false =>
      rw [q] at e
      cases q2 : rmD (fun x => eqF 60 M x d) xs with
      | none => rw [q2] at e; cases e
      | some r2 =>
        rw [q2] at e
        cases e
        obtain ⟨j, h1, h2⟩ := ih (fun y hy => hx y (List.mem_cons_of_mem _ hy)) q2
        refine ⟨j + 1, ?_, by rw [h2]; rfl⟩
        rw [h1]
        rfl
section
variable {X : Cx} {o e : Expr} {fo f : EV} {pos : Pos} {k : Nat}
theorem q_cRem {apos cpos : Pos} (hr : Room k X.A) (ho : QE X true o fo) (he : QE X true e f) (hs1 : starEach [e] X.env = [(false, eval e X.env)] := by rfl) (hline : (apos.endLine == cpos.line) = true := by rfl) (hbase : attributeBase o "remove" X.env (eval o X.env) = eval o X.env := by rfl)
    (hfew : ((backTo cpos (starEach [e] X.env)).all (fun x => !x.1) && (backToKw cpos (keywordEach [] X.env)).all (fun x => x.1.isSome) && decide ([e].length + ([] : List Keyword).length + (if ([] : List Keyword).isEmpty then 0 else 1) < 30)) = true := by rfl)
    (hs : swapsWith (.Call (.Attribute o "remove" apos) [e] [] cpos) none pos.line X.env = pure false := by rfl) :
    QS X true (.Expr (.Call (.Attribute o "remove" apos) [e] [] cpos) pos) (sCRem fo f) :=
  qs_of (ps_expr (pe_bm PySem.F.plainAttrs_list PySem.F.slot_list_remove PySem.F.type_list_remove (mt_removeD (by have := hr.un; omega)) ho.pe (pa_cons he.pe pa_nil hs1) hbase hfew hline hs1) hs) fun w0 wc w σ δ Kd D S q k => by
    dsimp only [tDrop, tBM, tCons, tNil]
    refine lift_d S.rep (fun d M1 => cellQ d fun n => someQ M1[n]? fun c0 => lstQ c0 fun _ => f δ M1 fun r M2 => someQ M2[n]? fun c => lstQ c fun xs => okQ (okAll (okF 60 M2) xs) (okQ (okF 60 M2 r.d) (someQ (rmD (fun x => eqF 60 M2 x r.d) xs) fun es => Kd.nx δ (M2.set n (.lst es))))) q fun d v w1 q1 g1 z1 => ?_
    obtain ⟨n, rfl, q1⟩ := cellQ_e q1
    obtain ⟨c0, e0, q1⟩ := someQ_e q1
    obtain ⟨ys, e00, q2⟩ := lstQ_e q1
    subst e00
    obtain ⟨a, us, rfl, ha, hH, zs⟩ := cell_lst g1.ok z1 e0
    refine ⟨.inl ⟨rfl, us, .inl (.inl hH)⟩, ?_⟩
    refine lift_d (S.mono g1).rep (fun d M2 => someQ M2[n]? fun c => lstQ c fun xs => okQ (okAll (okF 60 M2) xs) (okQ (okF 60 M2 d) (someQ (rmD (fun x => eqF 60 M2 x d) xs) fun es => Kd.nx δ (M2.set n (.lst es))))) q2 fun d v w2 q2 g2 z2 => ?_
    obtain ⟨c, e1, q3⟩ := someQ_e q2
    obtain ⟨xs, e2, q4⟩ := lstQ_e q3
    subst e2
    obtain ⟨a1, q5⟩ := okQ_e q4
    obtain ⟨a2, q6⟩ := okQ_e q5
    obtain ⟨es, a3, q7⟩ := someQ_e q6
    obtain ⟨a', vs, ea, ha', hH', zs'⟩ := cell_lst g2.ok (g2.dp z1) e1
    cases ea
    have ok1 := okAll_all a1
    obtain ⟨j, b1, b2⟩ := rmD_py a2 ok1 a3
    obtain ⟨c1, c2, c3⟩ := okF_dp g2.ok 60 v d z2 a2
    refine ⟨a, v, vs, xs.map (pyF 60 w2.M), pyF 60 w2.M d, j, rfl, rfl, hH', okAll_of g2.ok zs' ok1, c1, plainAll_of g2.ok zs' ok1, PyData.plain_of_canLay0 _ c2, c3, b1, ?_⟩
    have g3 := Gr.setCell (o' := .lst (vs.eraseIdx j)) (d' := .lst es) g2.ok ha' (cell_nown g2.ok ha') ⟨_, upd_same, by rw [b2]; exact HoD.lst (zs'.eraseIdx j)⟩
    exact k.nx δ σ ⟨w2.C, w2.M.set n (.lst es), w2.P, _⟩ q7 ((S.mono g1).mono (g2.trans g3))
end
end HI

namespace HI
open PySem PySem.Spec PyProof.Rows L2
/-! ### {k: v for ..}: keys of either kind -/
/-- a pair goes into a dict of either kind -/
theorem put_pair {X : Cx} {pins : List (Addr × Obj)} {σ : L2.St} {H H' : Hp} {s : Shared} {E : Value → Shared → Prop} {a : Addr} {y v : V} {u r : Value} {Q : Unit → Shared → Prop}
    (hu : X.A.units + 1 < cLine) (J : L2.Inv X pins σ H s) (g : DPut H a y v H') (ry : RelV y u) (rv : RelV v r) (go : ∀ s', L2.Inv X pins σ H' s' → Q () s') : wpAny (model X.prog X.w) X.A (dictSet a u r) Q E s := by
  rcases g with ⟨kvs, k, ea, ek, lt, eH⟩ | ⟨kvs, ks, b, ea, ek, eb, lt, eH⟩
  · cases ek; cases eH
    exact d_dictSet J ea lt ry rv go
  · cases ek; cases eH
    have eu : u = Value.ref b := ry
    subst eu
    obtain ⟨_, nm, xs, pr, dd⟩ := dt_of J.hok ea
    have lx : xs.length < sizeLine := by rw [← Paired.length pr]; exact lt
    have lp : (putK kvs ks v).length ≤ sizeLine := Nat.le_trans (length_putK kvs ks v) lt
    refine wpAny_dictSet_heap (hsz := Nat.le_of_lt lx) (show X.A.units < cLine by omega) (key_of J.hok eb) dd fun h2 dd2 sb => go _ ?_
    obtain ⟨ob, es, ep, o1, o2, o3, o4, _, o5⟩ := dd2
    have key : ∀ (c : Addr) (ys : List V), H c = some (.tup ys) → upd H a (.dT (putK kvs ks v)) c = some (.tup ys) := fun c ys ec => by
      have ne : c ≠ a := fun z => by subst z; rw [ea] at ec; cases ec
      rw [upd_ne ne, ec]
    exact d_write J (by rw [ea]; trivial) sb ⟨ob, o1⟩ ⟨lp, nm, _, (pr.put ks eb rv).keeps key, ob, es, ep, o1, o2, o3, o4, o5⟩
/-- the reading; o0: the new dict -/
def tDcG (o0 : HO) (wi : TI) (g : TG) (tt : TT) (tk tv : TE) (vs : List Nat) : TE := fun σ H Q => wi σ H fun J H1 => ∀ L, H1 L = none →
  ∃ W : Nat → Nat → Hp → Prop, (∃ m, W 0 m (upd H1 L o0)) ∧ ∀ i m Hi, W i m Hi → (J.stop i Hi ∧ Q (.ref L) Hi) ∨
    (J.go i Hi ∧ ∃ Nx : Hp → Prop, (∀ Hj, Nx Hj → ∃ m', m' < m ∧ W (i + 1) m' Hj) ∧
      ∀ x Hj, J.yld i Hi x Hj → g x (wipe σ vs) Hj fun τ Ha => wipe τ vs = wipe σ vs ∧ tt τ Ha fun b Hb => if b = true then tk τ Hb fun y Hc => tv τ Hc fun z Hd => ∃ He, DPut Hd L y z He ∧ Nx He else Nx Hb)
section
variable {X : Cx} {kx vx tg iter : Expr} {ifs : List Expr} {scope : Scope} {own : List (Str × Nat)} {pos pos' : Pos} {wi : TI} {g : TG} {tt : TT} {tk tv : TE} {o0 : HO}
/-- the parts' judgements, in the block -/
structure DcIn (X : Cx) (tg kx vx iter : Expr) (ifs : List Expr) (scope : Scope) (own : List (Str × Nat)) (g : TG) (tt : TT) (tk tv : TE) : Prop where
  calm : X.calm = true
  nd : X.N.Nodup
  ok : BlkOk X.N X.env.scope scope own
  pg : ∀ s H C cl fp, PG (X.blk s H scope (compEnvC scope cl C X.env) fp) tg g
  pt : ∀ s H C cl fp, PTs (X.blk s H scope (compEnvC scope cl C X.env) fp) ifs tt
  pk : ∀ s H C cl fp, PE (X.blk s H scope (compEnvC scope cl C X.env) fp) kx tk
  pv : ∀ s H C cl fp, PE (X.blk s H scope (compEnvC scope cl C X.env) fp) vx tv
  fold : ∀ x, foldedSetIterable iter X.env x = pure x
theorem dc_new {H : Hp} (h : Heap) (e : o0 = .dK [] ∨ o0 = .dT []) (big : sysModules < h.objs.size) : ObjOk X.prog X.w H (h.push { cls := .type "dict", data := .dict #[] }) h.objs.size o0 := by
  rcases e with rfl | rfl
  · exact dk_empty h big
  · exact dt_empty h big
/-- a place of the walker, seen from the block -/
theorem fp_in {s0 : Shared} {H0 : Hp} {ce : Env} {fp : List Addr} {τ : L2.St} {Hx : Hp} {sx : Shared} (J : L2.Inv (X.blk s0 H0 scope ce fp) [] τ Hx sx) (free : ∀ b ∈ fp, Hx b = none) : ∀ b ∈ fp, FpOk (X.blk s0 H0 scope ce fp) [] Hx b := fun b hb =>
  ⟨free b hb, (J.ok.exf b hb).1, J.ok.exfs b hb, Or.inl hb, fun x c e => (J.ok.exf b hb).2 x c e, fun p hp => by have hp : p ∈ ([] : List (Addr × Obj)) ++ [] := hp; simp at hp⟩
theorem dc_run0 (U : DcIn X tg kx vx iter ifs scope own g tt tk tv) (e0 : o0 = .dK [] ∨ o0 = .dT []) (hu : X.A.units + 1 < cLine) {pins : List (Addr × Obj)} {s : Shared} {σ : L2.St} {H : Hp} {Q : VK} {use : Option (Value → Sem Unit)} {Qf : Value → Shared → Prop}
    (J0 : L2.Inv X pins σ H s) (hi : PI X tg iter wi) (h : tDcG o0 wi g tt tk tv (own.map (·.2)) σ H Q)
    (fin : ∀ L C s' m H', L2.Inv X pins σ H' s' → Q (.ref L) H' → s'.heap.Ns C m → FpOk X pins H' C → compPost (model X.prog X.w) X.A X.xe use Qf (.ref L) C (.ok .next) s') :
    wpAny (model X.prog X.w) X.A (comprehension (.DictComp kx vx [⟨tg, iter, ifs, 0⟩] scope pos) scope X.env pos' newDict false (eval iter X.env) use) Qf X.xe s := by
  have cells : ∀ y ∈ scope.names, y.2 = .free → ∃ c, X.env.cells.lookup y.1 = some c := fun y hy e => J0.ok.has _ (U.ok.free y hy e)
  refine wpAny_comprehension_free (use := use) rfl U.fold (closure_ok cells) U.ok.kind (fun y hy e => (U.ok.uniq y hy).trans (by rw [e])) ?_
  refine thn (hi.run pins s σ H _ J0 h) fun xv sa ha => thn ha fun itv sb ⟨it, fp, tn, J, Hb, eit, Ib, T, stb, fpb, q⟩ => ?_
  subst eit
  refine wpAny_newObj_type (newEnv_comp ?_)
  obtain ⟨L, hL⟩ : ∃ L, sb.heap.objs.size = L := ⟨_, rfl⟩
  rw [hL]
  have hnone : Hb L = none := Ib.hok.fresh (Nat.le_of_eq hL)
  obtain ⟨W, ⟨m0, w0⟩, turn⟩ := q L hnone
  -- the world with the new dict
  obtain ⟨sc, hsc⟩ : ∃ sc : Shared, sc = { sb with heap := sb.heap.push { cls := .type "dict", data := .dict #[] } } := ⟨_, rfl⟩
  obtain ⟨Hc, hHc⟩ : ∃ Hc : Hp, Hc = upd Hb L o0 := ⟨_, rfl⟩
  rw [← hHc] at w0
  have hh : sc.heap = sb.heap.push { cls := .type "dict", data := .dict #[] } := by rw [hsc]
  have Ic : L2.Inv X pins σ Hc sc := by
    rw [hHc, hsc, ← hL]
    exact Ib.laid (t' := sb.toks) (fun b o e => Heap.get?_push_of_some _ e) (Nat.le_refl _) (dc_new sb.heap e0 Ib.big)
  have lt : ∀ b ∈ fp, b < sb.heap.objs.size := fun b hb => by
    obtain ⟨o, e, _⟩ := T.obj _ _ stb b hb
    exact Heap.lt_size e
  have fpc : ∀ b ∈ fp, FpOk X pins Hc b ∧ b < sc.heap.objs.size := fun b hb => by
    refine ⟨⟨?_, (fpb b hb).2⟩, ?_⟩
    · rw [hHc, upd_ne (by rw [← hL]; exact Nat.ne_of_lt (lt b hb))]
      exact (fpb b hb).1
    · rw [hh, Heap.size_push]
      exact Nat.lt_succ_of_lt (lt b hb)
  have stc : tn 0 sc.heap := by
    rw [hh]
    exact T.keep _ _ _ stb fun b _ o e => Heap.get?_push_of_some _ e
  have Id := block_start Ic U.ok U.nd fpc
  obtain ⟨C, hC⟩ : ∃ C, sc.heap.objs.size = C := ⟨_, rfl⟩
  have pgB := U.pg sc Hc C (cellsFrom (C + 1) scope.names (cloFrom X.env.cells scope.names [])) fp
  have ptB := U.pt sc Hc C (cellsFrom (C + 1) scope.names (cloFrom X.env.cells scope.names [])) fp
  have pkB := U.pk sc Hc C (cellsFrom (C + 1) scope.names (cloFrom X.env.cells scope.names [])) fp
  have pvB := U.pv sc Hc C (cellsFrom (C + 1) scope.names (cloFrom X.env.cells scope.names [])) fp
  rw [← hsc]
  rw [hC] at Id ⊢
  obtain ⟨ce, hce⟩ : ∃ ce, ce = compEnvC scope (cellsFrom (C + 1) scope.names (cloFrom X.env.cells scope.names [])) C X.env := ⟨_, rfl⟩
  have eL : ce.locals = C := by rw [hce]; rfl
  obtain ⟨sd, hsd⟩ : ∃ sd : Shared, sd = { sc with heap := pushCells (sc.heap.push { cls := .type "dict", data := .dict #[] }) scope.names } := ⟨_, rfl⟩
  show codeAny (model X.prog X.w) X.A (.compStart (.DictComp kx vx [⟨tg, iter, ifs, 0⟩] scope pos) 0 (.ref it) (.ref L) (compEnvC scope (cellsFrom (C + 1) scope.names (cloFrom X.env.cells scope.names [])) C X.env)) (compPost (model X.prog X.w) X.A X.xe use Qf (.ref L) C) { sc with heap := pushCells (sc.heap.push { cls := .type "dict", data := .dict #[] }) scope.names }
  rw [← hce] at pgB ptB pkB pvB Id ⊢
  rw [← hsd] at Id ⊢
  have std : tn 0 sd.heap := by
    rw [hsd]
    exact T.keep _ _ _ stc fun b _ o e => pushCells_keeps _ _ _ _ (Heap.get?_push_of_some _ e)
  suffices loop : codeAny (model X.prog X.w) X.A (.compLoop (.DictComp kx vx [⟨tg, iter, ifs, 0⟩] scope pos) 0 (.ref it) (.ref L) ce) (compPost (model X.prog X.w) X.A X.xe use Qf (.ref L) C) sd from codeAny_compStart_dict loop (T.self X.A 0 _ _ _ std loop)
  refine compLoop_anyD (fun n s' => ∃ i Hi, L2.Inv (X.blk sc Hc scope ce fp) [] (wipe σ (own.map (·.2))) Hi s' ∧ tn i s'.heap ∧ (∀ b ∈ fp, Hi b = none) ∧ W i n Hi) ?_ m0 ⟨0, Hc, Id, std, fun b hb => (fpc b hb).1.1, w0⟩
  rintro n se ⟨i, He, Ie, ste, free, we⟩
  rcases turn i n He we with ⟨stop, done⟩ | ⟨go, Nx, hNx, step⟩
  · -- the end: back in the def
    refine thnF (T.done (X.blk sc Hc scope ce fp) rfl rfl rfl U.calm i [] se _ He (fun _ _ => False) Ie (fp_in Ie free) ste stop) fun r sf ⟨er, If⟩ => ?_
    subst er
    have Ig : L2.Inv X pins σ He sf := Ic.call' (ch := fp) If.os If.base If.hok If.bare fun b hb => let z := (fpc b hb).1.2; ⟨z.2.2.1, z.1, z.2.2.2.1, z.2.2.2.2⟩
    have nC : He C = none := by have z : He ce.locals = none := If.free; rwa [eL] at z
    obtain ⟨m, hm, _⟩ := If.loc
    have hm : sf.heap.Ns ce.locals m := hm
    rw [eL] at hm
    exact fin L C sf m He Ig done hm (Ic.fpOk (Nat.le_of_eq hC) nC)
  · refine thnF (T.item (X.blk sc Hc scope ce fp) rfl rfl rfl U.calm i [] se _ He (fun _ _ => False) Ie (fp_in Ie free) ste go) fun r sf ⟨u, er, hf⟩ => ?_
    subst er
    refine thnF hf fun _ sg ⟨x, Hg, Ig, rx, yl, stg, freeg⟩ => ?_
    have Igp := Ig.pinned (fp_in Ig freeg) (T.obj _ _ stg)
    refine thnF (pgB.run _ sg _ Hg x u _ Igp rx (step x Hg yl)) fun _ sh ⟨τ, Hh, Ih, eτ, qh⟩ => thnF (ptB.run _ sh τ Hh _ Ih qh) fun b si ⟨Hi, Ii, qi⟩ => ?_
    -- what a turn leaves
    have next : ∀ {s' : Shared} {H' : Hp}, L2.Inv (X.blk sc Hc scope ce fp) ([] ++ pinsAt fp sg.heap) τ H' s' → Nx H' → ∃ m, m < n ∧ ∃ i Hi, L2.Inv (X.blk sc Hc scope ce fp) [] (wipe σ (own.map (·.2))) Hi s' ∧ tn i s'.heap ∧ (∀ b ∈ fp, Hi b = none) ∧ W i m Hi := by
      intro s' H' Iz nz
      obtain ⟨m', lt', w'⟩ := hNx H' nz
      have pin : ∀ b ∈ fp, ∀ o, sg.heap.get? b = some o → s'.heap.get? b = some o ∧ H' b = none := fun b hb o e => by
        have z := Iz.pin (b, o) (List.mem_append_right _ (List.mem_append_right _ (mem_pinsAt hb e)))
        exact ⟨z.1, z.2.1⟩
      have len : (wipe σ (own.map (·.2))).length = τ.length := by rw [← eτ]; exact wipe_length ..
      refine ⟨m', lt', i + 1, H', (Iz.unpinned (pins := [])).weak len (fun j v e => (wipe_some (by rw [eτ]; exact e)).1), T.keep _ _ _ stg fun b hb o e => (pin b hb o e).1, fun b hb => ?_, w'⟩
      obtain ⟨o, e, _⟩ := T.obj _ _ stg b hb
      exact (pin b hb o e).2
    cases b with
    | false => exact next Ii (by simpa using qi)
    | true =>
      have qi := (if_pos rfl).mp qi
      refine thnF (pkB.run _ si τ Hi _ Ii qi) fun ku sj ⟨y, Hj, Ij, ry, qj⟩ => thnF (pvB.run _ sj τ Hj _ Ij qj) fun vu sk ⟨z, Hk, Ik, rz, Hl, put, nl⟩ => ?_
      exact put_pair (X := X.blk sc Hc scope ce fp) hu Ik put ry rz fun sl Il => next Il nl
theorem pe_dcG (U : DcIn X tg kx vx iter ifs scope own g tt tk tv) (e0 : o0 = .dK [] ∨ o0 = .dT []) (hu : X.A.units + 1 < cLine) (hi : PI X tg iter wi) : PE X (.DictComp kx vx [⟨tg, iter, ifs, 0⟩] scope pos) (tDcG o0 wi g tt tk tv (own.map (·.2))) := ⟨fun pins s σ H Q J h => by
  rw [arm_eval_DictComp]
  exact dc_run0 U e0 hu J hi h fun L C s' m H' J' q hn f => ⟨m, hn, fun h2 sb => ⟨.ref L, H', J'.turned (t' := s'.toks) (fun b o hb e => (sb.2 b hb).trans e) f.1 f.2.1 f.2.2.2.1 f.2.2.2.2.1 f.2.2.2.2.2, rfl, q⟩⟩⟩
end
end HI

namespace HI
open PySem PySem.Spec PyProof.Rows L2
def dcL (kd : Bool) (δ : DEnv) (t : Tg) (ft : TV) (fk fv : EV) (gd : Gd) : List D → List (D × D) → Mem → (List (D × D) → Mem → Prop) → Prop
  | [], acc, M, Q => gQ gd M (Q acc M)
  | x :: r, acc, M, Q => gQ gd M (t.bind x δ fun δ' => ft δ' M fun b M1 => IF b (fk δ' M1 fun y M2 => fv δ' M2 fun z M3 => okQ (isKey kd y.d) (dcL kd δ t ft fk fv gd r (putD acc y.d z.d) M3 Q)) (dcL kd δ t ft fk fv gd r acc M1 Q))
def eDc (kd : Bool) (fi : IV) (t : Tg) (ft : TV) (fk fv : EV) (vs : List Nat) : EV := fun δ M Q => fi δ M fun xs gd M1 => okQ (Nat.ble xs.length 999999) (dcL kd (wipeD δ vs) t ft fk fv gd xs [] M1 fun kvs M2 => Q (.new (.dct kd kvs)) M2)
def hoOf (kd : Bool) : HO := match kd with
  | true => .dT []
  | false => .dK []
theorem hoOf_ok (kd : Bool) : hoOf kd = .dK [] ∨ hoOf kd = .dT [] := by cases kd <;> simp [hoOf]
theorem putD_le (kvs : List (D × D)) (k v : D) : (putD kvs k v).length ≤ kvs.length + 1 := by
  unfold putD
  cases hasK kvs k with
  | true => rw [updD_len]; exact Nat.le_succ _
  | false => rw [List.length_append]; exact Nat.le_refl _
theorem hod_nil {K : PySem.W.Frag} {C : List Addr} {P : Hp} (kd : Bool) : HoD K C P (hoOf kd) (.dct kd []) := by
  cases kd with
  | true => exact .dT (kvs := []) (kds := []) rfl (fun _ h => by cases h) .nil
  | false => exact .dK (kvs := []) (kds := []) rfl (fun _ h => by cases h) .nil
theorem dc_run {X : Cx} {rw : Bool} {kd : Bool} {fi : IV} {t : Tg} {ft : TV} {fk fv : EV} {vs : List Nat} {tt : TT} (hix : ∀ i ∈ t.ix, i ∈ vs) (htt : ∀ σ H Q, liftT (gx X) rw ft σ H Q → tt σ H Q)
    {w : Wd} {σ : L2.St} {δ : DEnv} {Qd : Rz → Mem → Prop} {Q : VK} (R : Rep (gx X) w σ δ) (h : eDc kd fi t ft fk fv vs δ w.M Qd) (k : ∀ rz v w', Qd rz w'.M → Gr (gx X) rw w w' → RzOk (gx X) w w' rz v → Q v w'.H) :
    tDcG (hoOf kd) (liftI (gx X) rw fi) (t.g X.K) tt (lift (gx X) rw fk) (lift (gx X) rw fv) vs σ w.H Q := by
  refine ⟨w, δ, _, rfl, R, h, fun xs gd J w1 q1 g1 u1 => fun A hA => ?_⟩
  obtain ⟨hsz, q1⟩ := okQ_e q1
  have hsz : xs.length ≤ 999999 := Nat.le_of_ble_eq_true hsz
  have hAH : w.H A = none := g1.fresh hA
  have R1 := (R.mono g1).wipe vs
  have notown : ∀ {H : Hp} {ho : HO} {K : PySem.W.Frag} {C : List Addr} {P : Hp} {d : D}, HoD K C P ho d → H A = some ho → ∀ x, H A ≠ some (.own x) := fun z e x e2 => by rw [e] at e2; exact z.nown x (Option.some.inj e2)
  refine ⟨fun i m H' => m = xs.length - i ∧ i ≤ xs.length ∧ ∃ w' ho ds, w'.H = H' ∧ Gr (gx X) rw w1 w' ∧ w'.P A = none ∧ A ∉ w'.C ∧ w'.H A = some ho ∧ HoD X.K w'.C w'.P ho (.dct kd ds) ∧ ds.length ≤ i ∧ dcL kd (wipeD δ vs) t ft fk fv gd (xs.drop i) ds w'.M fun kvs M => Qd (.new (.dct kd kvs)) M, ⟨xs.length, by simp, Nat.zero_le _, ⟨w1.C, w1.M, w1.P, upd w1.H A (hoOf kd)⟩, hoOf kd, [], rfl, (Gr.loose g1.ok hA).weak, g1.ok.ex.free hA, (show A ∉ w1.C from notc g1.ok hA), upd_same, hod_nil kd, Nat.le_refl _, q1⟩, ?_⟩
  rintro i m H' ⟨rfl, hi, w2, ho, ds, rfl, g2, hPA, hCA, hHA, z, hlen, q⟩
  by_cases hlt : i < xs.length
  · have ed : xs.drop i = xs[i] :: xs.drop (i + 1) := List.drop_eq_getElem_cons hlt
    rw [ed] at q
    obtain ⟨gm, q⟩ := gQ_e q
    obtain ⟨go, yl⟩ := u1.go w2 i g2.ok g2.pp g2.cc gm hlt
    refine .inr ⟨go, fun H'' => ∃ w' ho' ds', w'.H = H'' ∧ Gr (gx X) rw w1 w' ∧ w'.P A = none ∧ A ∉ w'.C ∧ w'.H A = some ho' ∧ HoD X.K w'.C w'.P ho' (.dct kd ds') ∧ ds'.length ≤ i + 1 ∧ dcL kd (wipeD δ vs) t ft fk fv gd (xs.drop (i + 1)) ds' w'.M fun kvs M => Qd (.new (.dct kd kvs)) M, fun H'' hN => ⟨xs.length - (i + 1), by omega, rfl, hlt, hN⟩, fun x H'' hy => ?_⟩
    obtain ⟨w3, d, rfl, hd, g3, zx⟩ := yl x H'' hy
    have hd : xs[i] = d := by
      rw [List.getElem?_eq_getElem hlt] at hd
      exact Option.some.inj hd
    rw [hd] at q
    have g13 := g2.trans g3.weak
    have nt := z.ntup
    have nn : ∀ {H : Hp}, H A = some ho → H A ≠ none := fun e => by rw [e]; exact Option.some_ne_none _
    have hA3 := g3.off A _ hHA nt hPA
    have hH3 := g3.hh A _ hHA hCA
    have hC3 := g3.noc (nn hHA) hCA
    have z3 := g3.hod z
    have eM3 : w3.M = w2.M := (g3.ro rfl).2.1
    obtain ⟨δ', hset, q⟩ := someQ_e q
    refine Tg.ok zx (R1.mono g13) hset fun σ' b => ⟨?_, htt _ _ _ ?_⟩
    · rw [wipe_ext (σ := wipe σ vs) (by rw [b.rep.len, Tg.set_len hset, ← (R1.mono g13).len]) fun j hj => b.out j fun hm => hj (hix j hm), wipe_wipe]
    · rw [← eM3] at q
      refine ⟨w3, δ', _, rfl, b.rep, q, fun b4 w4 q4 g4 => ?_⟩
      have hA4 := g4.off A _ hH3 nt hA3
      have hH4 := g4.hh A _ hH3 hC3
      have hC4 := g4.noc (nn hH3) hC3
      have g14 := g13.trans g4
      have z4 := g4.hod z3
      cases b4 with
      | false => exact iteF ⟨w4, ho, ds, rfl, g14, hA4, hC4, hH4, z4, by omega, q4⟩
      | true =>
        refine iteT ?_
        refine lift_d (b.rep.mono g4) (fun y M2 => fv δ' M2 fun zz M3 => okQ (isKey kd y) (dcL kd (wipeD δ vs) t ft fk fv gd (xs.drop (i + 1)) (putD ds y zz.d) M3 fun kvs M => Qd (.new (.dct kd kvs)) M)) q4 fun y vy w5 q5 g5 z5 => ?_
        have hA5 := g5.off A _ hH4 nt hA4
        have hH5 := g5.hh A _ hH4 hC4
        have hC5 := g5.noc (nn hH4) hC4
        have g15 := g14.trans g5
        refine lift_d ((b.rep.mono g4).mono g5) (fun zz M3 => okQ (isKey kd y) (dcL kd (wipeD δ vs) t ft fk fv gd (xs.drop (i + 1)) (putD ds y zz) M3 fun kvs M => Qd (.new (.dct kd kvs)) M)) q5 fun zz vz w6 q6 g6 z6 => ?_
        have hA6 := g6.off A _ hH5 nt hA5
        have hH6 := g6.hh A _ hH5 hC5
        have hC6 := g6.noc (nn hH5) hC5
        have g16 := g15.trans g6
        obtain ⟨hk, q7⟩ := okQ_e q6
        have zz6 := g6.hod (g5.hod z4)
        obtain ⟨o', p1, p2⟩ := dput_of g16.ok hH6 zz6 (g6.dp z5) z6 hk (by omega)
        exact ⟨_, p1, ⟨w6.C, w6.M, w6.P, upd w6.H A o'⟩, o', putD ds y zz, rfl, g16.touch hA hA6 hC6 (notown zz6 hH6), hA6, hC6, upd_same, p2, Nat.le_trans (putD_le ds y zz) (by omega), q7⟩
  · have e : i = xs.length := by omega
    subst e
    rw [List.drop_length] at q
    obtain ⟨gm, q⟩ := gQ_e q
    exact .inl ⟨u1.stop w2 g2.ok g2.pp g2.cc gm, k _ _ w2 q (g1.trans g2) ⟨A, rfl, hPA, hAH, hCA, ho, hHA, z⟩⟩
section
variable {X : Cx} {rw : Bool} {kx vx c tg iter : Expr} {scope : Scope} {own : List (Str × Nat)} {pos : Pos} {fi : IV} {t : Tg} {ft : TV} {fk fv : EV} {k : Nat}
theorem q_dc {kd : Bool} (hr : Room k X.A) (hN : X.N.Nodup) (hi : QI X rw tg iter fi) (ok : BlkOk X.N X.env.scope scope own) (hg : ∀ (s : Shared) (H : Hp) (C : Addr) (cl : List (Str × Addr)) (fp : List Addr), QG (X.blk s H scope (compEnvC scope cl C X.env) fp) tg t)
    (hk : ∀ (s : Shared) (H : Hp) (C : Addr) (cl : List (Str × Addr)) (fp : List Addr), QE (X.blk s H scope (compEnvC scope cl C X.env) fp) rw kx fk) (hv : ∀ (s : Shared) (H : Hp) (C : Addr) (cl : List (Str × Addr)) (fp : List Addr), QE (X.blk s H scope (compEnvC scope cl C X.env) fp) rw vx fv)
    (hix : ∀ i ∈ t.ix, i ∈ own.map (·.2) := by decide) (hc : X.calm = true := by rfl) (hs : ∀ x, foldedSetIterable iter X.env x = pure x := by intro _; rfl) :
    QE X rw (.DictComp kx vx [⟨tg, iter, [], 0⟩] scope pos) (eDc kd fi t tTrue fk fv (own.map (·.2))) :=
  qe_of (pe_dcG ⟨hc, hN, ok, fun s H C cl fp => (hg s H C cl fp).pg, fun s H C cl fp => pts_nil, fun s H C cl fp => (hk s H C cl fp).pe, fun s H C cl fp => (hv s H C cl fp).pe, hs⟩ (hoOf_ok kd) (by have := hr.un; omega) hi.pi) fun w σ δ Qd Q R h kk => dc_run hix (fun _ _ _ q => lcY q) R h kk
theorem q_dcIf {kd : Bool} (hr : Room k X.A) (hN : X.N.Nodup) (hi : QI X rw tg iter fi) (ok : BlkOk X.N X.env.scope scope own) (hg : ∀ (s : Shared) (H : Hp) (C : Addr) (cl : List (Str × Addr)) (fp : List Addr), QG (X.blk s H scope (compEnvC scope cl C X.env) fp) tg t)
    (ht : ∀ (s : Shared) (H : Hp) (C : Addr) (cl : List (Str × Addr)) (fp : List Addr), QT (X.blk s H scope (compEnvC scope cl C X.env) fp) rw c ft)
    (hk : ∀ (s : Shared) (H : Hp) (C : Addr) (cl : List (Str × Addr)) (fp : List Addr), QE (X.blk s H scope (compEnvC scope cl C X.env) fp) rw kx fk) (hv : ∀ (s : Shared) (H : Hp) (C : Addr) (cl : List (Str × Addr)) (fp : List Addr), QE (X.blk s H scope (compEnvC scope cl C X.env) fp) rw vx fv)
    (hix : ∀ i ∈ t.ix, i ∈ own.map (·.2) := by decide) (hc : X.calm = true := by rfl) (hs : ∀ x, foldedSetIterable iter X.env x = pure x := by intro _; rfl) :
    QE X rw (.DictComp kx vx [⟨tg, iter, [c], 0⟩] scope pos) (eDc kd fi t ft fk fv (own.map (·.2))) :=
  qe_of (pe_dcG ⟨hc, hN, ok, fun s H C cl fp => (hg s H C cl fp).pg, fun s H C cl fp => pts_one (ht s H C cl fp).pt, fun s H C cl fp => (hk s H C cl fp).pe, fun s H C cl fp => (hv s H C cl fp).pe, hs⟩ (hoOf_ok kd) (by have := hr.un; omega) hi.pi) fun w σ δ Qd Q R h kk => dc_run hix (fun _ _ _ q => q) R h kk
end
end HI

namespace HI
open PySem PySem.Spec PyProof.Rows L2
/-! ### dict cells that are walked -/
section
variable {G : Gx} {rw : Bool} {w w' : Wd} {n : Nat} {a : Addr} {c : D} {u : HO} {od : Obj}
theorem Gr.lock (k : WOk G w) (hc : w.C[n]? = some a) (hH : w.H a = some u) (hz : HoD G.K w.C w.P u c) (hu : unl (.frz od u) = u) : WOk G ⟨w.C, w.M.set n (.lck c (od, u)), w.P, upd w.H a (.frz od u)⟩ :=
  (Gr.setCell (o' := .frz od u) (d' := .lck c (od, u)) k hc (cell_nown k hc) ⟨od, u, rfl, upd_same, hu, hz⟩).ok
/-- the walk is over: all is as the walk's body left it, the dict as it was -/
theorem Gr.unlock (k : WOk G w) (hc : w.C[n]? = some a) (hM : w.M[n]? = some c) (hH : w.H a = some u) (hz : HoD G.K w.C w.P u c) (hd : ∃ t kvs, c = .dct t kvs) (g : Gr G rw ⟨w.C, w.M.set n (.lck c (od, u)), w.P, upd w.H a (.frz od u)⟩ w') (hM' : w'.M[n]? = some (.lck c (od, u))) (hH' : w'.H a = some (.frz od u)) :
    Gr G rw w ⟨w'.C, w'.M.set n c, w'.P, upd w'.H a u⟩ := by
  have ha : a ∈ w.C := List.mem_of_getElem? hc
  have hc' : w'.C[n]? = some a := g.cc.at hc
  have hz' : HoD G.K w'.C w'.P u c := hz.mono g.cc g.pp
  have cok : CellOk G ⟨w'.C, w'.M.set n c, w'.P, upd w'.H a u⟩ a c := by
    obtain ⟨t, kvs, rfl⟩ := hd
    exact ⟨u, upd_same, hz'⟩
  have g2 := Gr.setCell (o' := u) (d' := c) g.ok hc' (cell_nown g.ok hc') cok
  have same : ∀ b, b ≠ a → ∀ o, w.H b = some o → (upd w.H a (.frz od u)) b = some o := fun b hb o h => by rw [upd_ne hb]; exact h
  refine ⟨g2.ok, g.pp, g.cc, fun b o h hb => ?_, fun b o h nt z => ?_, fun b h hb => ?_, fun e => ?_⟩
  · have ne : b ≠ a := fun z => by subst z; exact hb ha
    show upd w'.H a u b = some o
    rw [upd_ne ne]
    exact g.hh b o (same b ne o h) hb
  · by_cases ne : b = a
    · subst ne
      have := g.off b (.frz od u) upd_same (fun xs e => by cases e) z
      exact this
    · exact g.off b o (same b ne o h) nt z
  · have := g.fr b h hb
    by_cases ne : b = a
    · subst ne; exact absurd ha hb
    · have h2 : upd w.H a (.frz od u) b = none := this
      rw [upd_ne ne] at h2
      exact h2
  · obtain ⟨c1, c2, c3⟩ := g.ro e
    refine ⟨c1, ?_, fun m b hb nb => ?_⟩
    · show w'.M.set n c = w.M
      rw [c2]
      show (w.M.set n (.lck c (od, u))).set n c = w.M
      rw [List.set_set]
      apply List.ext_getElem?
      intro i
      rw [List.getElem?_set]
      split
      · rename_i e1
        subst e1
        rw [if_pos (List.getElem?_eq_some_iff.mp hM).1, hM]
      · rfl
    · show upd w'.H a u b = w.H b
      by_cases ne : b = a
      · subst ne; rw [upd_same, hH]
      · rw [upd_ne ne]
        have nm : m ≠ n := fun z => by subst z; rw [hc] at hb; exact ne (Option.some.inj hb).symm
        have := c3 m b hb fun bb z => nb bb (by
          have z : (w.M.set n (.lck c (od, u)))[m]? = some (.bag bb) := z
          rw [List.getElem?_set_ne (Ne.symm nm)] at z
          exact z)
        rw [this]
        show upd w.H a (.frz od u) b = w.H b
        rw [upd_ne ne]
theorem RzOk.unlock {r : Rz} {v : V} (k : WOk G w) (hc : w.C[n]? = some a) (hH : w.H a = some u) (z : RzOk G ⟨w.C, w.M.set n (.lck c (od, u)), w.P, upd w.H a (.frz od u)⟩ w' r v) (cc : Pre w.C w'.C) : RzOk G w ⟨w'.C, w'.M.set n c, w'.P, upd w'.H a u⟩ r v := by
  cases r with
  | val d => exact z
  | new d =>
    obtain ⟨l, rfl, h1, h2, h3, o, h4, h5⟩ := z
    have hl : l ≠ a := fun e => by subst e; exact h3 (cc.mem (List.mem_of_getElem? hc))
    have h2 : w.H l = none := by
      have h2 : upd w.H a (.frz od u) l = none := h2
      rw [upd_ne hl] at h2
      exact h2
    exact ⟨l, rfl, h1, h2, h3, o, by show upd w'.H a u l = some o; rw [upd_ne hl]; exact h4, h5⟩
end
/-- where a dict that is walked stands: in a slot, or in a field of the object in a slot -/
inductive Pl where
  | v (i : Nat) | f (i : Nat) (c x : List Nat)
def plAt (p : Pl) (δ : DEnv) (M : Mem) (q : Nat → Prop) : Prop := match p with
  | .v i => match δ[i]? with
    | some (.val (.cell n)) => q n
    | _ => False
  | .f i c x => match δ[i]? with
    | some (.val (.cell m)) => match M[m]? with
      | some (.obj c' fs) => match lookF fs x with
        | some (.cell n) => q n
        | _ => False
      | _ => False
    | _ => False
theorem plAt_e {p : Pl} {δ : DEnv} {M : Mem} {q : Nat → Prop} (h : plAt p δ M q) : ∃ n, q n := by
  unfold plAt at h
  split at h
  · split at h
    · exact ⟨_, h⟩
    · exact h.elim
  · split at h
    · split at h
      · split at h
        · exact ⟨_, h⟩
        · exact h.elim
      · exact h.elim
    · exact h.elim
def lkQ (M : Mem) (n : Nat) (q : D → Prop) : Prop := match M[n]? with
  | some (.dct t kvs) => q (.dct t kvs)
  | _ => False
theorem lkQ_e {M : Mem} {n : Nat} {q : D → Prop} (h : lkQ M n q) : ∃ t kvs, M[n]? = some (.dct t kvs) ∧ q (.dct t kvs) := by
  unfold lkQ at h
  split at h
  · exact ⟨_, _, by assumption, h⟩
  · exact h.elim
def unQ (M : Mem) (n : Nat) (c : D) (k : Obj × HO) (q : Prop) : Prop := M[n]? = some (.lck c k) ∧ q
def eLock (p : Pl) (f : EV) : EV := fun δ M Q => plAt p δ M fun n => lkQ M n fun c => ∀ k : Obj × HO, f δ (M.set n (.lck c k)) fun r M1 => unQ M1 n c k (Q r (M1.set n c))
def sLock (p : Pl) (g : SV) : SV := fun K δ M => plAt p δ M fun n => lkQ M n fun c => ∀ k : Obj × HO, g ⟨fun δ' M1 => unQ M1 n c k (K.nx δ' (M1.set n c)), fun _ _ => False, fun δ' M1 => unQ M1 n c k (K.bk δ' (M1.set n c)), fun δ' M1 => unQ M1 n c k (K.ct δ' (M1.set n c))⟩ δ (M.set n (.lck c k))
section
variable {G : Gx} {w : Wd} {σ : L2.St} {δ : DEnv}
theorem lk_at {n : Nat} {t : Bool} {kvs : List (D × D)} (k : WOk G w) (e : w.M[n]? = some (.dct t kvs)) : ∃ a u, w.C[n]? = some a ∧ w.H a = some u ∧ Mut (some u) ∧ HoD G.K w.C w.P u (.dct t kvs) ∧ ∀ od, unl (.frz od u) = u := by
  obtain ⟨a, h1, _, o, h3, h4⟩ := k.place e
  refine ⟨a, o, h1, h3, ?_, h4, fun od => ?_⟩
  · cases h4 <;> trivial
  · cases h4 <;> rfl
/-- the slots in the locked world -/
theorem Rep.lock {n : Nat} {a : Addr} {c : D} {u : HO} {od : Obj} (R : Rep G w σ δ) (hc : w.C[n]? = some a) (k : WOk G ⟨w.C, w.M.set n (.lck c (od, u)), w.P, upd w.H a (.frz od u)⟩) : Rep G ⟨w.C, w.M.set n (.lck c (od, u)), w.P, upd w.H a (.frz od u)⟩ σ δ := by
  refine ⟨k, R.val, fun i d h => ?_, R.sep, R.len⟩
  obtain ⟨l, h1, h2, h3, o, h4, h5⟩ := R.own i d h
  refine ⟨l, h1, h2, h3, o, ?_, h5⟩
  show upd w.H a _ l = some o
  rw [upd_ne fun e => ?_]
  · exact h4
  · subst e; exact h3 (List.mem_of_getElem? hc)
end
section
variable {X : Cx} {rw : Bool} {e a b : Expr} {s : Stmt} {f fa : EV} {g : SV} {pos p : Pos}
theorem lk_frz {G : Gx} {w1 : Wd} {n : Nat} {A : Addr} {c : D} {od : Obj} {u : HO} (k : WOk G w1) (hc : w1.C[n]? = some A) (h : w1.M[n]? = some (.lck c (od, u))) : w1.H A = some (.frz od u) := by
  obtain ⟨_, od1, o1, e1, e2, _⟩ := k.cell n A _ hc h
  cases e1
  exact e2
theorem q_lock (pl : Pl) (h : QE X rw e f) : QE X rw e (eLock pl f) := qe_of (pe_lock h.pe) fun w σ δ Qd Q R hf k => by
  obtain ⟨n, hf⟩ := plAt_e hf
  obtain ⟨t, kvs, hM, hf⟩ := lkQ_e hf
  obtain ⟨A, u, hc, hH, mu, hz, hu⟩ := lk_at R.ok hM
  refine ⟨A, u, hH, mu, fun od => ?_⟩
  have kl := Gr.lock (c := .dct t kvs) R.ok hc hH hz (hu od)
  refine ⟨⟨w.C, w.M.set n (.lck (.dct t kvs) (od, u)), w.P, upd w.H A (.frz od u)⟩, δ, _, rfl, R.lock hc kl, hf (od, u), fun r v w1 q g1 z1 => ?_⟩
  obtain ⟨hM1, q⟩ := q
  have hF := lk_frz g1.ok (g1.cc.at hc) hM1
  have g2 := Gr.unlock R.ok hc hM hH hz ⟨t, kvs, rfl⟩ g1 hM1 hF
  exact ⟨hF, k r v _ q g2 (RzOk.unlock R.ok hc hH z1 g1.cc)⟩
theorem q_slock (pl : Pl) (h : QS X true s g) : QS X true s (sLock pl g) := qs_of (ps_lock h.ps) fun w0 wc w σ δ Kd D S hf k => by
  obtain ⟨n, hf⟩ := plAt_e hf
  obtain ⟨t, kvs, hM, hf⟩ := lkQ_e hf
  obtain ⟨A, u, hc, hH, mu, hz, hu⟩ := lk_at S.gr.ok hM
  refine ⟨A, u, hH, mu, fun od => ?_⟩
  have gl : Gr (gx X) true w ⟨w.C, w.M.set n (.lck (.dct t kvs) (od, u)), w.P, upd w.H A (.frz od u)⟩ := Gr.setCell S.gr.ok hc (cell_nown S.gr.ok hc) ⟨od, u, rfl, upd_same, hu od, hz⟩
  have Sl := S.mono gl
  have back : ∀ {w1 : Wd}, WOk (gx X) w1 → Pre w.C w1.C → Same w.P w1.P → w1.M[n]? = some (.lck (.dct t kvs) (od, u)) → w1.H A = some (.frz od u) ∧ Gr (gx X) true w1 ⟨w1.C, w1.M.set n (.dct t kvs), w1.P, upd w1.H A u⟩ := fun {w1} ok cc pp hM1 => by
    have hc1 := cc.at hc
    exact ⟨lk_frz ok hc1 hM1, Gr.setCell ok hc1 (cell_nown ok hc1) ⟨u, upd_same, hz.mono cc pp⟩⟩
  have S2 : StD (gx X) true w0 ⟨w.C, w.M.set n (.lck (.dct t kvs) (od, u)), w.P, upd w.H A (.frz od u)⟩ ⟨w.C, w.M.set n (.lck (.dct t kvs) (od, u)), w.P, upd w.H A (.frz od u)⟩ σ δ := ⟨Sl.gr, Same.refl _, Pre.refl _, Sl.rep, Sl.ho⟩
  have fin : ∀ {w1 : Wd} {σ' : L2.St} {δ' : DEnv}, StD (gx X) true w0 ⟨w.C, w.M.set n (.lck (.dct t kvs) (od, u)), w.P, upd w.H A (.frz od u)⟩ w1 σ' δ' → w1.M[n]? = some (.lck (.dct t kvs) (od, u)) → w1.H A = some (.frz od u) ∧ StD (gx X) true w0 wc ⟨w1.C, w1.M.set n (.dct t kvs), w1.P, upd w1.H A u⟩ σ' δ' := fun {w1 σ' δ'} S1 hM1 => by
    obtain ⟨b1, b2⟩ := back S1.gr.ok S1.cc S1.pc hM1
    have S3 := S1.mono b2
    exact ⟨b1, S3.gr, S.pc.trans S3.pc, S.cc.trans S3.cc, S3.rep, S3.ho⟩
  refine ⟨w0, _, _, δ, _, rfl, S2, hf (od, u), ⟨fun δ' σ' w1 q S1 => ?_, fun δ' σ' w1 q S1 => ?_, fun δ' σ' w1 q S1 => ?_, fun r v w1 q g1 z1 => ?_⟩⟩
  · obtain ⟨b1, b2⟩ := fin S1 q.1
    exact ⟨b1, k.nx δ' σ' _ q.2 b2⟩
  · obtain ⟨b1, b2⟩ := fin S1 q.1
    exact ⟨b1, k.bk δ' σ' _ q.2 b2⟩
  · obtain ⟨b1, b2⟩ := fin S1 q.1
    exact ⟨b1, k.ct δ' σ' _ q.2 b2⟩
  · exact q.elim
end
end HI

namespace HI
open PySem PySem.Spec PyProof.Rows L2
/-! ### for k in d, d a locked cell -/
def lkdD (M : Mem) (d : D) : Option (List D × Gd) := match d with
  | .cell n => match M[n]? with
    | some (.lck (.dct t kvs) k) => some (listD.keysOf kvs, some (n, .lck (.dct t kvs) k))
    | _ => none
  | _ => none
def iDk (f : EV) : IV := fun δ M Q => f δ M fun r M1 => someQ (lkdD M1 r.d) fun p => Q p.1 p.2 M1
theorem lkd_e {M : Mem} {d : D} {p : List D × Gd} (h : lkdD M d = some p) : ∃ n t kvs k, d = .cell n ∧ M[n]? = some (.lck (.dct t kvs) k) ∧ p = (kvs.map (·.1), some (n, .lck (.dct t kvs) k)) := by
  unfold lkdD at h
  split at h
  · split at h
    · cases h
      exact ⟨_, _, _, _, rfl, by assumption, by rw [keysOf_map]⟩
    · cases h
  · cases h
theorem key_K {K : PySem.W.Frag} {C : List Addr} {P : Hp} {kds : List (D × D)} {kvs : List (Key × V)} (hk : kds.map (fun p => keyD p.1) = kvs.map (fun q => some q.1)) (hv : ∀ p ∈ kds, vK p.1) {i : Nat} {k : Key} {v : V} (h : kvs[i]? = some (k, v)) : ∃ d, (kds.map (·.1))[i]? = some d ∧ Dp K C P (kV k) d := by
  have e := congrArg (fun l => l[i]?) hk
  simp only [List.getElem?_map, h, Option.map_some] at e
  cases e2 : kds[i]? with
  | none => rw [e2] at e; cases e
  | some p =>
    rw [e2] at e
    refine ⟨p.1, by rw [List.getElem?_map, e2]; rfl, key_dp (Option.some.inj e) ?_⟩
    have := hv p (List.mem_of_getElem? e2)
    obtain ⟨d, x⟩ := p
    cases d <;> first | exact this | trivial
theorem key_T {kds : List (D × D)} {kvs : List (List Key × V)} (hk : kds.map (fun p => tkD p.1) = kvs.map (fun q => some q.1)) (hv : ∀ p ∈ kds, vK p.1) {i : Nat} {k : List Key} {v : V} (h : kvs[i]? = some (k, v)) : ∃ ds, (kds.map (·.1))[i]? = some (.tup ds) ∧ ∀ {K : PySem.W.Frag} {C : List Addr} {P : Hp}, DpA K C P (k.map kV) ds := by
  have e := congrArg (fun l => l[i]?) hk
  simp only [List.getElem?_map, h, Option.map_some] at e
  cases e2 : kds[i]? with
  | none => rw [e2] at e; cases e
  | some p =>
    rw [e2] at e
    have e := Option.some.inj e
    have hp := hv p (List.mem_of_getElem? e2)
    obtain ⟨d, x⟩ := p
    cases d with
    | tup ds => exact ⟨ds, by rw [List.getElem?_map, e2]; rfl, fun {K C P} => keys_dp e hp⟩
    | _ => cases e
section
variable {X : Cx} {rw : Bool} {tg e a : Expr} {f : EV} {pos p : Pos}
theorem q_dk (he : QE X rw e f) : QI X rw tg e (iDk f) := by
  refine qi_of (pi_keys he.pe) fun w σ δ Qd R Rp h k => ?_
  refine lift_d Rp (fun d M => someQ (lkdD M d) fun p => Qd p.1 p.2 M) h fun d v w' q g z => ?_
  obtain ⟨pp, q1, q2⟩ := someQ_e q
  obtain ⟨n, t, kvs, kk, rfl, hM, rfl⟩ := lkd_e q1
  obtain ⟨A, rfl, hA⟩ := z.cell'
  obtain ⟨_, od, o, ek, hH, hu, hz⟩ := g.ok.cell n A _ hA hM
  subst ek
  have at_ : ∀ w2 : Wd, WOk (gx X) w2 → Pre w'.C w2.C → w2.M[n]? = some (.lck (.dct t kvs) (od, o)) → w2.H A = some (.frz od o) := fun w2 ok cc gm => lk_frz ok (cc.at hA) gm
  refine ⟨A, od, rfl, ?_⟩
  cases hz with
  | @dK kv _ h1 h2 h3 =>
    have hl : kv.length = kvs.length := by have := congrArg List.length h1; rw [List.length_map, List.length_map] at this; exact this.symm
    refine .inl ⟨kv, hH, k _ _ _ w' q2 g ⟨fun w2 i ok pp cc gm hi => ?_, fun w2 ok pp cc gm => ?_⟩⟩
    · have gm : w2.M[n]? = some _ := gm
      have hF := at_ w2 ok cc gm
      rw [List.length_map] at hi
      refine ⟨⟨hF, by omega⟩, fun v H' y => ?_⟩
      obtain ⟨rfl, key, vv, e1, rfl⟩ := y
      obtain ⟨d, e2, z2⟩ := key_K (K := X.K) (C := w2.C) (P := w2.P) h1 h2 e1
      exact ⟨w2, d, rfl, e2, .refl ok, z2⟩
    · have gm : w2.M[n]? = some _ := gm
      exact ⟨at_ w2 ok cc gm, by rw [List.length_map]; omega⟩
  | @dT kv _ h1 h2 h3 =>
    have hl : kv.length = kvs.length := by have := congrArg List.length h1; rw [List.length_map, List.length_map] at this; exact this.symm
    refine .inr ⟨kv, hH, k _ _ _ w' q2 g ⟨fun w2 i ok pp cc gm hi => ?_, fun w2 ok pp cc gm => ?_⟩⟩
    · have gm : w2.M[n]? = some _ := gm
      have hF := at_ w2 ok cc gm
      rw [List.length_map] at hi
      refine ⟨⟨hF, by omega⟩, fun v H' y => ?_⟩
      obtain ⟨rfl, key, vv, b, e1, rfl, e3⟩ := y
      obtain ⟨ds, e2, z2⟩ := key_T h1 h2 e1
      exact ⟨⟨w2.C, w2.M, upd w2.P b (.tup (key.map kV)), w2.H⟩, .tup ds, rfl, e2, Gr.ptup ok e3, .tup upd_same z2⟩
    · have gm : w2.M[n]? = some _ := gm
      exact ⟨at_ w2 ok cc gm, by rw [List.length_map]; omega⟩
/-! ### enumerate(list) -/
def enD : List D → Nat → List D
  | [], _ => []
  | x :: r, i => .tup [.int (i : Nat), x] :: enD r (i + 1)
theorem enD_at : ∀ (xs : List D) (i j : Nat) (d : D), xs[j]? = some d → (enD xs i)[j]? = some (.tup [.int ((i + j : Nat) : Int), d])
  | [], _, _, _, h => by simp at h
  | x :: r, i, 0, d, h => by simp at h; subst h; rfl
  | x :: r, i, j + 1, d, h => by
    have := enD_at r (i + 1) j d (by simpa using h)
    rw [enD, List.getElem?_cons_succ, this, show i + 1 + j = i + (j + 1) by omega]
theorem enD_len : ∀ (xs : List D) (i : Nat), (enD xs i).length = xs.length
  | [], _ => rfl
  | x :: r, i => by rw [enD, List.length_cons, enD_len r, List.length_cons]
def iEn (f : EV) : IV := fun δ M Q => f δ M fun r M1 => lstQ r.d fun xs => Q (enD xs 0) none M1
theorem q_en {elts : List Expr} {kk : Nat} {tpos : Pos} (ha : QE X rw a f) (hm : X.mg "enumerate" = none) (hg : Gl X "enumerate" := by rfl) (hs : starEach [a] X.env = [(false, eval a X.env)] := by rfl) : QI X rw (.Tuple elts kk tpos) (.Call (.Name "enumerate" p) [a] [] pos) (iEn f) := by
  refine qi_of (pi_enum hg hm (pa_cons ha.pe pa_nil hs) hs) fun w σ δ Qd R Rp h k => ?_
  dsimp only [iEnum, tCons, tNil]
  refine lift_d Rp (fun d M => lstQ d fun xs => Qd (enD xs 0) none M) h fun d v w' q g z => ?_
  obtain ⟨xs, rfl, q2⟩ := lstQ_e q
  obtain ⟨A, x1, rfl, p1, u1⟩ := see_lst g.ok z rfl
  refine ⟨A, x1, rfl, .inl (.inl p1), k _ _ _ w' q2 g ⟨fun w2 i ok pp cc _ hi => ?_, fun w2 ok pp cc _ => ?_⟩⟩
  · obtain ⟨A2, x2, e2, p2, u2⟩ := see_lst (d := .lst xs) ok (z.mono cc pp) rfl
    cases e2
    rw [enD_len] at hi
    have hx : i < x2.length := by rw [u2.length]; exact hi
    refine ⟨⟨x2, x2[i], .inl (.inl p2), by simp [hx]⟩, fun v H' y => ?_⟩
    obtain ⟨T, x, rfl, hT, rfl, hy⟩ := y
    obtain ⟨d, e3, z3⟩ := u2.get' (hy x2 (.inl (.inl p2)))
    obtain ⟨g3, z4⟩ := tup_ok (Gr.refl (rw := false) ok) hT (.cons (.int (i : Nat)) (.cons z3 .nil))
    refine ⟨_, .tup [.int (i : Nat), d], rfl, ?_, g3, z4⟩
    rw [enD_at xs 0 i d e3, Nat.zero_add]
  · obtain ⟨A2, x2, e2, p2, u2⟩ := see_lst (d := .lst xs) ok (z.mono cc pp) rfl
    cases e2
    exact ⟨x2, .inl (.inl p2), by rw [enD_len, u2.length]; exact Nat.le_refl _⟩
end
end HI

namespace HI
open PySem PySem.Spec PyProof.Rows L2
/-! ### stars in displays -/
def itD (M : Mem) (d : D) (q : List D → Prop) : Prop := match view M d with
  | .lst xs => q xs
  | .tup xs => q xs
  | .wtup xs => q xs
  | _ => False
theorem itD_e {G : Gx} {w : Wd} {v : V} {d : D} {q : List D → Prop} (o : WOk G w) (z : Dp G.K w.C w.P v d) (h : itD w.M d q) : ∃ a vs xs, v = .ref a ∧ (SqT G.K w.H a vs ∨ SqL G.K w.H a vs) ∧ DpA G.K w.C w.P vs xs ∧ q xs := by
  unfold itD at h
  generalize e : view w.M d = c at h
  cases c with
  | lst xs => obtain ⟨a, vs, rfl, h1, h2⟩ := see_lst o z e; exact ⟨a, vs, xs, rfl, .inr (.inl (.inl h1)), h2, h⟩
  | tup xs => obtain ⟨a, vs, rfl, _, h1, h2⟩ := see_tup o z e; exact ⟨a, vs, xs, rfl, .inl (.inl (.inl h1)), h2, h⟩
  | wtup xs => obtain ⟨_, a, vs, rfl, h1, h2⟩ := see_wtup o z e; exact ⟨a, vs, xs, rfl, .inl (h1 _), h2, h⟩
  | _ => exact h.elim
def aStar (f : EV) (fr : AV) : AV := fun δ M Q => f δ M fun r M1 => itD M1 r.d fun xs => fr δ M1 fun ds M2 => Q (xs ++ ds) M2
section
variable {X : Cx} {rw : Bool} {e a b o i : Expr} {es : List Expr} {f fa fb fo fi fv : EV} {fr : AV} {pos p pos' : Pos} {k : Nat}
theorem q_star (he : QE X rw e f) (hr : QA X rw es fr) (hs : starEach (.Starred e p :: es) X.env = (true, eval e X.env) :: starEach es X.env := by rfl) : QA X rw (.Starred e p :: es) (aStar f fr) :=
  qa_of (StX.pa_star he.pe hr.pa hs) fun w σ δ Qd Q R hf k => by
    refine lift_d R (fun d M1 => itD M1 d fun xs => fr δ M1 fun ds M2 => Qd (xs ++ ds) M2) hf fun d v w1 q1 g1 z1 => ?_
    obtain ⟨A, vs, xs, rfl, h1, h2, q2⟩ := itD_e g1.ok z1 q1
    exact ⟨A, vs, rfl, h1, w1, δ, _, rfl, R.mono g1, q2, fun ds us w2 q3 g2 z2 => k _ _ w2 q3 (g1.trans g2) ((g2.dpa h2).append z2)⟩
/-! ### o[i] = e, o a cell that is a list -/
def setQ (M : Mem) (o i : D) (e : D) (q : Mem → Prop) : Prop := cellQ o fun n => someQ M[n]? fun c => lstQ c fun xs => intQ i fun j => match j with
  | .ofNat m => match Nat.blt m xs.length with
    | true => q (M.set n (.lst (xs.set m e)))
    | false => False
  | .negSucc _ => False
def sCLSet (fo fi fv : EV) : SV := fun K δ M => fv δ M fun r M1 => fo δ M1 fun o M2 => fi δ M2 fun i M3 => setQ M3 o.d i.d r.d fun M4 => K.nx δ M4
theorem setQ_e {G : Gx} {w : Wd} {v vi ve : V} {o i e : D} {q : Mem → Prop} (ok : WOk G w) (zo : Dp G.K w.C w.P v o) (zi : Dp G.K w.C w.P vi i) (ze : Dp G.K w.C w.P ve e) (h : setQ w.M o i e q) :
    ∃ a vs j m M', v = .ref a ∧ vi = .int j ∧ w.H a = some (.lst vs) ∧ ixN vs.length j = some m ∧ Gr G true w ⟨w.C, M', w.P, upd w.H a (.lst (vs.set m ve))⟩ ∧ q M' := by
  obtain ⟨n, rfl, h⟩ := cellQ_e h
  obtain ⟨c, e1, h⟩ := someQ_e h
  obtain ⟨xs, rfl, h⟩ := lstQ_e h
  obtain ⟨j, rfl, h⟩ := intQ_e h
  obtain ⟨a, vs, rfl, ha, hH, zs⟩ := cell_lst ok zo e1
  cases zi.int'
  cases j with
  | negSucc _ => exact h.elim
  | ofNat m =>
    have h : (match Nat.blt m xs.length with | true => q (w.M.set n (.lst (xs.set m e))) | false => False) := h
    cases hb : Nat.blt m xs.length with
    | false => rw [hb] at h; exact h.elim
    | true =>
      rw [hb] at h
      have hlt : m < xs.length := by simpa [Nat.blt_eq] using hb
      refine ⟨a, vs, _, m, _, rfl, rfl, hH, ?_, Gr.setCell (d' := .lst (xs.set m e)) ok ha (cell_nown ok ha) ⟨_, upd_same, HoD.lst (DpA.set ze m zs)⟩, h⟩
      show ixN vs.length ((m : Nat) : Int) = some m
      unfold ixN
      rw [if_pos (Int.natCast_nonneg m), if_pos (by rw [zs.length]; omega)]
      rfl
theorem q_cLSet (ho : QE X true o fo) (hi : QE X true i fi) (hv : QE X true e fv) (ha : ∀ v, assign (.Subscript o i pos') X.env v = (do
      let ov ← holding [v] (eval o X.env)
      let iv ← holding [v, ov] (eval i X.env)
      standAt pos'
      holding [v, ov, iv] (setItem ov iv v)
      release [v, ov, iv] []) := by intro _; rfl) (hs : swapsWithSole [.Subscript o i pos'] e pos.line X.env = pure false := by rfl) (hw : swappedStores [.Subscript o i pos'] e X.env = pure none := by rfl)
    (h1 : (assignEach [.Subscript o i pos'] X.env).map (·.2) = [assign (.Subscript o i pos') X.env] := by rfl) : QS X true (.Assign [.Subscript o i pos'] e pos) (sCLSet fo fi fv) :=
  qs_of (ps_asg hv.pe (pg_sub ho.pe hi.pe set_list ha) hs hw h1) fun w0 wc w σ δ Kd D S q kk => by
    refine lift_d S.rep (fun d M1 => fo δ M1 fun o M2 => fi δ M2 fun i M3 => setQ M3 o.d i.d d fun M4 => Kd.nx δ M4) q fun dv v w1 q1 g1 z1 => ?_
    have S1 := S.mono g1
    refine lift_d S1.rep (fun od M2 => fi δ M2 fun i M3 => setQ M3 od i.d dv fun M4 => Kd.nx δ M4) q1 fun od ov w2 q2 g2 z2 => ?_
    have S2 := S1.mono g2
    refine lift_d S2.rep (fun id M3 => setQ M3 od id dv fun M4 => Kd.nx δ M4) q2 fun id iv w3 q3 g3 z3 => ?_
    have S3 := S2.mono g3
    obtain ⟨a, vs, j, m, M', rfl, rfl, h1, h2, g4, q4⟩ := setQ_e S3.gr.ok (g3.dp z2) z3 (g3.dp (g2.dp z1)) q3
    exact ⟨a, vs, j, m, rfl, rfl, h1, h2, kk.nx δ σ ⟨w3.C, M', w3.P, _⟩ q4 (S3.mono g4)⟩
/-- o.clear(), o a cell that is a list -/
def sCClrL (fo : EV) : SV := fun K δ M => fo δ M fun o M1 => cellQ o.d fun n => someQ M1[n]? fun c => lstQ c fun _ => K.nx δ (M1.set n (.lst []))
/-- x.extend(e), x the def's own list -/
def sExt (j : Nat) (f : EV) : SV := fun K δ M => ownQ δ j fun d => lstQ d fun xs => f δ M fun r M1 => lstQ (view M1 r.d) fun ys => szOk (xs.length + ys.length) (K.nx (δ.set j (.own (.lst (xs ++ ys)))) M1)
theorem q_ext (j : Nat) {x : Str} {p1 apos cpos : Pos} (he : QE X rw e f) (hN : X.N[j]? = some x := by rfl) (hvs : Vis X.env.scope x := by first | exact Or.inl rfl | exact Or.inr (Or.inl rfl) | exact Or.inr (Or.inr rfl)) (hd : (x == ("__debug__" : Str)) = false := by decide) (hcd : (x == ("__classdict__" : Str)) = false := by decide)
    (hs1 : starEach [e] X.env = [(false, eval e X.env)] := by rfl) (hline : (apos.endLine == cpos.line) = true := by rfl) (hbase : attributeBase (.Name x p1) "extend" X.env (eval (.Name x p1) X.env) = eval (.Name x p1) X.env := by rfl)
    (hfew : ((backTo cpos (starEach [e] X.env)).all (fun x => !x.1) && (backToKw cpos (keywordEach [] X.env)).all (fun x => x.1.isSome) && decide ([e].length + ([] : List Keyword).length + (if ([] : List Keyword).isEmpty then 0 else 1) < 30)) = true := by rfl)
    (hs : swapsWith (.Call (.Attribute (.Name x p1) "extend" apos) [e] [] cpos) none pos.line X.env = pure false := by rfl) :
    QS X rw (.Expr (.Call (.Attribute (.Name x p1) "extend" apos) [e] [] cpos) pos) (sExt j f) :=
  qs_of (ps_expr (pe_bm PySem.F.plainAttrs_list PySem.F.slot_list_extend PySem.F.type_list_extend mt_extend (pe_var hN hvs hd hcd) (pa_cons he.pe pa_nil hs1) hbase hfew hline hs1) hs) fun w0 wc w σ δ Kd D S q k => by
    obtain ⟨d, e, q⟩ := ownQ_e q
    obtain ⟨ds, rfl, q'⟩ := lstQ_e q
    obtain ⟨l, vs, h1, h2, h3, h4, h5⟩ := own_lst S.rep e
    refine ⟨.ref l, h1, .inl ⟨rfl, vs, .inl (.inl h4)⟩, ?_⟩
    refine lift_d S.rep (fun d M1 => lstQ (view M1 d) fun ys => szOk (ds.length + ys.length) (Kd.nx (δ.set j (.own (.lst (ds ++ ys)))) M1)) q' fun d v w1 q1 g z => ?_
    obtain ⟨ys, e2, q2⟩ := lstQ_e q1
    obtain ⟨q2, q3⟩ := szOk_e q2
    obtain ⟨b, us, rfl, hb, zu⟩ := see_lst g.ok z e2
    have h6 := g.hh l _ h4 h3
    refine ⟨l, b, vs, us, rfl, rfl, h6, hb, by rw [h5.length, zu.length]; exact q2, k.nx _ _ ⟨w1.C, w1.M, w1.P, _⟩ q3 ?_⟩
    exact (S.mono g).chg e h1 (HoD.lst ((g.dpa h5).append zu))
end
end HI

namespace HI
open PySem PySem.Spec PyProof.Rows L2
/-! ### {k: v, ..} with keys ints and texts -/
abbrev PV := DEnv → Mem → (List (D × D) → Mem → Prop) → Prop
def dNil : PV := fun _ M Q => Q [] M
def dCons (fk fv : EV) (fr : PV) : PV := fun δ M Q => fk δ M fun k M1 => fv δ M1 fun v M2 => fr δ M2 fun kvs M3 => Q ((k.d, v.d) :: kvs) M3
def mergeD : List (D × D) → List (D × D) → List (D × D)
  | acc, [] => acc
  | acc, (k, v) :: r => mergeD (putD acc k v) r
def keysOk : List (D × D) → Bool
  | [] => true
  | (k, _) :: r => match isKey false k with
    | true => keysOk r
    | false => false
def eDisp (f : PV) : EV := fun δ M Q => f δ M fun kvs M1 => okQ (keysOk kvs) (okQ (Nat.ble kvs.length 15) (Q (.new (.dct false (mergeD [] kvs))) M1))
section
variable {X : Cx} {rw : Bool}
structure QD (X : Cx) (rw : Bool) (keys : List (Option Expr)) (vals : List Expr) (f : PV) : Prop where
  ex : ∀ pos : Pos, ∃ trs, PPs X pos keys vals trs ∧ ∀ w σ δ (Qd : List (D × D) → Mem → Prop) (Q : List (V × V) → Hp → Prop), Rep (gx X) w σ δ → f δ w.M Qd →
    (∀ kvs ps w', Qd kvs w'.M → Gr (gx X) rw w w' → DpA X.K w'.C w'.P (ps.map (·.1)) (kvs.map (·.1)) → DpA X.K w'.C w'.P (ps.map (·.2)) (kvs.map (·.2)) → Q ps w'.H) → tPairs trs σ w.H Q
  len : keys.length = vals.length
theorem q_dnil : QD X rw [] [] dNil := ⟨fun pos => ⟨[], pps_nil, fun w σ δ Qd Q R h k => k [] [] w h (.refl R.ok) .nil .nil⟩, rfl⟩
theorem q_dcons {k v : Expr} {ks : List (Option Expr)} {vs : List Expr} {fk fv : EV} {fr : PV} (hk : QE X rw k fk) (hv : QE X rw v fv) (hr : QD X rw ks vs fr) : QD X rw (some k :: ks) (v :: vs) (dCons fk fv fr) := ⟨fun pos => by
  obtain ⟨trs, h1, h2⟩ := hr.ex pos
  refine ⟨_, pps_cons hk.pe hv.pe h1, fun w σ δ Qd Q R h kk => ?_⟩
  refine lift_d R (fun k M1 => fv δ M1 fun v M2 => fr δ M2 fun kvs M3 => Qd ((k, v.d) :: kvs) M3) h fun dk x w1 q1 g1 z1 => ?_
  refine lift_d (R.mono g1) (fun v M2 => fr δ M2 fun kvs M3 => Qd ((dk, v) :: kvs) M3) q1 fun dv y w2 q2 g2 z2 => ?_
  refine h2 w2 σ δ _ _ ((R.mono g1).mono g2) q2 fun kvs ps w3 q3 g3 a1 a2 => ?_
  exact kk _ _ w3 q3 ((g1.trans g2).trans g3) (.cons (g3.dp (g2.dp z1)) a1) (.cons (g3.dp z2) a2), by rw [List.length_cons, List.length_cons, hr.len]⟩
theorem keys_rel {K : PySem.W.Frag} {C : List Addr} {P : Hp} : ∀ {ps : List (V × V)} {kvs : List (D × D)}, DpA K C P (ps.map (·.1)) (kvs.map (·.1)) → DpA K C P (ps.map (·.2)) (kvs.map (·.2)) → keysOk kvs = true →
    ∃ vs : List (Key × V), ps = vs.map (fun kv => (kV kv.1, kv.2)) ∧ kvs.map (fun p => keyD p.1) = vs.map (fun q => some q.1) ∧ vs.map (·.2) = ps.map (·.2) ∧ ∀ p ∈ kvs, vK p.1
  | [], [], _, _, _ => ⟨[], rfl, rfl, rfl, fun _ h => by cases h⟩
  | [], _ :: _, h, _, _ => by cases h
  | _ :: _, [], h, _, _ => by cases h
  | (x, y) :: ps, (k, v) :: kvs, h1, h2, h3 => by
    cases h1 with
    | cons z1 t1 =>
      cases h2 with
      | cons z2 t2 =>
        rw [keysOk] at h3
        cases e : isKey false k with
        | false => rw [e] at h3; cases h3
        | true =>
          rw [e] at h3
          obtain ⟨vs, a1, a2, a3, a4⟩ := keys_rel t1 t2 h3
          obtain ⟨kk, ek⟩ := keyD_some e
          have ev : x = kV kk := keyD_V z1 ek
          refine ⟨(kk, y) :: vs, by rw [List.map_cons, ← a1, ev], by rw [List.map_cons, List.map_cons, ek, a2], by rw [List.map_cons, List.map_cons, a3], fun p hp => ?_⟩
          rcases List.mem_cons.mp hp with rfl | hp
          · exact z1.vK
          · exact a4 p hp
theorem merge_rel {K : PySem.W.Frag} {C : List Addr} {P : Hp} : ∀ {more : List (Key × V)} {kds : List (D × D)} {acc : List (Key × V)} {acd : List (D × D)}, kds.map (fun p => keyD p.1) = more.map (fun q => some q.1) → (∀ p ∈ kds, vK p.1) → DpA K C P (more.map (·.2)) (kds.map (·.2)) →
    HoD K C P (.dK acc) (.dct false acd) → HoD K C P (.dK (mergeK acc more)) (.dct false (mergeD acd kds))
  | [], [], _, _, _, _, _, h => h
  | [], _ :: _, _, _, h, _, _, _ => by cases h
  | _ :: _, [], _, _, h, _, _, _ => by cases h
  | (k, v) :: more, (d, e) :: kds, acc, acd, h1, h2, h3, h4 => by
    rw [List.map_cons, List.map_cons] at h1
    injection h1 with e1 e2
    cases h3 with
    | cons z t =>
      have h5 : HoD K C P (.dK (putK acc k v)) (.dct false (putD acd d e)) := by
       cases h4 with
       | dK b1 b2 b3 =>
        obtain ⟨a1, a2⟩ := put_rel (F := keyD) (fun x y k l => kEq_key) e1 z b1 b3
        refine .dK a1 (fun p hp => ?_) a2
        rcases put_mem hp with ⟨q, q1, q2⟩ | e
        · rw [← q2]; exact b2 q q1
        · rw [e]; exact h2 (d, _) List.mem_cons_self
      exact merge_rel (more := more) (kds := kds) (acc := putK acc k v) (acd := putD acd d e) e2 (fun p hp => h2 p (List.mem_cons_of_mem _ hp)) t h5
theorem q_disp {k v : Expr} {ks : List (Option Expr)} {vs : List Expr} {f : PV} {pos : Pos} (h : QD X rw (some k :: ks) (v :: vs) f) (hall : (some k :: ks).all (·.isSome) = true := by rfl) (h15 : (some k :: ks).length ≤ 15 := by decide) : QE X rw (.Dict (some k :: ks) (v :: vs) pos) (eDisp f) := by
  obtain ⟨trs, h1, h2⟩ := h.ex pos
  refine qe_of (pe_disp h1 hall h.len (by simp) h15) fun w σ δ Qd Q R hf kk p hp => ?_
  have hpn := notc R.ok hp
  have g0 : Gr (gx X) rw w ⟨w.C, w.M, w.P, upd w.H p (.dK [])⟩ := (Gr.loose R.ok hp).weak
  refine h2 ⟨w.C, w.M, w.P, upd w.H p (.dK [])⟩ σ δ _ _ (R.mono g0) hf fun kvs ps w1 q g1 a1 a2 => ?_
  obtain ⟨q1, q2⟩ := okQ_e q
  obtain ⟨q0, q2⟩ := okQ_e q2
  obtain ⟨us, e1, e2, e3, e4⟩ := keys_rel a1 a2 q1
  have hp1 : w1.H p = some (.dK []) := g1.hh p _ upd_same hpn
  have hP1 : w1.P p = none := g1.off p (.dK []) upd_same (fun _ e => by cases e) (R.ok.ex.free hp)
  have hc1 : p ∉ w1.C := g1.noc (by rw [show (⟨w.C, w.M, w.P, upd w.H p (.dK [])⟩ : Wd).H p = some (.dK []) from upd_same]; exact Option.some_ne_none _) hpn
  have lus : us.length ≤ 15 := by
    have h1 := congrArg List.length e2
    rw [List.length_map, List.length_map] at h1
    rw [← h1]
    exact Nat.le_of_ble_eq_true q0
  have z := merge_rel (acc := []) (acd := []) e2 e4 (by rw [e3]; exact a2) (.dK rfl (fun _ h => by cases h) .nil)
  have g2 := (g0.trans g1).touch (o := .dK (mergeK [] us)) hp hP1 hc1 (fun x e => by rw [hp1] at e; cases e)
  exact ⟨hp1, us, e1, lus, kk _ _ ⟨w1.C, w1.M, w1.P, _⟩ q2 g2 ⟨p, rfl, hP1, hp, hc1, _, upd_same, z⟩⟩
end
end HI

namespace HI
open PySem PySem.Spec PyProof.Rows L2
/-! ### o.setdefault(k, []), o a dict cell whose keys are tuples and whose values are list cells -/
section
variable {X : Cx} {pins : List (Addr × Obj)} {σ : L2.St} {H : Hp} {s : Shared} {a b : Addr} {kvs : List (List Key × V)} {ks : List Key} {d : V} {r : Value}
theorem setd_T {Q : Value → Shared → Prop} {E : Value → Shared → Prop} (hu : X.A.units + 1 < cLine) (I : L2.Inv X pins σ H s) (e : H a = some (.dT kvs)) (eb : H b = some (.tup (ks.map kV))) (rd : RelV d r) (lt : kvs.length < sizeLine)
    (h1 : ∀ v, valV kvs ks = some v → ∀ w' s', L2.Inv X pins σ H s' → RelV v w' → Q w' s') (h2 : valV kvs ks = none → ∀ w' s', L2.Inv X pins σ (upd H a (.dT (putK kvs ks d))) s' → RelV d w' → Q w' s') :
    wpAny (model X.prog X.w) X.A (call (.builtin "dict.setdefault") [.ref a, .ref b, r]) Q E s := by
  obtain ⟨_, nm, xs, pr, dd⟩ := dt_of I.hok e
  have lx : xs.length ≤ sizeLine := by rw [← Paired.length pr]; exact Nat.le_of_lt lt
  have rv := pr.val ks
  refine call_setdefault_heap (hsz := lx) (tupleKind_room_in1 hu) (key_of I.hok eb) nm dd (fun p hp => ?_) fun hn h' dd2 sb => ?_
  · rw [hp] at rv
    cases e0 : valV kvs ks with
    | none => rw [e0] at rv; exact rv.elim
    | some v => rw [e0] at rv; exact h1 v e0 _ _ (I.tok _) rv
  · rw [hn] at rv
    cases e0 : valV kvs ks with
    | some v => rw [e0] at rv; exact rv.elim
    | none =>
      refine h2 e0 _ _ ?_ rd
      obtain ⟨ob, es, ep, o1, o2, o3, o4, _, o5⟩ := dd2
      have key : ∀ (c : Addr) (ys : List V), H c = some (.tup ys) → upd H a (.dT (putK kvs ks d)) c = some (.tup ys) := fun c ys ec => by
        have ne : c ≠ a := fun z => by subst z; rw [e] at ec; cases ec
        rw [upd_ne ne, ec]
      exact d_write I (by rw [e]; trivial) sb ⟨ob, o1⟩ ⟨Nat.le_trans (length_putK kvs ks d) lt, nm, _, (pr.put ks eb rd).keeps key, ob, es, ep, o1, o2, o3, o4, o5⟩
end
def tSetdT (td ty tx : TE) : TE := fun σ H Q => td σ H fun x H1 => ∃ a, x = .ref a ∧ IsD H1 a ∧ ty σ H1 fun y H2 => tx σ H2 fun z H3 => ∃ (kvs : List (List Key × V)) (ks : List Key) (b : Addr), H3 a = some (.dT kvs) ∧ y = .ref b ∧ H3 b = some (.tup (ks.map kV)) ∧ kvs.length < sizeLine ∧
  (∀ v, valV kvs ks = some v → Q v H3) ∧ (valV kvs ks = none → Q z (upd H3 a (.dT (putK kvs ks z))))
section
variable {X : Cx} {o e f : Expr} {td ty tx : TE} {apos cpos pos : Pos} {fo fk : EV} {k : Nat}
theorem pe_setdT (hu : X.A.units + 1 < cLine) (ho : PE X o td) (he : PE X e ty) (hf : PE X f tx) (m : M2 X o "setdefault" apos e f cpos) : PE X (.Call (.Attribute o "setdefault" apos) [e, f] [] cpos) (tSetdT td ty tx) := ⟨fun pins s σ H Q I h => by
  refine wpAny_Call_method m.base m.few m.line PySem.F.plainAttrs_dict PySem.F.slot_dict_setdefault PySem.F.type_dict_setdefault (thn (ho.run pins s σ H _ I h) fun u sa ⟨x, Ha, Ia, rx, a, ex, hd, qa⟩ => ?_)
  subst ex
  have eu : u = Value.ref a := rx
  subst eu
  obtain ⟨t1, t2, _⟩ := isD_at Ia hd
  refine ⟨t1, t2, ?_⟩
  rw [m.trees]
  refine Calls.callWith_builtin rfl (Calls.evalArgs_plain (Calls.spliced_cons (thn (he.run pins sa σ Ha _ Ia qa) fun iv sb ⟨y, Hb, Ib, ry, qb⟩ => Calls.spliced_cons (thn (hf.run pins sb σ Hb _ Ib qb) fun fv sc ⟨z, Hc, Ic, rz, kvs, ks, b, ea, ey, eb, lt, q1, q2⟩ => Calls.spliced_nil ?_))))
  subst ey
  have ei : iv = Value.ref b := ry
  subst ei
  exact setd_T hu Ic ea eb rz lt (fun v hv w' s4 I4 rw' => ⟨v, _, I4, rw', q1 v hv⟩) fun hn w' s4 I4 rw' => ⟨z, _, I4, rw', q2 hn⟩⟩
def sdQ (M : Mem) (n : Nat) (kvs : List (D × D)) (i : D) (Q : Rz → Mem → Prop) : Prop := match look kvs i with
  | some v => Q (.val v) M
  | none => Q (.val (.cell M.length)) (List.set (M ++ [D.lst []]) n (.dct true (putD kvs i (.cell M.length))))
def eSd (fo fk : EV) : EV := fun δ M Q => fo δ M fun o M1 => cellQ o.d fun n => someQ M1[n]? fun c0 => dctQ c0 fun t0 _ => okQ t0 (fk δ M1 fun i M2 => someQ M2[n]? fun c => dctQ c fun t kvs => okQ t (okQ (isKey true i.d) (szOk (kvs.length + 1) (sdQ M2 n kvs i.d Q))))
theorem look_T {K : PySem.W.Frag} {C : List Addr} {P : Hp} {kds : List (D × D)} {kvs : List (List Key × V)} {d : D} {ks : List Key} (hk : kds.map (fun p => tkD p.1) = kvs.map (fun q => some q.1)) (hz : DpA K C P (kvs.map (·.2)) (kds.map (·.2))) (ed : tkD d = some ks) :
    (valV kvs ks = none ∧ look kds d = none) ∨ ∃ v e, valV kvs ks = some v ∧ look kds d = some e ∧ Dp K C P v e := by
  have := look_rel (F := tkD) (fun x y k l => kEq_tk) ed hk hz
  exact this
theorem q_sd (hr : Room k X.A) (ho : QE X true o fo) (he : QE X true e fk) {lpos : Pos} (m : M2 X o "setdefault" apos e (.List [] lpos) cpos := by exact ⟨rfl, rfl, rfl, rfl⟩) : QE X true (.Call (.Attribute o "setdefault" apos) [e, .List [] lpos] [] cpos) (eSd fo fk) :=
  qe_of (pe_setdT (by have := hr.un; omega) ho.pe he.pe (pe_lst pa_nil) m) fun w σ δ Qd Q R h kk => by
    refine lift_d R (fun o M1 => cellQ o fun n => someQ M1[n]? fun c0 => dctQ c0 fun t0 _ => okQ t0 (fk δ M1 fun i M2 => someQ M2[n]? fun c => dctQ c fun t kvs => okQ t (okQ (isKey true i.d) (szOk (kvs.length + 1) (sdQ M2 n kvs i.d Qd))))) h fun d v w1 q1 g1 z1 => ?_
    obtain ⟨n, rfl, q1⟩ := cellQ_e q1
    obtain ⟨c0, e0, q1⟩ := someQ_e q1
    obtain ⟨t0, kv0, rfl, q1⟩ := dctQ_e q1
    obtain ⟨et0, q1⟩ := okQ_e q1
    obtain ⟨a, rfl, ha⟩ := z1.cell'
    obtain ⟨_, ho0, h0, hz0⟩ := g1.ok.cell n a _ ha e0
    have isd : IsD w1.H a := by
      cases hz0 with
      | dK _ _ _ => exact .inl ⟨_, .inl h0⟩
      | dT _ _ _ => exact .inr ⟨_, .inl h0⟩
    refine ⟨a, rfl, isd, ?_⟩
    refine lift_d (R.mono g1) (fun i M2 => someQ M2[n]? fun c => dctQ c fun t kvs => okQ t (okQ (isKey true i) (szOk (kvs.length + 1) (sdQ M2 n kvs i Qd)))) q1 fun di y w2 q2 g2 z2 => ?_
    obtain ⟨c, e1, q2⟩ := someQ_e q2
    obtain ⟨t, kvs, rfl, q2⟩ := dctQ_e q2
    obtain ⟨et, q2⟩ := okQ_e q2
    subst et
    obtain ⟨hk, q2⟩ := okQ_e q2
    have sz := szOk_n q2
    have q2 := (szOk_e q2).2
    have ha2 := g2.cc.at ha
    obtain ⟨_, ho2, h2, hz2⟩ := g2.ok.cell n a _ ha2 e1
    have g12 := g1.trans g2
    show tLst tNil σ w2.H _
    refine ⟨Nat.zero_le _, fun p hp => ?_⟩
    -- the new list stands loose
    have gl : Gr (gx X) true w2 ⟨w2.C, w2.M, w2.P, upd w2.H p (.lst [])⟩ := (Gr.loose g2.ok hp).weak
    have npa : a ≠ p := fun z => by subst z; rw [h2] at hp; cases hp
    cases hz2 with
    | @dT kv _ hks hvs hzz =>
      obtain ⟨ks, ek⟩ := tkD_some hk
      cases di with
      | tup xs =>
        obtain ⟨b, vs, rfl, hb, zb⟩ := z2.tup'
        have ev := keysD_V zb ek
        subst ev
        have hbH := g2.ok.ex.tup hb
        have npb : b ≠ p := fun z => by subst z; rw [hbH] at hp; cases hp
        have hl : kv.length = kvs.length := by have := congrArg List.length hks; rw [List.length_map, List.length_map] at this; exact this.symm
        refine ⟨kv, ks, b, by rw [upd_ne npa]; exact h2, rfl, by rw [upd_ne npb]; exact hbH, by rw [hl]; exact Nat.lt_of_lt_of_le sz (by decide), fun v hv => ?_, fun hn => ?_⟩
        · rcases look_T (d := .tup xs) hks hzz ek with ⟨l1, _⟩ | ⟨v', e', l1, l2, l3⟩
          · rw [hv] at l1; cases l1
          · rw [hv] at l1
            cases l1
            unfold sdQ at q2
            rw [l2] at q2
            exact kk _ _ ⟨w2.C, w2.M, w2.P, _⟩ q2 (g12.trans gl) l3
        · rcases look_T (d := .tup xs) hks hzz ek with ⟨_, l2⟩ | ⟨v', e', l1, l2, l3⟩
          · unfold sdQ at q2
            rw [l2] at q2
            have gc := gl.cellify (d := .lst []) (g2.ok.ex.free hp) hp (show p ∉ w2.C from notc g2.ok hp) ⟨_, upd_same, HoD.lst .nil⟩
            have zc : Dp X.K (w2.C ++ [p]) w2.P (.ref p) (.cell w2.M.length) := .cell (by rw [← g2.ok.len, List.getElem?_append_right (Nat.le_refl _), Nat.sub_self]; rfl)
            have ha3 : (w2.C ++ [p])[n]? = some a := Pre.at ⟨[p], rfl⟩ ha2
            obtain ⟨a1, a2⟩ := put_rel (F := tkD) (fun x y k l => kEq_tk) ek zc hks (hzz.mono (Pre.trans (Pre.refl _) ⟨[p], rfl⟩) (Same.refl _))
            have gp := Gr.setCell (w := ⟨w2.C ++ [p], w2.M ++ [.lst []], w2.P, upd w2.H p (.lst [])⟩) (o' := .dT (putK kv ks (.ref p))) (d' := .dct true (putD kvs (.tup xs) (.cell w2.M.length))) gc.ok ha3 (cell_nown gc.ok ha3) ⟨_, upd_same, HoD.dT a1 (fun q hq => by
              rcases put_mem hq with ⟨r, r1, r2⟩ | e
              · rw [← r2]; exact hvs r r1
              · rw [e]; exact z2.vK) a2⟩
            exact kk (.val (.cell w2.M.length)) _ ⟨w2.C ++ [p], List.set (w2.M ++ [D.lst []]) n (.dct true (putD kvs (.tup xs) (.cell w2.M.length))), w2.P, upd (upd w2.H p (.lst [])) a (.dT (putK kv ks (.ref p)))⟩ q2 ((g12.trans gc).trans gp) zc
          · rw [hn] at l1; cases l1
      | _ => cases ek
end
end HI

namespace HI
open PySem PySem.Spec PyProof.Rows L2
/-! ### the operators that a class defines -/
section
variable {X : Cx} {pins : List (Addr × Obj)} {σ : L2.St} {H : Hp} {s : Shared}
/-- a method runs within a built-in -/
theorem own_run {A1 : Around} {f : Addr} {fd : FuncData} {ps : List Str} {sp : Sp} {n : Nat} {vs : List V} {us : List Value} {Q : VK} (F : FnOk X.prog X.w X.K X.mg X.base CX0 n f fd ps sp) (b : Binds X.K fd ps []) (sb : Sub X n A1)
    (I : L2.Inv X pins σ H s) (r : Vals vs us) (h : sp vs H Q E0) : wpAny (model X.prog X.w) A1 (call (.ref f) us) (fun u s' => ∃ v H', L2.Inv X pins σ H' s' ∧ RelV v u ∧ Q v H') X.xe s := by
  have e := I.env0
  have e0 : Env0 X.prog X.w X.K X.mg X.base A1 X.stack s H := ⟨by rw [sb.fr]; exact e.frames, e.mod, e.bs, e.bsz, e.funs, e.frf, e.hok, e.bare⟩
  have hl := F.len _ _ _ _ h
  have bd := b s us I.kIn (by rw [List.append_nil, ← r.length]; exact hl)
  rw [List.append_nil] at bd
  refine wpAny_call (codeAny_mono (F.run A1 X.stack s H ⟨us, []⟩ us vs Q E0 sb.room e0 bd r h) fun r s' hq => ?_)
  cases r with
  | error e => exact (show False from hq).elim
  | ok fl =>
    cases fl with
    | ret u => exact I.after hq
    | next => exact False.elim hq
    | brk => exact False.elim hq
    | cont => exact False.elim hq
theorem own_at {a C dx : Addr} {fs : List (Str × V)} (I : L2.Inv X pins σ H s) (h : H a = some (.ins C dx fs)) : ∃ od, PySem.W.InstAt s.heap a (PySem.W.instObj C dx) C od := by
  obtain ⟨_, J, _⟩ := ins_get I.hok h
  obtain ⟨od, J, _⟩ := J.look
  exact ⟨some od, J⟩
end
abbrev InsAt (H : Hp) (C a : Addr) : Prop := ∃ dx fs, H a = some (.ins C dx fs)
section
variable {X : Cx} {C f : Addr} {fd : FuncData} {ps : List Str} {sp : Sp} {n : Nat}
theorem call_lenO (m : Meth X.K C "__len__" f) (F : FnOk X.prog X.w X.K X.mg X.base CX0 n f fd ps sp) (b : Binds X.K fd ps []) (hr : Room (n + 1) X.A) :
    CallR X (.builtin "len") (fun xs H Q => ∃ a, xs = [.ref a] ∧ InsAt H C a ∧ sp [.ref a] H (fun v H2 => ∃ k : Int, v = .int k ∧ (0 ≤ k ∧ k < 2 ^ 63) ∧ Q (.int k) H2) E0) := by
  intro pins s σ H xs us Q I r h
  obtain ⟨a, rfl, ⟨dx, fs, ha⟩, h⟩ := h
  obtain ⟨u, rfl, ru⟩ := r.one
  have e : u = .ref a := ru
  subst e
  obtain ⟨od, J⟩ := own_at I ha
  obtain ⟨mm, hF⟩ := I.fr
  refine PySem.W.len_K hF I.ok.mod.kin J m.at_ m.fn (wpAny_mono (own_run F b (⟨hr.in1, rfl⟩ : Sub X n X.A.in1) I (.cons (a := V.ref a) (b := Value.ref a) rfl .nil) h) (fun v s' hv => ?_) fun _ _ z => z)
  obtain ⟨x, H', I', rx, k, rfl, hk, q⟩ := hv
  obtain ⟨t, rfl⟩ := (show ∃ t, v = Value.int k t from rx)
  exact ⟨hk, .int k, H', I'.tok _, ⟨_, rfl⟩, q⟩
theorem call_reprO (m : Meth X.K C "__repr__" f) (F : FnOk X.prog X.w X.K X.mg X.base CX0 n f fd ps sp) (b : Binds X.K fd ps []) (hr : Room (n + 1) X.A) :
    CallR X (.builtin "repr") (fun xs H Q => ∃ a, xs = [.ref a] ∧ InsAt H C a ∧ sp [.ref a] H (fun v H2 => ∃ k : Str, v = .str k ∧ Q (.str k) H2) E0) := by
  intro pins s σ H xs us Q I r h
  obtain ⟨a, rfl, ⟨dx, fs, ha⟩, h⟩ := h
  obtain ⟨u, rfl, ru⟩ := r.one
  have e : u = .ref a := ru
  subst e
  obtain ⟨od, J⟩ := own_at I ha
  obtain ⟨mm, hF⟩ := I.fr
  refine PySem.W.repr_K (by have := hr.in1.un; omega) hF I.ok.mod.kin J m.at_ m.fn (wpAny_mono (own_run F b (⟨hr.in1, rfl⟩ : Sub X n X.A.in1) I (.cons (a := V.ref a) (b := Value.ref a) rfl .nil) h) (fun v s' hv => ?_) fun _ _ z => z)
  obtain ⟨x, H', I', rx, k, rfl, q⟩ := hv
  obtain ⟨t, rfl⟩ := (show ∃ t, v = Value.str k t from rx)
  exact ⟨.str k, H', I', ⟨_, rfl⟩, q⟩
/-- a == b of two instances of the class -/
theorem op_eqO (m : Meth X.K C "__eq__" f) (hn : PySem.W.notFirst X.K C (.ref C) = true) (F : FnOk X.prog X.w X.K X.mg X.base CX0 n f fd ps sp) (b : Binds X.K fd ps []) (hr : Room (n + 1) X.A) :
    OpR X (compareOp .Eq) (fun x y H Q => ∃ a c, x = .ref a ∧ y = .ref c ∧ InsAt H C a ∧ InsAt H C c ∧ sp [.ref a, .ref c] H (fun v H2 => ∃ k : Bool, v = .bl k ∧ Q (.bl k) H2) E0) := by
  intro pins s σ H x y u v Q I rx ry h
  obtain ⟨a, c, rfl, rfl, ⟨dx, fs, ha⟩, ⟨dx2, fs2, hc⟩, h⟩ := h
  have e1 : u = .ref a := rx
  have e2 : v = .ref c := ry
  subst e1 e2
  obtain ⟨od, J⟩ := own_at I ha
  obtain ⟨od2, J2⟩ := own_at I hc
  obtain ⟨mm, hF⟩ := I.fr
  refine PySem.W.cmp_ofEq ?_
  refine PySem.W.cmp_K (op := .Eq) (by have := hr.un; omega) hF I.ok.mod.kin J J2.type hn m.at_ m.fn ?_
  refine wpAny_mono (own_run F b (⟨hr.mono (by omega), rfl⟩ : Sub X n X.A) I (.cons (a := V.ref a) (b := Value.ref a) rfl (.cons (a := V.ref c) (b := Value.ref c) rfl .nil)) h) (fun w s' hv => ?_) fun _ _ z => z
  obtain ⟨x, H', I', rx, k, rfl, q⟩ := hv
  have e : w = .bool k := rx
  subst e
  exact ⟨.bl k, H', I', rfl, q⟩
/-- a method's value is a bool: its truth -/
theorem truth_back {Q : Bool → L2.St → Hp → Prop} {pins : List (Addr × Obj)} {σ : L2.St} {v : V} {H' : Hp} {u : Value} {s' : Shared} {A1 : Around} {E : Value → Shared → Prop} {R : Bool → Shared → Prop} (rx : RelV v u) {k : Bool} (e : v = .bl k) (q : R k s') : wpAny (model X.prog X.w) A1 (truthy u) R E s' := by
  subst e
  have e : u = .bool k := rx
  subst e
  unfold truthy
  exact wpAny_pure q
theorem op_inO (m : Meth X.K C "__contains__" f) (F : FnOk X.prog X.w X.K X.mg X.base CX0 n f fd ps sp) (b : Binds X.K fd ps []) (hr : Room (n + 1) X.A) :
    OpR X (compareOp .In) (fun x y H Q => ∃ a, y = .ref a ∧ InsAt H C a ∧ sp [.ref a, x] H (fun v H2 => ∃ k : Bool, v = .bl k ∧ Q (.bl k) H2) E0) := by
  intro pins s σ H x y u v Q I rx ry h
  obtain ⟨a, rfl, ⟨dx, fs, ha⟩, h⟩ := h
  have e1 : v = .ref a := ry
  subst e1
  obtain ⟨od, J⟩ := own_at I ha
  obtain ⟨mm, hF⟩ := I.fr
  refine PySem.W.in_K hF I.ok.mod.kin J m.at_ m.fn ?_
  refine wpAny_mono (own_run F b (⟨hr.mono (by omega), rfl⟩ : Sub X n X.A) I (.cons (a := V.ref a) (b := Value.ref a) rfl (.cons rx .nil)) h) (fun w s' hv => ?_) fun _ _ z => z
  obtain ⟨x, H', I', rx, k, e, q⟩ := hv
  exact truth_back (Q := fun _ _ _ => True) (σ := σ) (pins := pins) (H' := H') rx e ⟨.bl k, H', I', rfl, q⟩
theorem op_notInO (m : Meth X.K C "__contains__" f) (F : FnOk X.prog X.w X.K X.mg X.base CX0 n f fd ps sp) (b : Binds X.K fd ps []) (hr : Room (n + 1) X.A) :
    OpR X (compareOp .NotIn) (fun x y H Q => ∃ a, y = .ref a ∧ InsAt H C a ∧ sp [.ref a, x] H (fun v H2 => ∃ k : Bool, v = .bl k ∧ Q (.bl (!k)) H2) E0) := by
  intro pins s σ H x y u v Q I rx ry h
  obtain ⟨a, rfl, ⟨dx, fs, ha⟩, h⟩ := h
  have e1 : v = .ref a := ry
  subst e1
  obtain ⟨od, J⟩ := own_at I ha
  obtain ⟨mm, hF⟩ := I.fr
  refine PySem.W.notIn_K hF I.ok.mod.kin J m.at_ m.fn ?_
  refine wpAny_mono (own_run F b (⟨hr.mono (by omega), rfl⟩ : Sub X n X.A) I (.cons (a := V.ref a) (b := Value.ref a) rfl (.cons rx .nil)) h) (fun w s' hv => ?_) fun _ _ z => z
  obtain ⟨x, H', I', rx, k, e, q⟩ := hv
  exact truth_back (Q := fun _ _ _ => True) (σ := σ) (pins := pins) (H' := H') rx e ⟨.bl (!k), H', I', rfl, q⟩
/-- a & b of two instances -/
theorem op_andO (m : Meth X.K C "__and__" f) (hn : PySem.W.selfFirst X.K C = true) (F : FnOk X.prog X.w X.K X.mg X.base CX0 n f fd ps sp) (b : Binds X.K fd ps []) (hr : Room (n + 1) X.A) :
    OpR X (binaryOp .BitAnd) (fun x y H Q => ∃ a c, x = .ref a ∧ y = .ref c ∧ InsAt H C a ∧ InsAt H C c ∧ sp [.ref a, .ref c] H Q E0) := by
  intro pins s σ H x y u v Q I rx ry h
  obtain ⟨a, c, rfl, rfl, ⟨dx, fs, ha⟩, ⟨dx2, fs2, hc⟩, h⟩ := h
  have e1 : u = .ref a := rx
  have e2 : v = .ref c := ry
  subst e1 e2
  obtain ⟨od, J⟩ := own_at I ha
  obtain ⟨od2, J2⟩ := own_at I hc
  obtain ⟨mm, hF⟩ := I.fr
  refine PySem.W.binop_K (op := .BitAnd) hF I.ok.mod.kin J J2.type hn m.at_ m.fn ?_
  refine wpAny_mono (own_run F b (⟨hr.mono (by omega), rfl⟩ : Sub X n X.A) I (.cons (a := V.ref a) (b := Value.ref a) rfl (.cons (a := V.ref c) (b := Value.ref c) rfl .nil)) h) (fun w s' hv => ?_) fun _ _ z => z
  obtain ⟨x, H', I', rx, q⟩ := hv
  have ne : w ≠ .notImplemented := fun e => by
    subst e
    cases x <;> first | (obtain ⟨t, e⟩ := rx; cases e) | cases rx
  cases w <;> first | exact absurd rfl ne | exact ⟨x, H', I', rx, q⟩
theorem meets_boolO {x : Value} : MeetsIn X.prog X.w (Builtin.«bool.__new__» ⟨[.type "bool", x], []⟩) (fun A R s => wpAny (model X.prog X.w) A.in1 (truthy x) (fun k s' => R (.ok (.ret (.bool k))) s') (fun e s' => R (.error e) s') s) := by
  intro A R s hs
  obtain ⟨hp, g, d, tk, os⟩ := s
  have f1 := PySem.F.conv_sub_bool
  unfold Builtin.«bool.__new__»
  repeat (any_goals (first | assumption | wp_step))
  exact wpAny_mono (show wpAny (model X.prog X.w) A.in1 (truthy x) _ _ _ from hs) (fun k s' q => wpAny_pure q) fun _ _ z => z
theorem call_boolO (m : Meth X.K C "__bool__" f) (F : FnOk X.prog X.w X.K X.mg X.base CX0 n f fd ps sp) (b : Binds X.K fd ps []) (hr : Room (n + 2) X.A) :
    CallR X (.type "bool") (fun xs H Q => ∃ a, xs = [.ref a] ∧ InsAt H C a ∧ sp [.ref a] H (fun v H2 => ∃ k : Bool, v = .bl k ∧ Q (.bl k) H2) E0) := by
  intro pins s σ H xs us Q I r h
  obtain ⟨a, rfl, ⟨dx, fs, ha⟩, h⟩ := h
  obtain ⟨u, rfl, ru⟩ := r.one
  have e : u = .ref a := ru
  subst e
  obtain ⟨od, J⟩ := own_at I ha
  obtain ⟨mm, hF⟩ := I.fr
  refine callType_newIn PySem.F.called_bool PySem.F.newNe_bool (PySem.F.typeCall_bool_1 _) (PySem.F.newCall_bool_1 _) (fun obj => PySem.F.args_object_init_2 obj _) PySem.F.entry_bool_new meets_boolO ?_
  refine PySem.W.truthy_K hF I.ok.mod.kin J m.at_ m.fn (wpAny_mono (own_run F b (⟨hr.in1.in1, rfl⟩ : Sub X n X.A.in1.in1) I (.cons (a := V.ref a) (b := Value.ref a) rfl .nil) h) (fun v s' hv => ?_) fun _ _ z => z)
  obtain ⟨x, H', I', rx, k, rfl, q⟩ := hv
  have e : v = .bool k := rx
  subst e
  exact ⟨rfl, .bl k, H', I', rfl, q⟩
end
end HI

namespace HI
open PySem PySem.Spec PyProof.Rows L2
def strQ (d : D) (q : List Nat → Prop) : Prop := match d with
  | .str s => q s
  | _ => False
theorem strQ_e {d : D} {q : List Nat → Prop} (h : strQ d q) : ∃ b, d = .str b ∧ q b := by
  cases d <;> first | exact ⟨_, rfl, h⟩ | exact h.elim
def nnQ (n : Int) (q : Prop) : Prop := match n with
  | .ofNat m => szOk m q
  | .negSucc _ => False
theorem nnQ_e {n : Int} {q : Prop} (h : nnQ n q) : (0 ≤ n ∧ n < 2 ^ 63) ∧ q := by
  cases n with
  | negSucc _ => exact h.elim
  | ofNat m =>
    have h1 := szOk_n h
    refine ⟨⟨Int.natCast_nonneg m, ?_⟩, (szOk_e h).2⟩
    show (m : Int) < 2 ^ 63
    have : (2 : Int) ^ 63 = 9223372036854775808 := by decide
    omega
section
variable {X : Cx} {rw : Bool} {o a b : Expr} {fo fa fb : EV} {pos p : Pos} {k j : Nat} {r : Bool} {c : List Nat} {S : Spec} {ps : List Str}
def eDunLen (c : List Nat) (S : Spec) (fo : EV) : EV := fun δ M Q => fo δ M fun d M1 => objQ (view M1 d.d) c fun _ => S [d.d] M1 fun z M2 => intQ z.d fun n => nnQ n (Q (.val (.int n)) M2)
def eDunRepr (c : List Nat) (S : Spec) (fo : EV) : EV := fun δ M Q => fo δ M fun d M1 => objQ (view M1 d.d) c fun _ => S [d.d] M1 fun z M2 => strQ z.d fun s => Q (.val (.str s)) M2
def eDunBool (c : List Nat) (S : Spec) (fo : EV) : EV := fun δ M Q => fo δ M fun d M1 => objQ (view M1 d.d) c fun _ => S [d.d] M1 fun z M2 => blQ z.d fun s => Q (.val (.bl s)) M2
/-- the method as a promise on the heap -/
theorem dun_sp {w : Wd} {ds : List D} {vs : List V} {Qd : Rz → Mem → Prop} {Q : VK} (hlen : ∀ ds M Q, S ds M Q → ds.length = ps.length) (hw : (!r || rw) = true) (ok : WOk (gx X) w) (z : DpA X.K w.C w.P vs ds) (h : S ds w.M Qd) (k : ∀ d v w', Qd d w'.M → Gr (gx X) rw w w' → RzOk (gx X) w w' d v → Q v w'.H) : SpD (gx X) r ps.length S vs w.H Q E0 :=
  ⟨w, ds, Qd, rfl, ok, z, hlen _ _ _ h, h, fun rz v w' q g zz => k rz v w' q (g.wk (rw_imp hw)) zz⟩
theorem ins_of {w : Wd} {v : V} {d : D} {fs : List (List Nat × D)} {A : Addr} (ok : WOk (gx X) w) (z : Dp X.K w.C w.P v d) (hm : X.mg (tx c) = some (.ref A)) (e : view w.M d = .obj c fs) : ∃ a, v = .ref a ∧ InsAt w.H A a := by
  obtain ⟨m, a, rfl, rfl, _, _, _, A', dx, vs, h1, h2, _⟩ := see_obj ok z e
  have := hm.symm.trans h1
  cases this
  exact ⟨a, rfl, dx, vs, h2⟩
theorem frz_dp {w w' : Wd} {rz : Rz} {v : V} (g : Gr (gx X) rw w w') (z : RzOk (gx X) w w' rz v) : ∃ P2, Gr (gx X) rw w ⟨w'.C, w'.M, P2, w'.H⟩ ∧ Dp X.K w'.C P2 v rz.d := by
  obtain ⟨P2, g2, _, z2⟩ := z.frz g
  exact ⟨P2, g2, z2⟩
theorem q_dunLen (d : Met X.prog X.w X.K X.mg X.base c "__len__" ps j r S) (hr : Room k X.A) (ho : QE X rw o fo) (hm : X.mg "len" = none) (hw : (!r || rw) = true := by rfl) (hj : j + 1 ≤ k := by omega) (hg : Gl X "len" := by rfl) (hs : starEach [o] X.env = [(false, eval o X.env)] := by rfl) : QE X rw (.Call (.Name "len" p) [o] [] pos) (eDunLen c S fo) := by
  obtain ⟨A, f, fd, h1, h2, h3, h4, h5⟩ := d.ex
  refine qe_of (pe_callB (call_lenO h3 h4 h5 (hr.mono hj)) hg hm bt_len (pa_cons ho.pe pa_nil hs) (he := hs)) fun w σ δ Qd Q R h kk => ?_
  refine lift_d R (fun d M1 => objQ (view M1 d) c fun _ => S [d] M1 fun z M2 => intQ z.d fun n => nnQ n (Qd (.val (.int n)) M2)) h fun d0 v w1 q1 g1 z1 => ?_
  obtain ⟨fs, e1, q2⟩ := objQ_e q1
  obtain ⟨a, rfl, ia⟩ := ins_of g1.ok z1 h1 e1
  refine ⟨a, rfl, ia, dun_sp d.len hw g1.ok (.one z1) q2 fun rz v w2 q3 g2 z2 => ?_⟩
  obtain ⟨n, en, q4⟩ := intQ_e q3
  obtain ⟨P2, g3, z3⟩ := frz_dp g2 z2
  rw [en] at z3
  obtain ⟨q5, q6⟩ := nnQ_e q4
  exact ⟨n, z3.int', q5, kk (.val (.int n)) _ w2 q6 (g1.trans g2) (.int n)⟩
theorem q_dunRepr (d : Met X.prog X.w X.K X.mg X.base c "__repr__" ps j r S) (hr : Room k X.A) (ho : QE X rw o fo) (hm : X.mg "repr" = none) (hw : (!r || rw) = true := by rfl) (hj : j + 1 ≤ k := by omega) (hg : Gl X "repr" := by rfl) (hb : bootBuiltins "repr" = some (.builtin "repr") := by decide +kernel) (hs : starEach [o] X.env = [(false, eval o X.env)] := by rfl) : QE X rw (.Call (.Name "repr" p) [o] [] pos) (eDunRepr c S fo) := by
  obtain ⟨A, f, fd, h1, h2, h3, h4, h5⟩ := d.ex
  refine qe_of (pe_callB (call_reprO h3 h4 h5 (hr.mono hj)) hg hm hb (pa_cons ho.pe pa_nil hs) (he := hs)) fun w σ δ Qd Q R h kk => ?_
  refine lift_d R (fun d M1 => objQ (view M1 d) c fun _ => S [d] M1 fun z M2 => strQ z.d fun n => Qd (.val (.str n)) M2) h fun d0 v w1 q1 g1 z1 => ?_
  obtain ⟨fs, e1, q2⟩ := objQ_e q1
  obtain ⟨a, rfl, ia⟩ := ins_of g1.ok z1 h1 e1
  refine ⟨a, rfl, ia, dun_sp d.len hw g1.ok (.one z1) q2 fun rz v w2 q3 g2 z2 => ?_⟩
  obtain ⟨n, en, q4⟩ := strQ_e q3
  obtain ⟨P2, g3, z3⟩ := frz_dp g2 z2
  rw [en] at z3
  obtain ⟨ev, hv⟩ := z3.str'
  exact ⟨tx n, ev, kk (.val (.str n)) _ w2 q4 (g1.trans g2) (.str n hv)⟩
theorem q_dunBool (d : Met X.prog X.w X.K X.mg X.base c "__bool__" ps j r S) (hr : Room k X.A) (ho : QE X rw o fo) (hm : X.mg "bool" = none) (hw : (!r || rw) = true := by rfl) (hj : j + 2 ≤ k := by omega) (hg : Gl X "bool" := by rfl) (hs : starEach [o] X.env = [(false, eval o X.env)] := by rfl) : QE X rw (.Call (.Name "bool" p) [o] [] pos) (eDunBool c S fo) := by
  obtain ⟨A, f, fd, h1, h2, h3, h4, h5⟩ := d.ex
  refine qe_of (pe_callTy (call_boolO h3 h4 h5 (hr.mono hj)) hg hm bt_bool (pa_cons ho.pe pa_nil hs) (he := hs)) fun w σ δ Qd Q R h kk => ?_
  refine lift_d R (fun d M1 => objQ (view M1 d) c fun _ => S [d] M1 fun z M2 => blQ z.d fun n => Qd (.val (.bl n)) M2) h fun d0 v w1 q1 g1 z1 => ?_
  obtain ⟨fs, e1, q2⟩ := objQ_e q1
  obtain ⟨a, rfl, ia⟩ := ins_of g1.ok z1 h1 e1
  refine ⟨a, rfl, ia, dun_sp d.len hw g1.ok (.one z1) q2 fun rz v w2 q3 g2 z2 => ?_⟩
  obtain ⟨n, en, q4⟩ := blQ_e q3
  obtain ⟨P2, g3, z3⟩ := frz_dp g2 z2
  rw [en] at z3
  exact ⟨n, z3.bl', kk (.val (.bl n)) _ w2 q4 (g1.trans g2) (.bl n)⟩
/-- a == b of two objects of a class -/
def eDunEq (c : List Nat) (S : Spec) (fa fb : EV) : EV := fun δ M Q => fa δ M fun x M1 => fb δ M1 fun y M2 => objQ (view M2 x.d) c fun _ => objQ (view M2 y.d) c fun _ => S [x.d, y.d] M2 fun z M3 => blQ z.d fun n => Q (.val (.bl n)) M3
theorem q_dunEq (d : Met X.prog X.w X.K X.mg X.base c "__eq__" ps j r S) (hn : ∀ A, X.mg (tx c) = some (.ref A) → PySem.W.notFirst X.K A (.ref A) = true) (hr : Room k X.A) (ha : QE X rw a fa) (hb : QE X rw b fb) (hw : (!r || rw) = true := by rfl) (hj : j + 1 ≤ k := by omega) (hm : behindInMarks .Eq b = false := by rfl) : QE X rw (.Compare a [.Eq] [b] pos) (eDunEq c S fa fb) := by
  obtain ⟨A, f, fd, h1, h2, h3, h4, h5⟩ := d.ex
  refine qe_of (pe_cmpR (op_eqO h3 (hn A h1) h4 h5 (hr.mono hj)) ha.pe hb.pe hm) fun w σ δ Qd Q R h kk => ?_
  refine lift_d R (fun x M1 => fb δ M1 fun y M2 => objQ (view M2 x) c fun _ => objQ (view M2 y.d) c fun _ => S [x, y.d] M2 fun z M3 => blQ z.d fun n => Qd (.val (.bl n)) M3) h fun dx x w1 q1 g1 z1 => ?_
  refine lift_d (R.mono g1) (fun y M2 => objQ (view M2 dx) c fun _ => objQ (view M2 y) c fun _ => S [dx, y] M2 fun z M3 => blQ z.d fun n => Qd (.val (.bl n)) M3) q1 fun dy y w2 q2 g2 z2 => ?_
  obtain ⟨fs, e1, q2⟩ := objQ_e q2
  obtain ⟨fs2, e2, q2⟩ := objQ_e q2
  have z1 := g2.dp z1
  obtain ⟨a1, rfl, i1⟩ := ins_of g2.ok z1 h1 e1
  obtain ⟨a2, rfl, i2⟩ := ins_of g2.ok z2 h1 e2
  refine ⟨a1, a2, rfl, rfl, i1, i2, dun_sp d.len hw g2.ok (.cons z1 (.one z2)) q2 fun rz v w3 q3 g3 z3 => ?_⟩
  obtain ⟨n, en, q4⟩ := blQ_e q3
  obtain ⟨P2, g4, z4⟩ := frz_dp g3 z3
  rw [en] at z4
  exact ⟨n, z4.bl', kk (.val (.bl n)) _ w3 q4 ((g1.trans g2).trans g3) (.bl n)⟩
/-- a in b, b an object -/
def eDunIn (c : List Nat) (S : Spec) (fa fb : EV) : EV := fun δ M Q => fa δ M fun x M1 => fb δ M1 fun y M2 => objQ (view M2 y.d) c fun _ => S [y.d, x.d] M2 fun z M3 => blQ z.d fun n => Q (.val (.bl n)) M3
theorem q_dunIn (d : Met X.prog X.w X.K X.mg X.base c "__contains__" ps j r S) (hr : Room k X.A) (ha : QE X rw a fa) (hb : QE X rw b fb) (hw : (!r || rw) = true := by rfl) (hj : j + 1 ≤ k := by omega) (hm : behindInMarks .In b = false := by rfl) : QE X rw (.Compare a [.In] [b] pos) (eDunIn c S fa fb) := by
  obtain ⟨A, f, fd, h1, h2, h3, h4, h5⟩ := d.ex
  refine qe_of (pe_cmpR (op_inO h3 h4 h5 (hr.mono hj)) ha.pe hb.pe hm) fun w σ δ Qd Q R h kk => ?_
  refine lift_d R (fun x M1 => fb δ M1 fun y M2 => objQ (view M2 y.d) c fun _ => S [y.d, x] M2 fun z M3 => blQ z.d fun n => Qd (.val (.bl n)) M3) h fun dx x w1 q1 g1 z1 => ?_
  refine lift_d (R.mono g1) (fun y M2 => objQ (view M2 y) c fun _ => S [y, dx] M2 fun z M3 => blQ z.d fun n => Qd (.val (.bl n)) M3) q1 fun dy y w2 q2 g2 z2 => ?_
  obtain ⟨fs2, e2, q2⟩ := objQ_e q2
  obtain ⟨a2, rfl, i2⟩ := ins_of g2.ok z2 h1 e2
  refine ⟨a2, rfl, i2, dun_sp d.len hw g2.ok (.cons z2 (.one (g2.dp z1))) q2 fun rz v w3 q3 g3 z3 => ?_⟩
  obtain ⟨n, en, q4⟩ := blQ_e q3
  obtain ⟨P2, g4, z4⟩ := frz_dp g3 z3
  rw [en] at z4
  exact ⟨n, z4.bl', kk (.val (.bl n)) _ w3 q4 ((g1.trans g2).trans g3) (.bl n)⟩
def eDunBitAnd (c : List Nat) (S : Spec) (fa fb : EV) : EV := fun δ M Q => fa δ M fun x M1 => fb δ M1 fun y M2 => objQ (view M2 x.d) c fun _ => objQ (view M2 y.d) c fun _ => S [x.d, y.d] M2 Q
theorem q_dunBitAnd (d : Met X.prog X.w X.K X.mg X.base c "__and__" ps j r S) (hn : ∀ A, X.mg (tx c) = some (.ref A) → PySem.W.selfFirst X.K A = true) (hr : Room k X.A) (ha : QE X rw a fa) (hb : QE X rw b fb) (hw : (!r || rw) = true := by rfl) (hj : j + 1 ≤ k := by omega) : QE X rw (.BinOp a .BitAnd b pos) (eDunBitAnd c S fa fb) := by
  obtain ⟨A, f, fd, h1, h2, h3, h4, h5⟩ := d.ex
  refine qe_of (pe_op (op_andO h3 (hn A h1) h4 h5 (hr.mono hj)) ha.pe hb.pe) fun w σ δ Qd Q R h kk => ?_
  refine lift_d R (fun x M1 => fb δ M1 fun y M2 => objQ (view M2 x) c fun _ => objQ (view M2 y.d) c fun _ => S [x, y.d] M2 Qd) h fun dx x w1 q1 g1 z1 => ?_
  refine lift_d (R.mono g1) (fun y M2 => objQ (view M2 dx) c fun _ => objQ (view M2 y) c fun _ => S [dx, y] M2 Qd) q1 fun dy y w2 q2 g2 z2 => ?_
  obtain ⟨fs, e1, q2⟩ := objQ_e q2
  obtain ⟨fs2, e2, q2⟩ := objQ_e q2
  have z1 := g2.dp z1
  obtain ⟨a1, rfl, i1⟩ := ins_of g2.ok z1 h1 e1
  obtain ⟨a2, rfl, i2⟩ := ins_of g2.ok z2 h1 e2
  refine ⟨a1, a2, rfl, rfl, i1, i2, dun_sp d.len hw g2.ok (.cons z1 (.one z2)) q2 fun rz v w3 q3 g3 z3 => ?_⟩
  exact kk rz v w3 q3 ((g1.trans g2).trans g3) (z3.back (g1.trans g2))
end
end HI

namespace HI
open PySem PySem.Spec PyProof.Rows L2
/-! ### calls with defaults -/
/-- what defaults stand for: values at any place -/
def DflD (K : PySem.W.Frag) (ds : List D) (vs : List V) : Prop := ∀ C P, DpA K C P vs ds
structure DefF (P : Program) (w : World) (K : PySem.W.Frag) (mg : Str → Option Value) (base : Heap) (g : Str) (ps : List Str) (j : Nat) (r : Bool) (S : Spec) (dvs : List D) : Prop where
  len : ∀ ds M Q, S ds M Q → ds.length = ps.length
  ex : ∃ (f : Addr) (fd : FuncData) (vs : List V) (us : List Value), FnOk P w K mg base CX0 j f fd ps (SpD ⟨K, mg⟩ r ps.length S) ∧ mg g = some (.ref f) ∧ PySem.W.keepIn K (.ref f) = true ∧ Vals vs us ∧ DflD K dvs vs ∧ Binds K fd ps us
structure DefKF (P : Program) (w : World) (K : PySem.W.Frag) (mg : Str → Option Value) (base : Heap) (g : Str) (ps : List Str) (j : Nat) (r : Bool) (S : Spec) (n : Nat) (ks : List Str) (is : List Nat) (dvs : List D) : Prop where
  len : ∀ ds M Q, S ds M Q → ds.length = ps.length
  ex : ∃ (f : Addr) (fd : FuncData) (vs : List V) (us : List Value), FnOk P w K mg base CX0 j f fd ps (SpD ⟨K, mg⟩ r ps.length S) ∧ mg g = some (.ref f) ∧ PySem.W.keepIn K (.ref f) = true ∧ DflD K dvs vs ∧
    KBn K fd ps n ks (fun xs ws => perm is (xs ++ ws ++ us)) (fun xs zs => perm is (xs ++ zs ++ vs))
def eCallF (S : Spec) (dvs : List D) (fr : AV) : EV := fun δ M Q => fr δ M fun ds M1 => S (ds ++ dvs) M1 Q
def eCallKF (n m : Nat) (is : List Nat) (S : Spec) (dvs : List D) (fr fk : AV) : EV := fun δ M Q => fr δ M fun us M1 => fk δ M1 fun ws M2 => lenQ us n (lenQ ws m (S (perm is (us ++ ws ++ dvs)) M2 Q))
section
variable {X : Cx} {rw : Bool} {e : Expr} {es : List Expr} {kws : List Keyword} {fr fk : AV} {pos p : Pos} {x : Str} {ps ks : List Str} {S : Spec} {j k n m : Nat} {r : Bool} {dvs : List D} {is : List Nat}
theorem q_callF (d : DefF X.prog X.w X.K X.mg X.base x ps j r S dvs) (hr : Room k X.A) (ha : QA X rw (e :: es) fr) (hw : (!r || rw) = true := by rfl) (hj : j ≤ k := by omega) (hg : Gl X x := by rfl) (hdb : (x == ("__debug__" : Str)) = false := by decide)
    (he : starEach (e :: es) X.env = (false, eval e X.env) :: starEach es X.env := by rfl) (hpl : (backTo pos (starEach es X.env)).any (·.1) = false := by rfl) : QE X rw (.Call (.Name x p) (e :: es) [] pos) (eCallF S dvs fr) := by
  obtain ⟨f, fd, vs0, us0, F, hm, hk, hv, hd, hb⟩ := d.ex
  refine qe_of (pe_call F (hr.mono hj) hg hm hk hb hv pass0 ha.pa hdb he hpl) fun w σ δ Qd Q R h kk => ?_
  refine ⟨w, δ, _, rfl, R, h, fun ds vs w1 q1 g1 z1 => ?_⟩
  exact ⟨w1, ds ++ dvs, Qd, rfl, g1.ok, z1.append (hd _ _), d.len _ _ _ q1, q1, fun rz v w2 q2 g2 z2 => kk rz v w2 q2 (g1.trans (g2.wk (rw_imp hw))) (z2.back g1)⟩
theorem q_callF0 (d : DefF X.prog X.w X.K X.mg X.base x ps j r S dvs) (hr : Room k X.A) (hw : (!r || rw) = true := by rfl) (hj : j ≤ k := by omega) (hg : Gl X x := by rfl) (hdb : (x == ("__debug__" : Str)) = false := by decide) : QE X rw (.Call (.Name x p) [] [] pos) (eCallF S dvs aNil) := by
  obtain ⟨f, fd, vs0, us0, F, hm, hk, hv, hd, hb⟩ := d.ex
  refine qe_of (pe_call0 F (hr.mono hj) hg hm hk hb hv pass0 hdb) fun w σ δ Qd Q R h kk => ?_
  exact ⟨w, dvs, Qd, rfl, R.ok, hd _ _, d.len _ _ _ h, h, fun rz v w2 q2 g2 z2 => kk rz v w2 q2 (g2.wk (rw_imp hw)) z2⟩
theorem q_callKF (d : DefKF X.prog X.w X.K X.mg X.base x ps j r S n ks is dvs) (hr : Room k X.A) (ha : QA X rw (e :: es) fr) (hkw : QK X rw kws fk) (hw : (!r || rw) = true := by rfl) (hl : ks.length = m := by rfl) (hj : j ≤ k := by omega) (hg : Gl X x := by rfl)
    (hall : (backToKw pos (keywordEach kws X.env)).all (·.1.isSome) = true := by rfl) (hks : (backToKw pos (keywordEach kws X.env)).filterMap (·.1) = ks := by rfl) (hdb : (x == ("__debug__" : Str)) = false := by decide) (he : starEach (e :: es) X.env = (false, eval e X.env) :: starEach es X.env := by rfl)
    (hpl : ((backTo pos (starEach (e :: es) X.env)).any (·.1) || (backToKw pos (keywordEach kws X.env)).any (·.1.isNone)) = false := by rfl) : QE X rw (.Call (.Name x p) (e :: es) kws pos) (eCallKF n m is S dvs fr fk) := by
  subst hl
  obtain ⟨fa, fd, vs0, us0, F, h1, h2, hd, h3⟩ := d.ex
  refine qe_of (pe_callN F (hr.mono hj) hg h1 h2 h3 pass0 ha.pa hkw.pk hall hks hdb he hpl) fun w σ δ Qd Q R h kk => ?_
  refine ⟨w, δ, _, rfl, R, h, fun us vs w1 q1 g1 z1 => ⟨w1, δ, _, rfl, R.mono g1, q1, fun ws zs w2 q g2 z2 => ?_⟩⟩
  obtain ⟨q2, q⟩ := lenQ_e q
  obtain ⟨q3, q4⟩ := lenQ_e q
  refine ⟨by rw [z1.length]; exact q2, by rw [z2.length]; exact q3, ?_⟩
  have g := g1.trans g2
  exact ⟨w2, perm is (us ++ ws ++ dvs), Qd, rfl, g.ok, perm_dp (((g2.dpa z1).append z2).append (hd _ _)) is, d.len _ _ _ q4, q4, fun rz v w3 q5 g3 z3 => kk rz v w3 q5 (g.trans (g3.wk (rw_imp hw))) (z3.back g)⟩
theorem q_callKF0 (d : DefKF X.prog X.w X.K X.mg X.base x ps j r S 0 ks is dvs) (hr : Room k X.A) (hkw : QK X rw kws fk) (hw : (!r || rw) = true := by rfl) (hl : ks.length = m := by rfl) (hj : j ≤ k := by omega) (hg : Gl X x := by rfl)
    (hall : (backToKw pos (keywordEach kws X.env)).all (·.1.isSome) = true := by rfl) (hks : (backToKw pos (keywordEach kws X.env)).filterMap (·.1) = ks := by rfl) (hdb : (x == ("__debug__" : Str)) = false := by decide)
    (hpl : ((backTo pos (starEach [] X.env)).any (·.1) || (backToKw pos (keywordEach kws X.env)).any (·.1.isNone)) = false := by rfl) : QE X rw (.Call (.Name x p) [] kws pos) (eCallKF 0 m is S dvs aNil fk) := by
  subst hl
  obtain ⟨fa, fd, vs0, us0, F, h1, h2, hd, h3⟩ := d.ex
  refine qe_of (pe_callN0 F (hr.mono hj) hg h1 h2 h3 pass0 hkw.pk hall hks hdb hpl) fun w σ δ Qd Q R h kk => ?_
  refine ⟨w, δ, _, rfl, R, h, fun ds vs w1 q g1 z1 => ?_⟩
  obtain ⟨_, q⟩ := lenQ_e q
  obtain ⟨q2, q3⟩ := lenQ_e q
  refine ⟨by rw [z1.length]; exact q2, ?_⟩
  exact ⟨w1, perm is ([] ++ ds ++ dvs), Qd, rfl, g1.ok, perm_dp ((by simpa using z1 : DpA X.K w1.C w1.P ([] ++ vs) ([] ++ ds)).append (hd _ _)) is, d.len _ _ _ q3, q3, fun rz v w2 q4 g2 z2 => kk rz v w2 q4 (g1.trans (g2.wk (rw_imp hw))) (z2.back g1)⟩
end
/-! ### isinstance(x, C), x an object of that class -/
section
variable {X : Cx} {rw : Bool} {e o : Expr} {f fo : EV} {pos p p2 : Pos} {c : List Nat} {x : Str}
/-- what isinstance asks of a class of the text -/
structure IsiC (K : PySem.W.Frag) (A : Addr) : Prop where
  ha : PySem.W.findIn K (.ref A) "__class__" = some (some (.builtin "object.__class__"))
  hn : PySem.W.specialIn K (.builtin "object.__class__") "__get__" = some (some (.builtin "getset_descriptor.__get__"))
  htk : PySem.W.takesIn K (.builtin "object.__class__") = some true
  hm : PySem.W.mroIn K A (.type "object") = some true
  hk : PySem.W.kitOne K (.ref A) (.ref A) = some true
def eIsiC (c : List Nat) (f : EV) : EV := fun δ M Q => f δ M fun r M1 => objQ (view M1 r.d) c fun _ => Q (.val (.bl true)) M1
theorem q_isiC {A : Addr} (T : ClsN X c A) (I : IsiC X.K A) (ha : QE X rw e f) (hm : X.mg "isinstance" = none) (hx : x = tx c := by decide +kernel) (hg : Gl X "isinstance" := by rfl) (hgT : Gl X x := by rfl)
    (hdb : (x == ("__debug__" : Str)) = false := by decide) (hs : starEach [e, .Name x p2] X.env = (false, eval e X.env) :: starEach [.Name x p2] X.env := by rfl) :
    QE X rw (.Call (.Name "isinstance" p) [e, .Name x p2] [] pos) (eIsiC c f) := by
  subst hx
  refine qe_of (pe_callB call_isi hg hm (by decide +kernel) (pa_cons ha.pe (pa_cons (pe_glob (v := .ref A) hgT T.mg rfl hdb) pa_nil) hs) (he := hs)) fun w σ δ Qd Q R h kk => ?_
  refine lift_d R (fun d M1 => objQ (view M1 d) c fun _ => Qd (.val (.bl true)) M1) h fun d v w1 q1 g1 z1 => ?_
  obtain ⟨fs, e1, q2⟩ := objQ_e q1
  obtain ⟨a, rfl, dx, vs, ha⟩ := ins_of g1.ok z1 T.mg e1
  exact ⟨.ref a, .ref A, .ref A, .ref A, true, rfl, .own A, .base (.ins ha T.cl I.ha I.hn I.htk I.hm), I.hk, kk _ _ w1 q2 g1 (.bl true)⟩
/-! ### o.clear() of cells -/
def sCClrD (fo : EV) : SV := fun K δ M => fo δ M fun o M1 => cellQ o.d fun n => someQ M1[n]? fun c => dctQ c fun t _ => K.nx δ (M1.set n (.dct t []))
end
end HI

namespace HI
open PySem PySem.Spec PyProof.Rows L2
/-! ### o.pop(k), o a dict cell (keys ints and texts) -/
def ePop1 (fo fi : EV) : EV := fun δ M Q => fo δ M fun o M1 => cellQ o.d fun n => someQ M1[n]? fun c0 => dctQ c0 fun _ _ => fi δ M1 fun i M2 => someQ M2[n]? fun c => dctQ c fun t kvs => okQ (!t) (okQ (isKey false i.d) (someQ (look kvs i.d) fun v => Q (.val v) (M2.set n (.dct false (dropD kvs i.d)))))
/-! ### dict(list of pairs) -/
def pairsD : List D → Option (List (D × D))
  | [] => some []
  | d :: r => match d with
    | .tup [k, v] => match pairsD r with
      | some kvs => some ((k, v) :: kvs)
      | none => none
    | _ => none
def keysOkT (t : Bool) : List (D × D) → Bool
  | [] => true
  | (k, _) :: r => match isKey t k with
    | true => keysOkT t r
    | false => false
def dictD (t : Bool) : CaD := fun M ds Q => oneQ ds fun d => lstQ (view M d) fun xs => someQ (pairsD xs) fun kvs => okQ (keysOkT t kvs) (Q (.new (.dct t (mergeD [] kvs))))
/-! ### repr of nested data -/
def shownD (p : PyData) : List Nat := p.shown.cps.toList
def reprD : CaD := fun M ds Q => oneQ ds fun d => match view M d with
  | .lst _ | .tup _ => okQ (okF 60 M d) (okQ (pyF 60 M d).showable (okQ (Nat.ble (shownD (pyF 60 M d)).length 1000000) (Q (.val (.str (shownD (pyF 60 M d)))))))
  | _ => False
/-! ### == of dicts whose keys are tuples -/
def dEq (M : Mem) (xs ys : List (D × D)) : Bool := Nat.beq xs.length ys.length && go xs
where go : List (D × D) → Bool
  | [] => true
  | (k, v) :: r => (match look ys k with
    | some v' => eqF 58 M v v'
    | none => false) && go r
def okVals (M : Mem) : List (D × D) → Bool
  | [] => true
  | (_, v) :: r => match okF 58 M v with
    | true => okVals M r
    | false => false
def ddQ (M : Mem) (x y : D) (q : Bool → Prop) : Prop := dctQ (view M x) fun t xs => dctQ (view M y) fun u ys => okQ t (okQ u (okQ (okVals M xs) (okQ (okVals M ys) (q (dEq M xs ys)))))
def eqDD : OpD := fun M x y Q => ddQ M x y fun b => Q (.val (.bl b))
def neDD : OpD := fun M x y Q => ddQ M x y fun b => Q (.val (.bl (!b)))
/-! ### o.m(.., k = v) -/
def eMethK (c m : List Nat) (n k : Nat) (is : List Nat) (S : Spec) (fo : EV) (fr fk : AV) : EV := fun δ M Q => fo δ M fun d M1 => objQ (view M1 d.d) c fun fs => noneQ (lookF fs m) (fr δ M1 fun us M2 => fk δ M2 fun ws M3 => lenQ us n (lenQ ws k (S (d.d :: perm is (us ++ ws)) M3 Q)))
/-! ### f-strings -/
abbrev JV := DEnv → Mem → List Nat → (List Nat → Mem → Prop) → Prop
def fmtD (d : D) (q : List Nat → Prop) : Prop := match d with
  | .str y => szOk y.length (q y)
  | .int i => numQ i q
  | _ => False
def eFm (f : EV) : EV := fun δ M Q => f δ M fun r M1 => fmtD r.d fun y => Q (.val (.str y)) M1
def jNil : JV := fun _ M acc Q => Q acc M
def jCons (f : EV) (r : JV) : JV := fun δ M acc Q => f δ M fun x M1 => strQ x.d fun y => szOk (acc ++ y).length (r δ M1 (acc ++ y) Q)
def eJs (j : JV) : EV := fun δ M Q => j δ M [] fun out M1 => Q (.val (.str out)) M1
/-! ### a value as a test, where cells may change -/
def tEW (f : EV) : TV := fun δ M Q => f δ M fun r M1 => someQ (tru M1 r.d) fun k => Q k M1
end HI

namespace HI
open PySem PySem.Spec PyProof.Rows L2
/-! ### o.m(k = v), no arguments by place -/
section
variable {X : Cx} {rw : Bool} {o : Expr} {ta : TE} {tk : TA} {C f : Addr} {m : Str} {fd : FuncData} {ps ks : List Str} {sp : Sp} {E : XK} {CX : CXT} {k n : Nat} {apos pos : Pos} {kws : List Keyword} {g : List Value → List Value → List Value} {gV : List V → List V → List V}
theorem pe_methK0 {pl : Sem Bool} (he : PE X o ta) (c : Cls X.K C) (hm : Meth X.K C m f) (F : FnOk X.prog X.w X.K X.mg X.base CX k f fd ps sp) (hr : Room k X.A) (hb : KBn X.K fd ps 1 ks g gV) (hx : Passes CX X E) (hkw : PK X kws tk)
    (hall : (backToKw pos (keywordEach kws X.env)).all (·.1.isSome) = true := by rfl) (hks : (backToKw pos (keywordEach kws X.env)).filterMap (·.1) = ks := by rfl)
    (hpl : ((backTo pos (starEach [] X.env)).any (·.1) || (backToKw pos (keywordEach kws X.env)).any (·.1.isNone)) = false := by rfl)
    (ht : eval (.Call (.Attribute o m apos) [] kws pos) X.env = (do
      let ov ← eval o X.env
      standAt apos.atName
      let (f, first) ← holding [ov] (getMethod ov m pl)
      callWith pos f first (backTo pos (starEach [] X.env)) (backToKw pos (keywordEach kws X.env))) := by rfl) :
    PE X (.Call (.Attribute o m apos) [] kws pos) (fun σ H Q => ta σ H fun x H1 => ∃ a dx fs, x = .ref a ∧ H1 a = some (.ins C dx fs) ∧ fs.lookup m = none ∧ tk σ H1 fun zs H2 => zs.length = ks.length ∧ sp (gV [.ref a] zs) H2 Q E) := by
  refine ⟨fun pins s σ H Q I h => ?_⟩
  refine PySem.W.methodCall_KW (pl := pl) (thn (he.run pins s σ H _ I h) fun u s1 ⟨x, H1, I1, rx, a, dx, fs, ex, ea, l, q⟩ => ?_) ht
  subst ex
  obtain rfl : u = Value.ref a := rx
  refine getmeth_ok I1 ea c hm l ?_
  refine PySem.W.callWith_KW0 (first := [.ref a]) (h₀ := X.base) I1.ok.mod.kin hm.kp hall ?_ hpl
  refine thn (hkw.run pos pins s1 σ H1 _ I1 q) fun ws s2 ⟨zs, H2, I2, rz, l2, q2⟩ => ⟨I2.kIn, ?_⟩
  rw [hks]
  exact run_fnN (us := [.ref a]) (vs := [.ref a]) F hr hb hx I2 (.cons rfl .nil) rz rfl l2 q2
end
structure MetK (P : Program) (w : World) (K : PySem.W.Frag) (mg : Str → Option Value) (base : Heap) (c : List Nat) (m : Str) (ps : List Str) (j : Nat) (r : Bool) (S : Spec) (ks : List Str) (is : List Nat) : Prop where
  len : ∀ ds M Q, S ds M Q → ds.length = ps.length
  ex : ∃ (A f : Addr) (fd : FuncData), mg (tx c) = some (.ref A) ∧ Cls K A ∧ Meth K A m f ∧ FnOk P w K mg base CX0 j f fd ps (SpD ⟨K, mg⟩ r ps.length S) ∧ KBn K fd ps 1 ks (fun us ws => us ++ perm is ws) (fun vs zs => vs ++ perm is zs)
section
variable {X : Cx} {rw : Bool} {o : Expr} {fo : EV} {fk : AV} {x : Str} {j k n : Nat} {pos : Pos} {kws : List Keyword} {ks : List Str} {is : List Nat}
theorem q_methK0 {c m : List Nat} {S : Spec} {ps : List Str} {r : Bool} {apos : Pos} {pl : Sem Bool} (d : MetK X.prog X.w X.K X.mg X.base c x ps j r S ks is) (hr : Room k X.A) (ho : QE X rw o fo) (hkw : QK X rw kws fk) (hx : x = tx m := by decide +kernel) (hw : (!r || rw) = true := by rfl) (hl : ks.length = n := by rfl) (hj : j ≤ k := by omega)
    (hall : (backToKw pos (keywordEach kws X.env)).all (·.1.isSome) = true := by rfl) (hks : (backToKw pos (keywordEach kws X.env)).filterMap (·.1) = ks := by rfl)
    (hpl : ((backTo pos (starEach [] X.env)).any (·.1) || (backToKw pos (keywordEach kws X.env)).any (·.1.isNone)) = false := by rfl)
    (ht : eval (.Call (.Attribute o x apos) [] kws pos) X.env = (do
      let ov ← eval o X.env
      standAt apos.atName
      let (f, first) ← holding [ov] (getMethod ov x pl)
      callWith pos f first (backTo pos (starEach [] X.env)) (backToKw pos (keywordEach kws X.env))) := by rfl) :
    QE X rw (.Call (.Attribute o x apos) [] kws pos) (eMethK c m 0 n is S fo aNil fk) := by
  subst hl
  obtain ⟨A, f, fd, h1, h2, h3, h4, h5⟩ := d.ex
  refine qe_of (pe_methK0 ho.pe h2 h3 h4 (hr.mono hj) h5 pass0 hkw.pk hall hks hpl ht) fun w σ δ Qd Q R h kk => ?_
  subst hx
  refine lift_d R (fun d M1 => objQ (view M1 d) c fun fs => noneQ (lookF fs m) (aNil δ M1 fun us M2 => fk δ M2 fun ws M3 => lenQ us 0 (lenQ ws ks.length (S (d :: perm is (us ++ ws)) M3 Qd)))) h fun d0 v w1 q1 g1 z1 => ?_
  obtain ⟨fs, e1, q2⟩ := objQ_e q1
  obtain ⟨n, a, rfl, rfl, i0, i1, i2, i3⟩ := see_obj g1.ok z1 e1
  obtain ⟨dx, vs, j1, j2, j3, j4, j5⟩ := i3.at ⟨h1, h2⟩
  obtain ⟨e2, q3⟩ := noneQ_e q2
  have l1 : vs.lookup (tx m) = none := by
    rcases lookF_rel (f := m) j4 j5 with ⟨l1, _⟩ | ⟨u, e', _, l2, _⟩
    · exact l1
    · rw [e2] at l2; cases l2
  refine ⟨a, dx, vs, rfl, j1, l1, ⟨w1, δ, _, rfl, R.mono g1, q3, fun ws zs w2 q4 g2 z2 => ?_⟩⟩
  obtain ⟨_, q5⟩ := lenQ_e q4
  obtain ⟨q6, q7⟩ := lenQ_e q5
  refine ⟨by rw [z2.length]; exact q6, ?_⟩
  have g12 := g1.trans g2
  exact ⟨w2, .cell n :: perm is ws, Qd, rfl, g2.ok, .cons (g2.dp z1) (perm_dp z2 is), d.len _ _ _ q7, q7, fun rz v w3 q8 g3 z3 => kk rz v w3 q8 (g12.trans (g3.wk (rw_imp hw))) (z3.back g12)⟩
end
end HI

namespace HI
open PySem PySem.Spec PyProof.Rows L2
section
variable {X : Cx} {rw : Bool} {e : Expr} {es : List Expr} {f : EV} {pos : Pos}
theorem fmtD_e {d : D} {q : List Nat → Prop} (h : fmtD d q) : (∃ y, d = .str y ∧ y.length ≤ 1000000 ∧ q y) ∨ ∃ n : Nat, d = .int (n : Int) ∧ n.log2 < 1920 ∧ q (TL.numL n) := by
  cases d with
  | str y => exact .inl ⟨y, rfl, szOk_n h, (szOk_e h).2⟩
  | int i =>
    obtain ⟨n, rfl, h1, h2⟩ := numQ_e h
    exact .inr ⟨n, rfl, h1, h2⟩
  | _ => exact h.elim
theorem q_fmt (he : QE X rw e f) : QE X rw (.FormattedValue e (-1) none pos) (eFm f) :=
  qe_of (pe_fmt he.pe) fun w σ δ Qd Q R h k => by
    refine lift_d R (fun d M1 => fmtD d fun y => Qd (.val (.str y)) M1) h fun d v w1 q1 g1 z1 => ?_
    rcases fmtD_e q1 with ⟨y, rfl, h1, q⟩ | ⟨n, rfl, h1, q⟩
    · obtain ⟨rfl, hv⟩ := z1.str'
      exact .inl ⟨tx y, rfl, by rw [tx_len]; exact Nat.le_trans h1 (by decide), k _ _ w1 q g1 (.str _ hv)⟩
    · cases z1.int'
      refine .inr ⟨(n : Int), rfl, by rw [Int.natAbs_natCast]; exact h1, ?_⟩
      have e : (toString (n : Int) : Str) = tx (TL.numL n) := str_num n
      rw [e]
      exact k _ _ w1 q g1 (.str _ (num_vS n))
structure QJ (X : Cx) (rw : Bool) (es : List Expr) (j : JV) : Prop where
  ex : ∃ ts, PJ X es ts ∧ ∀ w σ δ acc (Qd : List Nat → Mem → Prop) (Q : Str → Hp → Prop), Rep (gx X) w σ δ → vS acc → j δ w.M acc Qd → (∀ out w', Qd out w'.M → Gr (gx X) rw w w' → vS out → Q (tx out) w'.H) → tJs ts (tx acc) σ w.H Q
theorem q_jnil : QJ X rw [] jNil := ⟨[], .nil, fun w σ δ acc Qd Q R v h k => k acc w h (.refl R.ok) v⟩
theorem q_jcons {j : JV} (he : QE X rw e f) (hj : QJ X rw es j) : QJ X rw (e :: es) (jCons f j) := by
  obtain ⟨ts, h1, h2⟩ := hj.ex
  refine ⟨_, .cons he.pe h1, fun w σ δ acc Qd Q R hv h k => ?_⟩
  refine lift_d R (fun d M1 => strQ d fun y => szOk (acc ++ y).length (j δ M1 (acc ++ y) Qd)) h fun d v w1 q1 g1 z1 => ?_
  obtain ⟨y, rfl, q⟩ := strQ_e q1
  obtain ⟨rfl, hy⟩ := z1.str'
  have hs := szOk_n q
  have q := (szOk_e q).2
  have hv2 : vS (acc ++ y) := fun c hc => (List.mem_append.mp hc).elim (hv c) (hy c)
  have e2 : tx acc ++ tx y = tx (acc ++ y) := tx_app acc y
  refine ⟨tx y, rfl, ?_, ?_⟩
  · rw [e2, tx_len]; exact Nat.le_trans hs (by decide)
  · rw [e2]
    exact h2 w1 σ δ _ Qd Q (R.mono g1) hv2 q fun out w' q' g' v' => k out w' q' (g1.trans g') v'
theorem q_js {v1 v2 : Expr} {rest : List Expr} {j : JV} (h : QJ X rw (v1 :: v2 :: rest) j) : QE X rw (.JoinedStr (v1 :: v2 :: rest) pos) (eJs j) := by
  obtain ⟨ts, h1, h2⟩ := h.ex
  refine qe_of (pe_joined h1) fun w σ δ Qd Q R h k => ?_
  exact h2 w σ δ [] _ _ R (fun _ h => by cases h) h fun out w' q g v => k _ _ w' q g (.str _ v)
end
end HI

namespace HI
open PySem PySem.Spec PyProof.Rows L2
/-! ### o.pop(k), o a dict cell, the key there -/
def tPop1K (td ty : TE) : TE := fun σ H Q => td σ H fun x H1 => ∃ a, x = .ref a ∧ IsD H1 a ∧ ty σ H1 fun y H2 => ∃ (kvs : List (Key × V)) (k : Key) (v : V), H2 a = some (.dK kvs) ∧ y = kV k ∧ valV kvs k = some v ∧ Q v (upd H2 a (.dK (dropK kvs k)))
section
variable {X : Cx} {o e : Expr} {td ty : TE} {apos cpos : Pos} {fo fi : EV} {kk : Nat}
theorem pe_pop1K (ho : PE X o td) (he : PE X e ty) (m : M1 X o "pop" apos e cpos) : PE X (.Call (.Attribute o "pop" apos) [e] [] cpos) (tPop1K td ty) := ⟨fun pins s σ H Q I h => by
  refine wpAny_Call_method m.base m.few m.line PySem.F.plainAttrs_dict PySem.F.slot_dict_pop PySem.F.type_dict_pop (thn (ho.run pins s σ H _ I h) fun u sa ⟨x, Ha, Ia, rx, a, ex, hd, qa⟩ => ?_)
  subst ex
  have eu : u = Value.ref a := rx
  subst eu
  obtain ⟨t1, t2, _⟩ := isD_at Ia hd
  refine ⟨t1, t2, ?_⟩
  rw [m.trees]
  refine Calls.callWith_builtin rfl (Calls.evalArgs_plain (Calls.spliced_cons (thn (he.run pins sa σ Ha _ Ia qa) fun iv sb ⟨y, Hb, Ib, ry, kvs, k, v, ea, ey, ev, q⟩ => Calls.spliced_nil ?_)))
  subst ey
  exact L2.d_pop Ib ea ry ev (.inl rfl) fun w' s' I' rw' => ⟨v, _, I', rw', q⟩⟩
theorem drop_rel {κ : Type} [DecidableEq κ] {K : PySem.W.Frag} {C : List Addr} {P : Hp} {F : D → Option κ} (hF : ∀ x y k l, F x = some k → F y = some l → kEq x y = decide (k = l)) {d : D} {k : κ} (hd : F d = some k) : ∀ {kvs : List (κ × V)} {kds : List (D × D)}, kds.map (fun p => F p.1) = kvs.map (fun q => some q.1) → DpA K C P (kvs.map (·.2)) (kds.map (·.2)) →
    (dropD kds d).map (fun p => F p.1) = (dropK kvs k).map (fun q => some q.1) ∧ DpA K C P ((dropK kvs k).map (·.2)) ((dropD kds d).map (·.2))
  | [], [], _, _ => ⟨rfl, .nil⟩
  | [], _ :: _, h, _ => by cases h
  | _ :: _, [], h, _ => by cases h
  | (k', v') :: kvs, (d', e') :: kds, h, z => by
    rw [List.map_cons, List.map_cons] at h
    injection h with h1 h2
    cases z with
    | cons z1 z2 =>
      obtain ⟨i1, i2⟩ := drop_rel hF hd h2 z2
      have e1 : kEq d' d = decide (k' = k) := hF _ _ _ _ h1 hd
      unfold dropK at i1 i2 ⊢
      rw [dropD, e1]
      by_cases hk : k' = k
      · rw [decide_eq_true hk]
        have : List.filter (fun kv : κ × V => decide (kv.1 ≠ k)) ((k', v') :: kvs) = List.filter (fun kv : κ × V => decide (kv.1 ≠ k)) kvs := by simp [hk]
        rw [this]
        exact ⟨i1, i2⟩
      · rw [decide_eq_false hk]
        have : List.filter (fun kv : κ × V => decide (kv.1 ≠ k)) ((k', v') :: kvs) = (k', v') :: List.filter (fun kv : κ × V => decide (kv.1 ≠ k)) kvs := by simp [hk]
        rw [this]
        refine ⟨?_, .cons z1 i2⟩
        rw [List.map_cons, List.map_cons, i1]
        exact congrArg (· :: _) h1
theorem drop_mem {d : D} : ∀ {kds : List (D × D)} {p : D × D}, p ∈ dropD kds d → p ∈ kds
  | [], _, h => by cases h
  | (d', e') :: kds, p, h => by
    rw [dropD] at h
    cases hk : kEq d' d with
    | true => rw [hk] at h; exact .tail _ (drop_mem h)
    | false =>
      rw [hk] at h
      rcases List.mem_cons.mp h with rfl | h
      · exact .head _
      · exact .tail _ (drop_mem h)
theorem q_pop1 (ho : QE X true o fo) (hi : QE X true e fi) (m : M1 X o "pop" apos e cpos := by exact ⟨rfl, rfl, rfl, rfl⟩) : QE X true (.Call (.Attribute o "pop" apos) [e] [] cpos) (ePop1 fo fi) :=
  qe_of (pe_pop1K ho.pe hi.pe m) fun w σ δ Qd Q R h k => by
    refine lift_d R (fun o M1 => cellQ o fun n => someQ M1[n]? fun c0 => dctQ c0 fun _ _ => fi δ M1 fun i M2 => someQ M2[n]? fun c => dctQ c fun t kvs => okQ (!t) (okQ (isKey false i.d) (someQ (look kvs i.d) fun v => Qd (.val v) (M2.set n (.dct false (dropD kvs i.d)))))) h fun d v w1 q1 g1 z1 => ?_
    obtain ⟨n, rfl, q1⟩ := cellQ_e q1
    obtain ⟨c0, e0, q1⟩ := someQ_e q1
    obtain ⟨t0, kv0, rfl, q1⟩ := dctQ_e q1
    obtain ⟨a, rfl, ha⟩ := z1.cell'
    obtain ⟨_, ho0, h0, hz0⟩ := g1.ok.cell n a _ ha e0
    have isd : IsD w1.H a := by
      cases hz0 with
      | dK _ _ _ => exact .inl ⟨_, .inl h0⟩
      | dT _ _ _ => exact .inr ⟨_, .inl h0⟩
    refine ⟨a, rfl, isd, ?_⟩
    refine lift_d (R.mono g1) (fun i M2 => someQ M2[n]? fun c => dctQ c fun t kvs => okQ (!t) (okQ (isKey false i) (someQ (look kvs i) fun v => Qd (.val v) (M2.set n (.dct false (dropD kvs i)))))) q1 fun di y w2 q2 g2 z2 => ?_
    obtain ⟨c, e1, p1⟩ := someQ_e q2
    obtain ⟨t, kds, rfl, p2⟩ := dctQ_e p1
    obtain ⟨et, p3⟩ := okQ_e p2
    obtain ⟨hk, p4⟩ := okQ_e p3
    obtain ⟨dv, ev, p5⟩ := someQ_e p4
    have ha2 := g2.cc.at ha
    obtain ⟨_, ho2, h2, hz2⟩ := g2.ok.cell n a _ ha2 e1
    have g12 := g1.trans g2
    cases t with
    | true => cases et
    | false =>
      cases hz2 with
      | @dK kv _ hks hvs hzz =>
        obtain ⟨ks, ek⟩ := keyD_some hk
        have ey := keyD_V z2 ek
        subst ey
        rcases look_rel (F := keyD) (fun x y k l => kEq_key) ek hks hzz with ⟨_, l2⟩ | ⟨v', e', l1, l2, l3⟩
        · rw [ev] at l2; cases l2
        · rw [ev] at l2
          cases l2
          obtain ⟨a1, a2⟩ := drop_rel (F := keyD) (fun x y k l => kEq_key) ek hks hzz
          refine ⟨kv, ks, v', h2, rfl, l1, ?_⟩
          have gp := Gr.setCell (w := w2) (o' := .dK (dropK kv ks)) (d' := .dct false (dropD kds di)) g2.ok ha2 (cell_nown g2.ok ha2) ⟨_, upd_same, HoD.dK a1 (fun p hp => hvs p (drop_mem hp)) a2⟩
          exact k (.val dv) _ ⟨w2.C, w2.M.set n (.dct false (dropD kds di)), w2.P, upd w2.H a (.dK (dropK kv ks))⟩ p5 (g12.trans gp) l3
end
end HI

namespace HI
open PySem PySem.Spec PyProof.Rows L2
/-! ### repr of nested data, where no repr is under way -/
theorem depthAll_le {n : Nat} {f : D → PyData} (h : ∀ d, (f d).depth ≤ n) : ∀ xs : List D, PyData.depthAll (pyAll f xs) ≤ n
  | [] => Nat.zero_le _
  | x :: xs => by
    have h1 := h x
    have h2 := depthAll_le h xs
    show max (f x).depth (PyData.depthAll (pyAll f xs)) ≤ n
    omega
theorem py_depth (M : Mem) : ∀ (n : Nat) (d : D), (pyF n M d).depth ≤ n
  | 0, d => Nat.le_refl _
  | n + 1, d => by
    unfold pyF
    have ih := depthAll_le (py_depth M n)
    cases view M d with
    | lst xs => exact Nat.succ_le_succ (ih xs)
    | tup xs => exact Nat.succ_le_succ (ih xs)
    | wtup xs => exact Nat.succ_le_succ (ih xs)
    | _ => exact Nat.zero_le _
theorem hasDictAll_no {f : D → PyData} (h : ∀ d, (f d).hasDict = false) : ∀ xs : List D, PyData.hasDictAll (pyAll f xs) = false
  | [] => rfl
  | x :: xs => by
    show ((f x).hasDict || PyData.hasDictAll (pyAll f xs)) = false
    rw [h x, hasDictAll_no h xs]; rfl
theorem py_noDict (M : Mem) : ∀ (n : Nat) (d : D), (pyF n M d).hasDict = false
  | 0, d => rfl
  | n + 1, d => by
    unfold pyF
    have ih := hasDictAll_no (py_noDict M n)
    cases view M d with
    | lst xs => exact ih xs
    | tup xs => exact ih xs
    | wtup xs => exact ih xs
    | _ => rfl
section
variable {X : Cx} {k : Nat}
theorem call_reprR (hr : Room k X.A) (hg : X.A.guards = some []) : CallR X (.builtin "repr") (fun xs H Q => ∃ (a : Addr) (d : PyData), xs = [.ref a] ∧ L2.Dp X.K H (.ref a) d ∧ d.showable = true ∧ d.hasDict = false ∧ d.depth ≤ 100 ∧ d.shown.length ≤ 1000000 ∧ Q (.str d.shown) H) := by
  intro pins s σ H xs us Q I r h
  obtain ⟨a, d, rfl, hd, h1, h2, h3, h4, q⟩ := h
  obtain ⟨u, rfl, ru⟩ := vals1 r
  obtain rfl : u = Value.ref a := ru
  obtain ⟨as, hR⟩ := L2.Dp.reads I d (.ref a) (.ref a) hd rfl
  refine repr_of_reads' hR h1 (fun z => by rw [h2] at z; cases z) hg (by have := hr.un; omega) (fun _ _ e => e) (fun h' u tk hk => ?_) (Nat.le_trans h4 (by decide))
  exact ⟨.str d.shown, H, I.kept hk, ⟨u, rfl⟩, q⟩
theorem shown_tx (p : PyData) : p.shown = tx (shownD p) := tx_of p.shown
theorem call_reprL (hr : Room k X.A) (hg : X.A.guards = some []) (hv : ∀ p : PyData, p.canLay0 = true → vS (shownD p)) : CallL X (.builtin "repr") reprD := by
  refine ⟨_, call_reprR hr hg, fun w xs ds Qd Q o z h kk => ?_⟩
  unfold reprD at h
  obtain ⟨d, e0, h0⟩ := oneQ_e h
  subst e0
  obtain ⟨v, rfl, zv⟩ := z.one'
  have fin : okQ (okF 60 w.M d) (okQ (pyF 60 w.M d).showable (okQ (Nat.ble (shownD (pyF 60 w.M d)).length 1000000) (Qd (.val (.str (shownD (pyF 60 w.M d))))))) → (∃ a, v = .ref a) → ∃ (a : Addr) (p : PyData), [v] = [V.ref a] ∧ L2.Dp X.K w.H (.ref a) p ∧ p.showable = true ∧ p.hasDict = false ∧ p.depth ≤ 100 ∧ p.shown.length ≤ 1000000 ∧ Q (.str p.shown) w.H := fun q ⟨a, ea⟩ => by
    subst ea
    obtain ⟨q1, q⟩ := okQ_e q
    obtain ⟨q2, q⟩ := okQ_e q
    obtain ⟨q3, q⟩ := okQ_e q
    refine ⟨a, pyF 60 w.M d, rfl, (okF_dp o 60 _ d zv q1).1, q2, py_noDict _ _ _, Nat.le_trans (py_depth _ _ _) (by decide), ?_, ?_⟩
    · rw [shown_tx, tx_len]; exact Nat.le_of_ble_eq_true q3
    · rw [shown_tx]
      exact kk _ _ w q (.refl o) (.str _ (hv _ (okF_dp o 60 _ d zv q1).2.1))
  generalize hx : view w.M d = cx at h0
  cases cx with
  | lst ys =>
    obtain ⟨a1, x1, rfl, _⟩ := see_lst o zv hx
    exact fin h0 ⟨_, rfl⟩
  | tup ys =>
    obtain ⟨a1, x1, rfl, _⟩ := see_tup o zv hx
    exact fin h0 ⟨_, rfl⟩
  | _ => exact h0.elim
end
end HI

namespace HI
open PySem PySem.Spec PyProof.Rows L2
/-! ### the codes of a shown text are codes of signs -/
def strV (s : Str) : Prop := ∀ c ∈ s.cps.toList, c < 0x110000
theorem strV_tx {l : List Nat} (h : vS l) : strV (tx l) := fun c hc => h c (by rw [tx_cps] at hc; exact hc)
theorem strV_app {a b : Str} (ha : strV a) (hb : strV b) : strV (a ++ b) := by
  rw [tx_of a, tx_of b, tx_app]
  exact strV_tx fun c hc => (List.mem_append.mp hc).elim (ha c) (hb c)
theorem char_lt (ch : Char) : ch.toNat < 0x110000 := by
  have h := ch.valid
  show ch.val.toNat < 0x110000
  rcases h with h | ⟨_, h⟩
  · exact Nat.lt_of_lt_of_le h (by decide)
  · exact h
theorem strV_of (s : String) : strV (Str.ofString s) := by
  rw [Str.ofString_eq_toList]
  intro c hc
  have hc : c ∈ s.toList.map Char.toNat := by simpa using hc
  obtain ⟨ch, _, rfl⟩ := List.mem_map.mp hc
  exact char_lt ch
theorem strV_text : ∀ (ts : List Str) (k : Nat) (acc : Str), (∀ t ∈ ts, strV t) → strV acc → strV (textFrom k acc ts)
  | [], k, acc, _, h => h
  | t :: ts, k, acc, ht, h => strV_text ts (k + 1) _ (fun x hx => ht x (.tail _ hx)) (strV_app (strV_app h (strV_of _)) (ht t (.head _)))
theorem strV_list {ts : List Str} (h : ∀ t ∈ ts, strV t) : strV (listText ts) := strV_app (strV_text ts 0 _ h (strV_of _)) (strV_of _)
theorem hex_lt (n w : Nat) : ∀ c ∈ List.replicate (w - ((Nat.toDigits 16 n).map Char.toNat).length) 48 ++ (Nat.toDigits 16 n).map Char.toNat, c < 0x110000 := fun c hc => by
  rcases List.mem_append.mp hc with hc | hc
  · rw [(List.mem_replicate.mp hc).2]; decide
  · obtain ⟨ch, _, rfl⟩ := List.mem_map.mp hc
    exact char_lt ch
theorem reprChar_lt (q : Nat) {c : Nat} (h : c < 0x110000) : ∀ x ∈ Builtin.Str.reprChar q c, x < 0x110000 := by
  have two : ∀ a b : Nat, a < 0x110000 → b < 0x110000 → ∀ x ∈ [a, b], x < 0x110000 := fun a b ha hb x hx => by
    rcases List.mem_cons.mp hx with rfl | hx
    · exact ha
    rcases List.mem_cons.mp hx with rfl | hx
    · exact hb
    · cases hx
  have esc : ∀ (a b : Nat) (l : List Nat), a < 0x110000 → b < 0x110000 → (∀ x ∈ l, x < 0x110000) → ∀ x ∈ [a, b] ++ l, x < 0x110000 := fun a b l ha hb hl x hx => (List.mem_append.mp hx).elim (two a b ha hb x) (hl x)
  unfold Builtin.Str.reprChar
  dsimp only
  split
  · exact two _ _ (by decide) h
  split
  · exact two _ _ (by decide) (by decide)
  split
  · exact two _ _ (by decide) (by decide)
  split
  · exact two _ _ (by decide) (by decide)
  split
  · intro x hx
    rcases List.mem_cons.mp hx with rfl | hx
    · exact h
    · cases hx
  split
  · exact esc _ _ _ (by decide) (by decide) (hex_lt _ _)
  split
  · exact esc _ _ _ (by decide) (by decide) (hex_lt _ _)
  · exact esc _ _ _ (by decide) (by decide) (hex_lt _ _)
theorem fold_lt (q : Nat) : ∀ (l : List Nat) (acc : Array Nat), (∀ c ∈ l, c < 0x110000) → (∀ c ∈ acc.toList, c < 0x110000) → ∀ c ∈ (l.foldl (fun out c => out ++ (Builtin.Str.reprChar q c).toArray) acc).toList, c < 0x110000
  | [], acc, _, h => h
  | x :: l, acc, hl, h => fold_lt q l _ (fun c hc => hl c (.tail _ hc)) fun c hc => by
    rw [Array.toList_append] at hc
    rcases List.mem_append.mp hc with hc | hc
    · exact h c hc
    · exact reprChar_lt q (hl x (.head _)) c (by simpa using hc)
theorem quote_lt (x : Str) : reprQuote x < 0x110000 := by
  unfold reprQuote
  split <;> decide
theorem strV_repr {x : Str} (h : strV x) : strV (reprText x) := by
  intro c hc
  unfold reprText at hc
  rw [Array.toList_push, ← Array.foldl_toList] at hc
  rcases List.mem_append.mp hc with hc | hc
  · exact fold_lt (reprQuote x) x.cps.toList #[reprQuote x] h (fun d hd => by
      have hd : d ∈ [reprQuote x] := by simpa using hd
      rw [List.mem_singleton.mp hd]; exact quote_lt x) c hc
  · rw [List.mem_singleton.mp hc]; exact quote_lt x
theorem strV_join {sep : Str} (hs : strV sep) : ∀ ts : List Str, (∀ t ∈ ts, strV t) → strV (Str.join sep ts)
  | [], _ => fun c hc => by cases hc
  | [x], h => h x (.head _)
  | x :: y :: r, h => strV_app (strV_app (h x (.head _)) hs) (strV_join hs (y :: r) fun t ht => h t (.tail _ ht))
theorem strV_tuple {ts : List Str} (h : ∀ t ∈ ts, strV t) : strV (tupleText ts) := by
  unfold tupleText
  refine strV_app (strV_app (strV_of _) (strV_join (strV_of _) ts h)) (strV_of _)
mutual
theorem shown_V : ∀ p : PyData, p.canLay0 = true → strV p.shown
  | .none, _ => strV_of _
  | .bool b, _ => by cases b <;> exact strV_of _
  | .int i, _ => strV_of _
  | .str x, h => by
    have h0 : x.cps.all (· < 0x110000) = true := h
    refine strV_repr fun c hc => ?_
    have := (Array.all_eq_true_iff_forall_mem.mp h0) c (Array.mem_toList_iff.mp hc)
    simpa using this
  | .list xs, h => strV_list (shownAll_V xs h)
  | .tuple xs, h => strV_tuple (shownAll_V xs h)
  | .dict _, h => by cases h
theorem shownAll_V : ∀ xs : List PyData, PyData.canLayAll0 xs = true → ∀ t ∈ PyData.shownAll xs, strV t
  | [], _ => fun t ht => by cases ht
  | x :: xs, h => fun t ht => by
    have h' : x.canLay0 = true ∧ PyData.canLayAll0 xs = true := by simpa [PyData.canLayAll0] using h
    rcases List.mem_cons.mp ht with rfl | ht
    · exact shown_V x h'.1
    · exact shownAll_V xs h'.2 t ht
end
theorem call_repr {X : Cx} {k : Nat} (hr : Room k X.A) (hg : X.A.guards = some []) : CallL X (.builtin "repr") reprD := call_reprL hr hg fun p h => shown_V p h
end HI

namespace HI
open PySem PySem.Spec PyProof.Rows L2
/-! ### dict(list of pairs), keys ints and texts -/
section
variable {X : Cx} {k : Nat}
theorem pair_of {P : Program} {w : World} {H : Hp} {h : Heap} (ok : L2.HOk P w H h) {t : Addr} {x y : V} (e : H t = some (.tup [x, y])) : ∃ u v : Value, RelV x u ∧ RelV y v ∧ h.IsTuple t #[u, v] := by
  obtain ⟨_, its, r, o, h1, h2, n, h3⟩ := (show L2.ObjOk P w H h t (.tup [x, y]) from ok t _ e)
  cases r with
  | cons r1 r =>
    cases r with
    | cons r2 r =>
      cases r
      exact ⟨_, _, r1, r2, o, h1, h2, n, h3⟩
theorem conc {P : Program} {w : World} {H : Hp} {h : Heap} (ok : L2.HOk P w H h) : ∀ L : List (Addr × Key × V), (∀ x ∈ L, H x.1 = some (.tup [kV x.2.1, x.2.2])) → ∃ (cs : List (Value × Value)) (rs : List (Key × Value)), cs.length = L.length ∧ rs.length = L.length ∧ L2.KV (L.map (·.2)) rs ∧
    ∀ (i : Nat) (x : Addr × Key × V) (c : Value × Value), L[i]? = some x → cs[i]? = some c → h.IsTuple x.1 #[c.1, c.2] ∧ rs[i]? = some (x.2.1, c.2) ∧ (mixKind P w).is x.2.1 c.1 = true
  | [], _ => ⟨[], [], rfl, rfl, .nil, fun i x c h => by cases h⟩
  | x :: L, hx => by
    obtain ⟨u, v, r1, r2, ht⟩ := pair_of ok (hx x (.head _))
    obtain ⟨cs, rs, l1, l2, kv, hh⟩ := conc ok L fun y hy => hx y (.tail _ hy)
    refine ⟨(u, v) :: cs, (x.2.1, v) :: rs, congrArg (· + 1) l1, congrArg (· + 1) l2, .cons ⟨rfl, r2⟩ kv, fun i y c e1 e2 => ?_⟩
    cases i with
    | zero =>
      cases e1
      cases e2
      exact ⟨ht, rfl, kV_is r1⟩
    | succ i => exact hh i y c e1 e2
theorem refs_of : ∀ {ts : List Addr} {us : List Value}, Vals (ts.map V.ref) us → us = ts.map Value.ref
  | [], [], _ => rfl
  | [], _ :: _, h => by cases h
  | _ :: _, [], h => by cases h
  | t :: ts, u :: us, h => by
    cases h with
    | cons h1 h2 =>
      obtain rfl : u = Value.ref t := h1
      rw [refs_of h2]; rfl
theorem call_dictKR (hr : Room k X.A) : CallR X (.type "dict") (fun xs H Q => ∃ (a : Addr) (L : List (Addr × Key × V)), xs = [.ref a] ∧ H a = some (.lst (L.map fun x => .ref x.1)) ∧ (∀ x ∈ L, H x.1 = some (.tup [kV x.2.1, x.2.2])) ∧ ∀ p, H p = none → Q (.ref p) (upd H p (.dK (mergeK [] (L.map (·.2)))))) := by
  intro pins s σ H xs us Q I r h
  obtain ⟨a, L, rfl, ha, hL, q⟩ := h
  obtain ⟨u, rfl, ru⟩ := vals1 r
  obtain rfl : u = Value.ref a := ru
  obtain ⟨hlen, its, n, rv, ho⟩ := (show L2.ObjOk X.prog X.w H s.heap a (.lst (L.map fun x => .ref x.1)) from I.hok a _ ha)
  obtain ⟨cs, rs, l1, l2, kv, hh⟩ := conc I.hok L hL
  have hits : its = (L.map (·.1)).map Value.ref := refs_of (by rw [List.map_map]; exact rv)
  subst hits
  have hp : PairItems s.heap ((L.map (·.1)).map Value.ref).toArray (fun j => (L.map (·.1)).getD j 0) cs := by
    refine ⟨by rw [List.size_toArray, List.length_map, List.length_map, l1], fun j key v hj => ?_⟩
    have hlt : j < L.length := by rw [← l1]; exact (List.getElem?_eq_some_iff.mp hj).1
    obtain ⟨x, hx⟩ : ∃ x, L[j]? = some x := ⟨L[j], List.getElem?_eq_getElem hlt⟩
    have e1 : (L.map (·.1)).getD j 0 = x.1 := by rw [List.getD_eq_getElem?_getD, List.getElem?_map, hx]; rfl
    obtain ⟨t1, t2, t3⟩ := hh j x (key, v) hx hj
    refine ⟨?_, .inl ?_⟩
    · show ((L.map (·.1)).map Value.ref).toArray[j]? = some (Value.ref ((L.map (·.1)).getD j 0))
      rw [List.getElem?_toArray, List.getElem?_map, List.getElem?_map, hx, e1]; rfl
    · show s.heap.IsTuple ((L.map (·.1)).getD j 0) _
      rw [e1]; exact t1
  have hps : PairsHave (mixKind X.prog X.w) cs.length (PairRel cs) rs := ⟨by rw [l1, l2], fun i key v hi => by
    have hlt : i < L.length := by rw [← l1]; exact (List.getElem?_eq_some_iff.mp hi).1
    obtain ⟨x, hx⟩ : ∃ x, L[i]? = some x := ⟨L[i], List.getElem?_eq_getElem hlt⟩
    obtain ⟨t1, t2, t3⟩ := hh i x (key, v) hx hi
    exact ⟨x.2.1, t2, t3⟩⟩
  have hz : cs.length ≤ sizeLine := by rw [l1]; rw [List.length_map] at hlen; exact hlen
  refine call_dict_pairs (PairArg.list a _ _ cs) hr.hd ⟨⟨_, n, ho, rfl, rfl, rfl⟩, hp⟩ hps hz fun h' tk hd' hk => ?_
  have hn := I.hok.fresh (Nat.le_refl s.heap.objs.size)
  have hz2 : (mergeK [] (L.map (·.2))).length ≤ sizeLine := by
    have h1 := length_mergeK (L.map (·.2)) []
    rw [List.length_nil, List.length_map] at h1
    rw [List.length_map] at hlen
    omega
  refine ⟨.ref s.heap.objs.size, _, I.laid (a := s.heap.objs.size) (o := .dK (mergeK [] (L.map (·.2)))) (h' := h') (t' := tk) (fun b o e => hk b o (by simp) e) (Nat.le_refl _) (dk_new hz2 ?_ (kv.merge .nil) hd'), rfl, q _ hn⟩
  have := I.big
  exact beq_false_of_ne fun z => by rw [z] at this; exact absurd this (Nat.lt_irrefl _)
end
end HI

namespace HI
open PySem PySem.Spec PyProof.Rows L2
/-! ### dict(list of pairs), keys tuples -/
abbrev PrT := Addr × (Addr × List Key) × V
def mergeT (acc more : List (List Key × V)) : List (List Key × V) := more.foldl (fun acc kv => putK acc kv.1 kv.2) acc
theorem mergeT_len (more : List (List Key × V)) : ∀ acc : List (List Key × V), (mergeT acc more).length ≤ acc.length + more.length := by
  induction more with
  | nil => intro acc; exact Nat.le_refl _
  | cons p more ih =>
    intro acc
    have h1 := ih (putK acc p.1 p.2)
    have h2 := length_putK acc p.1 p.2
    show (mergeT (putK acc p.1 p.2) more).length ≤ acc.length + (more.length + 1)
    omega
section
variable {X : Cx} {k : Nat}
theorem concT {P : Program} {w : World} {H : Hp} {h : Heap} (ok : L2.HOk P w H h) : ∀ L : List PrT, (∀ x ∈ L, H x.1 = some (.tup [.ref x.2.1.1, x.2.2]) ∧ H x.2.1.1 = some (.tup (x.2.1.2.map kV))) → ∃ (cs : List (Value × Value)) (ps : List (List Key × Addr × Value)), cs.length = L.length ∧ ps.length = L.length ∧
    L2.KT H (L.map fun x => (x.2.1.2, x.2.2)) ps ∧
    (∀ (i : Nat) (x : PrT) (c : Value × Value), L[i]? = some x → cs[i]? = some c → h.IsTuple x.1 #[c.1, c.2] ∧ ps[i]? = some (x.2.1.2, x.2.1.1, c.2) ∧ c.1 = .ref x.2.1.1) ∧ ∀ q ∈ ps, (tupleKind (mixKind P w)).is h q.1 q.2.1
  | [], _ => ⟨[], [], rfl, rfl, .nil, (fun i x c h => by cases h), fun _ h => by cases h⟩
  | x :: L, hx => by
    obtain ⟨e1, e2⟩ := hx x (.head _)
    obtain ⟨u, v, r1, r2, ht⟩ := pair_of ok e1
    obtain rfl : u = Value.ref x.2.1.1 := r1
    obtain ⟨cs, ps, l1, l2, kv, hh, hk⟩ := concT ok L fun y hy => hx y (.tail _ hy)
    refine ⟨(.ref x.2.1.1, v) :: cs, (x.2.1.2, x.2.1.1, v) :: ps, congrArg (· + 1) l1, congrArg (· + 1) l2, .cons ⟨rfl, e2, r2⟩ kv, (fun i y c e3 e4 => ?_), fun q hq => ?_⟩
    · cases i with
      | zero =>
        cases e3
        cases e4
        exact ⟨ht, rfl, rfl⟩
      | succ i => exact hh i y c e3 e4
    · rcases List.mem_cons.mp hq with rfl | hq
      · exact L2.key_of ok e2
      · exact hk q hq
theorem KT_merge {H : Hp} : ∀ {more : List (List Key × V)} {ps : List (List Key × Addr × Value)} {acc : List (List Key × V)} {xs : List (List Key × Addr × Value)}, L2.KT H more ps → L2.KT H acc xs → L2.KT H (mergeT acc more) (storedAllH xs ps) := by
  intro more ps acc xs r
  induction r generalizing acc xs with
  | nil => intro h; exact h
  | cons h t ih =>
    intro hacc
    obtain ⟨h1, h2, h3⟩ := h
    rename_i p q _ _
    have t2 := hacc.put p.1 h2 h3
    have t3 : storedH xs p.1 q.2.1 q.2.2 = storedH xs q.1 q.2.1 q.2.2 := by rw [h1]
    rw [t3] at t2
    exact ih t2
theorem call_dictTR (hr : Room k X.A) : CallR X (.type "dict") (fun xs H Q => ∃ (a : Addr) (L : List PrT), xs = [.ref a] ∧ H a = some (.lst (L.map fun x => .ref x.1)) ∧ (∀ x ∈ L, H x.1 = some (.tup [.ref x.2.1.1, x.2.2]) ∧ H x.2.1.1 = some (.tup (x.2.1.2.map kV))) ∧ ∀ p, H p = none → Q (.ref p) (upd H p (.dT (mergeT [] (L.map fun x => (x.2.1.2, x.2.2)))))) := by
  intro pins s σ H xs us Q I r h
  obtain ⟨a, L, rfl, ha, hL, q⟩ := h
  obtain ⟨u, rfl, ru⟩ := vals1 r
  obtain rfl : u = Value.ref a := ru
  obtain ⟨hlen, its, n, rv, ho⟩ := (show L2.ObjOk X.prog X.w H s.heap a (.lst (L.map fun x => .ref x.1)) from I.hok a _ ha)
  obtain ⟨cs, ps, l1, l2, kv, hh, hks⟩ := concT I.hok L hL
  have hits : its = (L.map (·.1)).map Value.ref := refs_of (by rw [List.map_map]; exact rv)
  subst hits
  have hp : PairItems s.heap ((L.map (·.1)).map Value.ref).toArray (fun j => (L.map (·.1)).getD j 0) cs := by
    refine ⟨by rw [List.size_toArray, List.length_map, List.length_map, l1], fun j key v hj => ?_⟩
    have hlt : j < L.length := by rw [← l1]; exact (List.getElem?_eq_some_iff.mp hj).1
    obtain ⟨x, hx⟩ : ∃ x, L[j]? = some x := ⟨L[j], List.getElem?_eq_getElem hlt⟩
    have e1 : (L.map (·.1)).getD j 0 = x.1 := by rw [List.getD_eq_getElem?_getD, List.getElem?_map, hx]; rfl
    obtain ⟨t1, t2, t3⟩ := hh j x (key, v) hx hj
    refine ⟨?_, .inl ?_⟩
    · show ((L.map (·.1)).map Value.ref).toArray[j]? = some (Value.ref ((L.map (·.1)).getD j 0))
      rw [List.getElem?_toArray, List.getElem?_map, List.getElem?_map, hx, e1]; rfl
    · show s.heap.IsTuple ((L.map (·.1)).getD j 0) _
      rw [e1]; exact t1
  have hps : PairsHaveH (tupleKind (mixKind X.prog X.w)) cs.length (PairRel cs) ps := ⟨by rw [l1, l2], fun i key v hi => by
    have hlt : i < L.length := by rw [← l1]; exact (List.getElem?_eq_some_iff.mp hi).1
    obtain ⟨x, hx⟩ : ∃ x, L[i]? = some x := ⟨L[i], List.getElem?_eq_getElem hlt⟩
    obtain ⟨t1, t2, t3⟩ := hh i x (key, v) hx hi
    exact ⟨_, _, t2, t3⟩⟩
  have hst : KeysStay (tupleKind (mixKind X.prog X.w)) s.heap s.heap.objs.size [] ps := fun h' hk x hx => by
    obtain ⟨o, its, n, g1, g2, g3, g4⟩ := hks x hx
    exact ⟨o, its, n, hk _ _ (Nat.ne_of_lt (Heap.lt_size g1)) (by simp) g1, g2, g3, g4⟩
  have hz : cs.length ≤ sizeLine := by rw [l1]; rw [List.length_map] at hlen; exact hlen
  refine call_dict_pairsH (PairArg.list a _ _ cs) hr.hd (tupleKind_room_in1 (A := X.A.in1) (by show X.A.units + 1 + 1 < cLine; have := hr.un; omega)) ⟨⟨_, n, ho, rfl, rfl, rfl⟩, hp⟩ hps hst hz fun h' tk hd' hk => ?_
  have hn := I.hok.fresh (Nat.le_refl s.heap.objs.size)
  have hz2 : (mergeT [] (L.map fun x => (x.2.1.2, x.2.2))).length ≤ sizeLine := by
    have h1 := mergeT_len (L.map fun x : PrT => (x.2.1.2, x.2.2)) []
    rw [List.length_nil, List.length_map] at h1
    rw [List.length_map] at hlen
    omega
  have hb : (s.heap.objs.size == sysModules) = false := by
    have := I.big
    exact beq_false_of_ne fun z => by rw [z] at this; exact absurd this (Nat.lt_irrefl _)
  obtain ⟨o, es, ep, o1, o2, o3, o4, _, o5⟩ := hd'
  have hkt := (KT_merge kv (.nil : L2.KT H [] [])).keeps (H' := upd H s.heap.objs.size (.dT (mergeT [] (L.map fun x => (x.2.1.2, x.2.2))))) fun b ys e => by
    rw [upd_ne (fun z => by subst z; rw [hn] at e; cases e), e]
  exact ⟨.ref s.heap.objs.size, _, I.laid (a := s.heap.objs.size) (o := .dT (mergeT [] (L.map fun x => (x.2.1.2, x.2.2)))) (h' := h') (t' := tk) (fun b o e => hk b o (by simp) e) (Nat.le_refl _) ⟨hz2, hb, _, hkt, o, es, ep, o1, o2, o3, o4, o5⟩, rfl, q _ hn⟩
end
end HI

namespace HI
open PySem PySem.Spec PyProof.Rows L2
/-! ### dict(list of pairs) over data -/
theorem pairsD_e {d : D} {r : List D} {kvs : List (D × D)} (h : pairsD (d :: r) = some kvs) : ∃ k v kvs', d = .tup [k, v] ∧ pairsD r = some kvs' ∧ kvs = (k, v) :: kvs' := by
  unfold pairsD at h
  split at h
  · rename_i k v
    cases hr : pairsD r with
    | none => rw [hr] at h; cases h
    | some kvs' =>
      rw [hr] at h
      cases h
      exact ⟨k, v, kvs', rfl, rfl, rfl⟩
  · cases h
theorem keysOkT_e {t : Bool} {k v : D} {r : List (D × D)} (h : keysOkT t ((k, v) :: r) = true) : isKey t k = true ∧ keysOkT t r = true := by
  unfold keysOkT at h
  cases e : isKey t k with
  | true => rw [e] at h; exact ⟨rfl, h⟩
  | false => rw [e] at h; cases h
theorem pairsK {G : Gx} {w : Wd} (o : WOk G w) : ∀ (xs : List D) (vs : List V) (kvs : List (D × D)), DpA G.K w.C w.P vs xs → pairsD xs = some kvs → keysOkT false kvs = true → ∃ L : List (Addr × Key × V), vs = L.map (fun x => V.ref x.1) ∧ (∀ x ∈ L, w.H x.1 = some (.tup [kV x.2.1, x.2.2])) ∧
    kvs.map (fun p => keyD p.1) = (L.map (·.2)).map (fun q => some q.1) ∧ DpA G.K w.C w.P ((L.map (·.2)).map (·.2)) (kvs.map (·.2)) ∧ ∀ p ∈ kvs, vK p.1
  | [], vs, kvs, z, h, _ => by
    cases z
    cases h
    exact ⟨[], rfl, (fun _ h => by cases h), rfl, .nil, fun _ h => by cases h⟩
  | d :: xs, vs, kvs, z, h, hk => by
    obtain ⟨k, v, kvs', rfl, h2, rfl⟩ := pairsD_e h
    obtain ⟨k1, k2⟩ := keysOkT_e hk
    cases z with
    | cons z1 z2 =>
      obtain ⟨b, us, rfl, hb, zb⟩ := z1.tup'
      cases zb with
      | cons y1 zb =>
        cases zb with
        | cons y2 zb =>
          cases zb
          obtain ⟨kk, ek⟩ := keyD_some k1
          have ev := keyD_V y1 ek
          subst ev
          obtain ⟨L, rfl, l2, l3, l4, l5⟩ := pairsK o xs _ kvs' z2 h2 k2
          refine ⟨(b, kk, _) :: L, rfl, (fun x hx => ?_), ?_, .cons y2 l4, fun p hp => ?_⟩
          · rcases List.mem_cons.mp hx with rfl | hx
            · exact o.ex.tup hb
            · exact l2 x hx
          · rw [List.map_cons, List.map_cons, List.map_cons, l3]
            exact congrArg (· :: _) ek
          · rcases List.mem_cons.mp hp with rfl | hp
            · exact y1.vK
            · exact l5 p hp
theorem pairsT {G : Gx} {w : Wd} (o : WOk G w) : ∀ (xs : List D) (vs : List V) (kvs : List (D × D)), DpA G.K w.C w.P vs xs → pairsD xs = some kvs → keysOkT true kvs = true → ∃ L : List PrT, vs = L.map (fun x => V.ref x.1) ∧ (∀ x ∈ L, w.H x.1 = some (.tup [.ref x.2.1.1, x.2.2]) ∧ w.H x.2.1.1 = some (.tup (x.2.1.2.map kV))) ∧
    kvs.map (fun p => tkD p.1) = (L.map fun x => (x.2.1.2, x.2.2)).map (fun q => some q.1) ∧ DpA G.K w.C w.P ((L.map fun x => (x.2.1.2, x.2.2)).map (·.2)) (kvs.map (·.2)) ∧ ∀ p ∈ kvs, vK p.1
  | [], vs, kvs, z, h, _ => by
    cases z
    cases h
    exact ⟨[], rfl, (fun _ h => by cases h), rfl, .nil, fun _ h => by cases h⟩
  | d :: xs, vs, kvs, z, h, hk => by
    obtain ⟨k, v, kvs', rfl, h2, rfl⟩ := pairsD_e h
    obtain ⟨k1, k2⟩ := keysOkT_e hk
    cases z with
    | cons z1 z2 =>
      obtain ⟨b, us, rfl, hb, zb⟩ := z1.tup'
      cases zb with
      | cons y1 zb =>
        cases zb with
        | cons y2 zb =>
          cases zb
          obtain ⟨ks, ek⟩ := tkD_some k1
          obtain ⟨L, rfl, l2, l3, l4, l5⟩ := pairsT o xs _ kvs' z2 h2 k2
          cases k with
          | tup ds =>
            have yk := y1.vK
            obtain ⟨b2, us2, rfl, hb2, zb2⟩ := y1.tup'
            have ev := keysD_V zb2 ek
            subst ev
            refine ⟨(b, (b2, ks), _) :: L, rfl, (fun x hx => ?_), ?_, .cons y2 l4, fun p hp => ?_⟩
            · rcases List.mem_cons.mp hx with rfl | hx
              · exact ⟨o.ex.tup hb, o.ex.tup hb2⟩
              · exact l2 x hx
            · rw [List.map_cons, List.map_cons, List.map_cons, l3]
              exact congrArg (· :: _) ek
            · rcases List.mem_cons.mp hp with rfl | hp
              · exact yk
              · exact l5 p hp
          | _ => cases ek
theorem merge_relT {K : PySem.W.Frag} {C : List Addr} {P : Hp} : ∀ {more : List (List Key × V)} {kds : List (D × D)} {acc : List (List Key × V)} {acd : List (D × D)}, kds.map (fun p => tkD p.1) = more.map (fun q => some q.1) → (∀ p ∈ kds, vK p.1) → DpA K C P (more.map (·.2)) (kds.map (·.2)) →
    HoD K C P (.dT acc) (.dct true acd) → HoD K C P (.dT (mergeT acc more)) (.dct true (mergeD acd kds))
  | [], [], _, _, _, _, _, h => h
  | [], _ :: _, _, _, h, _, _, _ => by cases h
  | _ :: _, [], _, _, h, _, _, _ => by cases h
  | (k, v) :: more, (d, e) :: kds, acc, acd, h1, h2, h3, h4 => by
    rw [List.map_cons, List.map_cons] at h1
    injection h1 with e1 e2
    cases h3 with
    | cons z t =>
      have h5 : HoD K C P (.dT (putK acc k v)) (.dct true (putD acd d e)) := by
       cases h4 with
       | dT b1 b2 b3 =>
        obtain ⟨a1, a2⟩ := put_rel (F := tkD) (fun x y k l => kEq_tk) e1 z b1 b3
        refine .dT a1 (fun p hp => ?_) a2
        rcases put_mem hp with ⟨q, q1, q2⟩ | e
        · rw [← q2]; exact b2 q q1
        · rw [e]; exact h2 (d, _) List.mem_cons_self
      exact merge_relT (more := more) (kds := kds) (acc := putK acc k v) (acd := putD acd d e) e2 (fun p hp => h2 p (List.mem_cons_of_mem _ hp)) t h5
section
variable {X : Cx} {k : Nat}
theorem call_dictL (hr : Room k X.A) : ∀ t : Bool, CallL X (.type "dict") (dictD t)
  | false => by
    refine ⟨_, call_dictKR hr, fun w xs ds Qd Q o z h kk => ?_⟩
    unfold dictD at h
    obtain ⟨d, e0, h0⟩ := oneQ_e h
    subst e0
    obtain ⟨v, rfl, zv⟩ := z.one'
    obtain ⟨ys, ey, h1⟩ := lstQ_e h0
    obtain ⟨kvs, ek, h2⟩ := someQ_e h1
    obtain ⟨hk, q⟩ := okQ_e h2
    obtain ⟨a, vs, rfl, ha, zs⟩ := see_lst o zv ey
    obtain ⟨L, rfl, l2, l3, l4, l5⟩ := pairsK o ys vs kvs zs ek hk
    refine ⟨a, L, rfl, ha, l2, fun p hp => ?_⟩
    obtain ⟨g2, z2⟩ := new_ok (Gr.refl o) hp (merge_rel l3 l5 l4 (HoD.dK (kvs := []) (kds := []) rfl (fun _ h => by cases h) .nil))
    exact kk _ _ _ q g2 z2
  | true => by
    refine ⟨_, call_dictTR hr, fun w xs ds Qd Q o z h kk => ?_⟩
    unfold dictD at h
    obtain ⟨d, e0, h0⟩ := oneQ_e h
    subst e0
    obtain ⟨v, rfl, zv⟩ := z.one'
    obtain ⟨ys, ey, h1⟩ := lstQ_e h0
    obtain ⟨kvs, ek, h2⟩ := someQ_e h1
    obtain ⟨hk, q⟩ := okQ_e h2
    obtain ⟨a, vs, rfl, ha, zs⟩ := see_lst o zv ey
    obtain ⟨L, rfl, l2, l3, l4, l5⟩ := pairsT o ys vs kvs zs ek hk
    refine ⟨a, L, rfl, ha, l2, fun p hp => ?_⟩
    obtain ⟨g2, z2⟩ := new_ok (Gr.refl o) hp (merge_relT l3 l5 l4 (HoD.dT (kvs := []) (kds := []) rfl (fun _ h => by cases h) .nil))
    exact kk _ _ _ q g2 z2
end
end HI

namespace HI
open PySem PySem.Spec PyProof.Rows L2 PySem.W
/-! ### == of dicts whose keys are tuples -/
section
variable {prog : Program} {w : World} {K : Type} [DecidableEq K] {knd : HeapKind prog w K} {A : Around} {E : Value → Shared → Prop} {s : Shared}
inductive HitsH {K : Type} [DecidableEq K] (A : Around) (s : Shared) (kb : List (K × Addr × Value)) : List (K × Addr × Value) → Bool → Prop
  | nil : HitsH A s kb [] true
  | miss {k : K} {a : Addr} {v : Value} {r : List (K × Addr × Value)} : atKey kb k = none → HitsH A s kb ((k, a, v) :: r) false
  | hit {k : K} {a b : Addr} {v y : Value} {r : List (K × Addr × Value)} {e q : Bool} : atKey kb k = some (b, y) → SeqAt.EqAt A s v y e → HitsH A s kb r q → HitsH A s kb ((k, a, v) :: r) (e && q)
theorem HitsH.inv {kb : List (K × Addr × Value)} {k : K} {a : Addr} {v : Value} {r : List (K × Addr × Value)} {b : Bool} (h : HitsH A s kb ((k, a, v) :: r) b) :
    (atKey kb k = none ∧ b = false) ∨ ∃ c y e b', atKey kb k = some (c, y) ∧ SeqAt.EqAt A s v y e ∧ HitsH A s kb r b' ∧ b = (e && b') := by
  cases h with
  | miss hn => exact .inl ⟨hn, rfl⟩
  | hit hy he hr => exact .inr ⟨_, _, _, _, hy, he, hr, rfl⟩
theorem samePairsH {nm : String} {a b : Addr} {ka kb : List (K × Addr × Value)} {r : Bool} {Q : Bool → Shared → Prop} (hu : knd.room A) (ha : (a == sysModules) = false) (hb : (b == sysModules) = false)
    (da : s.heap.DictOfH knd a ka) (db : s.heap.DictOfH knd b kb) (hits : ka.length = kb.length → HitsH A s kb ka r) (h : Q (ka.length == kb.length && r) s) :
    wpAny (model prog w) A (Builtin.Dict.samePairs nm a b) Q E s := by
  obtain ⟨oa, es, ep, hoa, _, hda, hea, hka, hna⟩ := da
  obtain ⟨ob, es', ep', hob, _, hdb, heb, hkb, hnb⟩ := db
  have hla : ka.length = es.size := (size_of_entries hea).symm
  have hlb : kb.length = es'.size := (size_of_entries heb).symm
  rw [hla, hlb] at h
  unfold Builtin.Dict.samePairs Builtin.Dict.showsAll
  rw [if_neg (show ¬ (a == sysModules) = true by rw [ha]; exact Bool.false_ne_true), if_neg (show ¬ (b == sysModules) = true by rw [hb]; exact Bool.false_ne_true)]
  refine wpAny_bind (wpAny_pure (wpAny_bind (wpAny_pure ?_)))
  refine wpAny_bind (wpAny_dictEntries hoa hda ?_)
  dsimp only
  refine wpAny_bind (wpAny_dictEntries hob hdb ?_)
  by_cases hsz : es.size = es'.size
  case neg =>
    rw [if_pos (by simpa using hsz)]
    have hbf : (es.size == es'.size) = false := by simpa using hsz
    rw [hbf, Bool.false_and] at h
    exact wpAny_bind (wpAny_rule (wpAny_pure h))
  case pos =>
    have h' : Q r s := by simpa [hsz] using h
    have hits' := hits (by rw [hla, hlb]; exact hsz)
    rw [if_neg (by rw [hsz]; simp)]
    refine wpAny_bind (wpAny_dictEpoch hoa hda ?_)
    refine wpAny_bind ?_
    rw [Std.Legacy.Range.forIn_eq_forIn_range']
    simp only [Std.Legacy.Range.size, Nat.sub_zero, Nat.add_sub_cancel, Nat.div_one]
    refine wpAny_forIn_list _
      (fun rest q s' => s' = s ∧ q = (none, ()) ∧ ∃ i, rest = List.range' i (es.size - i) ∧ i ≤ es.size ∧ HitsH A s kb (ka.drop i) r)
      _ ?_ ?_ _ _ ⟨rfl, rfl, 0, by simp, Nat.zero_le _, hits'⟩
    · rintro x rest q s' ⟨rfl, rfl, i, hr, hi, hpre⟩
      have hlt : i < es.size := by
        rcases Nat.lt_or_ge i es.size with h | h
        · exact h
        · rw [Nat.sub_eq_zero_of_le h] at hr; simp at hr
      obtain ⟨rfl, hrest⟩ : x = i ∧ rest = List.range' (i + 1) (es.size - (i + 1)) := by
        have e : es.size - i = (es.size - (i + 1)) + 1 := by omega
        rw [e, List.range'_succ] at hr
        injection hr with h1 h2
        exact ⟨h1, h2⟩
      refine wpAny_bind (wpAny_dictEntries hoa hda ?_)
      rw [Array.getElem?_eq_getElem hlt]
      have hlt' : x < ka.length := by rw [hla]; exact hlt
      obtain ⟨k, c, v, hkv⟩ : ∃ k c v, ka[x] = (k, c, v) := ⟨_, _, _, rfl⟩
      have hkv' : ka[x]? = some (k, c, v) := by rw [List.getElem?_eq_getElem hlt', hkv]
      have hdrop : ka.drop x = (k, c, v) :: ka.drop (x + 1) := by rw [← hkv]; exact List.drop_eq_getElem_cons hlt'
      have hex : es[x] = entryOfKey knd (k, c, v) := by
        have := entry_at hea x
        rw [Array.getElem?_eq_getElem hlt, hkv'] at this
        exact Option.some.inj this
      rw [hdrop] at hpre
      show wpAny _ _ (holding [es[x].key, es[x].val] _ >>= _) _ _ _
      rw [hex]
      refine wpAny_bind (wpAny_holding (wpAny_bind ?_))
      refine wpAny_dictFind_heap (k := k) (a := c) hu (hka _ (List.mem_of_getElem? hkv')) hob hdb heb hkb hnb (fun hn => ?_) fun j p hj => ?_
      · have hn' := atKey_none_of_get hn
        rcases hpre.inv with ⟨_, er⟩ | ⟨_, y, _, _, hy, _⟩
        · rw [er] at h'
          refine wpAny_pure ?_
          show wpAny _ _ (if (!false) = true then _ else _) _ _ _
          rw [if_pos (by decide)]
          exact wpAny_pure (wpAny_pure h')
        · rw [hn'] at hy; exact nomatch hy
      · have hv' := atKey_of_get hnb hj
        have hjlt : j < es'.size := by rw [← hlb]; exact (List.getElem?_eq_some_iff.mp hj).1
        have hej : es'[j] = entryOfKey knd (k, p) := by
          have := entry_at heb j
          rw [Array.getElem?_eq_getElem hjlt, hj] at this
          exact Option.some.inj this
        refine wpAny_bind (wpAny_dictEntries hob hdb ?_)
        rw [Array.getElem?_eq_getElem hjlt]
        rcases hpre.inv with ⟨hn, _⟩ | ⟨c', y, e, b', hy, he, hrr, er⟩
        · rw [hv'] at hn; exact nomatch hn
        · have ey : p = (c', y) := Option.some.inj (hv'.symm.trans hy)
          subst ey
          show wpAny _ _ (holding [es'[j].val] (eqBool (entryOfKey knd (k, c, v)).val es'[j].val)) _ _ _
          rw [hej]
          refine wpAny_holding (he _ _ _ _ ?_)
          cases e with
          | false =>
            rw [er, Bool.false_and] at h'
            show wpAny _ _ (if (!false) = true then _ else _) _ _ _
            rw [if_pos (by decide)]
            exact wpAny_pure (wpAny_pure h')
          | true =>
            rw [Bool.true_and] at er
            rw [← er] at hrr
            show wpAny _ _ (if (!true) = true then _ else _) _ _ _
            rw [if_neg (by decide)]
            refine wpAny_bind (wpAny_dictEpoch hoa hda ?_)
            rw [if_neg (by simp)]
            exact wpAny_pure ⟨rfl, rfl, x + 1, hrest, hlt, hrr⟩
    · rintro q s' ⟨rfl, rfl, i, hr, hi, hpre⟩
      have hin : i = es.size := by
        rcases Nat.lt_or_ge i es.size with h | h
        · have e : es.size - i = (es.size - (i + 1)) + 1 := by omega
          rw [e, List.range'_succ] at hr; exact nomatch hr
        · exact Nat.le_antisymm hi h
      refine wpAny_pure ?_
      rw [hin, ← hla, List.drop_length] at hpre
      cases hpre
      exact h'
theorem eq_dictsH {a b : Addr} {ka kb : List (K × Addr × Value)} {r : Bool} {Q : Value → Shared → Prop} (hk : knd.room A.in1) (ha : (a == sysModules) = false) (hb : (b == sysModules) = false)
    (da : s.heap.DictOfH knd a ka) (db : s.heap.DictOfH knd b kb) (hu : A.units < cLine) (hits : ka.length = kb.length → HitsH A.in1 s kb ka r) (h : Q (.bool (ka.length == kb.length && r)) s) :
    wpAny (model prog w) A (compareOp .Eq (.ref a) (.ref b)) Q E s := by
  refine wpAny_richCompare_same_room (op := .Eq) da.typeIs db.typeIs PySem.F.slot_dict_eq (wpAny_call_entry PySem.F.slot_dict_eq da.typeIs PySem.F.entry_dict_eq ?_ (PySem.F.args_dict_eq_2 _ _)) hu
  show wpAny _ _ (Builtin.Dict.dictSlotArgs "__eq__" ⟨[.ref a, .ref b], []⟩ >>= _) _ _ s
  refine wpAny_bind ?_
  unfold Builtin.Dict.dictSlotArgs
  refine wpAny_bind (wpAny_notOrdered_dict da.typeIs ?_)
  show wpAny _ _ (pure (Value.ref a, Value.ref b)) _ _ s
  refine wpAny_pure ?_
  refine wpAny_bind (wpAny_isInstance (T := "dict") db.typeIs PySem.F.sub_dict_dict ?_)
  simp only [Bool.not_true, Bool.false_eq_true, if_false]
  refine wpAny_bind (wpAny_pure (wpAny_bind (wpAny_pure ?_)))
  refine wpAny_bind (samePairsH hk ha hb da db hits ?_)
  refine wpAny_pure ⟨_, rfl, ?_, ?_⟩
  · exact fun x => nomatch x
  · simpa using h
theorem ne_dictsH {a b : Addr} {ka kb : List (K × Addr × Value)} {r : Bool} {Q : Value → Shared → Prop} (hk : knd.room A.in1) (ha : (a == sysModules) = false) (hb : (b == sysModules) = false)
    (da : s.heap.DictOfH knd a ka) (db : s.heap.DictOfH knd b kb) (hu : A.units < cLine) (hits : ka.length = kb.length → HitsH A.in1 s kb ka r) (h : Q (.bool (!(ka.length == kb.length && r))) s) :
    wpAny (model prog w) A (compareOp .NotEq (.ref a) (.ref b)) Q E s := by
  refine wpAny_richCompare_same_room (op := .NotEq) da.typeIs db.typeIs PySem.F.slot_dict_ne (wpAny_call_entry PySem.F.slot_dict_ne da.typeIs PySem.F.entry_dict_ne ?_ (PySem.F.args_dict_ne_2 _ _)) hu
  show wpAny _ _ (Builtin.Dict.dictSlotArgs "__ne__" ⟨[.ref a, .ref b], []⟩ >>= _) _ _ s
  refine wpAny_bind ?_
  unfold Builtin.Dict.dictSlotArgs
  refine wpAny_bind (wpAny_notOrdered_dict da.typeIs ?_)
  show wpAny _ _ (pure (Value.ref a, Value.ref b)) _ _ s
  refine wpAny_pure ?_
  refine wpAny_bind (wpAny_isInstance (T := "dict") db.typeIs PySem.F.sub_dict_dict ?_)
  simp only [Bool.not_true, Bool.false_eq_true, if_false]
  refine wpAny_bind (wpAny_pure (wpAny_bind (wpAny_pure ?_)))
  refine wpAny_bind (samePairsH hk ha hb da db hits ?_)
  refine wpAny_pure ⟨_, rfl, ?_, ?_⟩
  · exact fun x => nomatch x
  · simpa using h
end
end HI

namespace HI
open PySem PySem.Spec PyProof.Rows L2
/-! ### == of dict cells whose keys are tuples, over data -/
inductive HitV (K : PySem.W.Frag) (H : Hp) (kb : List (List Key × V)) : List (List Key × V) → Bool → Prop
  | nil : HitV K H kb [] true
  | miss {k : List Key} {v : V} {r : List (List Key × V)} : valV kb k = none → HitV K H kb ((k, v) :: r) false
  | hit {k : List Key} {v y : V} {d e : PyData} {r : List (List Key × V)} {q : Bool} : valV kb k = some y → L2.Dp K H v d → L2.Dp K H y e → d.canLay0 = true → e.canLay0 = true → d.depth ≤ 64 → HitV K H kb r q → HitV K H kb ((k, v) :: r) (PyData.eqv d e && q)
section
variable {X : Cx} {k : Nat}
theorem hits_of {pins : List (Addr × Obj)} {σ : L2.St} {H : Hp} {s : Shared} {A : Around} (I : Inv X pins σ H s) (hu : A.units + 64 < cLine) {kb : List (List Key × V)} {ys : List (List Key × Addr × Value)} (rb : KT H kb ys) : ∀ {l : List (List Key × V)} {m : List (List Key × Addr × Value)} {q : Bool}, HitV X.K H kb l q → KT H l m → HitsH A s ys m q := by
  intro l m q h
  induction h generalizing m with
  | nil => intro r; cases r; exact .nil
  | @miss k v r hn =>
    intro z
    cases z with
    | @cons _ x _ t hx ht =>
      obtain ⟨h1, _, h2⟩ := hx
      obtain ⟨x1, x2, x3⟩ := x
      dsimp only at h1
      subst h1
      have hv := rb.val k
      rw [hn] at hv
      refine .miss ?_
      cases ha : atKey ys k with
      | none => rfl
      | some p => rw [ha] at hv; exact hv.elim
  | @hit k v y d e r q hy hd he ld le lt hr ih =>
    intro z
    cases z with
    | @cons _ x _ t hx ht =>
      obtain ⟨h1, _, h2⟩ := hx
      obtain ⟨x1, x2, x3⟩ := x
      dsimp only at h1
      subst h1
      have hv := rb.val k
      rw [hy] at hv
      cases ha : atKey ys k with
      | none => rw [ha] at hv; exact hv.elim
      | some p =>
        rw [ha] at hv
        obtain ⟨c, y'⟩ := p
        have ry : RelV y y' := hv
        obtain ⟨as, r1⟩ := L2.Dp.reads I d v _ hd h2
        obtain ⟨bs, r2⟩ := L2.Dp.reads I e y _ he ry
        exact .hit ha (SeqAt.eqAt_reads d e A s _ _ as bs r1 r2 ld le (by have : min d.depth e.depth ≤ d.depth := Nat.min_le_left _ _; omega)) (ih ht)
abbrev rEqT (K : PySem.W.Frag) (n : Bool) : R2 := fun x y H Q => ∃ (a b : Addr) (ka kb : List (List Key × V)) (q : Bool), x = .ref a ∧ y = .ref b ∧ Rd H a (.dT ka) ∧ Rd H b (.dT kb) ∧ HitV K H kb ka q ∧ Q (.bl (cond n (!(ka.length == kb.length && q)) (ka.length == kb.length && q))) H
theorem KT_len {H : Hp} {l : List (List Key × V)} {m : List (List Key × Addr × Value)} (h : KT H l m) : l.length = m.length := by
  induction h with
  | nil => rfl
  | cons _ _ ih => rw [List.length_cons, List.length_cons, ih]
theorem opT (hr : Room k X.A) {a b : Addr} {ka kb : List (List Key × V)} {q : Bool} {pins : List (Addr × Obj)} {s : Shared} {σ : L2.St} {H : Hp} (I : Inv X pins σ H s) (ha : Rd H a (.dT ka)) (hb : Rd H b (.dT kb)) (hq : HitV X.K H kb ka q) :
    ∃ xs ys : List (List Key × Addr × Value), (a == sysModules) = false ∧ (b == sysModules) = false ∧ s.heap.DictOfH (tupleKind (mixKind X.prog X.w)) a xs ∧ s.heap.DictOfH (tupleKind (mixKind X.prog X.w)) b ys ∧ X.A.in1.units < cLine ∧ X.A.units < cLine ∧ HitsH X.A.in1 s ys xs q ∧ ka.length = xs.length ∧ kb.length = ys.length := by
  obtain ⟨_, ya, xs, ra, da⟩ := dt_rd I.hok ha
  obtain ⟨_, yb, ys, rb, db⟩ := dt_rd I.hok hb
  have hun := hr.un
  have h0 : X.A.in1.units = X.A.units + 1 := rfl
  have h1 : X.A.in1.units + 64 < cLine := by omega
  exact ⟨xs, ys, ya, yb, da, db, by omega, by omega, hits_of I h1 rb hq ra, KT_len ra, KT_len rb⟩
theorem op_eqT (hr : Room k X.A) : OpR X (compareOp .Eq) (rEqT X.K false) := by
  intro pins s σ H x y v u Q I rx ry h
  obtain ⟨a, b, ka, kb, q, rfl, rfl, ha, hb, hq, hQ⟩ := h
  obtain rfl : v = Value.ref a := rx
  obtain rfl : u = Value.ref b := ry
  obtain ⟨xs, ys, h1, h2, h3, h4, h5, h6, h7, h8, h9⟩ := opT hr I ha hb hq
  refine eq_dictsH (knd := tupleKind (mixKind X.prog X.w)) h5 h1 h2 h3 h4 h6 (fun _ => h7) ?_
  refine ⟨.bl _, H, I, rfl, ?_⟩
  rw [← h8, ← h9]
  exact hQ
theorem op_neT (hr : Room k X.A) : OpR X (compareOp .NotEq) (rEqT X.K true) := by
  intro pins s σ H x y v u Q I rx ry h
  obtain ⟨a, b, ka, kb, q, rfl, rfl, ha, hb, hq, hQ⟩ := h
  obtain rfl : v = Value.ref a := rx
  obtain rfl : u = Value.ref b := ry
  obtain ⟨xs, ys, h1, h2, h3, h4, h5, h6, h7, h8, h9⟩ := opT hr I ha hb hq
  refine ne_dictsH (knd := tupleKind (mixKind X.prog X.w)) h5 h1 h2 h3 h4 h6 (fun _ => h7) ?_
  refine ⟨.bl _, H, I, rfl, ?_⟩
  rw [← h8, ← h9]
  exact hQ
theorem look_val {M : Mem} {d v : D} : ∀ {ys : List (D × D)}, okVals M ys = true → look ys d = some v → okF 58 M v = true
  | [], _, h => by cases h
  | (k', v') :: r, h, e => by
    rw [okVals] at h
    cases h1 : okF 58 M v' with
    | false => rw [h1] at h; cases h
    | true =>
      rw [h1] at h
      rw [look] at e
      cases h2 : kEq k' d with
      | true => rw [h2] at e; cases e; exact h1
      | false => rw [h2] at e; exact look_val h e
theorem hitV_of {w : Wd} (o : WOk (gx X) w) {kb : List (List Key × V)} {yb : List (D × D)} (b1 : yb.map (fun p => tkD p.1) = kb.map (fun q => some q.1)) (b2 : DpA X.K w.C w.P (kb.map (·.2)) (yb.map (·.2))) (b3 : okVals w.M yb = true) :
    ∀ {ka : List (List Key × V)} {xs : List (D × D)}, xs.map (fun p => tkD p.1) = ka.map (fun q => some q.1) → DpA X.K w.C w.P (ka.map (·.2)) (xs.map (·.2)) → okVals w.M xs = true → HitV X.K w.H kb ka (dEq.go w.M yb xs)
  | [], [], _, _, _ => .nil
  | [], _ :: _, h, _, _ => by cases h
  | _ :: _, [], h, _, _ => by cases h
  | (k', v) :: ka, (d, e) :: xs, h, z, g => by
    rw [List.map_cons, List.map_cons] at h
    injection h with h1 h2
    dsimp only at h1
    rw [okVals] at g
    cases g1 : okF 58 w.M e with
    | false => rw [g1] at g; cases g
    | true =>
      rw [g1] at g
      cases z with
      | cons z1 z2 =>
        have ih := hitV_of o b1 b2 b3 h2 z2 g
        rw [dEq.go]
        rcases look_T b1 b2 h1 with ⟨l1, l2⟩ | ⟨u, c, l1, l2, l3⟩
        · rw [l2]
          exact .miss l1
        · rw [l2]
          have g2 := look_val b3 l2
          obtain ⟨m1, m2, m3⟩ := okF_dp o 58 _ _ z1 g1
          obtain ⟨n1, n2, n3⟩ := okF_dp o 58 _ _ l3 g2
          show HitV X.K w.H kb ((k', v) :: ka) (eqF 58 w.M e c && dEq.go w.M yb xs)
          rw [eqF_py 58 w.M e c g1 g2]
          exact .hit l1 m1 n1 m2 n2 (Nat.le_trans m3 (by decide)) ih
theorem ddQ_run {w : Wd} (o : WOk (gx X) w) {x y : V} {dx dy : D} (zx : Dp X.K w.C w.P x dx) (zy : Dp X.K w.C w.P y dy) {q : Bool → Prop} (h : ddQ w.M dx dy q) :
    ∃ (a b : Addr) (ka kb : List (List Key × V)) (r : Bool), x = .ref a ∧ y = .ref b ∧ Rd w.H a (.dT ka) ∧ Rd w.H b (.dT kb) ∧ HitV X.K w.H kb ka r ∧ q (ka.length == kb.length && r) := by
  unfold ddQ at h
  obtain ⟨t, xs, e1, h⟩ := dctQ_e h
  obtain ⟨u, ys, e2, h⟩ := dctQ_e h
  obtain ⟨ht, h⟩ := okQ_e h
  obtain ⟨hu, h⟩ := okQ_e h
  obtain ⟨h1, h⟩ := okQ_e h
  obtain ⟨h2, hq⟩ := okQ_e h
  subst ht
  subst hu
  obtain ⟨a, ha, rfl, a1, a2⟩ := see_dct o zx e1
  obtain ⟨b, hb, rfl, b1, b2⟩ := see_dct o zy e2
  generalize ea : unl ha = ua at a2
  generalize eb : unl hb = ub at b2
  cases a2 with
  | dT a3 a4 a5 =>
    cases b2 with
    | dT b3 b4 b5 =>
      rename_i ka kb
      refine ⟨a, b, ka, kb, _, rfl, rfl, rd_unl a1 ea, rd_unl b1 eb, hitV_of o b3 b5 h2 a3 a5 h1, ?_⟩
      have l1 : ka.length = xs.length := by have := congrArg List.length a3; rw [List.length_map, List.length_map] at this; exact this.symm
      have l2 : kb.length = ys.length := by have := congrArg List.length b3; rw [List.length_map, List.length_map] at this; exact this.symm
      rw [l1, l2]
      have e : Nat.beq xs.length ys.length = (xs.length == ys.length) := by rw [Bool.eq_iff_iff, Nat.beq_eq, beq_iff_eq]
      rw [← e]
      exact hq
theorem op_eqDD (hr : Room k X.A) : OpL X (compareOp .Eq) eqDD := by
  refine ⟨_, op_eqT hr, fun w x y dx dy Qd Q o zx zy h kk => ?_⟩
  obtain ⟨a, b, ka, kb, r, h1, h2, h3, h4, h5, h6⟩ := ddQ_run o zx zy h
  exact ⟨a, b, ka, kb, r, h1, h2, h3, h4, h5, kk _ _ w h6 (.refl o) (.bl _)⟩
theorem op_neDD (hr : Room k X.A) : OpL X (compareOp .NotEq) neDD := by
  refine ⟨_, op_neT hr, fun w x y dx dy Qd Q o zx zy h kk => ?_⟩
  obtain ⟨a, b, ka, kb, r, h1, h2, h3, h4, h5, h6⟩ := ddQ_run o zx zy h
  exact ⟨a, b, ka, kb, r, h1, h2, h3, h4, h5, kk _ _ w h6 (.refl o) (.bl _)⟩
end
end HI

namespace HI
open PySem PySem.Spec PyProof.Rows L2
/-! ### the law itself, run at the caller alone (there it is known that no repr is under way) -/
/-- what a def gives at one surrounding A -/
def RunAt (P : Program) (w : World) (K : PySem.W.Frag) (mg : Str → Option Value) (base : Heap) (A : Around) (outer : List Env) (f : Addr) (fd : FuncData) (ps : List Str) (sp : Sp) : Prop :=
  ∀ (s : Shared) (H : Hp) (args : Args) (us : List Value) (vs : List V) (Q : VK) (E : XK), Env0 P w K mg base A outer s H → BindsTo s fd args (ps.zip us) → Vals vs us → sp vs H Q E → codeAny (model P w) A (.call (.ref f) args) (CR CX0 outer P w H s Q E) s
theorem run_at {P : Program} {w : World} {K : PySem.W.Frag} {mg : Str → Option Value} {base : Heap} {A : Around} {outer : List Env} {x qual : Str} {st : Stmt} {f : Addr} {fd : FuncData} {N ps : List Str} {k : Nat} {sp : Sp} (F : Fun K x qual st f fd) (S : FnScope N ps (defScope st)) (hr : Room (k + 1) A)
    (len : ∀ vs H Q E, sp vs H Q E → vs.length = ps.length)
    (body : ∀ (cdv : Value) (s : Shared) (H : Hp) (vs : List V) (Q : VK) (E : XK), Room k (A.deeper (envOfC qual (defScope st) s.heap.objs.size f cdv)) → sp vs H Q E →
      ∃ t, PSs (cxOf CX0 P w K mg base N qual (defScope st) f cdv A outer s H E).nox (defBody st) t ∧ t { nx := fun _ H' => Q .non H', rt := Q } (start N vs) H) : RunAt P w K mg base A outer f fd ps sp := by
  intro s H args us vs Q E e0 hb r hs
  obtain ⟨oc, od, kV, doc, pm, an, cdv, ct, osl, rfl, lk, hcd⟩ := F.ex
  have up := fun b o e => (e0.bs b o e).1
  have KX : K.In s.heap := e0.mod.kin.keeps up
  have lim : s.heap.NoLimit := e0.mod.nolimit.keeps up
  refine codeAny_call_function hr.depth (KX _ _ lk) rfl S.co S.gen rfl (PySem.W.codeRec_of KX hcd) (hb _ _ _ _ ?_)
  refine wpAny_newFunctionEnv_cells S.kind (fun y hy => ?_) fun env he s1 z => ?_
  · have hy' : (y.1, y.2) ∈ ps.zip us := hy
    exact (S.par y.1 (List.of_mem_zip hy').1).imp id fun q => ⟨q, PySem.W.cellsFrom_some _ _ _ (.inl q)⟩
  subst he
  refine ⟨lim.keeps z.toInCall.keep, codeAny_func ?_⟩
  obtain ⟨t, ht, hq⟩ := body cdv s H vs Q E (hr.deeper _) hs
  have I := inv_start (CX := CX0) (E := E) S hr.hd e0 (len _ _ _ _ hs) r z
  refine wpAny_mono (ht.nox.run [] s1 (start N vs) H _ I hq) (fun fl s' g => ?_) fun e s' g => g
  cases fl with
  | ret u => exact let ⟨v, _, H', J, rv, q⟩ := g; ⟨v, H', J.os, J.bare, J.base, J.hok, rv, q⟩
  | next => exact let ⟨_, H', J, q⟩ := g; ⟨.non, H', J.os, J.bare, J.base, J.hok, rfl, q⟩
  | brk => exact let ⟨_, _, _, q⟩ := g; q.elim
  | cont => exact let ⟨_, _, _, q⟩ := g; q.elim
end HI

namespace HI
open PySem PySem.Spec PyProof.Rows L2
/-! ### the walk's end for a law that is run at the caller alone -/
section
variable {P : Program} {w : World} {K : PySem.W.Frag} {mg mb : Str → Option Value} {fa a : Addr} {fd : FuncData} {x : Str} {sp : Sp} {s₁ : Shared} {vs : List Value} {ns : List Int}
/-- from an abstract heap that tracks at most the script, frozen -/
theorem at_heap {H : Hp} (KX : K.In s₁.heap) (hns : s₁.heap.Ns mainGlobals mg) (hb : s₁.heap.Ns builtinsNs mb) (hbb : ∀ x : Str, x ≠ "__name__" → mb x = bootBuiltins x) (hlim : s₁.heap.NoLimit) (hg : s₁.gens = #[])
    (ha : s₁.heap.get? a = some { cls := .type "list", data := .seq vs.toArray }) (F : ∀ base : Heap, K.In base → base.Ns mainGlobals mg → RunAt P w K mg base callerA [] fa fd [x] sp) (hbind : ∀ (s : Shared) (u : Value), BindsTo s fd ⟨[u], []⟩ [(x, u)])
    (h1 : ∀ b u, H b = some u → b = a ∧ K.lookup a = none ∧ ∃ o xs, u = .frz o (.lst xs)) (h2 : HOk P w H s₁.heap) (h3 : sp [.ref a] H (fun v _ => v = .bl true) fun _ _ _ => False) :
    codeAny (model P w) callerA (.call (.ref fa) ⟨[.ref a], []⟩) (fun r s' => r = .ok (.ret (.bool true)) ∧ OldK s₁.heap s'.heap ∧ s'.os = s₁.os ∧ AllBare s'.gens) s₁ := by
  have free : ∀ {b : Addr} {o : Obj}, s₁.heap.get? b = some o → (b = a → K.lookup a = none → False) → H b = none := fun {b o} e n => by
    cases q : H b with
    | none => rfl
    | some u => exact (n (h1 b u q).1 (h1 b u q).2.1).elim
  have ns : ∀ {b : Addr} {m : Str → Option Value}, s₁.heap.Ns b m → (hidT s₁.heap H).Ns b m := fun {b m} ⟨o, es, ep, e, d, r⟩ => ⟨o, es, ep, hidT_get e (free e fun z _ => by
    subst z
    rw [ha] at e
    cases e
    have d' : Data.seq vs.toArray _ = Data.dict es ep := d
    cases d'), d, r⟩
  have kin : K.In (hidT s₁.heap H) := fun b o e => hidT_get (KX b o e) (free (KX b o e) fun z n => by rw [z, n] at e; cases e)
  obtain ⟨mc, l1, l2⟩ := hlim
  have e0 : Env0 P w K mg (hidT s₁.heap H) callerA [] s₁ H :=
    ⟨rfl, ⟨kin, ns hns, ⟨mb, ns hb, hbb⟩, ⟨mc, ns l1, l2⟩⟩, fun b o e => of_hidT e, Nat.le_of_eq (hidT_size _ _), trivial, fun b hb => absurd (show b ∈ ([] : List Addr) from hb) (by simp), h2, .of_eq hg⟩
  refine codeAny_mono (F _ kin (ns hns) s₁ H ⟨[.ref a], []⟩ [.ref a] [.ref a] _ _ e0 (hbind s₁ (.ref a)) (.cons rfl .nil) h3) fun r s' h => ?_
  match r, h with
  | .ok (.ret u), h =>
    obtain ⟨v, H', os, bare, un, ok, rv, q⟩ := h
    have q' : v = .bl true := q
    subst q'
    obtain rfl : u = Value.bool true := rv
    refine ⟨rfl, OldK.of_keep fun b o e => ?_, os, bare⟩
    cases q : H b with
    | none => exact un.keep b o e q (by intro z; exact absurd (show b ∈ ([] : List Addr) from z) (by simp)) (by simp)
    | some u =>
      obtain ⟨_, _, ob, xs, rfl⟩ := h1 b u q
      obtain ⟨e1, _⟩ := h2 b _ q
      obtain ⟨e2, _⟩ := ok b _ (un.frzs b ob _ q)
      rw [e] at e1
      cases e1
      exact e2
theorem at_call (KX : K.In s₁.heap) (hns : s₁.heap.Ns mainGlobals mg) (hb : s₁.heap.Ns builtinsNs mb) (hbb : ∀ x : Str, x ≠ "__name__" → mb x = bootBuiltins x) (hlim : s₁.heap.NoLimit) (hg : s₁.gens = #[])
    (ha : s₁.heap.get? a = some { cls := .type "list", data := .seq vs.toArray }) (hi : IntsAre vs ns) (hl : ns.length ≤ sizeLine) (F : ∀ base : Heap, K.In base → base.Ns mainGlobals mg → RunAt P w K mg base callerA [] fa fd [x] sp) (hbind : ∀ (s : Shared) (u : Value), BindsTo s fd ⟨[u], []⟩ [(x, u)])
    (hsp : ∀ H : Hp, SqL K H a (ns.map V.int) → sp [.ref a] H (fun v _ => v = .bl true) fun _ _ _ => False) :
    codeAny (model P w) callerA (.call (.ref fa) ⟨[.ref a], []⟩) (fun r s' => r = .ok (.ret (.bool true)) ∧ OldK s₁.heap s'.heap ∧ s'.os = s₁.os ∧ AllBare s'.gens) s₁ := by
  have rv := vals_ints hi
  cases hk : K.lookup a with
  | some o =>
    have e := KX a o hk
    rw [ha] at e
    cases e
    have nn : ∀ b u, (fun _ => none : Hp) b = some u → False := fun b u z => by
      have z' : (none : Option HO) = some u := z
      cases z'
    exact at_heap KX hns hb hbb hlim hg ha F hbind (H := fun _ => none) (fun b u z => (nn b u z).elim) (fun b u z => (nn b u z).elim) (hsp _ (.inr ⟨_, vs.toArray, _, hk, rfl, rfl, rfl, by rw [List.size_toArray, hi.length]; exact hl, by simpa using rv⟩))
  | none =>
    have at_a : ∀ b u, (fun b => if b = a then some (HO.frz { cls := .type "list", data := .seq vs.toArray } (.lst (ns.map V.int))) else none : Hp) b = some u → b = a ∧ u = .frz { cls := .type "list", data := .seq vs.toArray } (.lst (ns.map V.int)) := fun b u z => by
      by_cases e : b = a
      · have z' := (if_pos e).symm.trans z
        cases z'
        exact ⟨e, rfl⟩
      · have z' := (if_neg e).symm.trans z
        cases z'
    refine at_heap KX hns hb hbb hlim hg ha F hbind (H := fun b => if b = a then some (.frz { cls := .type "list", data := .seq vs.toArray } (.lst (ns.map V.int))) else none) (fun b u z => ?_) (fun b u z => ?_) (hsp _ (.inl (.inr ⟨{ cls := .type "list", data := .seq vs.toArray }, if_pos rfl⟩)))
    · obtain ⟨e1, e2⟩ := at_a b u z
      exact ⟨e1, hk, _, _, e2⟩
    · obtain ⟨e1, e2⟩ := at_a b u z
      subst e1
      subst e2
      exact ⟨ha, by rw [List.length_map]; exact hl, vs, _, rv, ha⟩
end
theorem law_walk_at {l : PySem.W.OpenLaw} {n : Nat} {q : Program} {loose : List Str} {XP : (Str → Option Value) → Heap → Prop} {YP : World → Heap → Prop} {d : DefRec} {K : Params → PySem.W.Frag} {x : Str}
    (hn : l.most = some n) (hn2 : n ≤ sizeLine) (h63 : n ≤ 63) (hdf : d.params.defaults = []) (hY : ∀ (w : World) (h : Heap), YP w h → (K w.params).In h)
    (F : ∀ (w : World) (mg : Str → Option Value) (fa : Addr) (h : Heap), (K w.params).In h → h.Ns mainGlobals mg → mg d.name = some (.ref fa) →
      ∃ fd : FuncData, (∀ (s : Shared) (u : Value), BindsTo s fd ⟨[u], []⟩ [(x, u)]) ∧ ∀ base : Heap, (K w.params).In base → base.Ns mainGlobals mg → RunAt l.prog w (K w.params) mg base callerA [] fa fd [x] (spLaw (K w.params))) :
    PySem.W.WalkO q loose XP YP l.row.toRowW d [] (fun f vs => PySem.call f vs) := by
  refine Att.attach_call hn hdf fun w s₀ s₁ mg mb fa o pm cd doc a vs ns G Y ho hd hcd hmg hobj hints hlen hg => ?_
  have KX := hY w _ Y
  obtain ⟨fd, hb, hF⟩ := F w mg fa _ KX G.T.g hmg
  exact at_call KX G.T.g G.T.b G.T.builtins G.T.nolimit hg hobj hints (Nat.le_trans hlen hn2) hF hb fun H hS => ⟨a, ns, rfl, hS, Nat.le_trans hlen h63, fun _ => rfl⟩
end HI

namespace HI
open PySem PySem.Spec PyProof.Rows L2
/-! ### y = {.. for ..} on one line, y a local -/
theorem sw_trueD {kx vx : Expr} {gs : List Comprehension} {scope : Scope} {pos py : Pos} {y : Str} {l : Nat} {env : Env} (hk : env.scope.kind = .function) (hy : env.scope.names.lookup y = some .local) (hl : (py.line == pos.line) = true)
    (ha : (scope.names.any fun (n, k) => n == y && (k == .local || k == .cell)) = false) : swapsWith (.DictComp kx vx gs scope pos) (some (.Name y py)) l env = pure true := by
  have hb : env.blockKind = .function := by unfold Env.blockKind; rw [hk]; rfl
  have ky : env.kindOf y = some .local := hy
  unfold swapsWith
  simp only [hb, ky, ha, Expr.pos, hl]
  rfl
section
variable {X : Cx} {tg kx vx iter : Expr} {ifs : List Expr} {scope : Scope} {own : List (Str × Nat)} {g : TG} {tt : TT} {tk tv : TE} {wi : TI} {pos : Pos} {o0 : HO}
theorem ps_setDcG {i : Nat} {y : Str} {py spos : Pos} (U : DcIn X tg kx vx iter ifs scope own g tt tk tv) (e0 : o0 = .dK [] ∨ o0 = .dT []) (hu : X.A.units + 1 < cLine) (hi : PI X tg iter wi) (hy : X.N[i]? = some y) (hyl : X.env.scope.names.lookup y = some .local)
    (hsw : swapsWith (.DictComp kx vx [⟨tg, iter, ifs, 0⟩] scope pos) (some (.Name y py)) spos.line X.env = pure true) : PS X (.Assign [.Name y py] (.DictComp kx vx [⟨tg, iter, ifs, 0⟩] scope pos) spos) (tAsg (tDcG o0 wi g tt tk tv (own.map (·.2))) (gName i)) := by
  refine ⟨fun pins s σ H D J h => ?_⟩
  rw [exec_Assign_Name_used _ _ _ _ hsw]
  refine wpAny_bind (wpAny_standAt (wpAny_bind ?_))
  show wpAny _ X.A (do let _ ← comprehension (.DictComp kx vx [⟨tg, iter, ifs, 0⟩] scope pos) scope X.env (firstIterPos [⟨tg, iter, ifs, 0⟩] pos) newDict false (eval iter X.env) (some (assign (.Name y py) X.env))) _ _ s
  have h : tDcG o0 wi g tt tk tv (own.map (·.2)) σ H (fun x H1 => gName i x σ H1 D.nx) := h
  refine wpAny_bind (thn (dc_run0 (Qf := fun _ s' => SP X pins D .next s') U e0 hu J hi h fun L C s' m H' J' q hn f => ?_) fun _ s' hq => wpAny_pure (wpAny_pure hq))
  show wpAny _ _ (assign (.Name y py) X.env (.ref L)) _ _ _
  refine wpAny_assign_Name (store_ok2 (v := V.ref L) J' U.nd hy (.inl hyl) rfl (fun s2 J2 ⟨a, sb, ha⟩ => ?_) (.inr hyl))
  obtain ⟨f0, f1, f2, f3, f4, f5⟩ := f
  have ne : C ≠ a := ha.elim (fun z => by rw [z]; exact f1) fun z e => f4 y a z e.symm
  exact ⟨m, hn.sameBut sb ne, fun h3 sb3 => ⟨_, H', J2.turned (t' := s2.toks) (fun b o hb e => (sb3.2 b hb).trans e) f0 f1 f3 f4 f5, q⟩⟩
end
end HI

namespace HI
open PySem PySem.Spec PyProof.Rows L2
theorem bt_repr : bootBuiltins "repr" = some (.builtin "repr") := by decide +kernel
/-! ### y = {.. for ..}, y a shared dict -/
theorem lift_cell {G : Gx} {f : EV} {σ : L2.St} {H : Hp} {Q : VK} (h : lift G true (eCell f) σ H Q) : lift G true f σ H Q := by
  obtain ⟨w, δ, Qd, e, R, hf, k⟩ := h
  subst e
  refine ⟨w, δ, _, rfl, R, hf, fun r v w1 q g z => ?_⟩
  obtain ⟨d, rfl, q⟩ := newQ_e q
  obtain ⟨l, rfl, h1, h2, h3, h4⟩ := z
  refine k _ _ ⟨w1.C ++ [l], w1.M ++ [d], w1.P, w1.H⟩ q (g.cellify h1 h2 h3 (cont_cell h4)) (Dp.cell ?_)
  show (w1.C ++ [l])[w1.M.length]? = some l
  rw [← g.ok.len, List.getElem?_append_right (Nat.le_refl _), Nat.sub_self]
  rfl
section
variable {X : Cx} {kx vx c tg iter elt : Expr} {scope : Scope} {own : List (Str × Nat)} {pos spos py : Pos} {fi : IV} {t : Tg} {ft : TV} {fk fv fe : EV} {k : Nat} {y : Str}
theorem q_asgDcC {i : Nat} {kd : Bool} (hr : Room k X.A) (hN : X.N.Nodup) (hi : QI X true tg iter fi) (ok : BlkOk X.N X.env.scope scope own) (hg : ∀ (s : Shared) (H : Hp) (C : Addr) (cl : List (Str × Addr)) (fp : List Addr), QG (X.blk s H scope (compEnvC scope cl C X.env) fp) tg t)
    (hk : ∀ (s : Shared) (H : Hp) (C : Addr) (cl : List (Str × Addr)) (fp : List Addr), QE (X.blk s H scope (compEnvC scope cl C X.env) fp) true kx fk) (hv : ∀ (s : Shared) (H : Hp) (C : Addr) (cl : List (Str × Addr)) (fp : List Addr), QE (X.blk s H scope (compEnvC scope cl C X.env) fp) true vx fv)
    (hsw : swapsWith (.DictComp kx vx [⟨tg, iter, [], 0⟩] scope pos) (some (.Name y py)) spos.line X.env = pure true) (hix : ∀ i ∈ t.ix, i ∈ own.map (·.2) := by decide) (hc : X.calm = true := by rfl)
    (hy : X.N[i]? = some y := by rfl) (hyl : X.env.scope.names.lookup y = some .local := by rfl) (hs : ∀ x, foldedSetIterable iter X.env x = pure x := by intro _; rfl) :
    QS X true (.Assign [.Name y py] (.DictComp kx vx [⟨tg, iter, [], 0⟩] scope pos) spos) (sAsg i (eCell (eDc kd fi t tTrue fk fv (own.map (·.2))))) :=
  qs_of (ps_setDcG ⟨hc, hN, ok, fun s H C cl fp => (hg s H C cl fp).pg, fun s H C cl fp => pts_nil, fun s H C cl fp => (hk s H C cl fp).pe, fun s H C cl fp => (hv s H C cl fp).pe, hs⟩ (hoOf_ok kd) (by have := hr.un; omega) hi.pi hy hyl hsw) fun w0 wc w σ δ Kd D S h k =>
    asg_run (fun σ H Q q => by obtain ⟨w, δ, Qd, e, R, h, k⟩ := lift_cell q; subst e; exact dc_run hix (fun _ _ _ q => lcY q) R h k) S h k
theorem q_asgLcC {i : Nat} (hN : X.N.Nodup) (hi : QI X true tg iter fi) (ok : BlkOk X.N X.env.scope scope own) (hg : ∀ (s : Shared) (H : Hp) (C : Addr) (cl : List (Str × Addr)) (fp : List Addr), QG (X.blk s H scope (compEnvC scope cl C X.env) fp) tg t)
    (he : ∀ (s : Shared) (H : Hp) (C : Addr) (cl : List (Str × Addr)) (fp : List Addr), QE (X.blk s H scope (compEnvC scope cl C X.env) fp) true elt fe) (hsw : swapsWith (.ListComp elt [⟨tg, iter, [], 0⟩] scope pos) (some (.Name y py)) spos.line X.env = pure true) (hix : ∀ i ∈ t.ix, i ∈ own.map (·.2) := by decide) (hc : X.calm = true := by rfl)
    (hy : X.N[i]? = some y := by rfl) (hyl : X.env.scope.names.lookup y = some .local := by rfl) (hs : ∀ x, foldedSetIterable iter X.env x = pure x := by intro _; rfl) :
    QS X true (.Assign [.Name y py] (.ListComp elt [⟨tg, iter, [], 0⟩] scope pos) spos) (sAsg i (eCell (eLc fi t tTrue fe (own.map (·.2))))) :=
  qs_of (ps_setLc hc hN hy hyl hsw hi.pi ok (fun s H C cl fp => (hg s H C cl fp).pg) (fun s H C cl fp => pts_nil) (fun s H C cl fp => (he s H C cl fp).pe) hs) fun w0 wc w σ δ Kd D S h k =>
    asg_run (fun σ H Q q => by obtain ⟨w, δ, Qd, e, R, h, k⟩ := lift_cell q; subst e; exact lc_run hix (fun _ _ _ q => lcY q) R h k) S h k
end
/-! ### o.clear(), o a dict cell -/
def rClrD : V → List V → Hp → VK → Prop := fun x vs H Q => ∃ a : Addr, x = .ref a ∧ vs = [] ∧ ((∃ kvs, H a = some (.dK kvs) ∧ Q .non (upd H a (.dK []))) ∨ ∃ kvs, H a = some (.dT kvs) ∧ Q .non (upd H a (.dT [])))
theorem mt_clrD {X : Cx} : MtR X "dict.clear" rClrD := by
  intro pins s σ H x vs v us Q I rx rv h
  obtain ⟨a, rfl, rfl, h⟩ := h
  obtain rfl : v = Value.ref a := rx
  have e := rv.zero
  subst e
  rcases h with ⟨kvs, e, q⟩ | ⟨kvs, e, q⟩
  · exact d_clear I e fun s' I' => ⟨.non, _, I', rfl, q⟩
  · obtain ⟨z, ha, xs, r, d⟩ := dt_of I.hok e
    refine clear_keyed (knd := tupleKind (mixKind X.prog X.w)) (kvs := pairsH xs) ⟨xs, d, rfl⟩ (fun h' d' hs => ?_) (by rw [pairsH_length, ← KT_len r]; exact z)
    obtain ⟨ys, ⟨o, es, ep, g1, g2, g3, g4, g5, g6⟩, ey⟩ := d'
    have hy : ys = [] := by
      cases ys with
      | nil => rfl
      | cons y ys => cases ey
    subst hy
    exact ⟨.non, _, d_write (ob := .dT []) (t' := s.toks) I (by rw [e]; exact True.intro) hs ⟨o, g1⟩ ⟨Nat.zero_le _, ha, [], .nil, o, es, ep, g1, g2, g3, g4, List.nodup_nil⟩, rfl, q⟩
section
variable {X : Cx} {o : Expr} {pos : Pos} {fo : EV}
theorem q_cClrD {apos cpos : Pos} (ho : QE X true o fo) (hbase : attributeBase o "clear" X.env (eval o X.env) = eval o X.env := by rfl) (hline : (apos.endLine == cpos.line) = true := by rfl) (hs : swapsWith (.Call (.Attribute o "clear" apos) [] [] cpos) none pos.line X.env = pure false := by rfl) :
    QS X true (.Expr (.Call (.Attribute o "clear" apos) [] [] cpos) pos) (sCClrD fo) :=
  qs_of (ps_expr (pe_bm0 PySem.F.plainAttrs_dict PySem.F.slot_dict_clear PySem.F.type_dict_clear mt_clrD ho.pe hbase hline) hs) fun w0 wc w σ δ Kd D S q k => by
    dsimp only [tDrop, tBM0]
    refine lift_d S.rep (fun d M1 => cellQ d fun n => someQ M1[n]? fun c => dctQ c fun t _ => Kd.nx δ (M1.set n (.dct t []))) q fun d v w1 q1 g1 z1 => ?_
    obtain ⟨n, rfl, q1⟩ := cellQ_e q1
    obtain ⟨c, e1, q1⟩ := someQ_e q1
    obtain ⟨t, kvs, e2, q2⟩ := dctQ_e q1
    subst e2
    obtain ⟨a, rfl, ha⟩ := z1.cell'
    obtain ⟨_, ob, h1, h2⟩ := g1.ok.cell n a _ ha e1
    have S1 := S.mono g1
    cases h2 with
    | dK a1 a2 a3 =>
      refine ⟨.inr (.inr (.inl ⟨rfl, .inl ⟨_, h1⟩⟩)), a, rfl, rfl, .inl ⟨_, h1, ?_⟩⟩
      exact k.nx δ σ ⟨w1.C, w1.M.set n _, w1.P, _⟩ q2 (S1.mono (Gr.setCell g1.ok ha (cell_nown g1.ok ha) ⟨_, upd_same, HoD.dK (kvs := []) (kds := []) rfl (fun _ h => by cases h) .nil⟩))
    | dT a1 a2 a3 =>
      refine ⟨.inr (.inr (.inl ⟨rfl, .inr ⟨_, h1⟩⟩)), a, rfl, rfl, .inr ⟨_, h1, ?_⟩⟩
      exact k.nx δ σ ⟨w1.C, w1.M.set n _, w1.P, _⟩ q2 (S1.mono (Gr.setCell g1.ok ha (cell_nown g1.ok ha) ⟨_, upd_same, HoD.dT (kvs := []) (kds := []) rfl (fun _ h => by cases h) .nil⟩))
end
end HI

namespace HI
open PySem PySem.Spec PyProof.Rows L2
section
variable {X : Cx} {rw : Bool} {a : Expr} {f : EV}
theorem q_tW (ha : QE X rw a f) (he : ∀ whole, isTrue a X.env whole = (do let v ← whole; standAt a.pos; holding [v] (truthy v)) := by intro _; rfl) : QT X rw a (tEW f) :=
  qt_of (pt_truth ha.pe he) fun w σ δ Qd Q R h k =>
    lift_d R (fun d M => someQ (tru M d) fun c => Qd c M) h fun d v w' q g z => by
      obtain ⟨c, q1, q2⟩ := someQ_e q
      exact ⟨c, tru_V g.ok z q1, k c w' q2 g⟩
end
end HI

namespace HI
open PySem PySem.Spec PyProof.Rows L2
/-! ### the draws of the second family of laws -/
abbrev draw2M (K : PySem.W.Frag) : TS := setc 3 (tOp rModI (tInt (tOp rAddI (tOp rAddI (tOp rMulI (ixc K 3) (tC (.int 40127))) (tOp rModI (tInt (tVar 2)) (tC (.int 2147483497)))) (ixc K 1))) (tC (.int 2147483549)))
abbrev draw2C : TS := setc 2 (tIf (tTest (tOp rGeI (tVar 2) (tOp rPowI (tC (.int 10)) (tC (.int 18))))) (tVar 2) (tC (.int 0)))
abbrev draw2R (K : PySem.W.Frag) : TS := tRet (tOp rModI (tInt (tOp rAddI (tOp rDivI (ixc K 3) (tC (.int 53))) (tOp rMulI (tOp rModI (tInt (ixc K 3)) (tC (.int 6151))) (tC (.int 97))))) (tVar 1))
abbrev draw2F (K : PySem.W.Frag) : TS := tSeq (setc 3 (tOp rModI (tInt (tOp rAddI (tOp rAddI (tOp rMulI (tVar 4) (tVar 4)) (tOp rMulI (tVar 4) (tC (.int 30103)))) (tC (.int 70501)))) (tC (.int 2147483549)))) (draw2R K)
abbrev draw2E (K : PySem.W.Frag) : TS := tSeq (tIfS (tTest (tOp rGtI (ixc K 2) (tC (.int 1))))
    (tSeq (tAsg (tOp rModI (tInt (ixc K 2)) (tVar 1)) (gName 3))
    (tSeq (setc 2 (tOp rDivI (tInt (ixc K 2)) (tVar 1)))
      (tRet (tVar 3))))
    tNext)
  (tSeq (tAsg (tOp rModI (tInt (tOp rAddI (ixc K 3) (tOp rMulI (ixc K 4) (tC (.int 9967))))) (tC (.int 2147483549))) (gName 4))
    (draw2F K))
abbrev draw2T (K : PySem.W.Frag) : TS :=
  tSeq (setc 4 (tOp rAddI (ixc K 4) (tC (.int 1))))
  (tSeq (tIfS (tAnd (tTest (tOp rLtI (ixc K 2) (tC (.int 2)))) (tTest (tOp rLtI (ixc K 1) (tCB (rLenQ K) (tCons (ixc K 0) tNil)))))
    (tSeq (tAsg (tOp (rIxL K) (ixc K 0) (ixc K 1)) (gName 2))
    (tSeq (setc 1 (tOp rAddI (ixc K 1) (tC (.int 1))))
    (tSeq (draw2M K) draw2C)))
    tNext)
  (draw2E K))
theorem draw2_read {G : Gx} {K : PySem.W.Frag} (eK : G.K = K) {H : Hp} {vs : List V} {Q : VK} {E : XK} (h : SpD G false 2 drawS vs H Q E) : draw2T K { nx := fun _ H' => Q .non H', rt := Q } (L2.start ["", "", "", "", ""] vs) H := by
  obtain ⟨w, ds, Qd, e0, ok, z, _, hd, k⟩ := h
  subst e0
  obtain ⟨i, n, c, rfl, hm, n0, n1, hq⟩ := drawS_e hd
  obtain ⟨v, v2, rfl, zb, zn⟩ := z.two'
  cases zn.int'
  obtain ⟨b, rfl, hC⟩ := zb.cell'
  obtain ⟨hP, cells, t, r, m, d, hc, hb, t0, r0, m0, m1⟩ := ok.cell i b _ hC hm
  have hc' : w.H c = some (.lst (cells.map V.int)) := ok.ex.lst hc
  have ncb : c ≠ b := fun z => by rw [z, hP] at hc; cases hc
  have up : ∀ {H' : Hp} {t' r' m' d' : Int} (kk : Int), H' = upd w.H b (.lst (bagL c t' r' m' d')) → (0 ≤ t' ∧ 0 ≤ r' ∧ 0 ≤ m' ∧ m' < 2147483648) → 0 ≤ kk → kk < n → Q (.int kk) H' := fun kk hH hh k0 k1 =>
    k _ _ ⟨w.C, w.M, w.P, _⟩ (hq kk k0 k1) (bag_up ok hC hm hH hh) (.int kk)
  have hcH : ∀ xs : List V, (upd w.H b (.lst xs)) c = some (.lst (cells.map V.int)) := fun xs => by rw [upd_ne ncb]; exact hc'
  have md : ∀ x : Int, 0 ≤ x % 2147483549 ∧ x % 2147483549 < 2147483648 := fun x => ⟨Int.emod_nonneg _ (by decide), Int.lt_trans (Int.emod_lt_of_pos _ (by decide)) (by decide)⟩
  have rd : ∀ {t r m d : Int} (i : Nat) (v : V), (bagL c t r m d)[i]? = some v → atI (bagL c t r m d) (i : Int) = some v := fun i v h => atI_nat h
  -- the end of the body, from a state of the bag
  have last : ∀ (t r m d : Int) (y2 y3 : Option V), 0 ≤ t → 0 ≤ r → 0 ≤ m → m < 2147483648 →
      draw2E K { nx := fun _ H' => Q .non H', rt := Q } [some (.ref b), some (.int n), y2, y3, none] (upd w.H b (.lst (bagL c t r m d))) := by
    intro t r m d y2 y3 t0 r0 m0 m1
    refine ⟨_, rfl, b, bagL c t r m d, 2, .int r, rfl, rfl, .inl (.inl upd_same), rd 2 _ rfl, r, 1, rfl, rfl, _, rfl, ite2 (fun h1 => ?_) (fun h1 => ?_)⟩
    · refine ⟨_, rfl, b, bagL c t r m d, 2, .int r, rfl, rfl, .inl (.inl upd_same), rd 2 _ rfl, .inl ⟨r, rfl, _, rfl, r, n, rfl, rfl, n0, ?_⟩⟩
      refine ⟨_, rfl, b, bagL c t r m d, 2, .int r, rfl, rfl, .inl (.inl upd_same), rd 2 _ rfl, .inl ⟨r, rfl, _, rfl, r, n, rfl, rfl, div_wide n0 n1 r, ?_⟩⟩
      refine ⟨_, rfl, b, bagL c t r m d, 2, 2, rfl, rfl, upd_same, rfl, ?_⟩
      refine ⟨.int (r % n), rfl, ?_⟩
      rw [upd_upd]
      exact up (t' := t) (r' := r / n) (m' := m) (d' := d) _ rfl ⟨t0, Int.ediv_nonneg r0 (by omega), m0, m1⟩ (Int.emod_nonneg _ (by omega)) (Int.emod_lt_of_pos _ n0)
    · refine ⟨_, rfl, b, bagL c t r m d, 3, .int m, rfl, rfl, .inl (.inl upd_same), rd 3 _ rfl, ?_⟩
      refine ⟨_, rfl, b, bagL c t r m d, 4, .int d, rfl, rfl, .inl (.inl upd_same), rd 4 _ rfl, d, 9967, rfl, rfl, mulR _ _ (by decide), _, _, rfl, rfl, .inl ⟨_, rfl, _, _, rfl, rfl, by show (0 : Int) < 2147483549; decide, ?_⟩⟩
      obtain ⟨s0, s1⟩ := md (m + d * 9967)
      suffices h : ∀ s : Int, 0 ≤ s → s < 2147483648 → draw2F K { nx := fun _ H' => Q .non H', rt := Q } [some (.ref b), some (.int n), y2, y3, some (.int s)] (upd w.H b (.lst (bagL c t r m d))) from h _ s0 s1
      clear s0 s1
      intro s s0 s1
      refine ⟨.int s, rfl, .int s, rfl, s, s, rfl, rfl, mulR _ _ ⟨by omega, by omega⟩, .int s, rfl, s, 30103, rfl, rfl, mulR _ _ (by decide), _, _, rfl, rfl, _, _, rfl, rfl, .inl ⟨_, rfl, _, _, rfl, rfl, by show (0 : Int) < 2147483549; decide, ?_⟩⟩
      refine ⟨_, rfl, b, bagL c t r m d, 3, 3, rfl, rfl, upd_same, rfl, ?_⟩
      rw [upd_upd]
      obtain ⟨a1, a2⟩ := md (s * s + s * 30103 + 70501)
      suffices h : ∀ m2 : Int, 0 ≤ m2 → m2 < 2147483648 → draw2R K { nx := fun _ H' => Q .non H', rt := Q } [some (.ref b), some (.int n), y2, y3, some (.int s)] (upd w.H b (.lst (bagL c t r m2 d))) from h _ a1 a2
      clear a1 a2
      intro m2 a1 a2
      refine ⟨_, rfl, b, bagL c t r m2 d, 3, .int m2, rfl, rfl, .inl (.inl upd_same), rd 3 _ rfl, m2, 53, rfl, rfl, div_wide (by decide) (by decide) m2, ?_⟩
      refine ⟨_, rfl, b, bagL c t r m2 d, 3, .int m2, rfl, rfl, .inl (.inl upd_same), rd 3 _ rfl, .inl ⟨m2, rfl, m2, 6151, rfl, rfl, by show (0 : Int) < 6151; decide, _, 97, rfl, rfl, mulR _ _ (by decide), _, _, rfl, rfl, .inl ⟨_, rfl, .int n, rfl, _, n, rfl, rfl, n0, ?_⟩⟩⟩
      exact up (t' := t) (r' := r) (m' := m2) (d' := d) _ rfl ⟨t0, r0, a1, a2⟩ (Int.emod_nonneg _ (by omega)) (Int.emod_lt_of_pos _ n0)
  have hb : w.H b = some (.lst (bagL c t r m d)) := hb
  refine ⟨_, rfl, b, bagL c t r m d, 4, .int d, rfl, rfl, .inl (.inl hb), rd 4 _ rfl, d, 1, rfl, rfl, ?_⟩
  refine ⟨_, rfl, b, bagL c t r m d, 4, 4, rfl, rfl, hb, rfl, ?_⟩
  show (tSeq _ _ : TS) _ [some (.ref b), some (.int n), none, none, none] (upd w.H b (.lst (bagL c t r m (d + 1))))
  generalize d + 1 = d
  refine ⟨_, rfl, b, bagL c t r m d, 2, .int r, rfl, rfl, .inl (.inl upd_same), rd 2 _ rfl, r, 2, rfl, rfl, _, rfl, ite2 (fun h1 => ?_) (fun h1 => ?_)⟩
  · refine ⟨_, rfl, b, bagL c t r m d, 1, .int t, rfl, rfl, .inl (.inl upd_same), rd 1 _ rfl, ?_⟩
    refine ⟨_, rfl, b, bagL c t r m d, 0, .ref c, rfl, rfl, .inl (.inl upd_same), rd 0 _ rfl, c, cells.map V.int, rfl, .inl (.inl (.inl (hcH _))), t, _, rfl, rfl, _, rfl, ite2 (fun h2 => ?_) (fun h2 => last t r m d none none t0 r0 m0 m1)⟩
    have h2 : t < ((cells.map V.int).length : Int) := of_decide_eq_true h2
    rw [List.length_map] at h2
    obtain ⟨cell, hcell⟩ : ∃ x, cells[t.toNat]? = some x := ⟨_, List.getElem?_eq_getElem (by omega)⟩
    have hat : atI (cells.map V.int) t = some (.int cell) := by
      have e1 : t = ((t.toNat : Nat) : Int) := by omega
      rw [e1]
      exact atI_nat (by rw [List.getElem?_map, hcell]; rfl)
    refine ⟨_, rfl, b, bagL c t r m d, 0, .ref c, rfl, rfl, .inl (.inl upd_same), rd 0 _ rfl, ?_⟩
    refine ⟨_, rfl, b, bagL c t r m d, 1, .int t, rfl, rfl, .inl (.inl upd_same), rd 1 _ rfl, c, cells.map V.int, t, .int cell, rfl, rfl, .inl (.inl (hcH _)), hat, ?_⟩
    refine ⟨_, rfl, b, bagL c t r m d, 1, .int t, rfl, rfl, .inl (.inl upd_same), rd 1 _ rfl, t, 1, rfl, rfl, ?_⟩
    refine ⟨_, rfl, b, bagL c t r m d, 1, 1, rfl, rfl, upd_same, rfl, ?_⟩
    rw [upd_upd]
    show (tSeq _ _ : TS) _ [some (.ref b), some (.int n), some (.int cell), none, none] (upd w.H b (.lst (bagL c (t + 1) r m d)))
    have t1 : 0 ≤ t + 1 := by omega
    generalize t + 1 = t at t1
    refine ⟨_, rfl, b, bagL c t r m d, 3, .int m, rfl, rfl, .inl (.inl upd_same), rd 3 _ rfl, m, 40127, rfl, rfl, mulR _ _ (by decide), .int cell, rfl, .inl ⟨cell, rfl, cell, 2147483497, rfl, rfl, by show (0 : Int) < 2147483497; decide, _, _, rfl, rfl, ?_⟩⟩
    refine ⟨_, rfl, b, bagL c t r m d, 1, .int t, rfl, rfl, .inl (.inl upd_same), rd 1 _ rfl, _, _, rfl, rfl, .inl ⟨_, rfl, _, _, rfl, rfl, by show (0 : Int) < 2147483549; decide, ?_⟩⟩
    refine ⟨_, rfl, b, bagL c t r m d, 3, 3, rfl, rfl, upd_same, rfl, ?_⟩
    rw [upd_upd]
    obtain ⟨a1, a2⟩ := md (m * 40127 + cell % 2147483497 + t)
    suffices h : ∀ m : Int, 0 ≤ m → m < 2147483648 → draw2C { nx := draw2E K { nx := fun _ H' => Q .non H', rt := Q }, rt := Q } [some (.ref b), some (.int n), some (.int cell), none, none] (upd w.H b (.lst (bagL c t r m d))) from h _ a1 a2
    clear a1 a2
    intro m a1 a2
    refine ⟨.int cell, rfl, 10, 18, rfl, rfl, ⟨by decide, by decide, by decide⟩, cell, _, rfl, rfl, _, rfl, ite2 (fun h3 => ?_) (fun h3 => ?_)⟩
    · have h3 : ((10 : Int) ^ (18 : Int).toNat) ≤ cell := of_decide_eq_true h3
      have h4 : (0 : Int) ≤ (10 : Int) ^ (18 : Int).toNat := by decide
      refine ⟨.int cell, rfl, .ref b, rfl, b, bagL c t r m d, 2, 2, rfl, rfl, upd_same, rfl, ?_⟩
      rw [upd_upd]
      exact last t cell m d (some (.int cell)) none t1 (by omega) a1 a2
    · refine ⟨.ref b, rfl, b, bagL c t r m d, 2, 2, rfl, rfl, upd_same, rfl, ?_⟩
      rw [upd_upd]
      exact last t 0 m d (some (.int cell)) none t1 (by decide) a1 a2
  · exact last t r m d none none t0 r0 m0 m1
end HI

namespace HI
open PySem PySem.Spec PyProof.Rows L2
/-! ### the source of draws of the second family -/
/-- slots: script, cells, mix, cell -/
abbrev begT (K : PySem.W.Frag) : TS :=
  tSeq (tAsg (tLc (iList K (bagF K)) (gName 3) tYes (tInt (tVar 3)) [3]) (gName 1))
  (tSeq (tAsg (tOp rAddI (tC (.int 1202803)) (tOp rMulI (tC (.int 97)) (tCB (rLenQ K) (tCons (tVar 1) tNil)))) (gName 2))
  (tSeq (tFor (iList K (tVar 1)) (gName 3) (tAsg (tOp rModI (tInt (tOp rAddI (tOp rMulI (tVar 2) (tC (.int 5851))) (tVar 3))) (tC (.int 2147483549))) (gName 2)))
    (tRet (tLst (tCons (tVar 1) (tCons (tC (.int 0)) (tCons (tC (.int 0)) (tCons (tVar 2) (tCons (tC (.int 0)) tNil)))))))))
theorem beg_read {K : PySem.W.Frag} {H : Hp} {vs : List V} {Q : VK} {E : XK} (h : spBag K vs H Q E) : begT K { nx := fun _ H' => Q .non H', rt := Q } (L2.start ["", "", "", ""] vs) H := by
  obtain ⟨a, ns, rfl, hS, hl, q⟩ := h
  obtain ⟨ms, hms⟩ := cutV_int ns none (some 63)
  have hml : ms.length ≤ 63 := by
    have e := congrArg List.length hms
    rw [List.length_map] at e
    rw [← e]
    unfold cutV
    simp only [List.length_take, List.length_drop, List.length_map]
    omega
  have md : ∀ x : Int, 0 ≤ x % 2147483549 ∧ x % 2147483549 < 2147483629 := fun x => ⟨Int.emod_nonneg _ (by decide), Int.lt_trans (Int.emod_lt_of_pos _ (by decide)) (by decide)⟩
  refine ⟨.ref a, rfl, 63, rfl, a, ns.map V.int, rfl, hS, fun p hp => ?_⟩
  have s1 : Same H (upd H p (.lst (cutV (ns.map V.int) none (some 63)))) := same_new hp
  have hp1 : (upd H p (.lst (cutV (ns.map V.int) none (some 63)))) p = some (.lst (ms.map V.int)) := by rw [upd_same, hms]
  generalize upd H p (.lst (cutV (ns.map V.int) none (some 63))) = H1 at s1 hp1
  refine ⟨p, rfl, ⟨_, .inl (.inl hp1)⟩, fun D hD => ?_⟩
  have npD : p ≠ D := fun z => by rw [z, hD] at hp1; cases hp1
  refine lc_list (K := K) (a := p) (xs := ms.map V.int) (fun i H' => H' = upd H1 D (.lst ((ms.take i).map V.int))) rfl (fun i H' _ e => ?_) (fun i x H' hx e => ?_) fun H' e => ?_
  · rw [e]
    exact .inl (.inl (by rw [upd_ne npD]; exact hp1))
  · subst e
    obtain ⟨u, hu, rfl⟩ : ∃ u, ms[i]? = some u ∧ x = V.int u := by
      rw [List.getElem?_map] at hx
      cases e : ms[i]? with
      | none => rw [e] at hx; cases hx
      | some u => rw [e] at hx; exact ⟨u, rfl, (Option.some.inj hx).symm⟩
    refine ⟨rfl, ?_⟩
    unfold tYes
    dsimp only
    refine iteT ?_
    refine ⟨.int u, rfl, .inl ⟨u, rfl, _, upd_same, ?_, ?_⟩⟩
    · rw [List.length_map, List.length_take]
      exact Nat.lt_of_le_of_lt (Nat.le_trans (Nat.min_le_right _ _) hml) (by decide)
    · rw [upd_upd, List.take_add_one, hu, List.map_append]
      rfl
  · rw [List.length_map, List.take_length] at e
    subst e
    have s2 : Same H1 (upd H1 D (.lst (ms.map V.int))) := same_new hD
    have hD2 : (upd H1 D (.lst (ms.map V.int))) D = some (.lst (ms.map V.int)) := upd_same
    generalize upd H1 D (.lst (ms.map V.int)) = H2 at s2 hD2
    refine ⟨.ref D, rfl, D, ms.map V.int, rfl, .inl (.inl (.inl hD2)), 97, _, rfl, rfl, mulR _ _ ⟨?_, ?_⟩, 1202803, _, rfl, rfl, ?_⟩
    · rw [List.length_map]; omega
    · rw [List.length_map]; omega
    rw [List.length_map]
    have h0 : (0 : Int) ≤ 1202803 + 97 * (ms.length : Int) ∧ 1202803 + 97 * (ms.length : Int) < 2147483629 := by omega
    refine ⟨.ref D, rfl, D, rfl, ⟨_, .inl (.inl hD2)⟩, for_list (K := K) (a := D) (xs := ms.map V.int) (fun i σ H' => ∃ (m : Int) (y : Option V), σ = [some (.ref a), some (.ref D), some (.int m), y] ∧ H' = H2 ∧ 0 ≤ m ∧ m < 2147483629) ⟨_, none, rfl, rfl, h0.1, h0.2⟩ (fun i σ H' _ ⟨_, _, _, e, _⟩ => by rw [e]; exact .inl (.inl hD2)) ?_ ?_⟩
    · rintro i x σ H' hx ⟨m, y, rfl, rfl, m0, m1⟩
      obtain ⟨u, rfl⟩ : ∃ u, x = V.int u := by
        rw [List.getElem?_map] at hx
        cases e : ms[i]? with
        | none => rw [e] at hx; cases hx
        | some u => rw [e] at hx; exact ⟨u, (Option.some.inj hx).symm⟩
      refine ⟨.int m, rfl, m, 5851, rfl, rfl, mulR _ _ (by decide), .int u, rfl, _, u, rfl, rfl, .inl ⟨_, rfl, _, _, rfl, rfl, by show (0 : Int) < 2147483549; decide, ?_⟩⟩
      obtain ⟨a1, a2⟩ := md (m * 5851 + u)
      exact ⟨_, some (.int u), rfl, rfl, a1, a2⟩
    · rintro σ H' ⟨m, y, rfl, rfl, m0, m1⟩
      refine ⟨.ref D, rfl, .int m, rfl, by show 5 ≤ sizeLine; decide, fun b hb => ?_⟩
      have s4 : Same H' (upd H' b (.lst (bagL D 0 0 m 0))) := same_new hb
      exact q b D _ ms m ((s1.trans s2).trans s4) (s4 _ _ hD2) upd_same m0 m1
end HI

namespace HI
open PySem PySem.Spec PyProof.Rows L2
/-! ### a text as a new key of a dict whose keys are tuples -/
section
variable {prog : Program} {w : World} {K : Type} [DecidableEq K] {knd : HeapKind prog w K} {A : Around} {E : Value → Shared → Prop} {s : Shared}
theorem find_text {d : Addr} {o : Obj} {es : Array DictEntry} {ep : Nat} {xs : List (K × Addr × Value)} {x : Str} {t : Tok} {h : Int} {Q : Option Nat → Shared → Prop} (ho : s.heap.get? d = some o) (hd : o.data = .dict es ep) (he : es.toList = xs.map (entryOfKey knd))
    (his : ∀ y ∈ xs, knd.is s.heap y.1 y.2.1) (hne : ∀ y ∈ xs, ∀ q : Bool → Shared → Prop, q false s → wpAny (model prog w) A (eqBool (.ref y.2.1) (.str x t)) q E s) (q : Q none s) : wpAny (model prog w) A (dictFind d (.str x t) h) Q E s := by
  unfold dictFind
  refine wpAny_holding ?_
  refine wpAny_bind (wpAny_dictEntries ho hd ?_)
  dsimp only
  have hmem : ∀ e ∈ es, ∃ y ∈ xs, e = entryOfKey knd y := fun e hin => by
    have : e ∈ xs.map (entryOfKey knd) := he ▸ Array.mem_toList_iff.mpr hin
    obtain ⟨y, hy, rfl⟩ := List.mem_map.mp this
    exact ⟨y, hy, rfl⟩
  have hat : ∀ i e, es[i]? = some e → ∃ y ∈ xs, e = entryOfKey knd y := fun i e hi => hmem e (Array.mem_of_getElem? hi)
  generalize hpl : placesWithHash es.size (fun i => Option.map (fun x => x.hash) es[i]?) h = places
  have hpi : ∀ i ∈ places, ∃ e, es[i]? = some e := fun i hi => by
    rw [← hpl] at hi
    obtain ⟨_, z⟩ := List.mem_filter.mp hi
    dsimp only at z
    cases e : es[i]? with
    | none => rw [e] at z; cases z
    | some c => exact ⟨c, rfl⟩
  generalize hst : List.filterMap (fun i => Option.map (fun x => x.key) es[i]?) places = stored
  have hsm : ∀ v ∈ stored, ∃ y ∈ xs, v = .ref y.2.1 := fun v hv => by
    rw [← hst] at hv
    obtain ⟨i, _, hi⟩ := List.mem_filterMap.mp hv
    cases e : es[i]? with
    | none => rw [e] at hi; cases hi
    | some c =>
      rw [e] at hi
      obtain ⟨y, hy, rfl⟩ := hat i c e
      exact ⟨y, hy, (Option.some.inj hi).symm⟩
  by_cases hall : (es.all fun e => isExactStrKey e.key) = true
  · rw [if_pos hall]
    have e0 : xs = [] := by
      cases xs with
      | nil => rfl
      | cons y r =>
        have hin : entryOfKey knd y ∈ es := Array.mem_toList_iff.mp (by rw [he]; exact List.mem_cons_self)
        have z := Array.all_eq_true_iff_forall_mem.mp hall _ hin
        cases z
    subst e0
    have e1 : es = #[] := Array.toList_eq_nil_iff.mp he
    subst e1
    unfold foundByValue
    have hz : (#[] : Array DictEntry).findIdx? (fun e => e.key.isStr x) = none := by simp
    rw [hz]
    exact wpAny_pure q
  rw [if_neg hall]
  by_cases hc : (Value.str x t :: stored).all carriedByValue = true
  · rw [if_pos hc]
    have e0 : places = [] := by
      cases places with
      | nil => rfl
      | cons i r =>
        obtain ⟨e, hi⟩ := hpi i List.mem_cons_self
        have hin : e.key ∈ stored := by rw [← hst]; exact List.mem_filterMap.mpr ⟨i, List.mem_cons_self, by rw [hi]; rfl⟩
        obtain ⟨y, _, ey⟩ := hsm _ hin
        have z := List.all_eq_true.mp hc _ (List.mem_cons_of_mem _ hin)
        rw [ey] at z
        cases z
    subst e0
    exact wpAny_pure q
  rw [if_neg hc]
  have hk : ¬ (stored == [Value.str x t]) = true := fun z => by
    have z := eq_of_beq z
    obtain ⟨y, _, ey⟩ := hsm (.str x t) (by rw [z]; exact List.mem_singleton.mpr rfl)
    cases ey
  rw [if_neg hk]
  refine wpAny_bind ?_
  have tell : ∀ R : Bool → Shared → Prop, R false s → wpAny (model prog w) A (tableMayTell (.str x t) stored) R E s := fun R hR => by
    unfold tableMayTell
    split
    · exact wpAny_pure hR
    · refine wpAny_bind (wpAny_pure ?_)
      simp only [Bool.not_true, Bool.false_eq_true, if_false]
      refine wpAny_bind ?_
      refine wpAny_forIn_list _ (fun rest r s' => s' = s ∧ r = (none, ()) ∧ ∀ v ∈ rest, ∃ y ∈ xs, v = .ref y.2.1) _ ?_ ?_ _ _ ⟨rfl, rfl, hsm⟩
      · rintro v rest r s' ⟨rfl, rfl, hr⟩
        obtain ⟨y, hy, rfl⟩ := hr v List.mem_cons_self
        refine wpAny_bind (knd.quiet (his y hy) ?_)
        simp only [Bool.not_true, Bool.false_eq_true, if_false]
        exact wpAny_pure ⟨rfl, rfl, fun v hv => hr v (List.mem_cons_of_mem _ hv)⟩
      · rintro r s' ⟨rfl, rfl, _⟩
        exact wpAny_pure hR
  refine tell _ ?_
  rw [if_neg (by simp)]
  refine wpAny_bind ?_
  refine wpAny_forIn_list _ (fun rest b s' => s' = s ∧ b = (none, none) ∧ ∀ i ∈ rest, i ∈ places) _ ?_ ?_ _ _ ⟨rfl, rfl, fun i hi => hi⟩
  · rintro i rest b s' ⟨rfl, rfl, hr⟩
    obtain ⟨e, hi⟩ := hpi i (hr i List.mem_cons_self)
    obtain ⟨y, hy, rfl⟩ := hat i e hi
    have more : ∀ j ∈ rest, j ∈ places := fun j hj => hr j (List.mem_cons_of_mem _ hj)
    rw [hi]
    dsimp only
    split
    · refine wpAny_bind (wpAny_dictEpoch ho hd ?_)
      refine wpAny_bind (hne y hy _ ?_)
      refine wpAny_bind (wpAny_dictEpoch ho hd ?_)
      rw [if_neg (by simp), if_neg Bool.false_ne_true]
      refine wpAny_bind (wpAny_rule ?_)
      rw [if_neg (by simp)]
      exact wpAny_pure ⟨rfl, rfl, more⟩
    · exact wpAny_pure ⟨rfl, rfl, more⟩
  · rintro b s' ⟨rfl, rfl, _⟩
    exact wpAny_pure q
end
end HI

namespace HI
open PySem PySem.Spec PyProof.Rows L2
open SeqAt MeetsSeq MeetsSeq2 MeetsSeq3
/-! ### != of lists whose items are the same: in one program and world -/
def MeetsIn (prog : Program) (w : World) (t : Sem Fin) (S : Around → (Result → Shared → Prop) → Shared → Prop) : Prop :=
  ∀ (A : Around) (R : Result → Shared → Prop) (s : Shared), S A R s → wpAny (model prog w) A.in1 t (fun fin s' => match fin with
    | .done f => R (.ok f) s'
    | .again c' => c'.quiet = true ∧ codeAny (model prog w) A c' R s') (fun e s' => R (.error e) s') s
/-- == of two values says yes, in this program and world -/
def SameAt (prog : Program) (w : World) (A : Around) (s : Shared) (x y : Value) : Prop :=
  ∀ (E : Value → Shared → Prop) (Q : Bool → Shared → Prop), Q true s → wpAny (model prog w) A (eqBool x y) Q E s
section
variable {prog : Program} {w : World} {A : Around} {E : Value → Shared → Prop} {s : Shared}
theorem SameAt.of_rc {x y : Value} (h : ∀ (E : Value → Shared → Prop) (Q : Value → Shared → Prop), Q (.bool true) s → wpAny (model prog w) A (richCompare .Eq x y) Q E s) (hx : ∃ a, x = .ref a) (hy : ∃ a, y = .ref a) : SameAt prog w A s x y := fun E Q q => by
  obtain ⟨a, rfl⟩ := hx
  obtain ⟨b, rfl⟩ := hy
  unfold eqBool
  try with_reducible refine wpAny_holding ?_
  show wpAny _ _ (if (Value.ref a == Value.ref b) = true then _ else _) Q E s
  by_cases hab : (Value.ref a == Value.ref b) = true
  · rw [if_pos hab]
    exact wpAny_bind (wpAny_rule (wpAny_pure q))
  · rw [if_neg hab]
    exact wpAny_bind (h _ _ (wpAny_truthy_bool q))
abbrev LstIs (s : Shared) (l : Addr) (us : Array Value) (n : Nat) (dd : Option Addr) (sl : Array (Option Value)) : Prop := s.heap.get? l = some { cls := .type "list", dict := dd, data := .seq us n, slots := sl }
theorem ne_loopY (l b : Addr) (us vs : Array Value) (n n2 : Nat) (dd dd2 : Option Addr) (sl sl2 : Array (Option Value)) (hsz : us.size = vs.size) (k : Nat) :
    ∀ i : Nat, us.size - i = k → MeetsIn prog w (Builtin.«list.__eq__.loop» ⟨[.ref l, .ref b, rawInt i, rawInt 3], []⟩)
      (fun A R s => LstIs s l us n dd sl ∧ LstIs s b vs n2 dd2 sl2 ∧ (∀ j (h1 : j < us.size) (h2 : j < vs.size), SameAt prog w A.in1 s us[j] vs[j]) ∧ R (.ok (.ret (.bool false))) s) := by
  induction k with
  | zero =>
    intro i hk A R s h
    obtain ⟨hp, g, d, tk, os⟩ := s
    obtain ⟨hl, hb, he, h⟩ := h
    wp_walk using AutoSeq1.wpAny_loadPart' hl, AutoSeq1.wpAny_loadPart' hb
    have e1 : us[((i : Nat) : Int).toNat]? = none := by
      simp
      omega
    have e2 : vs[((i : Nat) : Int).toNat]? = none := by
      simp
      omega
    rw [e1, e2]
    wp_walk using AutoSeq1.wpAny_loadPart' hl, AutoSeq1.wpAny_loadPart' hb
    show R (.ok (.ret (.bool (us.size != vs.size)))) _
    rw [hsz]
    simpa using h
  | succ k ih =>
    intro i hk A R s h
    obtain ⟨hp, g, d, tk, os⟩ := s
    obtain ⟨hl, hb, he, h⟩ := h
    wp_walk using AutoSeq1.wpAny_loadPart' hl, AutoSeq1.wpAny_loadPart' hb
    have l1 : i < us.size := by omega
    have l2 : i < vs.size := by omega
    have e1 : us[((i : Nat) : Int).toNat]? = some us[i] := by simp [l1]
    have e2 : vs[((i : Nat) : Int).toNat]? = some vs[i] := by simp [l2]
    have e3 : ((i : Int) + 1) = ((i + 1 : Nat) : Int) := by
      push_cast
      rfl
    rw [e1, e2]
    refine wpAny_bind (he i l1 l2 _ _ ?_)
    wp_walk
    rw [e3]
    refine ⟨plainId_quiet plain_eq_loop _, codeAny_builtin entry_eq_loop ?_⟩
    rw [Around.under_plainId plain_eq_loop _]
    exact ih (i + 1) (by omega) A R _ ⟨hl, hb, he, h⟩
theorem list_neY (l b : Addr) (us vs : Array Value) (n n2 : Nat) (dd dd2 : Option Addr) (sl sl2 : Array (Option Value)) (hsz : us.size = vs.size) :
    MeetsIn prog w (Builtin.«list.__ne__» ⟨[.ref l, .ref b], []⟩)
      (fun A R s => LstIs s l us n dd sl ∧ LstIs s b vs n2 dd2 sl2 ∧ (∀ j (h1 : j < us.size) (h2 : j < vs.size), SameAt prog w A.in1 s us[j] vs[j]) ∧ R (.ok (.ret (.bool false))) s) := by
  intro A R s h
  obtain ⟨hp, g, d, tk, os⟩ := s
  obtain ⟨hl, hb, he, h⟩ := h
  have f3 := AutoSeq1.sub_list_list
  have hne : ¬ (us.size != vs.size) = true := by simp [hsz]
  wp_walk using AutoSeq1.wpAny_loadPart' hl, AutoSeq1.wpAny_loadPart' hb
  refine ⟨plainId_quiet plain_eq_loop _, codeAny_builtin entry_eq_loop ?_⟩
  rw [Around.under_plainId plain_eq_loop _]
  exact ne_loopY l b us vs n n2 dd dd2 sl sl2 hsz _ 0 rfl A R _ ⟨hl, hb, he, h⟩
theorem rc_neY {l b : Addr} {us vs : Array Value} {Q : Value → Shared → Prop} (hl : s.heap.IsList l us) (hb : s.heap.IsList b vs) (hsz : us.size = vs.size) (hu : A.units < cLine)
    (he : ∀ j (h1 : j < us.size) (h2 : j < vs.size), SameAt prog w A.in1 s us[j] vs[j]) (h : Q (.bool false) s) : wpAny (model prog w) A (richCompare .NotEq (.ref l) (.ref b)) Q E s := by
  obtain ⟨⟨cls, dd, data, sl⟩, ho, hc, n, hd⟩ := id hl
  obtain ⟨⟨cls2, dd2, data2, sl2⟩, ho2, hc2, n2, hd2⟩ := id hb
  simp only at hc hd hc2 hd2
  subst hc hd hc2 hd2
  have slot := F.slot_list_ne
  have hT : s.TypeIs (.ref l) "list" := ⟨_, ho, rfl⟩
  refine wpAny_richCompare_same_room (op := .NotEq) hT ⟨_, ho2, rfl⟩ slot (wpAny_call (codeAny_call_builtin slot.plain F.entry_list_ne (slot.check _ _ _ _ _ _ _ _ hT (F.args_list_ne_2 _ _) ?_))) hu
  exact list_neY l b us vs n n2 dd dd2 sl sl2 hsz A (wants (fun v s' => v ≠ .notImplemented ∧ Q v s') E) s ⟨ho, ho2, he, nofun, h⟩
end
end HI

namespace HI
open PySem PySem.Spec PyProof.Rows L2
/-! ### o[k] = e, o a dict cell with tuple keys, k a text: what the dict is then is not told -/
section
variable {prog : Program} {w : World} {K : Type} [DecidableEq K] {knd : HeapKind prog w K} {A : Around} {E : Value → Shared → Prop} {s : Shared}
theorem set_text {d : Addr} {xs : List (K × Addr × Value)} {x : Str} {t : Tok} {v : Value} {Q : Unit → Shared → Prop} (hm : s.heap.DictOfH knd d xs)
    (hne : ∀ (s' : Shared), s'.heap = s.heap → ∀ y ∈ xs, ∀ q : Bool → Shared → Prop, q false s' → wpAny (model prog w) A.in1 (eqBool (.ref y.2.1) (.str x t)) q E s')
    (hQ : ∀ h' t', (∃ q, h'.get? d = some q) → Heap.SameBut d s.heap h' → Q () { s with heap := h', toks := t' }) (hsz : xs.length ≤ sizeLine) : wpAny (model prog w) A (setItem (.ref d) (.str x t) v) Q E s := by
  obtain ⟨o, es, ep, ho, hc, hd, he, his, hn⟩ := id hm
  unfold setItem
  try with_reducible refine wpAny_holding ?_
  refine wpAny_bind (wpAny_sequenceKey hm.typeIs (by decide) ?_)
  refine wpAny_bind (wpAny_callSpecial?_slot (name := Str.ofString "__setitem__") hm.typeIs PySem.F.slot_dict_setitem (wpAny_call_entry PySem.F.slot_dict_setitem hm.typeIs PySem.F.entry_dict_setitem ?_ (PySem.F.args_dict_setitem_3 _ _ _)))
  show wpAny _ _ (Builtin.Dict.notOrdered "__setitem__" ⟨[.ref d, .str x t, v], []⟩ >>= _) _ _ s
  refine wpAny_bind (wpAny_notOrdered_dict hm.typeIs ?_)
  show wpAny _ _ (dictSet d (.str x t) v >>= _) _ _ s
  refine wpAny_bind ?_
  unfold dictSet
  try with_reducible refine wpAny_holding ?_
  refine wpAny_bind (wpAny_pyHash_str ?_)
  unfold dictSetHashed
  try with_reducible refine wpAny_holding ?_
  refine wpAny_bind (find_text (s := { s with toks := s.toks + 1 }) ho hd he his (hne { s with toks := s.toks + 1 } rfl) ?_)
  refine wpAny_bind (wpAny_rule (wpAny_updateDictKeys (hz := by have e := size_of_entries he; omega) (s := { s with toks := s.toks + 1 }) ho hd ?_))
  exact wpAny_pure ⟨.none, rfl, wpAny_pure (hQ _ _ ⟨_, Heap.get?_update_self _ ho (Obj.isFreed_of_dict (Obj.data_mapDictKeys hd _))⟩ (Heap.SameBut.update ..))⟩
end
def opqH (a : Addr) : HO := .ext fun h => ∃ o, h.get? a = some o
section
variable {X : Cx} {k : Nat}
def MPut (H : Hp) (a : Addr) (y : V) (H' : Hp) : Prop := ∃ (kvs : List (List Key × V)) (cs : List Nat), H a = some (.dT kvs) ∧ y = .str (tx cs) ∧ H' = upd H a (opqH a)
theorem m_setItem {H H' : Hp} {pins : List (Addr × Obj)} {σ : L2.St} {s : Shared} {a : Addr} {y : V} {u r : Value} {E : Value → Shared → Prop} {Q : Unit → Shared → Prop} (hr : Room k X.A) (I : Inv X pins σ H s) (g : MPut H a y H') (ry : RelV y u) (h : ∀ s', Inv X pins σ H' s' → Q () s') :
    wpAny (model X.prog X.w) X.A (setItem (.ref a) u r) Q E s := by
  obtain ⟨kvs, cs, e, ey, eH⟩ := g
  subst ey eH
  obtain ⟨t, rfl⟩ : ∃ t, u = Value.str (tx cs) t := ry
  obtain ⟨z, hd, xs, rel, dd⟩ := dt_of I.hok e
  have hz : xs.length ≤ sizeLine := by rw [← Paired.length rel]; exact z
  have hun := hr.un
  have h1 : X.A.in1.units < cLine := by
    have h0 : X.A.in1.units = X.A.units + 1 := rfl
    omega
  refine set_text dd (fun s' es y hy q hq => ?_) (fun h' t' ht hs => h _ ?_) hz
  · obtain ⟨o, es', ep, g1, g2, g3, g4, g5, g6⟩ := dd
    obtain ⟨o2, items, n, k1, k2, k3, k4⟩ := g5 y hy
    rw [← es] at k1
    exact SeqAt.EqAt.tuple_str (A := X.A.in1) (s := s') (items := items) (tx cs) t ⟨o2, k1, k2, n, k3⟩ h1 _ _ _ _ hq
  · exact d_write (ob := opqH a) I (by rw [e]; exact True.intro) hs ht ⟨ht, ht, fun h1 h2 q1 q2 => by obtain ⟨o, e1⟩ := q1; exact ⟨o, q2 o e1⟩⟩
def sMPut (td ty tv : L2.TE) : L2.TS := fun D σ H => tv σ H fun v H1 => td σ H1 fun x H2 => ty σ H2 fun y H3 => ∃ (a : Addr) (H' : Hp), x = .ref a ∧ MPut H3 a y H' ∧ D.nx σ H'
theorem ps_mput {o i value : Expr} {pos pos' : Pos} {td ty tv : L2.TE} (hr : Room k X.A) (ho : PE X o td) (hi : PE X i ty) (hv : PE X value tv) (hs : swapsWith value (some (.Subscript o i pos')) pos.line X.env = pure false) :
    PS X (.Assign [.Subscript o i pos'] value pos) (sMPut td ty tv) := by
  refine ⟨fun pins s σ H D I h => ?_⟩
  refine wpAny_Assign_Subscript (thn (hv.run pins s σ H _ I h) fun r s1 ⟨v, H1, I1, rv, q1⟩ => thn (ho.run pins s1 σ H1 _ I1 q1) fun u s2 ⟨x, H2, I2, rx, q2⟩ => thn (hi.run pins s2 σ H2 _ I2 q2) fun iv s3 ⟨y, H3, I3, ry, a, H4, ex, g, q3⟩ => ?_) hs
  subst ex
  obtain rfl : u = Value.ref a := rx
  exact m_setItem hr I3 g ry fun s4 I4 => ⟨σ, H4, I4, q3⟩
def sCMix (fo fi fv : EV) : SV := fun K δ M => fv δ M fun r M1 => fo δ M1 fun o M2 => fi δ M2 fun i M3 => cellQ o.d fun n => someQ M3[n]? fun c => dctQ c fun t _ => okQ t (strQ i.d fun _ => K.nx δ (M3.set n .opq))
theorem q_cMix {o i e : Expr} {pos pos' : Pos} {fo fi fv : EV} (hr : Room k X.A) (ho : QE X true o fo) (hi : QE X true i fi) (hv : QE X true e fv) (hs : swapsWith e (some (.Subscript o i pos')) pos.line X.env = pure false := by rfl) : QS X true (.Assign [.Subscript o i pos'] e pos) (sCMix fo fi fv) :=
  qs_of (ps_mput hr ho.pe hi.pe hv.pe hs) fun w0 wc w σ δ Kd D S q k => by
    refine lift_d S.rep (fun d M1 => fo δ M1 fun o M2 => fi δ M2 fun i M3 => cellQ o.d fun n => someQ M3[n]? fun c => dctQ c fun t _ => okQ t (strQ i.d fun _ => Kd.nx δ (M3.set n .opq))) q fun dv v w1 q1 g1 z1 => ?_
    have S1 := S.mono g1
    refine lift_d S1.rep (fun od M2 => fi δ M2 fun i M3 => cellQ od fun n => someQ M3[n]? fun c => dctQ c fun t _ => okQ t (strQ i.d fun _ => Kd.nx δ (M3.set n .opq))) q1 fun od ov w2 q2 g2 z2 => ?_
    have S2 := S1.mono g2
    refine lift_d S2.rep (fun id M3 => cellQ od fun n => someQ M3[n]? fun c => dctQ c fun t _ => okQ t (strQ id fun _ => Kd.nx δ (M3.set n .opq))) q2 fun id iv w3 q3 g3 z3 => ?_
    have S3 := S2.mono g3
    obtain ⟨n, rfl, q3⟩ := cellQ_e q3
    obtain ⟨c, e1, q4⟩ := someQ_e q3
    obtain ⟨t, kvs, e2, q5⟩ := dctQ_e q4
    subst e2
    obtain ⟨q6, q7⟩ := okQ_e q5
    subst q6
    obtain ⟨cs, rfl, q8⟩ := strQ_e q7
    obtain ⟨a, rfl, ha⟩ := (g3.dp z2).cell'
    obtain ⟨_, ho, h1, h2⟩ := S3.gr.ok.cell n a _ ha e1
    cases h2 with
    | dT a1 a2 a3 =>
      refine ⟨a, _, rfl, ⟨_, cs, h1, z3.str'.1, rfl⟩, ?_⟩
      have g4 := Gr.setCell (o' := opqH a) (d' := .opq) S3.gr.ok ha (cell_nown S3.gr.ok ha) ⟨_, upd_same⟩
      exact k.nx δ σ ⟨w3.C, w3.M.set n _, w3.P, _⟩ q8 (S3.mono g4)
end
end HI

namespace HI
open PySem PySem.Spec PyProof.Rows L2
/-! ### != of lists of dict cells that are the same, over data -/
section
variable {X : Cx} {k : Nat}
def SamT (K : PySem.W.Frag) (H : Hp) (x y : V) : Prop := ∃ (a b : Addr) (ka kb : List (List Key × V)) (q : Bool), x = .ref a ∧ y = .ref b ∧ Rd H a (.dT ka) ∧ Rd H b (.dT kb) ∧ HitV K H kb ka q ∧ (ka.length == kb.length && q) = true
inductive SamA (K : PySem.W.Frag) (H : Hp) : List V → List V → Prop
  | nil : SamA K H [] []
  | cons {x y : V} {xs ys : List V} : SamT K H x y → SamA K H xs ys → SamA K H (x :: xs) (y :: ys)
abbrev rNeL (K : PySem.W.Frag) : R2 := fun x y H Q => ∃ (a b : Addr) (us vs : List V), x = .ref a ∧ y = .ref b ∧ Rd H a (.lst us) ∧ Rd H b (.lst vs) ∧ SamA K H us vs ∧ Q (.bl false) H
theorem lst_rd {pins : List (Addr × Obj)} {σ : L2.St} {H : Hp} {s : Shared} (I : Inv X pins σ H s) {a : Addr} {us : List V} (h : Rd H a (.lst us)) : ∃ its : List Value, Vals us its ∧ s.heap.IsList a its.toArray := by
  obtain ⟨_, its, n, r, e⟩ := (show ObjOk X.prog X.w H s.heap a (.lst us) from h.ok I.hok)
  exact ⟨its, r, _, e, rfl, n, rfl⟩
theorem sam_at (hr : Room k X.A) {pins : List (Addr × Obj)} {σ : L2.St} {H : Hp} {s : Shared} (I : Inv X pins σ H s) {x y : V} {v u : Value} (h : SamT X.K H x y) (rx : RelV x v) (ry : RelV y u) : SameAt X.prog X.w X.A.in1 s v u := by
  obtain ⟨a, b, ka, kb, q, rfl, rfl, ha, hb, hq, hl⟩ := h
  obtain rfl : v = Value.ref a := rx
  obtain rfl : u = Value.ref b := ry
  obtain ⟨_, ya, xs, ra, da⟩ := dt_rd I.hok ha
  obtain ⟨_, yb, ys, rb, db⟩ := dt_rd I.hok hb
  have hun := hr.un
  have h0 : X.A.in1.in1.units = X.A.units + 1 + 1 := rfl
  have h9 : X.A.in1.units = X.A.units + 1 := rfl
  have h1 : X.A.in1.in1.units + 64 < cLine := by omega
  refine SameAt.of_rc (fun E Q hQ => ?_) ⟨a, rfl⟩ ⟨b, rfl⟩
  refine eq_dictsH (A := X.A.in1) (knd := tupleKind (mixKind X.prog X.w)) (r := q) (show _ < _ by omega) ya yb da db (by omega) (fun _ => hits_of I h1 rb hq ra) ?_
  rw [← KT_len ra, ← KT_len rb, hl]
  exact hQ
theorem SamA.vals {H : Hp} : ∀ {us vs : List V} {xs ys : List Value}, SamA X.K H us vs → Vals us xs → Vals vs ys → xs.length = ys.length ∧ ∀ j (h1 : j < xs.length) (h2 : j < ys.length), ∃ x y, SamT X.K H x y ∧ RelV x xs[j] ∧ RelV y ys[j]
  | _, _, _, _, .nil, .nil, .nil => ⟨rfl, fun j h1 _ => absurd h1 (Nat.not_lt_zero _)⟩
  | _, _, _, _, .cons h t, .cons r p, .cons r2 p2 => by
    obtain ⟨e, f⟩ := SamA.vals t p p2
    refine ⟨by rw [List.length_cons, List.length_cons, e], fun j h1 h2 => ?_⟩
    cases j with
    | zero => exact ⟨_, _, h, r, r2⟩
    | succ j => exact f j (by simpa using h1) (by simpa using h2)
theorem op_neTL (hr : Room k X.A) : OpR X (compareOp .NotEq) (rNeL X.K) := by
  intro pins s σ H x y v u Q I rx ry h
  obtain ⟨a, b, us, vs, rfl, rfl, ha, hb, hs, hQ⟩ := h
  obtain rfl : v = Value.ref a := rx
  obtain rfl : u = Value.ref b := ry
  obtain ⟨xs, r1, l1⟩ := lst_rd I ha
  obtain ⟨ys, r2, l2⟩ := lst_rd I hb
  obtain ⟨e, f⟩ := hs.vals r1 r2
  have hun := hr.un
  refine rc_neY l1 l2 (by simpa using e) (by omega) (fun j h1 h2 => ?_) ⟨.bl false, H, I, rfl, hQ⟩
  obtain ⟨x, y, h3, h4, h5⟩ := f j (by simpa using h1) (by simpa using h2)
  have := sam_at hr I h3 h4 h5
  simpa using this
def ddAll (M : Mem) : List D → List D → Prop → Prop
  | [], ys, q => match ys with
    | [] => q
    | _ :: _ => False
  | x :: xs, ys, q => match ys with
    | y :: ys => ddQ M x y fun b => okQ b (ddAll M xs ys q)
    | [] => False
/-- the lists' items are the same: no is the answer -/
def neLD : OpD := fun M x y Q => lstQ (view M x) fun xs => lstQ (view M y) fun ys => ddAll M xs ys (Q (.val (.bl false)))
theorem ddAll_run {w : Wd} (o : WOk (gx X) w) : ∀ {us vs : List V} {xs ys : List D} {q : Prop}, DpA X.K w.C w.P us xs → DpA X.K w.C w.P vs ys → ddAll w.M xs ys q → SamA X.K w.H us vs ∧ q
  | _, _, _, _, _, .nil, .nil, h => ⟨.nil, h⟩
  | _, _, _, _, _, .nil, .cons _ _, h => h.elim
  | _, _, _, _, _, .cons _ _, .nil, h => h.elim
  | _, _, x :: xs, y :: ys, q, .cons z p, .cons z2 p2, h => by
    have h : ddQ w.M x y fun b => okQ b (ddAll w.M xs ys q) := h
    obtain ⟨a, b, ka, kb, r, h1, h2, h3, h4, h5, h6⟩ := ddQ_run o z z2 h
    obtain ⟨h7, h8⟩ := okQ_e h6
    obtain ⟨g1, g2⟩ := ddAll_run o p p2 h8
    exact ⟨.cons ⟨a, b, ka, kb, r, h1, h2, h3, h4, h5, h7⟩ g1, g2⟩
theorem op_neLD (hr : Room k X.A) : OpL X (compareOp .NotEq) neLD := by
  refine ⟨_, op_neTL hr, fun w x y dx dy Qd Q o zx zy h kk => ?_⟩
  obtain ⟨xs, e1, h⟩ := lstQ_e h
  obtain ⟨ys, e2, h⟩ := lstQ_e h
  obtain ⟨a, us, rfl, h1, z1⟩ := see_lst o zx e1
  obtain ⟨b, vs, rfl, h2, z2⟩ := see_lst o zy e2
  obtain ⟨g1, g2⟩ := ddAll_run o z1 z2 h
  exact ⟨a, b, us, vs, rfl, rfl, .inl h1, .inl h2, g1, kk _ _ w g2 (.refl o) (.bl _)⟩
end
end HI

namespace Law
open PySem L2 HI
abbrev S__law_draw : HI.Spec := drawS
def c_LIMIT : D := .int 1000000
def b_is_number  : SV := sRet (eAnd (eIsi 2 (eV 0)) (eAnd (eNot (eIsi 1 (eV 0))) (eTr (eCh leB leB (eV 1) (eV 0) (eV 2)))))
def S_is_number : HI.Spec := bodyS 3 3 (b_is_number )
def b_Sketched___init__  : SV := sSeq (sFld [83, 107, 101, 116, 99, 104, 101, 100] [95, 112, 101, 114, 115, 111, 110] (eV 0) (eV 1))
  (sSeq (sFld [83, 107, 101, 116, 99, 104, 101, 100] [110, 117, 109, 98, 101, 114] (eV 0) (eV 2))
  (sSeq (sFld [83, 107, 101, 116, 99, 104, 101, 100] [110, 101, 119, 95, 110, 97, 109, 101, 115] (eV 0) (eCell (eDnew true)))
  (sSeq (sFld [83, 107, 101, 116, 99, 104, 101, 100] [110, 101, 119, 95, 109, 101, 97, 110, 105, 110, 103, 115] (eV 0) (eCell (eDnew true)))
  (sFld [83, 107, 101, 116, 99, 104, 101, 100] [110, 101, 119, 95, 118, 97, 108, 117, 101, 115] (eV 0) (eCell (eDnew true))))))
def S_Sketched___init__ : HI.Spec := bodyS 3 3 (b_Sketched___init__ )
def b_Sketched_fresh  : SV := sSeq (sAsg 1 (eTup (aCons (eAttr [83, 107, 101, 116, 99, 104, 101, 100] [95, 112, 101, 114, 115, 111, 110] (eV 0)) (aCons (eAttr [83, 107, 101, 116, 99, 104, 101, 100] [110, 117, 109, 98, 101, 114] (eV 0)) (aNil)))))
  (sSeq (sFldAug [83, 107, 101, 116, 99, 104, 101, 100] [110, 117, 109, 98, 101, 114] (eV 0) (eC (.int 1)))
  (sRet (eV 1)))
def S_Sketched_fresh : HI.Spec := bodyS 2 1 (b_Sketched_fresh )
def b_Sketched_made_declaration (S_Sketched_fresh : HI.Spec) : SV := sSeq (sAsg 2 (eFz (eMeth [83, 107, 101, 116, 99, 104, 101, 100] [102, 114, 101, 115, 104] S_Sketched_fresh (eV 0) aNil)))
  (sSeq (sCPut (eAttr [83, 107, 101, 116, 99, 104, 101, 100] [110, 101, 119, 95, 110, 97, 109, 101, 115] (eV 0)) (eV 2) (eV 1))
  (sRet (eV 2)))
def S_Sketched_made_declaration : HI.Spec := bodyS 3 2 (b_Sketched_made_declaration S_Sketched_fresh)
def b_Sketched_made_use (S_Sketched_fresh : HI.Spec) : SV := sSeq (sAsg 2 (eFz (eMeth [83, 107, 101, 116, 99, 104, 101, 100] [102, 114, 101, 115, 104] S_Sketched_fresh (eV 0) aNil)))
  (sSeq (sCPut (eAttr [83, 107, 101, 116, 99, 104, 101, 100] [110, 101, 119, 95, 109, 101, 97, 110, 105, 110, 103, 115] (eV 0)) (eV 2) (eV 1))
  (sRet (eV 2)))
def S_Sketched_made_use : HI.Spec := bodyS 3 2 (b_Sketched_made_use S_Sketched_fresh)
def b_Sketched_expression (S_is_number : HI.Spec) (S_Sketched_expression : HI.Spec) (S_Sketched_fresh : HI.Spec) (S_Sketched_made_use : HI.Spec) : SV := sSeq (sIf (tE (eCall S_is_number (aCons (eV 1) (aCons (eC (.int 0)) (aCons (eOp subD (eC c_LIMIT) (eC (.int 1))) (aNil)))))) (sSeq (sAsg 2 (eFz (eMeth [83, 107, 101, 116, 99, 104, 101, 100] [102, 114, 101, 115, 104] S_Sketched_fresh (eV 0) aNil)))
  (sSeq (sCPut (eAttr [83, 107, 101, 116, 99, 104, 101, 100] [110, 101, 119, 95, 118, 97, 108, 117, 101, 115] (eV 0)) (eV 2) (eV 1))
  (sRet (eTup (aCons (eC (.str [110, 117, 109, 98, 101, 114])) (aCons (eV 2) (aNil))))))) (sSkip))
  (sSeq (sIf (tCmp eqB (eOp ixD (eV 1) (eC (.int 0))) (eC (.str [117, 115, 101]))) (sRet (eTup (aCons (eC (.str [117, 115, 101])) (aCons (eMeth [83, 107, 101, 116, 99, 104, 101, 100] [109, 97, 100, 101, 95, 117, 115, 101] S_Sketched_made_use (eV 0) (aCons (eOp ixD (eV 1) (eC (.int 1))) (aNil))) (aNil))))) (sSkip))
  (sSeq (sAsg 3 (eFz (eMeth [83, 107, 101, 116, 99, 104, 101, 100] [101, 120, 112, 114, 101, 115, 115, 105, 111, 110] S_Sketched_expression (eV 0) (aCons (eOp ixD (eV 1) (eC (.int 1))) (aNil)))))
  (sRet (eTup (aCons (eOp ixD (eV 1) (eC (.int 0))) (aCons (eV 3) (aCons (eMeth [83, 107, 101, 116, 99, 104, 101, 100] [101, 120, 112, 114, 101, 115, 115, 105, 111, 110] S_Sketched_expression (eV 0) (aCons (eOp ixD (eV 1) (eC (.int 2))) (aNil))) (aNil))))))))
def Sr_Sketched_expression : Nat → HI.Spec
  | 0 => fun _ _ _ => False
  | n + 1 => bodyS 4 2 (b_Sketched_expression S_is_number (Sr_Sketched_expression n) S_Sketched_fresh S_Sketched_made_use)
abbrev S_Sketched_expression : HI.Spec := Sr_Sketched_expression 8
def b_Sketched_content (S_Sketched_expression : HI.Spec) (S_Sketched_fresh : HI.Spec) (S_Sketched_made_declaration : HI.Spec) (S_Sketched_made_use : HI.Spec) : SV := sSeq (sAsg 2 (eFz (eOp ixD (eV 1) (eC (.int 0)))))
  (sSeq (sIf (tCmp eqB (eV 2) (eC (.str [108, 101, 116]))) (sSeq (sAsg 3 (eFz (eMeth [83, 107, 101, 116, 99, 104, 101, 100] [109, 97, 100, 101, 95, 100, 101, 99, 108, 97, 114, 97, 116, 105, 111, 110] S_Sketched_made_declaration (eV 0) (aCons (eOp ixD (eV 1) (eC (.int 1))) (aNil)))))
  (sRet (eTup (aCons (eV 2) (aCons (eV 3) (aCons (eMeth [83, 107, 101, 116, 99, 104, 101, 100] [101, 120, 112, 114, 101, 115, 115, 105, 111, 110] S_Sketched_expression (eV 0) (aCons (eOp ixD (eV 1) (eC (.int 2))) (aNil))) (aNil))))))) (sSkip))
  (sSeq (sIf (tCmp eqB (eV 2) (eC (.str [100, 101, 102]))) (sSeq (sPar2 3 4 (eFz (eMeth [83, 107, 101, 116, 99, 104, 101, 100] [109, 97, 100, 101, 95, 100, 101, 99, 108, 97, 114, 97, 116, 105, 111, 110] S_Sketched_made_declaration (eV 0) (aCons (eOp ixD (eV 1) (eC (.int 1))) (aNil)))) (eFz (eMeth [83, 107, 101, 116, 99, 104, 101, 100] [102, 114, 101, 115, 104] S_Sketched_fresh (eV 0) aNil)))
  (sRet (eTup (aCons (eV 2) (aCons (eV 3) (aCons (eCallB tupleD (aCons (eLc (iSeq (eOp ixD (eV 1) (eC (.int 2)))) (.one 7) tTrue (eMeth [83, 107, 101, 116, 99, 104, 101, 100] [109, 97, 100, 101, 95, 100, 101, 99, 108, 97, 114, 97, 116, 105, 111, 110] S_Sketched_made_declaration (eV 0) (aCons (eV 7) (aNil))) [7]) (aNil))) (aCons (eV 4) (aNil)))))))) (sSkip))
  (sSeq (sIf (tCmp eqB (eV 2) (eC (.str [98, 108, 111, 99, 107]))) (sRet (eTup (aCons (eV 2) (aCons (eMeth [83, 107, 101, 116, 99, 104, 101, 100] [102, 114, 101, 115, 104] S_Sketched_fresh (eV 0) aNil) (aNil))))) (sSkip))
  (sSeq (sIf (tCmp (inD false) (eV 2) (eTup (aCons (eC (.str [115, 101, 116])) (aCons (eC (.str [114, 101, 97, 100])) (aCons (eC (.str [100, 111])) (aNil)))))) (sSeq (sAsg 5 (eFz (eMeth [83, 107, 101, 116, 99, 104, 101, 100] [109, 97, 100, 101, 95, 117, 115, 101] S_Sketched_made_use (eV 0) (aCons (eOp ixD (eV 1) (eC (.int 1))) (aNil)))))
  (sSeq (sIf (tCmp eqB (eV 2) (eC (.str [114, 101, 97, 100]))) (sRet (eTup (aCons (eV 2) (aCons (eV 5) (aNil))))) (sSkip))
  (sSeq (sIf (tCmp eqB (eV 2) (eC (.str [115, 101, 116]))) (sRet (eTup (aCons (eV 2) (aCons (eV 5) (aCons (eMeth [83, 107, 101, 116, 99, 104, 101, 100] [101, 120, 112, 114, 101, 115, 115, 105, 111, 110] S_Sketched_expression (eV 0) (aCons (eOp ixD (eV 1) (eC (.int 2))) (aNil))) (aNil)))))) (sSkip))
  (sRet (eTup (aCons (eV 2) (aCons (eV 5) (aCons (eCallB tupleD (aCons (eLc (iSeq (eOp ixD (eV 1) (eC (.int 2)))) (.one 8) tTrue (eMeth [83, 107, 101, 116, 99, 104, 101, 100] [101, 120, 112, 114, 101, 115, 115, 105, 111, 110] S_Sketched_expression (eV 0) (aCons (eV 8) (aNil))) [8]) (aNil))) (aNil))))))))) (sSkip))
  (sSeq (sAsg 6 (eFz (eMeth [83, 107, 101, 116, 99, 104, 101, 100] [101, 120, 112, 114, 101, 115, 115, 105, 111, 110] S_Sketched_expression (eV 0) (aCons (eOp ixD (eV 1) (eC (.int 1))) (aNil)))))
  (sSeq (sIf (tCmp eqB (eV 2) (eC (.str [111, 117, 116]))) (sRet (eTup (aCons (eV 2) (aCons (eV 6) (aNil))))) (sSkip))
  (sSeq (sAsg 4 (eFz (eMeth [83, 107, 101, 116, 99, 104, 101, 100] [102, 114, 101, 115, 104] S_Sketched_fresh (eV 0) aNil)))
  (sRet (eIf (tCmp eqB (eV 2) (eC (.str [114, 101, 112, 101, 97, 116]))) (eTup (aCons (eV 2) (aCons (eV 6) (aCons (eV 4) (aNil))))) (eTup (aCons (eV 2) (aCons (eV 6) (aCons (eV 4) (aCons (eMeth [83, 107, 101, 116, 99, 104, 101, 100] [102, 114, 101, 115, 104] S_Sketched_fresh (eV 0) aNil) (aNil)))))))))))))))
def S_Sketched_content : HI.Spec := bodyS 9 2 (b_Sketched_content S_Sketched_expression S_Sketched_fresh S_Sketched_made_declaration S_Sketched_made_use)
def b_sketched (S_Sketched___init__ : HI.Spec) (S_Sketched_content : HI.Spec) : SV := sSeq (sAsg 3 (eFz (eMake [83, 107, 101, 116, 99, 104, 101, 100] S_Sketched___init__ (aCons (eV 1) (aCons (eOp addD (eV 2) (eC (.int 1))) (aNil))))))
  (sSeq (sAsg 4 (eFz (eMeth [83, 107, 101, 116, 99, 104, 101, 100] [99, 111, 110, 116, 101, 110, 116] S_Sketched_content (eV 3) (aCons (eV 0) (aNil)))))
  (sRet (eTup (aCons (eV 4) (aCons (eAttr [83, 107, 101, 116, 99, 104, 101, 100] [110, 101, 119, 95, 110, 97, 109, 101, 115] (eV 3)) (aCons (eAttr [83, 107, 101, 116, 99, 104, 101, 100] [110, 101, 119, 95, 109, 101, 97, 110, 105, 110, 103, 115] (eV 3)) (aCons (eAttr [83, 107, 101, 116, 99, 104, 101, 100] [110, 101, 119, 95, 118, 97, 108, 117, 101, 115] (eV 3)) (aCons (eAttr [83, 107, 101, 116, 99, 104, 101, 100] [110, 117, 109, 98, 101, 114] (eV 3)) (aNil)))))))))
def S_sketched : HI.Spec := bodyS 5 3 (b_sketched S_Sketched___init__ S_Sketched_content)
def b_expression_things (S_expression_things : HI.Spec) : SV := sSeq (sIf (tCmp (inD false) (eOp ixD (eV 0) (eC (.int 0))) (eTup (aCons (eC (.str [117, 115, 101])) (aCons (eC (.str [110, 117, 109, 98, 101, 114])) (aNil))))) (sRet (eLst (aCons (eTup (aCons (eOp ixD (eV 0) (eC (.int 0))) (aCons (eOp ixD (eV 0) (eC (.int 1))) (aNil)))) (aNil)))) (sSkip))
  (sRet (eOp addD (eCall S_expression_things (aCons (eOp ixD (eV 0) (eC (.int 1))) (aNil))) (eCall S_expression_things (aCons (eOp ixD (eV 0) (eC (.int 2))) (aNil)))))
def Sr_expression_things : Nat → HI.Spec
  | 0 => fun _ _ _ => False
  | n + 1 => bodyS 1 1 (b_expression_things (Sr_expression_things n))
abbrev S_expression_things : HI.Spec := Sr_expression_things 8
def b_expressions_of  : SV := sSeq (sAsg 1 (eFz (eOp ixD (eV 0) (eC (.int 0)))))
  (sSeq (sIf (tCmp (inD false) (eV 1) (eTup (aCons (eC (.str [108, 101, 116])) (aCons (eC (.str [115, 101, 116])) (aNil))))) (sRet (eLst (aCons (eOp ixD (eV 0) (eC (.int 2))) (aNil)))) (sSkip))
  (sSeq (sIf (tCmp (inD false) (eV 1) (eTup (aCons (eC (.str [111, 117, 116])) (aCons (eC (.str [105, 102])) (aCons (eC (.str [114, 101, 112, 101, 97, 116])) (aNil)))))) (sRet (eLst (aCons (eOp ixD (eV 0) (eC (.int 1))) (aNil)))) (sSkip))
  (sRet (eIf (tCmp eqB (eV 1) (eC (.str [100, 111]))) (eCallB listD (aCons (eOp ixD (eV 0) (eC (.int 2))) (aNil))) (eLst (aNil))))))
def S_expressions_of : HI.Spec := bodyS 2 1 (b_expressions_of )
def b_blocks_of  : SV := sSeq (sAsg 1 (eFz (eOp ixD (eV 0) (eC (.int 0)))))
  (sSeq (sIf (tCmp eqB (eV 1) (eC (.str [100, 101, 102]))) (sRet (eLst (aCons (eOp ixD (eV 0) (eC (.int 3))) (aNil)))) (sSkip))
  (sSeq (sIf (tCmp eqB (eV 1) (eC (.str [105, 102]))) (sRet (eLst (aCons (eOp ixD (eV 0) (eC (.int 2))) (aCons (eOp ixD (eV 0) (eC (.int 3))) (aNil))))) (sSkip))
  (sSeq (sIf (tCmp eqB (eV 1) (eC (.str [114, 101, 112, 101, 97, 116]))) (sRet (eLst (aCons (eOp ixD (eV 0) (eC (.int 2))) (aNil)))) (sSkip))
  (sRet (eIf (tCmp eqB (eV 1) (eC (.str [98, 108, 111, 99, 107]))) (eLst (aCons (eOp ixD (eV 0) (eC (.int 1))) (aNil))) (eLst (aNil)))))))
def S_blocks_of : HI.Spec := bodyS 2 1 (b_blocks_of )
def b_declared_by  : SV := sSeq (sIf (tCmp eqB (eOp ixD (eV 0) (eC (.int 0))) (eC (.str [108, 101, 116]))) (sRet (eLst (aCons (eOp ixD (eV 0) (eC (.int 1))) (aNil)))) (sSkip))
  (sRet (eIf (tCmp eqB (eOp ixD (eV 0) (eC (.int 0))) (eC (.str [100, 101, 102]))) (eLst (aCons (eOp ixD (eV 0) (eC (.int 1))) (aStar (eOp ixD (eV 0) (eC (.int 2))) (aNil)))) (eLst (aNil))))
def S_declared_by : HI.Spec := bodyS 1 1 (b_declared_by )
def w_things_of_1 (S_expression_things : HI.Spec) : SV := sExt 3 (eCall S_expression_things (aCons (eV 4) (aNil)))
def b_things_of (S_expressions_of : HI.Spec) (S_expression_things : HI.Spec) (S_blocks_of : HI.Spec) : SV := sSeq (sAsg 1 (eFz (eOp ixD (eV 0) (eC (.int 0)))))
  (sSeq (sIf (tCmp eqB (eV 1) (eC (.str [100, 101, 102]))) (sSeq (sAsg 2 (eFz (eLc (iSeq (eOp ixD (eV 0) (eC (.int 2)))) (.one 5) tTrue (eTup (aCons (eC (.str [100, 101, 99, 108, 97, 114, 97, 116, 105, 111, 110])) (aCons (eV 5) (aNil)))) [5])))
  (sRet (eLst (aCons (eTup (aCons (eC (.str [100, 101, 99, 108, 97, 114, 97, 116, 105, 111, 110])) (aCons (eOp ixD (eV 0) (eC (.int 1))) (aNil)))) (aCons (eTup (aCons (eC (.str [98, 108, 111, 99, 107])) (aCons (eOp ixD (eV 0) (eC (.int 3))) (aNil)))) (aStar (eV 2) (aNil))))))) (sSkip))
  (sSeq (sAsg 3 (eLst (aNil)))
  (sSeq (sIf (tCmp eqB (eV 1) (eC (.str [108, 101, 116]))) (sApp 3 (eTup (aCons (eC (.str [100, 101, 99, 108, 97, 114, 97, 116, 105, 111, 110])) (aCons (eOp ixD (eV 0) (eC (.int 1))) (aNil))))) (sSkip))
  (sSeq (sIf (tCmp (inD false) (eV 1) (eTup (aCons (eC (.str [115, 101, 116])) (aCons (eC (.str [114, 101, 97, 100])) (aCons (eC (.str [100, 111])) (aNil)))))) (sApp 3 (eTup (aCons (eC (.str [117, 115, 101])) (aCons (eOp ixD (eV 0) (eC (.int 1))) (aNil))))) (sSkip))
  (sSeq (sFor (iSeq (eCall S_expressions_of (aCons (eV 0) (aNil)))) (.one 4) (w_things_of_1 S_expression_things))
  (sFrz 3 (sRet (eOp addD (eV 3) (eLc (iSeq (eCall S_blocks_of (aCons (eV 0) (aNil)))) (.one 6) tTrue (eTup (aCons (eC (.str [98, 108, 111, 99, 107])) (aCons (eV 6) (aNil)))) [6])))))))))
def S_things_of : HI.Spec := bodyS 7 1 (b_things_of S_expressions_of S_expression_things S_blocks_of)
def b__law_pick (S__law_draw : HI.Spec) : SV := sRet (eOp ixD (eV 1) (eCall S__law_draw (aCons (eV 0) (aCons (eTr (eCallB lenD (aCons (eV 1) (aNil)))) (aNil)))))
def S__law_pick : HI.Spec := bodyS 2 2 (b__law_pick S__law_draw)
def b__law_like (S__law_like : HI.Spec) : SV := sSeq (sIf (tO (tE (eIsi2 4 5 (eV 1))) (tE (eIsi2 4 5 (eV 0)))) (sSeq (sIf (tCmp neB (eIsi 4 (eV 1)) (eIsi 4 (eV 0))) (sRet (eC (.bl false))) (sSkip))
  (sSeq (sIf (tO (tCmp neB (eIsi 5 (eV 1)) (eIsi 5 (eV 0))) (tCmp neB (eTr (eCallB lenD (aCons (eV 0) (aNil)))) (eTr (eCallB lenD (aCons (eV 1) (aNil)))))) (sRet (eC (.bl false))) (sSkip))
  (sRet (eTr (eCallB allD (aCons (eLc (iZp (eV 0) (eV 1)) (.tup [.one 2, .one 3]) tTrue (eTr (eCall S__law_like (aCons (eV 2) (aCons (eV 3) (aNil))))) [2, 3]) (aNil))))))) (sSkip))
  (sSeq (sIf (tO (tCmp isB (eV 1) (eC .non)) (tCmp isB (eV 0) (eC .non))) (sRet (eAnd (eTr (eOp isB (eV 1) (eC .non))) (eTr (eOp isB (eV 0) (eC .non))))) (sSkip))
  (sSeq (sIf (tCmp neB (eIsi 1 (eV 0)) (eIsi 1 (eV 1))) (sRet (eC (.bl false))) (sSkip))
  (sRet (eAnd (eTr (eOp eqB (eIsi 3 (eV 0)) (eIsi 3 (eV 1)))) (eTr (eOp eqB (eV 0) (eV 1)))))))
def Sr__law_like : Nat → HI.Spec
  | 0 => fun _ _ _ => False
  | n + 1 => bodyS 4 2 (b__law_like (Sr__law_like n))
abbrev S__law_like : HI.Spec := Sr__law_like 12
def b__law_value (S__law_pick : HI.Spec) (S__law_draw : HI.Spec) : SV := sRet (eCall S__law_pick (aCons (eV 0) (aCons (eLst (aCons (eC (.int 0)) (aCons (eC (.int 1)) (aCons (eC (.int 2)) (aCons (eC (.int 7)) (aCons (eC (.int 999999)) (aCons (eCall S__law_draw (aCons (eV 0) (aCons (eC (.int 1000)) (aNil)))) (aNil)))))))) (aNil))))
def S__law_value : HI.Spec := bodyS 1 1 (b__law_value S__law_pick S__law_draw)
def b__law_new  : SV := sSeq (sCPut (eV 0) (eC (.str [110, 101, 120, 116])) (eOp addD (eOp ixD (eV 0) (eC (.str [110, 101, 120, 116]))) (eC (.int 1))))
  (sRet (eTup (aCons (eOp ixD (eV 0) (eC (.str [111, 119, 110, 101, 114]))) (aCons (eOp subD (eOp ixD (eV 0) (eC (.str [110, 101, 120, 116]))) (eC (.int 1))) (aNil)))))
def S__law_new : HI.Spec := bodyS 1 1 (b__law_new )
def b__law_use (S__law_new : HI.Spec) : SV := sSeq (sAsg 2 (eFz (eCall S__law_new (aCons (eV 0) (aNil)))))
  (sSeq (sCPut (eV 0) (eC (.str [117, 115, 101, 115])) (eOp addD (eOp ixD (eV 0) (eC (.str [117, 115, 101, 115]))) (eLst (aCons (eTup (aCons (eV 2) (aCons (eV 1) (aNil)))) (aNil)))))
  (sRet (eV 2)))
def S__law_use : HI.Spec := bodyS 3 2 (b__law_use S__law_new)
def b__law_terms  : SV := sSeq (sIf (tCmp (inD false) (eOp ixD (eV 0) (eC (.int 0))) (eTup (aCons (eC (.str [108, 101, 116])) (aCons (eC (.str [115, 101, 116])) (aNil))))) (sRet (eLst (aCons (eOp ixD (eV 0) (eC (.int 2))) (aNil)))) (sSkip))
  (sSeq (sIf (tCmp (inD false) (eOp ixD (eV 0) (eC (.int 0))) (eTup (aCons (eC (.str [111, 117, 116])) (aCons (eC (.str [105, 102])) (aCons (eC (.str [114, 101, 112, 101, 97, 116])) (aNil)))))) (sRet (eLst (aCons (eOp ixD (eV 0) (eC (.int 1))) (aNil)))) (sSkip))
  (sRet (eIf (tCmp eqB (eOp ixD (eV 0) (eC (.int 0))) (eC (.str [100, 111]))) (eCallB listD (aCons (eOp ixD (eV 0) (eC (.int 2))) (aNil))) (eLst (aNil)))))
def S__law_terms : HI.Spec := bodyS 1 1 (b__law_terms )
def b__law_term_things (S__law_term_things : HI.Spec) : SV := sSeq (sIf (tCmp (inD false) (eOp ixD (eV 0) (eC (.int 0))) (eTup (aCons (eC (.str [117, 115, 101])) (aCons (eC (.str [110, 117, 109, 98, 101, 114])) (aNil))))) (sRet (eLst (aCons (eTup (aCons (eOp ixD (eV 0) (eC (.int 0))) (aCons (eOp ixD (eV 0) (eC (.int 1))) (aNil)))) (aNil)))) (sSkip))
  (sRet (eOp addD (eCall S__law_term_things (aCons (eOp ixD (eV 0) (eC (.int 1))) (aNil))) (eCall S__law_term_things (aCons (eOp ixD (eV 0) (eC (.int 2))) (aNil)))))
def Sr__law_term_things : Nat → HI.Spec
  | 0 => fun _ _ _ => False
  | n + 1 => bodyS 1 1 (b__law_term_things (Sr__law_term_things n))
abbrev S__law_term_things : HI.Spec := Sr__law_term_things 8
def w__law_things_1 (S__law_term_things : HI.Spec) : SV := sFrz 2 (sAsg 2 (eOp addD (eV 2) (eCall S__law_term_things (aCons (eV 3) (aNil)))))
def b__law_things (S__law_terms : HI.Spec) (S__law_term_things : HI.Spec) : SV := sSeq (sPar2 1 2 (eFz (eOp ixD (eV 0) (eC (.int 0)))) (eLst (aNil)))
  (sSeq (sIf (tCmp eqB (eV 1) (eC (.str [108, 101, 116]))) (sApp 2 (eTup (aCons (eC (.str [100, 101, 99, 108, 97, 114, 97, 116, 105, 111, 110])) (aCons (eOp ixD (eV 0) (eC (.int 1))) (aNil))))) (sSkip))
  (sSeq (sIf (tCmp (inD false) (eV 1) (eTup (aCons (eC (.str [115, 101, 116])) (aCons (eC (.str [114, 101, 97, 100])) (aCons (eC (.str [100, 111])) (aNil)))))) (sApp 2 (eTup (aCons (eC (.str [117, 115, 101])) (aCons (eOp ixD (eV 0) (eC (.int 1))) (aNil))))) (sSkip))
  (sSeq (sFor (iSeq (eCall S__law_terms (aCons (eV 0) (aNil)))) (.one 3) (w__law_things_1 S__law_term_things))
  (sFrz 2 (sSeq (sIf (tCmp eqB (eV 1) (eC (.str [100, 101, 102]))) (sRet (eOp addD (eLst (aCons (eTup (aCons (eC (.str [100, 101, 99, 108, 97, 114, 97, 116, 105, 111, 110])) (aCons (eOp ixD (eV 0) (eC (.int 1))) (aNil)))) (aCons (eTup (aCons (eC (.str [98, 108, 111, 99, 107])) (aCons (eOp ixD (eV 0) (eC (.int 3))) (aNil)))) (aNil)))) (eLc (iSeq (eOp ixD (eV 0) (eC (.int 2)))) (.one 4) tTrue (eTup (aCons (eC (.str [100, 101, 99, 108, 97, 114, 97, 116, 105, 111, 110])) (aCons (eV 4) (aNil)))) [4]))) (sSkip))
  (sSeq (sIf (tCmp eqB (eV 1) (eC (.str [105, 102]))) (sRet (eOp addD (eV 2) (eLst (aCons (eTup (aCons (eC (.str [98, 108, 111, 99, 107])) (aCons (eOp ixD (eV 0) (eC (.int 2))) (aNil)))) (aCons (eTup (aCons (eC (.str [98, 108, 111, 99, 107])) (aCons (eOp ixD (eV 0) (eC (.int 3))) (aNil)))) (aNil)))))) (sSkip))
  (sSeq (sIf (tCmp eqB (eV 1) (eC (.str [114, 101, 112, 101, 97, 116]))) (sRet (eOp addD (eV 2) (eLst (aCons (eTup (aCons (eC (.str [98, 108, 111, 99, 107])) (aCons (eOp ixD (eV 0) (eC (.int 2))) (aNil)))) (aNil))))) (sSkip))
  (sRet (eOp addD (eV 2) (eIf (tCmp eqB (eV 1) (eC (.str [98, 108, 111, 99, 107]))) (eLst (aCons (eTup (aCons (eC (.str [98, 108, 111, 99, 107])) (aCons (eOp ixD (eV 0) (eC (.int 1))) (aNil)))) (aNil))) (eLst (aNil))))))))))))
def S__law_things : HI.Spec := bodyS 5 1 (b__law_things S__law_terms S__law_term_things)
def b__law_sketch_term (S__law_sketch_term : HI.Spec) (S__law_new : HI.Spec) : SV := sSeq (sIf (tE (eIsi 2 (eV 1))) (sSeq (sAsg 2 (eFz (eCall S__law_new (aCons (eV 0) (aNil)))))
  (sSeq (sCPut (eV 0) (eC (.str [118, 97, 108, 117, 101, 115])) (eOp addD (eOp ixD (eV 0) (eC (.str [118, 97, 108, 117, 101, 115]))) (eLst (aCons (eTup (aCons (eV 2) (aCons (eV 1) (aNil)))) (aNil)))))
  (sRet (eTup (aCons (eC (.str [110, 117, 109, 98, 101, 114])) (aCons (eV 2) (aNil))))))) (sSkip))
  (sSeq (sIf (tCmp eqB (eOp ixD (eV 1) (eC (.int 0))) (eC (.str [117, 115, 101]))) (sSeq (sAsg 2 (eFz (eCall S__law_new (aCons (eV 0) (aNil)))))
  (sSeq (sCPut (eV 0) (eC (.str [117, 115, 101, 115])) (eOp addD (eOp ixD (eV 0) (eC (.str [117, 115, 101, 115]))) (eLst (aCons (eTup (aCons (eV 2) (aCons (eOp ixD (eV 1) (eC (.int 1))) (aNil)))) (aNil)))))
  (sRet (eTup (aCons (eC (.str [117, 115, 101])) (aCons (eV 2) (aNil))))))) (sSkip))
  (sSeq (sAsg 3 (eFz (eCall S__law_sketch_term (aCons (eV 0) (aCons (eOp ixD (eV 1) (eC (.int 1))) (aNil))))))
  (sRet (eTup (aCons (eOp ixD (eV 1) (eC (.int 0))) (aCons (eV 3) (aCons (eCall S__law_sketch_term (aCons (eV 0) (aCons (eOp ixD (eV 1) (eC (.int 2))) (aNil)))) (aNil))))))))
def Sr__law_sketch_term : Nat → HI.Spec
  | 0 => fun _ _ _ => False
  | n + 1 => bodyS 4 2 (b__law_sketch_term (Sr__law_sketch_term n) S__law_new)
abbrev S__law_sketch_term : HI.Spec := Sr__law_sketch_term 8
def w__law_sketch_1 (S__law_new : HI.Spec) : SV := sSeq (sCApp (eV 9) (eCall S__law_new (aCons (eV 3) (aNil))))
  (sCPut (eV 5) (eOp ixD (eV 9) (eNeg (eC (.int 1)))) (eV 10))
def b__law_sketch (S__law_new : HI.Spec) (S__law_use : HI.Spec) (S__law_sketch_term : HI.Spec) : SV := sSeq (sPar2 3 4 (eCell (eDisp (dCons (eC (.str [111, 119, 110, 101, 114])) (eV 1) (dCons (eC (.str [110, 101, 120, 116])) (eOp addD (eV 2) (eC (.int 1))) (dCons (eC (.str [117, 115, 101, 115])) (eLst (aNil)) (dCons (eC (.str [118, 97, 108, 117, 101, 115])) (eLst (aNil)) (dNil))))))) (eFz (eOp ixD (eV 0) (eC (.int 0)))))
  (sSeq (sPar2 5 6 (eCell (eDnew true)) (eC .non))
  (sSeq (sIf (tCmp (inD false) (eV 4) (eTup (aCons (eC (.str [108, 101, 116])) (aCons (eC (.str [100, 101, 102])) (aNil))))) (sSeq (sAsg 6 (eFz (eCall S__law_new (aCons (eV 3) (aNil)))))
  (sCPut (eV 5) (eV 6) (eOp ixD (eV 0) (eC (.int 1))))) (sSkip))
  (sSeq (sIf (tCmp (inD false) (eV 4) (eTup (aCons (eC (.str [115, 101, 116])) (aCons (eC (.str [114, 101, 97, 100])) (aCons (eC (.str [100, 111])) (aNil)))))) (sAsg 6 (eFz (eCall S__law_use (aCons (eV 3) (aCons (eOp ixD (eV 0) (eC (.int 1))) (aNil)))))) (sSkip))
  (sSeq (sIf (tO (tCmp eqB (eV 4) (eC (.str [108, 101, 116]))) (tCmp eqB (eV 4) (eC (.str [115, 101, 116])))) (sAsg 7 (eTup (aCons (eV 4) (aCons (eV 6) (aCons (eCall S__law_sketch_term (aCons (eV 3) (aCons (eOp ixD (eV 0) (eC (.int 2))) (aNil)))) (aNil)))))) (sIf (tCmp eqB (eV 4) (eC (.str [114, 101, 97, 100]))) (sAsg 7 (eTup (aCons (eC (.str [114, 101, 97, 100])) (aCons (eV 6) (aNil))))) (sIf (tCmp eqB (eV 4) (eC (.str [111, 117, 116]))) (sAsg 7 (eTup (aCons (eC (.str [111, 117, 116])) (aCons (eCall S__law_sketch_term (aCons (eV 3) (aCons (eOp ixD (eV 0) (eC (.int 1))) (aNil)))) (aNil))))) (sIf (tCmp eqB (eV 4) (eC (.str [100, 111]))) (sAsg 7 (eTup (aCons (eC (.str [100, 111])) (aCons (eV 6) (aCons (eCallB tupleD (aCons (eLc (iSeq (eOp ixD (eV 0) (eC (.int 2)))) (.one 13) tTrue (eCall S__law_sketch_term (aCons (eV 3) (aCons (eV 13) (aNil)))) [13]) (aNil))) (aNil)))))) (sIf (tCmp eqB (eV 4) (eC (.str [100, 101, 102]))) (sSeq (sPar2 8 9 (eFz (eCall S__law_new (aCons (eV 3) (aNil)))) (eCell (eLst (aNil))))
  (sSeq (sFor (iSeq (eOp ixD (eV 0) (eC (.int 2)))) (.one 10) (w__law_sketch_1 S__law_new))
  (sAsg 7 (eTup (aCons (eC (.str [100, 101, 102])) (aCons (eV 6) (aCons (eCallB tupleD (aCons (eV 9) (aNil))) (aCons (eV 8) (aNil))))))))) (sIf (tCmp eqB (eV 4) (eC (.str [105, 102]))) (sSeq (sPar2 11 12 (eFz (eCall S__law_sketch_term (aCons (eV 3) (aCons (eOp ixD (eV 0) (eC (.int 1))) (aNil))))) (eFz (eCall S__law_new (aCons (eV 3) (aNil)))))
  (sAsg 7 (eTup (aCons (eC (.str [105, 102])) (aCons (eV 11) (aCons (eV 12) (aCons (eCall S__law_new (aCons (eV 3) (aNil))) (aNil)))))))) (sIf (tCmp eqB (eV 4) (eC (.str [114, 101, 112, 101, 97, 116]))) (sSeq (sAsg 11 (eFz (eCall S__law_sketch_term (aCons (eV 3) (aCons (eOp ixD (eV 0) (eC (.int 1))) (aNil))))))
  (sAsg 7 (eTup (aCons (eC (.str [114, 101, 112, 101, 97, 116])) (aCons (eV 11) (aCons (eCall S__law_new (aCons (eV 3) (aNil))) (aNil))))))) (sAsg 7 (eTup (aCons (eC (.str [98, 108, 111, 99, 107])) (aCons (eCall S__law_new (aCons (eV 3) (aNil))) (aNil))))))))))))
  (sRet (eTup (aCons (eV 7) (aCons (eV 5) (aCons (eCallB (dictD true) (aCons (eOp ixD (eV 3) (eC (.str [117, 115, 101, 115]))) (aNil))) (aCons (eCallB (dictD true) (aCons (eOp ixD (eV 3) (eC (.str [118, 97, 108, 117, 101, 115]))) (aNil))) (aCons (eOp ixD (eV 3) (eC (.str [110, 101, 120, 116]))) (aNil))))))))))))
def S__law_sketch : HI.Spec := bodyS 14 3 (b__law_sketch S__law_new S__law_use S__law_sketch_term)
def b__law_any_id (S__law_pick : HI.Spec) (S__law_draw : HI.Spec) : SV := sRet (eTup (aCons (eCall S__law_pick (aCons (eV 0) (aCons (eLst (aCons (eC (.str [])) (aCons (eC (.str [97, 110, 110])) (aCons (eC (.str [98, 111, 98])) (aNil))))) (aNil)))) (aCons (eCall S__law_draw (aCons (eV 0) (aCons (eC (.int 40)) (aNil)))) (aNil))))
def S__law_any_id : HI.Spec := bodyS 1 1 (b__law_any_id S__law_pick S__law_draw)
def b__law_any_term (S__law_draw : HI.Spec) (S__law_value : HI.Spec) (S__law_pick : HI.Spec) (S__law_any_term : HI.Spec) (S__law_any_id : HI.Spec) : SV := sSeq (sAsg 2 (eFz (eCall S__law_draw (aCons (eV 0) (aCons (eC (.int 6)) (aNil))))))
  (sSeq (sIf (tAn (tCmp gtB (eV 1) (eC (.int 0))) (tCmp gtB (eV 2) (eC (.int 2)))) (sRet (eTup (aCons (eCall S__law_pick (aCons (eV 0) (aCons (eLst (aCons (eC (.str [43])) (aCons (eC (.str [45])) (aCons (eC (.str [42])) (aCons (eC (.str [60])) (aNil)))))) (aNil)))) (aCons (eCall S__law_any_term (aCons (eV 0) (aCons (eOp subD (eV 1) (eC (.int 1))) (aNil)))) (aCons (eCall S__law_any_term (aCons (eV 0) (aCons (eOp subD (eV 1) (eC (.int 1))) (aNil)))) (aNil)))))) (sSkip))
  (sRet (eIf (tCmp eqB (eOp modD (eTr (eCallB intD (aCons (eV 2) (aNil)))) (eC (.int 2))) (eC (.int 0))) (eCall S__law_value (aCons (eV 0) (aNil))) (eTup (aCons (eC (.str [117, 115, 101])) (aCons (eCall S__law_any_id (aCons (eV 0) (aNil))) (aNil)))))))
def Sr__law_any_term : Nat → HI.Spec
  | 0 => fun _ _ _ => False
  | n + 1 => bodyS 3 2 (b__law_any_term S__law_draw S__law_value S__law_pick (Sr__law_any_term n) S__law_any_id)
abbrev S__law_any_term : HI.Spec := Sr__law_any_term 6
def b__law_any_sketch (S__law_draw : HI.Spec) (S__law_pick : HI.Spec) (S__law_any_term : HI.Spec) (S__law_any_id : HI.Spec) : SV := sSeq (sPar2 1 2 (eFz (eCall S__law_draw (aCons (eV 0) (aCons (eC (.int 9)) (aNil))))) (eFz (eCall S__law_pick (aCons (eV 0) (aCons (eLst (aCons (eC (.str [120])) (aCons (eC (.str [97, 98, 99, 100, 101, 102])) (aCons (eC (.str [122, 122])) (aCons (eC (.str [102])) (aNil)))))) (aNil))))))
  (sSeq (sPar2 3 4 (eFz (eCall S__law_any_term (aCons (eV 0) (aCons (eC (.int 3)) (aNil))))) (eFz (eCall S__law_any_id (aCons (eV 0) (aNil)))))
  (sSeq (sIf (tCmp ltH (eV 1) (eC (.int 2))) (sRet (eIf (tCmp eqB (eV 1) (eC (.int 0))) (eTup (aCons (eC (.str [108, 101, 116])) (aCons (eV 2) (aCons (eV 3) (aNil))))) (eTup (aCons (eC (.str [115, 101, 116])) (aCons (eV 4) (aCons (eV 3) (aNil))))))) (sSkip))
  (sSeq (sIf (tCmp eqB (eV 1) (eC (.int 2))) (sRet (eTup (aCons (eC (.str [100, 111])) (aCons (eV 4) (aCons (eCallB tupleD (aCons (eLc (iRg1 (eCall S__law_draw (aCons (eV 0) (aCons (eC (.int 4)) (aNil))))) (.one 5) tTrue (eCall S__law_any_term (aCons (eV 0) (aCons (eC (.int 2)) (aNil)))) [5]) (aNil))) (aNil)))))) (sSkip))
  (sSeq (sIf (tCmp eqB (eV 1) (eC (.int 3))) (sRet (eTup (aCons (eC (.str [100, 101, 102])) (aCons (eV 2) (aCons (eCallB tupleD (aCons (eSl (eLst (aCons (eC (.str [97])) (aCons (eC (.str [98])) (aCons (eC (.str [120])) (aCons (eC (.str [97, 98, 99, 100, 101, 102])) (aCons (eC (.str [101])) (aNil))))))) (oNo) (oSome (eCall S__law_draw (aCons (eV 0) (aCons (eC (.int 6)) (aNil)))))) (aNil))) (aNil)))))) (sSkip))
  (sRet (eOp ixD (eLst (aCons (eTup (aCons (eC (.str [114, 101, 97, 100])) (aCons (eV 4) (aNil)))) (aCons (eTup (aCons (eC (.str [111, 117, 116])) (aCons (eV 3) (aNil)))) (aCons (eTup (aCons (eC (.str [105, 102])) (aCons (eV 3) (aNil)))) (aCons (eTup (aCons (eC (.str [114, 101, 112, 101, 97, 116])) (aCons (eV 3) (aNil)))) (aCons (eTup (aCons (eC (.str [98, 108, 111, 99, 107])) (aNil))) (aNil))))))) (eOp subD (eV 1) (eC (.int 4)))))))))
def S__law_any_sketch : HI.Spec := bodyS 6 1 (b__law_any_sketch S__law_draw S__law_pick S__law_any_term S__law_any_id)
def w_law_1 (S__law_any_sketch : HI.Spec) (S__law_pick : HI.Spec) (S__law_draw : HI.Spec) (S__law_sketch : HI.Spec) (S_sketched : HI.Spec) (S__law_like : HI.Spec) (S__law_things : HI.Spec) (S_things_of : HI.Spec) (S_blocks_of : HI.Spec) (S_declared_by : HI.Spec) : SV := sSeq (sPar3 3 4 5 (eFz (eCall S__law_any_sketch (aCons (eV 1) (aNil)))) (eFz (eCall S__law_pick (aCons (eV 1) (aCons (eLst (aCons (eC (.str [97, 110, 110])) (aCons (eC (.str [98, 111, 98])) (aCons (eC (.str [120])) (aNil))))) (aNil))))) (eFz (eCall S__law_draw (aCons (eV 1) (aCons (eC (.int 50)) (aNil))))))
  (sSeq (sIf (tAn (tCmp eqB (eOp ixD (eV 3) (eC (.int 0))) (eC (.str [108, 101, 116]))) (tCmp eqB (eCall S__law_draw (aCons (eV 1) (aCons (eC (.int 3)) (aNil)))) (eC (.int 0)))) (sAsg 3 (eTup (aCons (eC (.str [108, 101, 116])) (aCons (eOp ixD (eV 3) (eC (.int 1))) (aCons (eTup (aCons (eC (.str [45])) (aCons (eTup (aCons (eC (.str [117, 115, 101])) (aCons (eTup (aCons (eV 4) (aCons (eOp addD (eV 5) (eC (.int 1))) (aNil)))) (aNil)))) (aCons (eOp ixD (eV 3) (eC (.int 2))) (aNil))))) (aNil)))))) (sSkip))
  (sSeq (sAsg 6 (eFz (eCall S__law_sketch (aCons (eV 3) (aCons (eV 4) (aCons (eV 5) (aNil)))))))
  (sSeq (sAsg 7 (eFz (eCallK 1 2 [0, 1, 2] S_sketched (aCons (eV 3) (aNil)) (aCons (eV 4) (aCons (eV 5) (aNil))))))
  (sSeq (sIf (tO (tNt (tE (eTr (eCall S__law_like (aCons (eLst (aCons (eOp ixD (eV 7) (eC (.int 0))) (aCons (eOp ixD (eV 7) (eC (.int 4))) (aCons (eTr (eCallB lenD (aCons (eV 7) (aNil)))) (aNil))))) (aCons (eLst (aCons (eOp ixD (eV 6) (eC (.int 0))) (aCons (eOp ixD (eV 6) (eC (.int 4))) (aCons (eC (.int 5)) (aNil))))) (aNil))))))) (tNt (tE (eIsi 5 (eV 7))))) (sRet (eC (.bl false))) (sSkip))
  (sSeq (sIf (tO (tCmp neB (eLc (iSeq (eTup (aCons (eC (.int 1)) (aCons (eC (.int 2)) (aCons (eC (.int 3)) (aNil)))))) (.one 11) tTrue (eIsi 6 (eOp ixD (eV 7) (eV 11))) [11]) (eOp mulD (eLst (aCons (eC (.bl true)) (aNil))) (eC (.int 3)))) (tCmp neLD (eCallB listD (aCons (eSl (eV 7) (oSome (eC (.int 1))) (oSome (eC (.int 4)))) (aNil))) (eCallB listD (aCons (eSl (eV 6) (oSome (eC (.int 1))) (oSome (eC (.int 4)))) (aNil))))) (sRet (eC (.bl false))) (sSkip))
  (sSeq (sAsg 8 (eFz (eCall S__law_things (aCons (eOp ixD (eV 6) (eC (.int 0))) (aNil)))))
  (sSeq (sAsg 9 (eFz (eLst (aCons (eCell (eCall S_things_of (aCons (eOp ixD (eV 6) (eC (.int 0))) (aNil)))) (aCons (eCall S_blocks_of (aCons (eOp ixD (eV 6) (eC (.int 0))) (aNil))) (aCons (eCall S_declared_by (aCons (eOp ixD (eV 6) (eC (.int 0))) (aNil))) (aNil)))))))
  (sSeq (sIf (tNt (tE (eTr (eCall S__law_like (aCons (eV 9) (aCons (eOp addD (eLst (aCons (eV 8) (aNil))) (eLc (iSeq (eTup (aCons (eC (.str [98, 108, 111, 99, 107])) (aCons (eC (.str [100, 101, 99, 108, 97, 114, 97, 116, 105, 111, 110])) (aNil))))) (.one 12) tTrue (eLc (iSeq (eV 8)) (.tup [.one 13, .one 14]) (tCmp eqB (eV 13) (eV 12)) (eV 14) [13, 14]) [12])) (aNil))))))) (sRet (eC (.bl false))) (sSkip))
  (sSeq (sCMix (eOp ixD (eV 7) (eC (.int 1))) (eC (.str [120])) (eC (.str [121])))
  (sSeq (sCApp (eOp ixD (eV 9) (eC (.int 0))) (eC .non))
  (sSeq (sAsg 10 (eFz (eCallK 0 3 [2, 1, 0] S_sketched aNil (aCons (eV 5) (aCons (eV 4) (aCons (eV 3) (aNil)))))))
  (sIf (tO (tCmp neLD (eCallB listD (aCons (eSl (eV 10) (oSome (eC (.int 1))) (oSome (eC (.int 4)))) (aNil))) (eCallB listD (aCons (eSl (eV 6) (oSome (eC (.int 1))) (oSome (eC (.int 4)))) (aNil)))) (tNt (tE (eTr (eCall S__law_like (aCons (eCall S_things_of (aCons (eOp ixD (eV 10) (eC (.int 0))) (aNil))) (aCons (eV 8) (aNil)))))))) (sRet (eC (.bl false))) (sSkip)))))))))))))
def b_law (S__law_sketch : HI.Spec) (S_sketched : HI.Spec) (S__law_things : HI.Spec) (S__law_any_sketch : HI.Spec) (S__law_pick : HI.Spec) (S__law_draw : HI.Spec) (S_things_of : HI.Spec) (S_blocks_of : HI.Spec) (S_declared_by : HI.Spec) (S__law_like : HI.Spec) : SV := sSeq (sFor (iRg1 (eC (.int 10))) (.one 2) (w_law_1 S__law_any_sketch S__law_pick S__law_draw S__law_sketch S_sketched S__law_like S__law_things S_things_of S_blocks_of S_declared_by))
  (sRet (eC (.bl true)))
end Law

namespace Law
open PySem L2 HI
/-! ### steps at the head of a goal -/
abbrev Lb := List Nat
theorem g0 {α : Type} (M l : List α) : (M ++ l)[M.length]? = l[0]? := by rw [List.getElem?_append_right (Nat.le_refl _), Nat.sub_self]
theorem gk {α : Type} (M l : List α) (k : Nat) : (M ++ l)[M.length + k]? = l[k]? := by rw [List.getElem?_append_right (Nat.le_add_right _ _), Nat.add_sub_cancel_left]
theorem s0 {α : Type} (M l : List α) (d : α) : (M ++ l).set M.length d = M ++ l.set 0 d := by
  rw [List.set_append_right _ _ (Nat.le_refl _), Nat.sub_self]
theorem sk {α : Type} (M l : List α) (k : Nat) (d : α) : (M ++ l).set (M.length + k) d = M ++ l.set k d := by
  rw [List.set_append_right _ _ (Nat.le_add_right _ _), Nat.add_sub_cancel_left]
theorem aaM (M l r : Mem) : M ++ l ++ r = M ++ (l ++ r) := List.append_assoc ..
theorem laM (M l : Mem) : (M ++ l).length = M.length + l.length := List.length_append
theorem hg0 {M l : List D} {x : D} (h : l[0]? = some x) : (M ++ l)[M.length]? = some x := by rw [g0, h]
theorem hgk {M l : List D} {k : Nat} {x : D} (h : l[k]? = some x) : (M ++ l)[M.length + k]? = some x := by rw [gk, h]
theorem hv0 {M l : List D} {x : D} (h : l[0]? = some x) : view (M ++ l) (.cell M.length) = unK x := by
  show (match (M ++ l)[M.length]? with | some c => unK c | none => _) = _
  rw [g0, h]
theorem hvk {M l : List D} {k : Nat} {x : D} (h : l[k]? = some x) : view (M ++ l) (.cell (M.length + k)) = unK x := by
  show (match (M ++ l)[M.length + k]? with | some c => unK c | none => _) = _
  rw [gk, h]
theorem st_obj {d d' : D} {c : Lb} {q : List (Lb × D) → Prop} (h : d = d') (k : objQ d' c q) : objQ d c q := h ▸ k
theorem st_some {α : Type} {o : Option α} {x : α} {q : α → Prop} (h : o = some x) (k : q x) : someQ o q := h ▸ k
theorem st_dct {d d' : D} {q : Bool → List (D × D) → Prop} (h : d = d') (k : dctQ d' q) : dctQ d q := h ▸ k
theorem st_ok {b : Bool} {q : Prop} (h : b = true) (k : q) : okQ b q := h ▸ k
theorem st_sz {n : Nat} {q : Prop} (h : n ≤ 1000000) (k : q) : szOk n q := szOk_i h k
theorem IF_t {b : Bool} {p q : Prop} (h : b = true) (k : p) : IF b p q := by subst h; exact k
theorem IF_f {b : Bool} {p q : Prop} (h : b = false) (k : q) : IF b p q := by subst h; exact k
theorem IF_c {b : Bool} {p q : Prop} (h1 : b = true → p) (h2 : b = false → q) : IF b p q := by
  cases b with
  | true => exact h1 rfl
  | false => exact h2 rfl
/-- a spec with one answer -/
def Det (S : HI.Spec) (args : List D) (M : Mem) (r : Rz) (M' : Mem) : Prop := ∀ Q : Rz → Mem → Prop, Q r M' → S args M Q
/-! ### ids and dicts by ids -/
def idD (o : Lb) (n : Nat) : D := .tup [.str o, .int n]
abbrev TD := List (Nat × D)
def kv (o : Lb) (p : Nat × D) : D × D := (idD o p.1, p.2)
def dT (o : Lb) (l : TD) : List (D × D) := l.map (kv o)
def lk {α : Type} : List (Nat × α) → Nat → Option α
  | [], _ => none
  | (m, d) :: r, n => if m = n then some d else lk r n
def ltK {α : Type} (n : Nat) (l : List (Nat × α)) : Prop := ∀ p ∈ l, p.1 < n
theorem eqN_rfl (o : Lb) : eqN o o = true := by rw [eqN_iff]; exact decide_eq_true rfl
theorem kEq_id (o : Lb) (i j : Nat) : kEq (idD o i) (idD o j) = decide (i = j) := by
  show (match eqN o o with | true => (match ((i : Int) == (j : Int)) with | true => true | false => false) | false => false) = _
  rw [eqN_rfl]
  by_cases h : i = j
  · subst h; simp
  · have : ((i : Int) == (j : Int)) = false := by simp; omega
    rw [this]; simp [h]
theorem look_dT (o : Lb) (n : Nat) : ∀ l : TD, look (dT o l) (idD o n) = lk l n
  | [] => rfl
  | (m, d) :: r => by
    show (match kEq (idD o m) (idD o n) with | true => some d | false => look (dT o r) (idD o n)) = if m = n then some d else lk r n
    rw [kEq_id, look_dT o n r]
    by_cases h : m = n
    · rw [decide_eq_true h, if_pos h]
    · rw [decide_eq_false h, if_neg h]
theorem has_dT (o : Lb) (n : Nat) : ∀ l : TD, hasK (dT o l) (idD o n) = (lk l n).isSome
  | [] => rfl
  | (m, d) :: r => by
    show (match kEq (idD o m) (idD o n) with | true => true | false => hasK (dT o r) (idD o n)) = (if m = n then some d else lk r n).isSome
    rw [kEq_id, has_dT o n r]
    by_cases h : m = n
    · rw [decide_eq_true h, if_pos h]; rfl
    · rw [decide_eq_false h, if_neg h]
theorem lk_lt {α : Type} {n : Nat} : ∀ {l : List (Nat × α)}, ltK n l → lk l n = none
  | [], _ => rfl
  | (m, d) :: r, h => by
    show (if m = n then some d else lk r n) = none
    have h1 := h (m, d) (.head _)
    rw [if_neg (by simp at h1; omega)]
    exact lk_lt fun p hp => h p (.tail _ hp)
theorem put_dT (o : Lb) {n : Nat} {l : TD} (v : D) (h : lk l n = none) : putD (dT o l) (idD o n) v = dT o (l ++ [(n, v)]) := by
  unfold putD
  rw [has_dT, h]
  show dT o l ++ [(idD o n, v)] = _
  unfold dT
  rw [List.map_append]
  rfl
theorem ltK_put {α : Type} {n m : Nat} {l : List (Nat × α)} {d : α} (h : ltK n l) (hm : m < n) : ltK n (l ++ [(m, d)]) := by
  intro p hp
  rcases List.mem_append.mp hp with h1 | h1
  · exact h p h1
  · simp at h1; subst h1; exact hm
theorem ltK_le {α : Type} {n m : Nat} {l : List (Nat × α)} (h : ltK n l) (hm : n ≤ m) : ltK m l := fun p hp => Nat.lt_of_lt_of_le (h p hp) hm
theorem dT_len (o : Lb) (l : TD) : (dT o l).length = l.length := List.length_map ..
theorem st_putK {M l : Mem} {k : Nat} {o : Lb} {n : Nat} {tl : TD} {i d : D} {nx : Mem → Prop} (hl : l[k]? = some (.dct true (dT o tl))) (hi : i = idD o n) (hn : lk tl n = none) (hz : tl.length < 1000000) (h : nx (M ++ l.set k (.dct true (dT o (tl ++ [(n, d)]))))) : someQ (M ++ l)[M.length + k]? fun c => dctQ c fun t kvs => okQ (isKey t i) (szOk (kvs.length + 1) (nx (List.set (M ++ l) (M.length + k) (.dct t (putD kvs i d))))) := by
  subst hi
  refine st_some (hgk hl) ?_
  show szOk ((dT o tl).length + 1) (nx (List.set (M ++ l) (M.length + k) (.dct true (putD (dT o tl) (idD o n) d))))
  refine st_sz (by rw [dT_len]; omega) ?_
  rw [sk, put_dT o d hn]
  exact h
theorem st_appK {M l : Mem} {k : Nat} {xs : List D} {d : D} {nx : Mem → Prop} (hl : l[k]? = some (.lst xs)) (hz : xs.length < 1000000) (h : nx (M ++ l.set k (.lst (xs ++ [d])))) : someQ (M ++ l)[M.length + k]? fun c => lstQ c fun xs => szOk (xs.length + 1) (nx (List.set (M ++ l) (M.length + k) (.lst (xs ++ [d])))) := by
  refine st_some (hgk hl) ?_
  refine st_sz (by omega) ?_
  rw [sk]
  exact h
inductive Sg where
  | add | sub | mul | lt
def sgT : Sg → Lb
  | .add => [43]
  | .sub => [45]
  | .mul => [42]
  | .lt => [60]
inductive CE where
  | num (i : Nat) | use (i : Nat) | op (s : Sg) (a b : CE)
inductive CR where
  | let_ (d : Nat) (e : CE) | set_ (u : Nat) (e : CE) | out (e : CE) | read (u : Nat) | do_ (u : Nat) (es : List CE) | def_ (d : Nat) (ps : List Nat) (b : Nat) | if_ (e : CE) (b c : Nat) | rep (e : CE) (b : Nat) | blk (b : Nat)
abbrev wNumber : Lb := [110, 117, 109, 98, 101, 114]
abbrev wUse : Lb := [117, 115, 101]
abbrev wLet : Lb := [108, 101, 116]
abbrev wSet : Lb := [115, 101, 116]
abbrev wOut : Lb := [111, 117, 116]
abbrev wRead : Lb := [114, 101, 97, 100]
abbrev wDo : Lb := [100, 111]
abbrev wDef : Lb := [100, 101, 102]
abbrev wIf : Lb := [105, 102]
abbrev wRep : Lb := [114, 101, 112, 101, 97, 116]
abbrev wBlk : Lb := [98, 108, 111, 99, 107]
abbrev wRow : Lb := [114, 111, 119]
abbrev wDecl : Lb := [100, 101, 99, 108, 97, 114, 97, 116, 105, 111, 110]
def ceD (o : Lb) : CE → D
  | .num i => .tup [.str wNumber, idD o i]
  | .use i => .tup [.str wUse, idD o i]
  | .op s a b => .tup [.str (sgT s), ceD o a, ceD o b]
def crD (o : Lb) : CR → D
  | .let_ d e => .tup [.str wLet, idD o d, ceD o e]
  | .set_ u e => .tup [.str wSet, idD o u, ceD o e]
  | .out e => .tup [.str wOut, ceD o e]
  | .read u => .tup [.str wRead, idD o u]
  | .do_ u es => .tup [.str wDo, idD o u, .tup (es.map (ceD o))]
  | .def_ d ps b => .tup [.str wDef, idD o d, .tup (ps.map (idD o)), idD o b]
  | .if_ e b c => .tup [.str wIf, ceD o e, idD o b, idD o c]
  | .rep e b => .tup [.str wRep, ceD o e, idD o b]
  | .blk b => .tup [.str wBlk, idD o b]
def up : Nat → Nat → List Nat
  | _, 0 => []
  | n, k + 1 => n :: up (n + 1) k
def Pur (S : HI.Spec) (ds : List D) (r : Rz) : Prop := ∀ M, Det S ds M r M
theorem lk_no {α : Type} {n : Nat} : ∀ {l : List (Nat × α)}, (∀ p ∈ l, p.1 ≠ n) → lk l n = none
  | [], _ => rfl
  | (m, d) :: r, h => by
    show (if m = n then some d else lk r n) = none
    rw [if_neg (h (m, d) (.head _))]
    exact lk_no fun p hp => h p (.tail _ hp)
theorem lk_mem {α : Type} : ∀ {l : List (Nat × α)}, (l.map (·.1)).Nodup → ∀ x ∈ l, lk l x.1 = some x.2
  | (m, d) :: r, h, x, hx => by
    have h := List.nodup_cons.mp h
    show (if m = x.1 then some d else lk r x.1) = some x.2
    cases hx with
    | head => rw [if_pos rfl]
    | tail _ hx =>
      rw [if_neg fun e => h.1 (by rw [e]; exact List.mem_map_of_mem (f := (·.1)) hx)]
      exact lk_mem h.2 x hx
theorem view_of {L : Mem} {n : Nat} {x : D} (h : L[n]? = some x) : view L (.cell n) = unK x := by
  show (match L[n]? with | some c => unK c | none => _) = _
  rw [h]
theorem seq_i {a b : SV} {K : KD} {δ : DEnv} {M : Mem} (k : a ⟨b K, K.rt, K.bk, K.ct⟩ δ M) : sSeq a b K δ M := k
theorem body_i {N ps : Nat} {f : SV} {ds : List D} {M : Mem} {Q : Rz → Mem → Prop} (hl : Nat.beq ds.length ps = true) (k : f ⟨fun _ M1 => Q (.val .non) M1, Q, fun _ _ => False, fun _ _ => False⟩ (startD N ds) M) : bodyS N ps f ds M Q := by
  unfold bodyS lenQ
  rw [hl]
  exact k
theorem forL_i {f : SV} {K : KD} {x : D} {r : List D} {j : Nat} {δ : DEnv} {M : Mem} (h : f ⟨forL (.one j) f none K r, K.rt, K.nx, forL (.one j) f none K r⟩ (δ.set j (.val x)) M) : forL (.one j) f none K (x :: r) δ M := h
theorem hlo {M : Mem} {n : Nat} {x : D} {R : Mem} (h : M[n]? = some x) : (M ++ R)[n]? = some x := by rw [List.getElem?_append_left (List.getElem?_eq_some_iff.mp h).1, h]
end Law

namespace Law
open PySem L2 HI
/-! ### the things of contents -/
def thE : CE → List (Lb × Nat)
  | .num i => [(wNumber, i)]
  | .use i => [(wUse, i)]
  | .op _ a b => thE a ++ thE b
def thEs : List CE → List (Lb × Nat)
  | [] => []
  | e :: es => thE e ++ thEs es
def exC : CR → List CE
  | .let_ _ e => [e]
  | .set_ _ e => [e]
  | .out e => [e]
  | .read _ => []
  | .do_ _ es => es
  | .def_ _ _ _ => []
  | .if_ e _ _ => [e]
  | .rep e _ => [e]
  | .blk _ => []
def bkC : CR → List Nat
  | .def_ _ _ b => [b]
  | .if_ _ b c => [b, c]
  | .rep _ b => [b]
  | .blk b => [b]
  | _ => []
def thC : CR → List (Lb × Nat)
  | .def_ d ps b => (wDecl, d) :: (wBlk, b) :: ps.map fun p => (wDecl, p)
  | .let_ d e => (wDecl, d) :: thE e
  | .set_ d e => (wUse, d) :: thE e
  | .read d => [(wUse, d)]
  | .do_ d es => (wUse, d) :: thEs es
  | .out e => thE e
  | .if_ e b c => thE e ++ [(wBlk, b), (wBlk, c)]
  | .rep e b => thE e ++ [(wBlk, b)]
  | .blk b => [(wBlk, b)]
def thD (o : Lb) (p : Lb × Nat) : D := .tup [.str p.1, idD o p.2]
def dpC : CE → Nat
  | .op _ a b => max (dpC a) (dpC b) + 1
  | _ => 0
variable {o : Lb}
theorem et_ok (R : Nat → HI.Spec) (hR : ∀ n, R (n + 1) = bodyS 1 1 (b_expression_things (R n))) : ∀ (e : CE) (n : Nat), dpC e < n → (thE e).length ≤ 1000000 → Pur (R n) [ceD o e] (.new (.lst ((thE e).map (thD o))))
  | .num v, n + 1, _, _ => by
    rw [hR]; intro M Q k
    unfold b_expression_things
    conv => whnf
    exact k
  | .use l, n + 1, _, _ => by
    rw [hR]; intro M Q k
    unfold b_expression_things
    conv => whnf
    exact k
  | .op g x y, n + 1, h, hz => by
    have h : max (dpC x) (dpC y) + 1 < n + 1 := h
    have hz : (thE x ++ thE y).length ≤ 1000000 := hz
    rw [List.length_append] at hz
    rw [hR]; intro M Q k
    unfold b_expression_things
    conv => whnf
    refine IF_f (by cases g <;> rfl) ?_
    conv => whnf
    refine et_ok R hR x n (by omega) (by omega) M _ ?_
    conv => whnf
    refine et_ok R hR y n (by omega) (by omega) M _ ?_
    conv => whnf
    refine IF_t (Nat.ble_eq_true_of_le (by rw [List.length_map, List.length_map]; exact hz)) ?_
    have k : Q (.new (.lst ((thE x ++ thE y).map (thD o)))) M := k
    rw [List.map_append] at k
    exact k
theorem eo_ok (c : CR) (hz : (exC c).length ≤ 1000000) : Pur S_expressions_of [crD o c] (.new (.lst ((exC c).map (ceD o)))) := by
  intro M Q k
  unfold S_expressions_of b_expressions_of
  cases c with
  | do_ u es =>
    conv => whnf
    exact k
  | _ =>
    conv => whnf
    exact k
theorem bo_ok (c : CR) : Pur S_blocks_of [crD o c] (.new (.lst ((bkC c).map (idD o)))) := by
  intro M Q k
  unfold S_blocks_of b_blocks_of
  cases c <;>
  · conv => whnf
    exact k
theorem ext_loop {S : HI.Spec} {K : KD} {M : Mem} {x0 x1 x2 x5 x6 : Sl} : ∀ (es : List CE) (x4 : Sl) (acc : List D), (∀ e ∈ es, Pur S [ceD o e] (.new (.lst ((thE e).map (thD o))))) → acc.length + (thEs es).length ≤ 1000000 → (∀ x4, K.nx [x0, x1, x2, .own (.lst (acc ++ (thEs es).map (thD o))), x4, x5, x6] M) → forL (.one 4) (w_things_of_1 S) none K (es.map (ceD o)) [x0, x1, x2, .own (.lst acc), x4, x5, x6] M
  | [], x4, acc, _, _, k => by
    have k := k x4
    have k : K.nx [x0, x1, x2, .own (.lst (acc ++ [])), x4, x5, x6] M := k
    rw [List.append_nil] at k
    exact k
  | e :: es, x4, acc, h, hz, k => by
    have hz : acc.length + (thE e ++ thEs es).length ≤ 1000000 := hz
    rw [List.length_append] at hz
    conv => whnf
    refine h e (.head _) M _ ?_
    conv => whnf
    refine IF_t (Nat.ble_eq_true_of_le (by rw [List.length_map]; omega)) ?_
    refine ext_loop es _ _ (fun e he => h e (.tail _ he)) (by rw [List.length_append, List.length_map]; omega) fun x4 => ?_
    have k : K.nx [x0, x1, x2, .own (.lst (acc ++ (thE e ++ thEs es).map (thD o))), x4, x5, x6] M := k x4
    rw [List.map_append, ← List.append_assoc] at k
    exact k
theorem lc_blocks {M : Mem} {x0 x1 x2 x3 x4 x5 x6 : Sl} : ∀ (bs : List Nat) (Q : List D → Mem → Prop), Q (bs.map fun b => thD o (wBlk, b)) M → lcL [x0, x1, x2, x3, x4, x5, x6] (.one 6) tTrue (eTup (aCons (eC (.str [98, 108, 111, 99, 107])) (aCons (eV 6) aNil))) none (bs.map (idD o)) M Q
  | [], Q, k => k
  | b :: bs, Q, k => by
    conv => whnf
    refine lc_blocks bs _ ?_
    exact k
theorem lc_decls {M : Mem} {x0 x1 x2 x3 x4 x5 x6 : Sl} : ∀ (bs : List Nat) (Q : List D → Mem → Prop), Q (bs.map fun b => thD o (wDecl, b)) M → lcL [x0, x1, x2, x3, x4, x5, x6] (.one 5) tTrue (eTup (aCons (eC (.str [100, 101, 99, 108, 97, 114, 97, 116, 105, 111, 110])) (aCons (eV 5) aNil))) none (bs.map (idD o)) M Q
  | [], Q, k => k
  | b :: bs, Q, k => by
    conv => whnf
    refine lc_decls bs _ ?_
    exact k
def ToOk (o : Lb) (S : HI.Spec) (c : CR) : Prop := Pur S [crD o c] (.new (.lst ((thC c).map (thD o))))
variable {X T B : HI.Spec}
theorem to_def {d b : Nat} {ps : List Nat} (hz : ps.length + 2 ≤ 1000000) : ToOk o (bodyS 7 1 (b_things_of X T B)) (.def_ d ps b) := by
  intro M Q k
  unfold b_things_of
  conv => whnf
  refine IF_t (Nat.ble_eq_true_of_le (by show (ps.map (idD o)).length ≤ _; rw [List.length_map]; omega)) ?_
  refine lc_decls ps _ ?_
  conv => whnf
  refine IF_t (Nat.ble_eq_true_of_le (by
    show ((List.map (fun b => thD o (wDecl, b)) ps ++ []).length + 1) + 1 ≤ _
    rw [List.append_nil, List.length_map]; omega)) ?_
  rw [List.append_nil]
  have k : Q (.new (.lst (thD o (wDecl, d) :: thD o (wBlk, b) :: (ps.map fun p => (wDecl, p)).map (thD o)))) M := k
  rw [List.map_map] at k
  exact k
theorem thEs_1 (e : CE) : thEs [e] = thE e := List.append_nil _
/-- the words ahead, the expressions, the blocks -/
def preC : CR → List (Lb × Nat)
  | .let_ d _ => [(wDecl, d)]
  | .set_ d _ => [(wUse, d)]
  | .read d => [(wUse, d)]
  | .do_ d _ => [(wUse, d)]
  | _ => []
theorem thC_cut (c : CR) (h : ∀ d ps b, c ≠ .def_ d ps b) : thC c = preC c ++ thEs (exC c) ++ (bkC c).map fun b => (wBlk, b) := by
  cases c with
  | def_ d ps b => exact absurd rfl (h d ps b)
  | let_ d e => show _ = [(wDecl, d)] ++ (thE e ++ []) ++ []; rw [List.append_nil, List.append_nil]; rfl
  | set_ d e => show _ = [(wUse, d)] ++ (thE e ++ []) ++ []; rw [List.append_nil, List.append_nil]; rfl
  | out e => show _ = [] ++ (thE e ++ []) ++ []; rw [List.append_nil, List.append_nil]; rfl
  | read d => rfl
  | do_ d es => show _ = [(wUse, d)] ++ thEs es ++ []; rw [List.append_nil]; rfl
  | if_ e b c => show _ = [] ++ (thE e ++ []) ++ [(wBlk, b), (wBlk, c)]; rw [List.append_nil]; rfl
  | rep e b => show _ = [] ++ (thE e ++ []) ++ [(wBlk, b)]; rw [List.append_nil]; rfl
  | blk b => rfl
theorem to_rest (c : CR) (h : ∀ d ps b, c ≠ .def_ d ps b) (hX : Pur X [crD o c] (.new (.lst ((exC c).map (ceD o))))) (hB : Pur B [crD o c] (.new (.lst ((bkC c).map (idD o))))) (hT : ∀ e ∈ exC c, Pur T [ceD o e] (.new (.lst ((thE e).map (thD o))))) (hz : (thC c).length ≤ 1000000) : ToOk o (bodyS 7 1 (b_things_of X T B)) c := by
  intro M Q k
  rw [thC_cut c h] at k hz
  rw [List.length_append, List.length_append, List.length_map] at hz
  rw [List.map_append, List.map_append, List.map_map] at k
  have key : ∀ (acc : List D), acc.length = (preC c).length → acc = (preC c).map (thD o) → ∀ (x1 x2 x5 x6 : Sl), (sSeq (sFor (iSeq (eCall X (aCons (eV 0) aNil))) (.one 4) (w_things_of_1 T))
                    (sFrz 3
                      (sRet
                        (eOp addD (eV 3)
                          (eLc (iSeq (eCall B (aCons (eV 0) aNil))) (.one 6) tTrue
                            (eTup (aCons (eC (D.str [98, 108, 111, 99, 107])) (aCons (eV 6) aNil))) [6])))))
       ⟨fun _ M1 => Q (.val .non) M1, Q, fun _ _ => False, fun _ _ => False⟩ [.val (crD o c), x1, x2, .own (.lst acc), .no, x5, x6] M := by
    intro acc hl ha x1 x2 x5 x6
    conv => whnf
    refine hX M _ ?_
    conv => whnf
    refine ext_loop (exC c) _ acc hT (by omega) fun x4 => ?_
    conv => whnf
    refine hB M _ ?_
    conv => whnf
    refine IF_t (Nat.ble_eq_true_of_le (by show ((bkC c).map (idD o)).length ≤ _; rw [List.length_map]; omega)) ?_
    refine lc_blocks (bkC c) _ ?_
    conv => whnf
    refine IF_t (Nat.ble_eq_true_of_le (by rw [List.length_append, List.length_map, List.length_map]; omega)) ?_
    rw [ha]
    exact k
  unfold b_things_of
  cases c with
  | def_ d ps b => exact absurd rfl (h d ps b)
  | let_ d e => exact key [_] rfl rfl _ _ _ _
  | set_ d e => exact key [_] rfl rfl _ _ _ _
  | out e => exact key [] rfl rfl _ _ _ _
  | read d => exact key [_] rfl rfl _ _ _ _
  | do_ d es => exact key [_] rfl rfl _ _ _ _
  | if_ e b c => exact key [] rfl rfl _ _ _ _
  | rep e b => exact key [] rfl rfl _ _ _ _
  | blk b => exact key [] rfl rfl _ _ _ _
theorem thEs_mem {e : CE} {es : List CE} (h : e ∈ es) : (thE e).length ≤ (thEs es).length := by
  induction es with
  | nil => cases h
  | cons x xs ih =>
    show _ ≤ (thE x ++ thEs xs).length
    rw [List.length_append]
    cases h with
    | head => omega
    | tail _ h => have := ih h; omega
theorem thE_pos : ∀ e : CE, 1 ≤ (thE e).length
  | .num _ => Nat.le_refl _
  | .use _ => Nat.le_refl _
  | .op _ a b => by
    have := thE_pos a
    show 1 ≤ (thE a ++ thE b).length
    rw [List.length_append]; omega
theorem thEs_len : ∀ es : List CE, es.length ≤ (thEs es).length
  | [] => Nat.le_refl _
  | e :: es => by
    have h1 := thE_pos e
    have h2 := thEs_len es
    show es.length + 1 ≤ (thE e ++ thEs es).length
    rw [List.length_append]; omega
theorem things_ok (c : CR) (hd : ∀ e ∈ exC c, dpC e < 8) (hz : (thC c).length ≤ 1000000) : ToOk o S_things_of c := by
  by_cases h : ∃ d ps b, c = .def_ d ps b
  · obtain ⟨d, ps, b, rfl⟩ := h
    refine to_def ?_
    have hz : (ps.map fun p => (wDecl, p)).length + 1 + 1 ≤ 1000000 := hz
    rw [List.length_map] at hz
    exact hz
  · have h1 : ∀ d ps b, c ≠ .def_ d ps b := fun d ps b e => h ⟨d, ps, b, e⟩
    have hz2 := hz
    rw [thC_cut c h1, List.length_append, List.length_append] at hz2
    have := thEs_len (exC c)
    refine to_rest c h1 (eo_ok c (by omega)) (bo_ok c) (fun e he => et_ok Sr_expression_things (fun _ => rfl) e 8 (hd e he) ?_) hz
    have := thEs_mem he
    omega
end Law

namespace Law
open PySem L2 HI
/-! ### _law_like says yes -/
abbrev smS (R : HI.Spec) : HI.Spec := bodyS 4 2 (b__law_like R)
def SmOk (S : HI.Spec) (x y : D) (M : Mem) : Prop := Det S [x, y] M (.val (.bl true)) M
variable {R : HI.Spec} {M : Mem}
theorem same_int (i : Int) : SmOk (smS R) (.int i) (.int i) M := by
  intro Q k
  unfold smS b__law_like
  conv => whnf
  have e : (i == i) = true := by simp
  have k : Q (.val (.bl true)) M := k
  rw [← e] at k
  exact k
theorem same_str (s : Lb) : SmOk (smS R) (.str s) (.str s) M := by
  intro Q k
  unfold smS b__law_like
  conv => whnf
  have k : Q (.val (.bl true)) M := k
  rw [← eqN_rfl s] at k
  exact k
theorem same_bl (b : Bool) : SmOk (smS R) (.bl b) (.bl b) M := by
  intro Q k
  unfold smS b__law_like
  cases b <;>
  · conv => whnf
    exact k
theorem same_non : SmOk (smS R) .non .non M := by
  intro Q k
  unfold smS b__law_like
  conv => whnf
  exact k
theorem zip_loop {x0 x1 : Sl} : ∀ (l : List (D × D)) (Q : List D → Mem → Prop), (∀ p ∈ l, SmOk R p.1 p.2 M) → Q (l.map fun _ => .bl true) M → lcL [x0, x1, .no, .no] (.tup [.one 2, .one 3]) tTrue (eTr (eCall R (aCons (eV 2) (aCons (eV 3) aNil)))) none (zipD (l.map (·.1)) (l.map (·.2))) M Q
  | [], Q, _, k => k
  | p :: l, Q, h, k => by
    conv => whnf
    refine h p (.head _) _ ?_
    conv => whnf
    exact zip_loop l (fun ys M3 => Q (.bl true :: ys) M3) (fun q hq => h q (.tail _ hq)) k
theorem bls_true' : ∀ l : List (D × D), blsD (l.map fun _ => D.bl true) = some (l.map fun _ => true)
  | [] => rfl
  | c :: l => by
    show (match blsD (l.map fun _ => D.bl true) with | some bs => some (true :: bs) | none => none) = _
    rw [bls_true' l]; rfl
theorem allB_true : ∀ l : List (D × D), allB (l.map fun _ => true) = true
  | [] => rfl
  | c :: l => allB_true l
theorem len_eq (l : List (D × D)) : eqF 60 M (.int (l.map (·.1)).length) (.int (l.map (·.2)).length) = true := by
  rw [List.length_map, List.length_map]
  show ((l.length : Int) == (l.length : Int)) = true
  simp
theorem zip_len : ∀ l : List (D × D), (zipD (l.map (·.1)) (l.map (·.2))).length = l.length
  | [] => rfl
  | p :: l => congrArg (· + 1) (zip_len l)
theorem same_tup {l : List (D × D)} (hl : l.length ≤ 1000000) (h : ∀ p ∈ l, SmOk R p.1 p.2 M) : SmOk (smS R) (.tup (l.map (·.1))) (.tup (l.map (·.2))) M := by
  intro Q k
  unfold smS b__law_like
  conv => whnf
  dsimp only [Rz.d]
  rw [len_eq]
  conv => whnf
  refine IF_t (Nat.ble_eq_true_of_le (by show (zipD (l.map (·.1)) (l.map (·.2))).length ≤ _; rw [zip_len]; exact hl)) ?_
  refine zip_loop l _ h ?_
  conv => whnf
  refine st_some (bls_true' l) ?_
  show Q (.val (.bl (allB (l.map fun _ => true)))) M
  rw [allB_true l]
  exact k
theorem same_lst {l : List (D × D)} (hl : l.length ≤ 1000000) (h : ∀ p ∈ l, SmOk R p.1 p.2 M) : SmOk (smS R) (.lst (l.map (·.1))) (.lst (l.map (·.2))) M := by
  intro Q k
  unfold smS b__law_like
  conv => whnf
  dsimp only [Rz.d]
  rw [len_eq]
  conv => whnf
  refine IF_t (Nat.ble_eq_true_of_le (by show (zipD (l.map (·.1)) (l.map (·.2))).length ≤ _; rw [zip_len]; exact hl)) ?_
  refine zip_loop l _ h ?_
  conv => whnf
  refine st_some (bls_true' l) ?_
  show Q (.val (.bl (allB (l.map fun _ => true)))) M
  rw [allB_true l]
  exact k
end Law

namespace Law
open PySem L2 HI
variable {R : HI.Spec} {M : Mem} {o : Lb}
/-! ### a thing is the same as itself -/
/-- simple data, less than n deep -/
def Simp : Nat → D → Prop
  | 0, _ => False
  | n + 1, d => match d with
    | .int _ => True
    | .str _ => True
    | .bl _ => True
    | .non => True
    | .tup xs => xs.length ≤ 1000000 ∧ ∀ x ∈ xs, Simp n x
    | .lst xs => xs.length ≤ 1000000 ∧ ∀ x ∈ xs, Simp n x
    | _ => False
theorem dup1 (xs : List D) : (xs.map fun x => (x, x)).map (·.1) = xs := by rw [List.map_map]; exact List.map_id _
theorem dup2 (xs : List D) : (xs.map fun x => (x, x)).map (·.2) = xs := by rw [List.map_map]; exact List.map_id _
theorem same_simp : ∀ (n : Nat) (d : D), Simp n d → SmOk (Sr__law_like n) d d M
  | 0, _, h => h.elim
  | n + 1, d, h => by
    show SmOk (smS (Sr__law_like n)) d d M
    cases d with
    | int i => exact same_int i
    | str s => exact same_str s
    | bl b => exact same_bl b
    | non => exact same_non
    | tup xs =>
      have h : xs.length ≤ 1000000 ∧ ∀ x ∈ xs, Simp n x := h
      have := same_tup (R := Sr__law_like n) (M := M) (l := xs.map fun x => (x, x)) (by rw [List.length_map]; exact h.1) fun p hp => by
        obtain ⟨x, hx, rfl⟩ := List.mem_map.mp hp
        exact same_simp n x (h.2 x hx)
      rw [dup1, dup2] at this
      exact this
    | lst xs =>
      have h : xs.length ≤ 1000000 ∧ ∀ x ∈ xs, Simp n x := h
      have := same_lst (R := Sr__law_like n) (M := M) (l := xs.map fun x => (x, x)) (by rw [List.length_map]; exact h.1) fun p hp => by
        obtain ⟨x, hx, rfl⟩ := List.mem_map.mp hp
        exact same_simp n x (h.2 x hx)
      rw [dup1, dup2] at this
      exact this
    | _ => exact h.elim
theorem Simp.up : ∀ {n m : Nat} {d : D}, Simp n d → n ≤ m → Simp m d
  | 0, _, _, h, _ => h.elim
  | n + 1, 0, _, _, hm => absurd hm (by omega)
  | n + 1, m + 1, d, h, hm => by
    cases d with
    | int i => trivial
    | str s => trivial
    | bl b => trivial
    | non => trivial
    | tup xs =>
      have h : xs.length ≤ 1000000 ∧ ∀ x ∈ xs, Simp n x := h
      exact ⟨h.1, fun x hx => Simp.up (h.2 x hx) (by omega)⟩
    | lst xs =>
      have h : xs.length ≤ 1000000 ∧ ∀ x ∈ xs, Simp n x := h
      exact ⟨h.1, fun x hx => Simp.up (h.2 x hx) (by omega)⟩
    | _ => exact h.elim
/-! a list that stands in a cell -/
theorem zip_loopG {gd : Gd} (hg : ∀ q : Prop, q → gQ gd M q) {x0 x1 : Sl} : ∀ (l : List (D × D)) (Q : List D → Mem → Prop), (∀ p ∈ l, SmOk R p.1 p.2 M) → Q (l.map fun _ => .bl true) M → lcL [x0, x1, .no, .no] (.tup [.one 2, .one 3]) tTrue (eTr (eCall R (aCons (eV 2) (aCons (eV 3) aNil)))) gd (zipD (l.map (·.1)) (l.map (·.2))) M Q
  | [], Q, _, k => hg _ k
  | p :: l, Q, h, k => by
    show lcL _ _ _ _ gd (.tup [p.1, p.2] :: zipD (l.map (·.1)) (l.map (·.2))) _ _
    rw [lcL]
    refine hg _ ?_
    conv => whnf
    refine h p (.head _) _ ?_
    conv => whnf
    exact zip_loopG hg l (fun ys M3 => Q (.bl true :: ys) M3) (fun q hq => h q (.tail _ hq)) k
theorem zp_cell {n : Nat} {xs ys : List D} (h : M[n]? = some (.lst xs)) : zpD M (.cell n) (.lst ys) = some (zipD xs ys, some (n, .lst xs)) := by
  show (match M[n]? with | some (.lst xs) => some (zipD xs ys, some (n, D.lst xs)) | _ => none) = _
  rw [h]
theorem same_lstC {n : Nat} {l : List (D × D)} (hn : M[n]? = some (.lst (l.map (·.1)))) (hl : l.length ≤ 1000000) (h : ∀ p ∈ l, SmOk R p.1 p.2 M) : SmOk (smS R) (.cell n) (.lst (l.map (·.2))) M := by
  intro Q k
  unfold smS b__law_like
  conv => whnf
  dsimp only [Rz.d]
  rw [view_of hn]
  conv => whnf
  dsimp only [Rz.d]
  rw [view_of hn]
  conv => whnf
  dsimp only [Rz.d]
  rw [view_of hn]
  conv => whnf
  dsimp only [Rz.d]
  rw [len_eq]
  conv => whnf
  refine st_some (zp_cell hn) ?_
  conv => whnf
  refine IF_t (Nat.ble_eq_true_of_le (by show (zipD (l.map (·.1)) (l.map (·.2))).length ≤ _; rw [zip_len]; exact hl)) ?_
  refine zip_loopG (gd := some (n, .lst (l.map (·.1)))) (fun q hq => ⟨hn, hq⟩) l _ h ?_
  conv => whnf
  refine st_some (bls_true' l) ?_
  show Q (.val (.bl (allB (l.map fun _ => true)))) M
  rw [allB_true l]
  exact k
/-! the data of programs are simple -/
theorem simp_id (o : Lb) (n m : Nat) : Simp (m + 2) (idD o n) := ⟨by show 2 ≤ 1000000; decide, fun x hx => by
  rcases List.mem_cons.mp hx with rfl | hx
  · trivial
  rcases List.mem_cons.mp hx with rfl | hx
  · trivial
  · cases hx⟩
theorem simp_2 {n : Nat} {a b : D} (ha : Simp n a) (hb : Simp n b) : Simp (n + 1) (.tup [a, b]) := ⟨by show 2 ≤ 1000000; decide, fun x hx => by
  rcases List.mem_cons.mp hx with rfl | hx
  · exact ha
  rcases List.mem_cons.mp hx with rfl | hx
  · exact hb
  · cases hx⟩
theorem simp_3 {n : Nat} {a b c : D} (ha : Simp n a) (hb : Simp n b) (hc : Simp n c) : Simp (n + 1) (.tup [a, b, c]) := ⟨by show 3 ≤ 1000000; decide, fun x hx => by
  rcases List.mem_cons.mp hx with rfl | hx
  · exact ha
  rcases List.mem_cons.mp hx with rfl | hx
  · exact hb
  rcases List.mem_cons.mp hx with rfl | hx
  · exact hc
  · cases hx⟩
theorem simp_4 {n : Nat} {a b c d : D} (ha : Simp n a) (hb : Simp n b) (hc : Simp n c) (hd : Simp n d) : Simp (n + 1) (.tup [a, b, c, d]) := ⟨by show 4 ≤ 1000000; decide, fun x hx => by
  rcases List.mem_cons.mp hx with rfl | hx
  · exact ha
  rcases List.mem_cons.mp hx with rfl | hx
  · exact hb
  rcases List.mem_cons.mp hx with rfl | hx
  · exact hc
  rcases List.mem_cons.mp hx with rfl | hx
  · exact hd
  · cases hx⟩
theorem simp_s (n : Nat) (s : Lb) : Simp (n + 1) (.str s) := trivial
theorem simp_ce (o : Lb) : ∀ (k : Nat) (e : CE), dpC e ≤ k → Simp (k + 3) (ceD o e)
  | k, .num i, _ => simp_2 (simp_s _ _) (simp_id o i k)
  | k, .use i, _ => simp_2 (simp_s _ _) (simp_id o i k)
  | 0, .op _ a b, h => by have h : max (dpC a) (dpC b) + 1 ≤ 0 := h; omega
  | k + 1, .op g a b, h => by
    have h : max (dpC a) (dpC b) + 1 ≤ k + 1 := h
    exact simp_3 (n := k + 3) (simp_s _ _) (simp_ce o k a (by omega)) (simp_ce o k b (by omega))
theorem simp_map {α : Type} {f : α → D} {n : Nat} {xs : List α} (hl : xs.length ≤ 1000000) (h : ∀ x ∈ xs, Simp n (f x)) : Simp (n + 1) (.tup (xs.map f)) := ⟨by rw [List.length_map]; exact hl, fun x hx => by
  obtain ⟨y, hy, rfl⟩ := List.mem_map.mp hx
  exact h y hy⟩
theorem simp_lmap {α : Type} {f : α → D} {n : Nat} {xs : List α} (hl : xs.length ≤ 1000000) (h : ∀ x ∈ xs, Simp n (f x)) : Simp (n + 1) (.lst (xs.map f)) := ⟨by rw [List.length_map]; exact hl, fun x hx => by
  obtain ⟨y, hy, rfl⟩ := List.mem_map.mp hx
  exact h y hy⟩
theorem simp_cr (o : Lb) {k : Nat} (c : CR) (h : ∀ e ∈ exC c, dpC e ≤ k) (hz : (thC c).length ≤ 1000000) : Simp (k + 5) (crD o c) := by
  have hi : ∀ i, Simp (k + 4) (idD o i) := fun i => simp_id o i (k + 2)
  have he : ∀ e ∈ exC c, Simp (k + 4) (ceD o e) := fun e he => (simp_ce o k e (h e he)).up (by omega)
  cases c with
  | let_ d e => exact simp_3 (simp_s _ _) (hi _) (he e (.head _))
  | set_ d e => exact simp_3 (simp_s _ _) (hi _) (he e (.head _))
  | out e => exact simp_2 (simp_s _ _) (he e (.head _))
  | read d => exact simp_2 (simp_s _ _) (hi _)
  | do_ d es =>
    have hz : (thEs es).length + 1 ≤ 1000000 := hz
    have := thEs_len es
    exact simp_3 (simp_s _ _) (hi _) (simp_map (by omega) fun e he => simp_ce o k e (h e he))
  | def_ d ps b =>
    have hz : (ps.map fun p => (wDecl, p)).length + 1 + 1 ≤ 1000000 := hz
    rw [List.length_map] at hz
    exact simp_4 (simp_s _ _) (hi _) (simp_map (by omega) fun p _ => simp_id o p (k + 1)) (hi _)
  | if_ e b c => exact simp_4 (simp_s _ _) (he e (.head _)) (hi _) (hi _)
  | rep e b => exact simp_3 (simp_s _ _) (he e (.head _)) (hi _)
  | blk b => exact simp_2 (simp_s _ _) (hi _)
/-! ### tables -/
theorem simp_eq {M : Mem} : ∀ (k n : Nat) (d : D), Simp k d → k ≤ n → okF n M d = true ∧ eqF n M d d = true
  | 0, _, _, h, _ => h.elim
  | k + 1, 0, _, _, h => absurd h (Nat.not_succ_le_zero k)
  | k + 1, n + 1, d, h, hn => by
    have al : ∀ xs : List D, (∀ x ∈ xs, Simp k x) → okAll (okF n M) xs = true ∧ eqAll (eqF n M) xs xs = true := by
      intro xs
      induction xs with
      | nil => intro _; exact ⟨rfl, rfl⟩
      | cons x xs ih =>
        intro hx
        obtain ⟨e1, e2⟩ := simp_eq k n x (hx x (.head _)) (by omega)
        obtain ⟨i1, i2⟩ := ih fun y hy => hx y (.tail _ hy)
        constructor
        · show (match okF n M x with | true => okAll (okF n M) xs | false => false) = true
          rw [e1]; exact i1
        · show (match eqF n M x x with | true => eqAll (eqF n M) xs xs | false => false) = true
          rw [e2]; exact i2
    cases d with
    | int i => exact ⟨rfl, by show (i == i) = true; simp⟩
    | str s => exact ⟨rfl, eqN_rfl s⟩
    | bl b => exact ⟨rfl, by cases b <;> rfl⟩
    | non => exact ⟨rfl, rfl⟩
    | tup xs => exact al xs h.2
    | lst xs => exact al xs h.2
    | _ => exact h.elim
/-- a table of simple data -/
structure SimT (l : TD) : Prop where
  nd : (l.map (·.1)).Nodup
  sm : ∀ p ∈ l, Simp 50 p.2
theorem okVals_T {M : Mem} : ∀ l : TD, (∀ p ∈ l, Simp 50 p.2) → okVals M (dT o l) = true
  | [], _ => rfl
  | p :: l, h => by
    show (match okF 58 M p.2 with | true => okVals M (dT o l) | false => false) = true
    rw [(simp_eq 50 58 p.2 (h p (.head _)) (by decide)).1]
    exact okVals_T l fun q hq => h q (.tail _ hq)
theorem dEq_go {M : Mem} {l : TD} (hl : SimT l) : ∀ r : TD, (∀ p ∈ r, p ∈ l) → dEq.go M (dT o l) (dT o r) = true
  | [], _ => rfl
  | p :: r, h => by
    show ((match look (dT o l) (idD o p.1) with | some v' => eqF 58 M p.2 v' | none => false) && dEq.go M (dT o l) (dT o r)) = true
    rw [look_dT, lk_mem hl.nd p (h p (.head _)), dEq_go hl r fun q hq => h q (.tail _ hq)]
    show (eqF 58 M p.2 p.2 && true) = true
    rw [(simp_eq 50 58 p.2 (hl.sm p (h p (.head _))) (by decide)).2]; rfl
theorem dEq_self {M : Mem} {l : TD} (hl : SimT l) : dEq M (dT o l) (dT o l) = true := by
  unfold dEq
  rw [dEq_go hl l fun p hp => hp]
  simp
theorem dd_i {M : Mem} {x y : D} {l : TD} {q : Bool → Prop} (hx : view M x = .dct true (dT o l)) (hy : view M y = .dct true (dT o l)) (hl : SimT l) (k : q true) : ddQ M x y q := by
  unfold ddQ
  rw [hx, hy]
  show okQ (okVals M (dT o l)) (okQ (okVals M (dT o l)) (q (dEq M (dT o l) (dT o l))))
  refine st_ok (okVals_T l hl.sm) (st_ok (okVals_T l hl.sm) ?_)
  rw [dEq_self hl]; exact k
def prD (o : Lb) (p : Nat × D) : D := .tup [idD o p.1, p.2]
theorem pairs_prD (o : Lb) : ∀ l : TD, pairsD (l.map (prD o)) = some (dT o l)
  | [] => rfl
  | p :: l => by
    show (match pairsD (l.map (prD o)) with | some kvs => some ((idD o p.1, p.2) :: kvs) | none => none) = _
    rw [pairs_prD o l]
    rfl
theorem keysOk_dT (o : Lb) : ∀ l : TD, keysOkT true (dT o l) = true
  | [] => rfl
  | p :: l => keysOk_dT o l
theorem merge_dT (o : Lb) : ∀ (l acc : TD), ((acc ++ l).map (·.1)).Nodup → mergeD (dT o acc) (dT o l) = dT o (acc ++ l)
  | [], acc, _ => by rw [List.append_nil]; rfl
  | p :: l, acc, hn => by
    show mergeD (putD (dT o acc) (idD o p.1) p.2) (dT o l) = _
    have h1 : lk acc p.1 = none := by
      refine lk_no fun q hq e => ?_
      rw [List.map_append, List.map_cons] at hn
      exact (List.nodup_append.mp hn).2.2 p.1 (e ▸ List.mem_map_of_mem (f := (·.1)) hq) p.1 (.head _) rfl
    rw [put_dT o _ h1, merge_dT o l (acc ++ [(p.1, p.2)]) (by rw [List.append_assoc]; exact hn), List.append_assoc]
    rfl
theorem dict_i {L : Mem} {l : TD} {Q : Rz → Prop} (hn : (l.map (·.1)).Nodup) (k : Q (.new (.dct true (dT o l)))) : dictD true L [.lst (l.map (prD o))] Q := by
  show someQ (pairsD (l.map (prD o))) fun kvs => okQ (keysOkT true kvs) (Q (.new (.dct true (mergeD [] kvs))))
  refine st_some (pairs_prD o l) ?_
  refine st_ok (keysOk_dT o l) ?_
  have := merge_dT o l [] hn
  rw [show mergeD [] (dT o l) = dT o l from this]
  exact k
end Law

namespace Law
open PySem L2 HI
/-! ### terms of sketches -/
inductive Sk where
  | num (v : Nat) | use (p : Lb × Nat) | op (g : Sg) (a b : Sk)
def skD : Sk → D
  | .num v => .int v
  | .use p => .tup [.str wUse, idD p.1 p.2]
  | .op g a b => .tup [.str (sgT g), skD a, skD b]
def szK : Sk → Nat
  | .num _ => 1
  | .use _ => 1
  | .op _ a b => szK a + szK b
def szKs : List Sk → Nat
  | [] => 0
  | e :: es => szK e + szKs es
def dpK : Sk → Nat
  | .op _ a b => max (dpK a) (dpK b) + 1
  | _ => 0
def smK : Sk → Prop
  | .num v => v < 1000000
  | .use _ => True
  | .op _ a b => smK a ∧ smK b
def ceK : Nat → Sk → CE
  | n, .num _ => .num n
  | n, .use _ => .use n
  | n, .op s a b => .op s (ceK n a) (ceK (n + szK a) b)
def ceKs : Nat → List Sk → List CE
  | _, [] => []
  | n, e :: es => ceK n e :: ceKs (n + szK e) es
def usK : Nat → Sk → TD
  | _, .num _ => []
  | n, .use p => [(n, idD p.1 p.2)]
  | n, .op _ a b => usK n a ++ usK (n + szK a) b
def vaK : Nat → Sk → TD
  | n, .num v => [(n, .int v)]
  | _, .use _ => []
  | n, .op _ a b => vaK n a ++ vaK (n + szK a) b
def usKs : Nat → List Sk → TD
  | _, [] => []
  | n, e :: es => usK n e ++ usKs (n + szK e) es
def vaKs : Nat → List Sk → TD
  | _, [] => []
  | n, e :: es => vaK n e ++ vaKs (n + szK e) es
/-- keys from n on, below m -/
def inK (n m : Nat) (l : TD) : Prop := ∀ p ∈ l, n ≤ p.1 ∧ p.1 < m
theorem inK.app {n m k : Nat} {l r : TD} (h : inK n m l) (g : inK m k r) (hm : n ≤ m) (hk : m ≤ k) : inK n k (l ++ r) := fun p hp => by
  rcases List.mem_append.mp hp with h1 | h1
  · have := h p h1; omega
  · have := g p h1; omega
theorem usK_in : ∀ (n : Nat) (e : Sk), inK n (n + szK e) (usK n e) ∧ inK n (n + szK e) (vaK n e) ∧ (usK n e).length ≤ szK e ∧ (vaK n e).length ≤ szK e
  | n, .num v => ⟨fun p hp => (nomatch hp), fun p hp => by rcases List.mem_singleton.mp hp with rfl; exact ⟨Nat.le_refl _, Nat.lt_succ_self _⟩, Nat.zero_le _, Nat.le_refl _⟩
  | n, .use q => ⟨fun p hp => by rcases List.mem_singleton.mp hp with rfl; exact ⟨Nat.le_refl _, Nat.lt_succ_self _⟩, fun p hp => (nomatch hp), Nat.le_refl _, Nat.zero_le _⟩
  | n, .op g a b => by
    obtain ⟨a1, a2, a3, a4⟩ := usK_in n a
    obtain ⟨b1, b2, b3, b4⟩ := usK_in (n + szK a) b
    have e : n + szK (.op g a b) = n + szK a + szK b := by show n + (szK a + szK b) = _; omega
    rw [e]
    refine ⟨a1.app b1 (by omega) (by omega), a2.app b2 (by omega) (by omega), ?_, ?_⟩
    · show (usK n a ++ usK (n + szK a) b).length ≤ szK a + szK b
      rw [List.length_append]; omega
    · show (vaK n a ++ vaK (n + szK a) b).length ≤ szK a + szK b
      rw [List.length_append]; omega
theorem ltK_app {n m : Nat} {l r : TD} (h : ltK n l) (g : inK n m r) (hm : n ≤ m) : ltK m (l ++ r) := fun p hp => by
  rcases List.mem_append.mp hp with h1 | h1
  · have := h p h1; omega
  · exact (g p h1).2
theorem ltK_us {n : Nat} {l : TD} (e : Sk) (h : ltK n l) : ltK (n + szK e) (l ++ usK n e) := ltK_app h (usK_in n e).1 (by omega)
theorem ltK_va {n : Nat} {l : TD} (e : Sk) (h : ltK n l) : ltK (n + szK e) (l ++ vaK n e) := ltK_app h (usK_in n e).2.1 (by omega)
/-! ### the state of a Sketched -/
structure St where
  n : Nat
  nm : TD
  mn : TD
  vl : TD
abbrev cSk : Lb := [83, 107, 101, 116, 99, 104, 101, 100]
def skF (o : Lb) (b : Nat) (n : Nat) : List (Lb × D) := [([95, 112, 101, 114, 115, 111, 110], .str o), ([110, 117, 109, 98, 101, 114], .int n), ([110, 101, 119, 95, 110, 97, 109, 101, 115], .cell (b + 1)), ([110, 101, 119, 95, 109, 101, 97, 110, 105, 110, 103, 115], .cell (b + 2)), ([110, 101, 119, 95, 118, 97, 108, 117, 101, 115], .cell (b + 3))]
def encS (o : Lb) (b : Nat) (s : St) : List D := [.obj cSk (skF o b s.n), .dct true (dT o s.nm), .dct true (dT o s.mn), .dct true (dT o s.vl)]
abbrev E (o : Lb) (M : Mem) (s : St) : Mem := M ++ encS o M.length s
abbrev St.inc (s : St) : St := { s with n := s.n + 1 }
theorem fresh_ok (o : Lb) (M : Mem) (s : St) : Det S_Sketched_fresh [.cell M.length] (E o M s) (.val (idD o s.n)) (E o M s.inc) := by
  intro Q k
  unfold S_Sketched_fresh b_Sketched_fresh
  conv => whnf
  (first | refine st_obj (hv0 rfl) ?_ | refine st_obj (hvk rfl) ?_ | refine st_some (hg0 rfl) ?_ | refine st_some (hgk rfl) ?_ | refine st_dct (hv0 rfl) ?_ | refine st_dct (hvk rfl) ?_)
  conv => whnf
  (first | refine st_obj (hv0 rfl) ?_ | refine st_obj (hvk rfl) ?_ | refine st_some (hg0 rfl) ?_ | refine st_some (hgk rfl) ?_ | refine st_dct (hv0 rfl) ?_ | refine st_dct (hvk rfl) ?_)
  conv => whnf
  (first | refine st_obj (hv0 rfl) ?_ | refine st_obj (hvk rfl) ?_ | refine st_some (hg0 rfl) ?_ | refine st_some (hgk rfl) ?_ | refine st_dct (hv0 rfl) ?_ | refine st_dct (hvk rfl) ?_)
  conv => whnf
  (first | refine st_obj (hv0 rfl) ?_ | refine st_obj (hvk rfl) ?_ | refine st_some (hg0 rfl) ?_ | refine st_some (hgk rfl) ?_ | refine st_dct (hv0 rfl) ?_ | refine st_dct (hvk rfl) ?_)
  conv => whnf
  rw [s0]
  exact k
def Fresh (o : Lb) (M : Mem) (F : HI.Spec) : Prop := ∀ s : St, Det F [.cell M.length] (E o M s) (.val (idD o s.n)) (E o M s.inc)
def Moves (o : Lb) (M : Mem) (F : HI.Spec) (ds : List D) (s : St) (r : D) (s' : St) : Prop := Det F (.cell M.length :: ds) (E o M s) (.val r) (E o M s')
variable {o : Lb} {M : Mem}
theorem decl_ok {F : HI.Spec} (hF : Fresh o M F) (s : St) (w : D) (hz : s.nm.length < 1000000) (hk : ltK s.n s.nm) : Moves o M (bodyS 3 2 (b_Sketched_made_declaration F)) [w] s (idD o s.n) { s with n := s.n + 1, nm := s.nm ++ [(s.n, w)] } := by
  intro Q k
  unfold b_Sketched_made_declaration
  conv => whnf
  (first | refine st_obj (hv0 rfl) ?_ | refine st_obj (hvk rfl) ?_ | refine st_some (hg0 rfl) ?_ | refine st_some (hgk rfl) ?_ | refine st_dct (hv0 rfl) ?_ | refine st_dct (hvk rfl) ?_)
  conv => whnf
  refine hF s _ ?_
  conv => whnf
  (first | refine st_obj (hv0 rfl) ?_ | refine st_obj (hvk rfl) ?_ | refine st_some (hg0 rfl) ?_ | refine st_some (hgk rfl) ?_ | refine st_dct (hv0 rfl) ?_ | refine st_dct (hvk rfl) ?_)
  conv => whnf
  refine st_putK rfl rfl (lk_lt hk) hz ?_
  conv => whnf
  exact k
theorem use_ok {F : HI.Spec} (hF : Fresh o M F) (s : St) (w : D) (hz : s.mn.length < 1000000) (hk : ltK s.n s.mn) : Moves o M (bodyS 3 2 (b_Sketched_made_use F)) [w] s (idD o s.n) { s with n := s.n + 1, mn := s.mn ++ [(s.n, w)] } := by
  intro Q k
  unfold b_Sketched_made_use
  conv => whnf
  (first | refine st_obj (hv0 rfl) ?_ | refine st_obj (hvk rfl) ?_ | refine st_some (hg0 rfl) ?_ | refine st_some (hgk rfl) ?_ | refine st_dct (hv0 rfl) ?_ | refine st_dct (hvk rfl) ?_)
  conv => whnf
  refine hF s _ ?_
  conv => whnf
  (first | refine st_obj (hv0 rfl) ?_ | refine st_obj (hvk rfl) ?_ | refine st_some (hg0 rfl) ?_ | refine st_some (hgk rfl) ?_ | refine st_dct (hv0 rfl) ?_ | refine st_dct (hvk rfl) ?_)
  conv => whnf
  refine st_putK rfl rfl (lk_lt hk) hz ?_
  conv => whnf
  exact k
end Law

namespace Law
open PySem L2 HI
variable {o : Lb} {M : Mem}
/-! ### expressions of sketches -/
def IsN (S : HI.Spec) : Prop := (∀ v : Nat, v < 1000000 → Pur S [.int v, .int 0, .int 999999] (.val (.bl true))) ∧ ∀ xs : List D, Pur S [.tup xs, .int 0, .int 999999] (.val (.bl false))
theorem isn_ok : IsN S_is_number := by
  refine ⟨fun v h M Q k => ?_, fun xs M Q k => ?_⟩
  · unfold S_is_number b_is_number
    conv => whnf
    have e2 : decide ((v : Int) ≤ 999999) = true := decide_eq_true (by omega)
    show Q (.val (.bl (decide ((v : Int) ≤ 999999)))) M
    rw [e2]; exact k
  · unfold S_is_number b_is_number
    conv => whnf
    exact k
structure Fits (s : St) (z : Nat) : Prop where
  km : ltK s.n s.mn
  kv : ltK s.n s.vl
  lm : s.mn.length + z ≤ 1000000
  lv : s.vl.length + z ≤ 1000000
def St.ex (s : St) (t : Sk) : St := ⟨s.n + szK t, s.nm, s.mn ++ usK s.n t, s.vl ++ vaK s.n t⟩
theorem szK_pos : ∀ t : Sk, 1 ≤ szK t
  | .num _ => Nat.le_refl _
  | .use _ => Nat.le_refl _
  | .op _ a b => by
    have := szK_pos a
    show 1 ≤ szK a + szK b
    omega
theorem Fits.ex {s : St} {t : Sk} {z : Nat} (h : Fits s (szK t + z)) : Fits (s.ex t) z := ⟨ltK_us t h.km, ltK_va t h.kv, by
  have := h.lm
  have := (usK_in s.n t).2.2.1
  show (s.mn ++ usK s.n t).length + z ≤ _
  rw [List.length_append]; omega, by
  have := h.lv
  have := (usK_in s.n t).2.2.2
  show (s.vl ++ vaK s.n t).length + z ≤ _
  rw [List.length_append]; omega⟩
theorem Fits.mono {s : St} {z y : Nat} (h : Fits s z) (g : y ≤ z) : Fits s y := ⟨h.km, h.kv, by have := h.lm; omega, by have := h.lv; omega⟩
def UseS (o : Lb) (M : Mem) (U : HI.Spec) : Prop := ∀ (s : St) (w : D), s.mn.length < 1000000 → ltK s.n s.mn → Moves o M U [w] s (idD o s.n) { s with n := s.n + 1, mn := s.mn ++ [(s.n, w)] }
theorem use_all (o : Lb) (M : Mem) : UseS o M S_Sketched_made_use := fun s w h1 h2 => use_ok (fresh_ok o M) s w h1 h2
def ExK (o : Lb) (M : Mem) (X : HI.Spec) (t : Sk) : Prop := ∀ s : St, Fits s (szK t) → Moves o M X [skD t] s (ceD o (ceK s.n t)) (s.ex t)
abbrev exS (N R F U : HI.Spec) : HI.Spec := bodyS 4 2 (b_Sketched_expression N R F U)
variable {N R F U : HI.Spec}
theorem ex_num (hN : IsN N) (hF : Fresh o M F) {v : Nat} (hv : v < 1000000) : ExK o M (exS N R F U) (.num v) := by
  intro s hs Q k
  have hl := hs.lv
  have hl : s.vl.length + 1 ≤ 1000000 := hl
  unfold exS b_Sketched_expression
  conv => whnf
  refine hN.1 v hv _ _ ?_
  conv => whnf
  (first | refine st_obj (hv0 rfl) ?_ | refine st_obj (hvk rfl) ?_ | refine st_some (hg0 rfl) ?_ | refine st_some (hgk rfl) ?_ | refine st_dct (hv0 rfl) ?_ | refine st_dct (hvk rfl) ?_)
  conv => whnf
  refine hF s _ ?_
  conv => whnf
  (first | refine st_obj (hv0 rfl) ?_ | refine st_obj (hvk rfl) ?_ | refine st_some (hg0 rfl) ?_ | refine st_some (hgk rfl) ?_ | refine st_dct (hv0 rfl) ?_ | refine st_dct (hvk rfl) ?_)
  conv => whnf
  refine st_putK rfl rfl (lk_lt hs.kv) (show s.vl.length < 1000000 by omega) ?_
  conv => whnf
  unfold St.ex at k
  rw [show s.mn ++ usK s.n (.num v) = s.mn from List.append_nil _] at k
  exact k
theorem ex_use (hN : IsN N) (hU : UseS o M U) (p : Lb × Nat) : ExK o M (exS N R F U) (.use p) := by
  intro s hs Q k
  have hl : s.mn.length + 1 ≤ 1000000 := hs.lm
  unfold exS b_Sketched_expression
  conv => whnf
  refine hN.2 _ _ _ ?_
  conv => whnf
  (first | refine st_obj (hv0 rfl) ?_ | refine st_obj (hvk rfl) ?_ | refine st_some (hg0 rfl) ?_ | refine st_some (hgk rfl) ?_ | refine st_dct (hv0 rfl) ?_ | refine st_dct (hvk rfl) ?_)
  conv => whnf
  refine hU s _ (by omega) hs.km _ ?_
  conv => whnf
  unfold St.ex at k
  rw [show s.vl ++ vaK s.n (.use p) = s.vl from List.append_nil _] at k
  exact k
theorem ex_op (hN : IsN N) (g : Sg) {a b : Sk} (ha : ExK o M R a) (hb : ExK o M R b) : ExK o M (exS N R F U) (.op g a b) := by
  intro s hs Q k
  have hs : Fits s (szK a + szK b) := hs
  unfold exS b_Sketched_expression
  conv => whnf
  refine hN.2 _ _ _ ?_
  conv => whnf
  refine IF_f (by cases g <;> rfl) ?_
  conv => whnf
  (first | refine st_obj (hv0 rfl) ?_ | refine st_obj (hvk rfl) ?_ | refine st_some (hg0 rfl) ?_ | refine st_some (hgk rfl) ?_ | refine st_dct (hv0 rfl) ?_ | refine st_dct (hvk rfl) ?_)
  conv => whnf
  refine ha s (hs.mono (by omega)) _ ?_
  conv => whnf
  (first | refine st_obj (hv0 rfl) ?_ | refine st_obj (hvk rfl) ?_ | refine st_some (hg0 rfl) ?_ | refine st_some (hgk rfl) ?_ | refine st_dct (hv0 rfl) ?_ | refine st_dct (hvk rfl) ?_)
  conv => whnf
  refine hb (s.ex a) hs.ex _ ?_
  conv => whnf
  have e : (s.ex a).ex b = s.ex (.op g a b) := by
    unfold St.ex
    show St.mk (s.n + szK a + szK b) s.nm (s.mn ++ usK s.n a ++ usK (s.n + szK a) b) (s.vl ++ vaK s.n a ++ vaK (s.n + szK a) b) = St.mk (s.n + (szK a + szK b)) s.nm (s.mn ++ (usK s.n a ++ usK (s.n + szK a) b)) (s.vl ++ (vaK s.n a ++ vaK (s.n + szK a) b))
    rw [Nat.add_assoc, List.append_assoc, List.append_assoc]
  rw [← e] at k
  exact k
theorem ex_all (X : Nat → HI.Spec) (hX : ∀ n, X (n + 1) = exS N (X n) F U) (hN : IsN N) (hF : Fresh o M F) (hU : UseS o M U) : ∀ (t : Sk) (n : Nat), dpK t < n → smK t → ExK o M (X n) t
  | _, 0, h, _ => absurd h (Nat.not_lt_zero _)
  | .num v, n + 1, _, hv => by rw [hX]; exact ex_num hN hF hv
  | .use p, n + 1, _, _ => by rw [hX]; exact ex_use hN hU p
  | .op g a b, n + 1, h, hv => by
    have h : max (dpK a) (dpK b) + 1 < n + 1 := h
    have hv : smK a ∧ smK b := hv
    rw [hX]
    exact ex_op hN g (ex_all X hX hN hF hU a n (by omega) hv.1) (ex_all X hX hN hF hU b n (by omega) hv.2)
theorem expr_ok (o : Lb) (M : Mem) {t : Sk} (h : dpK t < 8) (hv : smK t) : ExK o M S_Sketched_expression t := ex_all Sr_Sketched_expression (fun _ => rfl) isn_ok (fresh_ok o M) (use_all o M) t 8 h hv
end Law

namespace Law
open PySem L2 HI
variable {o : Lb} {M : Mem}
/-! ### contents of sketches -/
inductive Sh where
  | let_ (w : Lb) (e : Sk) | set_ (p : Lb × Nat) (e : Sk) | read (p : Lb × Nat) | do_ (p : Lb × Nat) (es : List Sk) | def_ (w : Lb) (ps : List Lb) | blk | out (e : Sk) | if_ (e : Sk) | rep (e : Sk)
def idP (p : Lb × Nat) : D := idD p.1 p.2
def shD : Sh → D
  | .let_ w e => .tup [.str wLet, .str w, skD e]
  | .set_ p e => .tup [.str wSet, idP p, skD e]
  | .read p => .tup [.str wRead, idP p]
  | .do_ p es => .tup [.str wDo, idP p, .tup (es.map skD)]
  | .def_ w ps => .tup [.str wDef, .str w, .tup (ps.map .str)]
  | .blk => .tup [.str wBlk]
  | .out e => .tup [.str wOut, skD e]
  | .if_ e => .tup [.str wIf, skD e]
  | .rep e => .tup [.str wRep, skD e]
def szH : Sh → Nat
  | .let_ _ e => 1 + szK e
  | .set_ _ e => 1 + szK e
  | .read _ => 1
  | .do_ _ es => 1 + szKs es
  | .def_ _ ps => 2 + ps.length
  | .blk => 1
  | .out e => szK e
  | .if_ e => szK e + 2
  | .rep e => szK e + 1
def crH (n : Nat) : Sh → CR
  | .let_ _ e => .let_ n (ceK (n + 1) e)
  | .set_ _ e => .set_ n (ceK (n + 1) e)
  | .read _ => .read n
  | .do_ _ es => .do_ n (ceKs (n + 1) es)
  | .def_ _ ps => .def_ n (up (n + 2) ps.length) (n + 1)
  | .blk => .blk n
  | .out e => .out (ceK n e)
  | .if_ e => .if_ (ceK n e) (n + szK e) (n + szK e + 1)
  | .rep e => .rep (ceK n e) (n + szK e)
def nmPs : Nat → List Lb → TD
  | _, [] => []
  | n, w :: ws => (n, .str w) :: nmPs (n + 1) ws
def nmH (n : Nat) : Sh → TD
  | .let_ w _ => [(n, .str w)]
  | .def_ w ps => (n, .str w) :: nmPs (n + 2) ps
  | _ => []
def mnH (n : Nat) : Sh → TD
  | .let_ _ e => usK (n + 1) e
  | .set_ p e => (n, idP p) :: usK (n + 1) e
  | .read p => [(n, idP p)]
  | .do_ p es => (n, idP p) :: usKs (n + 1) es
  | .def_ _ _ => []
  | .blk => []
  | .out e => usK n e
  | .if_ e => usK n e
  | .rep e => usK n e
def vlH (n : Nat) : Sh → TD
  | .let_ _ e => vaK (n + 1) e
  | .set_ _ e => vaK (n + 1) e
  | .do_ _ es => vaKs (n + 1) es
  | .out e => vaK n e
  | .if_ e => vaK n e
  | .rep e => vaK n e
  | _ => []
def exH : Sh → List Sk
  | .let_ _ e => [e]
  | .set_ _ e => [e]
  | .do_ _ es => es
  | .out e => [e]
  | .if_ e => [e]
  | .rep e => [e]
  | _ => []
structure ShOk (h : Sh) : Prop where
  dp : ∀ e ∈ exH h, dpK e < 6
  sm : ∀ e ∈ exH h, smK e
  sz : szH h ≤ 1000
/-- the state behind all -/
def St.con (n : Nat) (h : Sh) : St := ⟨n + szH h, nmH n h, mnH n h, vlH n h⟩
abbrev St.ini (n : Nat) : St := ⟨n, [], [], []⟩
def DecS (o : Lb) (M : Mem) (S : HI.Spec) : Prop := ∀ (s : St) (w : D), s.nm.length < 1000000 → ltK s.n s.nm → Moves o M S [w] s (idD o s.n) { s with n := s.n + 1, nm := s.nm ++ [(s.n, w)] }
theorem dec_all (o : Lb) (M : Mem) : DecS o M S_Sketched_made_declaration := fun s w h1 h2 => decl_ok (fresh_ok o M) s w h1 h2
abbrev coS (X F W U : HI.Spec) : HI.Spec := bodyS 9 2 (b_Sketched_content X F W U)
def CoK (o : Lb) (M : Mem) (S : HI.Spec) (h : Sh) : Prop := ∀ n : Nat, Moves o M S [shD h] (.ini n) (crD o (crH n h)) (.con n h)
variable {X F W U : HI.Spec}
theorem fits_ini (n : Nat) {z : Nat} (h : z ≤ 1000) : Fits (.ini n) z := ⟨fun p hp => (nomatch hp), fun p hp => (nomatch hp), by show 0 + z ≤ _; omega, by show 0 + z ≤ _; omega⟩
end Law

namespace Law
open PySem L2 HI
variable {o : Lb} {M : Mem} {X F W U : HI.Spec}
def St.exs (s : St) (es : List Sk) : St := ⟨s.n + szKs es, s.nm, s.mn ++ usKs s.n es, s.vl ++ vaKs s.n es⟩
theorem exs_cons (s : St) (e : Sk) (es : List Sk) : (s.ex e).exs es = s.exs (e :: es) := by
  unfold St.ex St.exs
  show St.mk (s.n + szK e + szKs es) s.nm (s.mn ++ usK s.n e ++ usKs (s.n + szK e) es) (s.vl ++ vaK s.n e ++ vaKs (s.n + szK e) es) = St.mk (s.n + (szK e + szKs es)) s.nm (s.mn ++ (usK s.n e ++ usKs (s.n + szK e) es)) (s.vl ++ (vaK s.n e ++ vaKs (s.n + szK e) es))
  rw [Nat.add_assoc, List.append_assoc, List.append_assoc]
theorem exs_nil (s : St) : s.exs [] = s := by
  unfold St.exs
  show St.mk s.n s.nm (s.mn ++ []) (s.vl ++ []) = s
  rw [List.append_nil, List.append_nil]
theorem lc_exK {x1 x2 x3 x4 x5 x6 x7 x8 : Sl} : ∀ (es : List Sk) (s : St) (Q : List D → Mem → Prop), (∀ e ∈ es, ExK o M X e) → Fits s (szKs es) → Q ((ceKs s.n es).map (ceD o)) (E o M (s.exs es)) → lcL [.val (.cell M.length), x1, x2, x3, x4, x5, x6, x7, x8] (.one 8) tTrue (eMeth [83, 107, 101, 116, 99, 104, 101, 100] [101, 120, 112, 114, 101, 115, 115, 105, 111, 110] X (eV 0) (aCons (eV 8) (aNil))) none (es.map skD) (E o M s) Q
  | [], s, Q, _, _, k => by
    rw [exs_nil] at k
    exact k
  | e :: es, s, Q, hX, hs, k => by
    have hs : Fits s (szK e + szKs es) := hs
    conv => whnf
    (first | refine st_obj (hv0 rfl) ?_ | refine st_obj (hvk rfl) ?_ | refine st_some (hg0 rfl) ?_ | refine st_some (hgk rfl) ?_ | refine st_dct (hv0 rfl) ?_ | refine st_dct (hvk rfl) ?_)
    conv => whnf
    refine hX e (.head _) s (hs.mono (by omega)) _ ?_
    conv => whnf
    refine lc_exK es (s.ex e) _ (fun e he => hX e (.tail _ he)) hs.ex ?_
    rw [exs_cons]
    exact k
theorem lc_dec {x1 x2 x3 x4 x5 x6 x7 x8 : Sl} (hW : DecS o M W) : ∀ (ws : List Lb) (s : St) (Q : List D → Mem → Prop), ltK s.n s.nm → s.nm.length + ws.length ≤ 1000000 → Q ((up s.n ws.length).map (idD o)) (E o M ⟨s.n + ws.length, s.nm ++ nmPs s.n ws, s.mn, s.vl⟩) → lcL [.val (.cell M.length), x1, x2, x3, x4, x5, x6, x7, x8] (.one 7) tTrue (eMeth [83, 107, 101, 116, 99, 104, 101, 100] [109, 97, 100, 101, 95, 100, 101, 99, 108, 97, 114, 97, 116, 105, 111, 110] W (eV 0) (aCons (eV 7) (aNil))) none (ws.map .str) (E o M s) Q
  | [], s, Q, _, _, k => by
    have k : Q [] (E o M ⟨s.n, s.nm ++ [], s.mn, s.vl⟩) := k
    rw [List.append_nil] at k
    exact k
  | w :: ws, s, Q, hk, hz, k => by
    have hz : s.nm.length + (ws.length + 1) ≤ 1000000 := hz
    conv => whnf
    (first | refine st_obj (hv0 rfl) ?_ | refine st_obj (hvk rfl) ?_ | refine st_some (hg0 rfl) ?_ | refine st_some (hgk rfl) ?_ | refine st_dct (hv0 rfl) ?_ | refine st_dct (hvk rfl) ?_)
    conv => whnf
    refine hW s (.str w) (by omega) hk _ ?_
    conv => whnf
    refine lc_dec hW ws { s with n := s.n + 1, nm := s.nm ++ [(s.n, .str w)] } _ (ltK_put (ltK_le hk (Nat.le_succ _)) (Nat.lt_succ_self _)) (by rw [List.length_append]; show s.nm.length + 1 + ws.length ≤ _; omega) ?_
    have k : Q (idD o s.n :: (up (s.n + 1) ws.length).map (idD o)) (E o M ⟨s.n + (ws.length + 1), s.nm ++ ((s.n, .str w) :: nmPs (s.n + 1) ws), s.mn, s.vl⟩) := k
    rw [show s.n + (ws.length + 1) = s.n + 1 + ws.length by omega, show s.nm ++ ((s.n, .str w) :: nmPs (s.n + 1) ws) = s.nm ++ [(s.n, .str w)] ++ nmPs (s.n + 1) ws by rw [List.append_assoc]; rfl] at k
    exact k
theorem co_let {w : Lb} {e : Sk} (hz : szH (.let_ w e) ≤ 1000) (hW : DecS o M W) (hX : ExK o M X e) : CoK o M (coS X F W U) (.let_ w e) := by
  intro n Q k
  have hz : 1 + szK e ≤ 1000 := hz
  unfold coS b_Sketched_content
  conv => whnf
  (first | refine st_obj (hv0 rfl) ?_ | refine st_obj (hvk rfl) ?_ | refine st_some (hg0 rfl) ?_ | refine st_some (hgk rfl) ?_ | refine st_dct (hv0 rfl) ?_ | refine st_dct (hvk rfl) ?_)
  conv => whnf
  refine hW (.ini n) (.str w) (by show 0 < 1000000; decide) (fun p hp => (nomatch hp)) _ ?_
  conv => whnf
  (first | refine st_obj (hv0 rfl) ?_ | refine st_obj (hvk rfl) ?_ | refine st_some (hg0 rfl) ?_ | refine st_some (hgk rfl) ?_ | refine st_dct (hv0 rfl) ?_ | refine st_dct (hvk rfl) ?_)
  conv => whnf
  refine hX ⟨n + 1, [(n, .str w)], [], []⟩ ⟨fun p hp => (nomatch hp), fun p hp => (nomatch hp), by show 0 + szK e ≤ _; omega, by show 0 + szK e ≤ _; omega⟩ _ ?_
  conv => whnf
  have e : (St.mk (n + 1) [(n, .str w)] [] []).ex e = .con n (.let_ w e) := by
    show St.mk (n + 1 + szK e) [(n, .str w)] ([] ++ usK (n + 1) e) ([] ++ vaK (n + 1) e) = St.mk (n + (1 + szK e)) [(n, .str w)] (usK (n + 1) e) (vaK (n + 1) e)
    rw [List.nil_append, List.nil_append, Nat.add_assoc]
  rw [← e] at k
  exact k
theorem co_set {p : Lb × Nat} {e : Sk} (hz : szH (.set_ p e) ≤ 1000) (hU : UseS o M U) (hX : ExK o M X e) : CoK o M (coS X F W U) (.set_ p e) := by
  intro n Q k
  have hz : 1 + szK e ≤ 1000 := hz
  unfold coS b_Sketched_content
  conv => whnf
  (first | refine st_obj (hv0 rfl) ?_ | refine st_obj (hvk rfl) ?_ | refine st_some (hg0 rfl) ?_ | refine st_some (hgk rfl) ?_ | refine st_dct (hv0 rfl) ?_ | refine st_dct (hvk rfl) ?_)
  conv => whnf
  refine hU (.ini n) (idP p) (by show 0 < 1000000; decide) (fun p hp => (nomatch hp)) _ ?_
  conv => whnf
  (first | refine st_obj (hv0 rfl) ?_ | refine st_obj (hvk rfl) ?_ | refine st_some (hg0 rfl) ?_ | refine st_some (hgk rfl) ?_ | refine st_dct (hv0 rfl) ?_ | refine st_dct (hvk rfl) ?_)
  conv => whnf
  refine hX ⟨n + 1, [], [(n, idP p)], []⟩ ⟨fun q hq => by rcases List.mem_singleton.mp hq with rfl; exact Nat.lt_succ_self _, fun p hp => (nomatch hp), by show 1 + szK e ≤ _; omega, by show 0 + szK e ≤ _; omega⟩ _ ?_
  conv => whnf
  have e : (St.mk (n + 1) [] [(n, idP p)] []).ex e = .con n (.set_ p e) := by
    show St.mk (n + 1 + szK e) [] ([(n, idP p)] ++ usK (n + 1) e) ([] ++ vaK (n + 1) e) = St.mk (n + (1 + szK e)) [] ((n, idP p) :: usK (n + 1) e) (vaK (n + 1) e)
    rw [List.nil_append, Nat.add_assoc]; rfl
  rw [← e] at k
  exact k
theorem co_read {p : Lb × Nat} (hU : UseS o M U) : CoK o M (coS X F W U) (.read p) := by
  intro n Q k
  unfold coS b_Sketched_content
  conv => whnf
  (first | refine st_obj (hv0 rfl) ?_ | refine st_obj (hvk rfl) ?_ | refine st_some (hg0 rfl) ?_ | refine st_some (hgk rfl) ?_ | refine st_dct (hv0 rfl) ?_ | refine st_dct (hvk rfl) ?_)
  conv => whnf
  refine hU (.ini n) (idP p) (by show 0 < 1000000; decide) (fun p hp => (nomatch hp)) _ ?_
  conv => whnf
  exact k
theorem co_do {p : Lb × Nat} {es : List Sk} (hz : szH (.do_ p es) ≤ 1000) (hU : UseS o M U) (hl : es.length ≤ 1000) (hX : ∀ e ∈ es, ExK o M X e) : CoK o M (coS X F W U) (.do_ p es) := by
  intro n Q k
  have hz : 1 + szKs es ≤ 1000 := hz
  unfold coS b_Sketched_content
  conv => whnf
  (first | refine st_obj (hv0 rfl) ?_ | refine st_obj (hvk rfl) ?_ | refine st_some (hg0 rfl) ?_ | refine st_some (hgk rfl) ?_ | refine st_dct (hv0 rfl) ?_ | refine st_dct (hvk rfl) ?_)
  conv => whnf
  refine hU (.ini n) (idP p) (by show 0 < 1000000; decide) (fun p hp => (nomatch hp)) _ ?_
  conv => whnf
  refine IF_t (Nat.ble_eq_true_of_le (by show (es.map skD).length ≤ _; rw [List.length_map]; omega)) ?_
  refine lc_exK es ⟨n + 1, [], [(n, idP p)], []⟩ _ hX ⟨fun q hq => by rcases List.mem_singleton.mp hq with rfl; exact Nat.lt_succ_self _, fun p hp => (nomatch hp), by show 1 + szKs es ≤ _; omega, by show 0 + szKs es ≤ _; omega⟩ ?_
  conv => whnf
  have e : (St.mk (n + 1) [] [(n, idP p)] []).exs es = .con n (.do_ p es) := by
    show St.mk (n + 1 + szKs es) [] ([(n, idP p)] ++ usKs (n + 1) es) ([] ++ vaKs (n + 1) es) = St.mk (n + (1 + szKs es)) [] ((n, idP p) :: usKs (n + 1) es) (vaKs (n + 1) es)
    rw [List.nil_append, Nat.add_assoc]; rfl
  rw [← e] at k
  exact k
end Law

namespace Law
open PySem L2 HI
variable {o : Lb} {M : Mem} {X F W U : HI.Spec}
theorem co_out {e : Sk} (hz : szH (.out e) ≤ 1000) (hX : ExK o M X e) : CoK o M (coS X F W U) (.out e) := by
  intro n Q k
  have hz : szK e ≤ 1000 := hz
  unfold coS b_Sketched_content
  conv => whnf
  (first | refine st_obj (hv0 rfl) ?_ | refine st_obj (hvk rfl) ?_ | refine st_some (hg0 rfl) ?_ | refine st_some (hgk rfl) ?_ | refine st_dct (hv0 rfl) ?_ | refine st_dct (hvk rfl) ?_)
  conv => whnf
  refine hX (.ini n) (fits_ini n hz) _ ?_
  conv => whnf
  exact k
theorem co_rep {e : Sk} (hz : szH (.rep e) ≤ 1000) (hF : Fresh o M F) (hX : ExK o M X e) : CoK o M (coS X F W U) (.rep e) := by
  intro n Q k
  have hz : szK e + 1 ≤ 1000 := hz
  unfold coS b_Sketched_content
  conv => whnf
  (first | refine st_obj (hv0 rfl) ?_ | refine st_obj (hvk rfl) ?_ | refine st_some (hg0 rfl) ?_ | refine st_some (hgk rfl) ?_ | refine st_dct (hv0 rfl) ?_ | refine st_dct (hvk rfl) ?_)
  conv => whnf
  refine hX (.ini n) (fits_ini n (by omega)) _ ?_
  conv => whnf
  (first | refine st_obj (hv0 rfl) ?_ | refine st_obj (hvk rfl) ?_ | refine st_some (hg0 rfl) ?_ | refine st_some (hgk rfl) ?_ | refine st_dct (hv0 rfl) ?_ | refine st_dct (hvk rfl) ?_)
  conv => whnf
  refine hF ((St.ini n).ex e) _ ?_
  conv => whnf
  exact k
theorem co_if {e : Sk} (hz : szH (.if_ e) ≤ 1000) (hF : Fresh o M F) (hX : ExK o M X e) : CoK o M (coS X F W U) (.if_ e) := by
  intro n Q k
  have hz : szK e + 2 ≤ 1000 := hz
  unfold coS b_Sketched_content
  conv => whnf
  (first | refine st_obj (hv0 rfl) ?_ | refine st_obj (hvk rfl) ?_ | refine st_some (hg0 rfl) ?_ | refine st_some (hgk rfl) ?_ | refine st_dct (hv0 rfl) ?_ | refine st_dct (hvk rfl) ?_)
  conv => whnf
  refine hX (.ini n) (fits_ini n (by omega)) _ ?_
  conv => whnf
  (first | refine st_obj (hv0 rfl) ?_ | refine st_obj (hvk rfl) ?_ | refine st_some (hg0 rfl) ?_ | refine st_some (hgk rfl) ?_ | refine st_dct (hv0 rfl) ?_ | refine st_dct (hvk rfl) ?_)
  conv => whnf
  refine hF ((St.ini n).ex e) _ ?_
  conv => whnf
  (first | refine st_obj (hv0 rfl) ?_ | refine st_obj (hvk rfl) ?_ | refine st_some (hg0 rfl) ?_ | refine st_some (hgk rfl) ?_ | refine st_dct (hv0 rfl) ?_ | refine st_dct (hvk rfl) ?_)
  conv => whnf
  refine hF ((St.ini n).ex e).inc _ ?_
  conv => whnf
  exact k
theorem co_blk (hF : Fresh o M F) : CoK o M (coS X F W U) .blk := by
  intro n Q k
  unfold coS b_Sketched_content
  conv => whnf
  (first | refine st_obj (hv0 rfl) ?_ | refine st_obj (hvk rfl) ?_ | refine st_some (hg0 rfl) ?_ | refine st_some (hgk rfl) ?_ | refine st_dct (hv0 rfl) ?_ | refine st_dct (hvk rfl) ?_)
  conv => whnf
  refine hF (.ini n) _ ?_
  conv => whnf
  exact k
theorem up_len : ∀ n k : Nat, (up n k).length = k
  | _, 0 => rfl
  | n, k + 1 => congrArg (· + 1) (up_len (n + 1) k)
theorem co_def {w : Lb} {ps : List Lb} (hz : szH (.def_ w ps) ≤ 1000) (hF : Fresh o M F) (hW : DecS o M W) : CoK o M (coS X F W U) (.def_ w ps) := by
  intro n Q k
  have hz : 2 + ps.length ≤ 1000 := hz
  unfold coS b_Sketched_content
  conv => whnf
  (first | refine st_obj (hv0 rfl) ?_ | refine st_obj (hvk rfl) ?_ | refine st_some (hg0 rfl) ?_ | refine st_some (hgk rfl) ?_ | refine st_dct (hv0 rfl) ?_ | refine st_dct (hvk rfl) ?_)
  conv => whnf
  refine hW (.ini n) (.str w) (by show 0 < 1000000; decide) (fun p hp => (nomatch hp)) _ ?_
  conv => whnf
  (first | refine st_obj (hv0 rfl) ?_ | refine st_obj (hvk rfl) ?_ | refine st_some (hg0 rfl) ?_ | refine st_some (hgk rfl) ?_ | refine st_dct (hv0 rfl) ?_ | refine st_dct (hvk rfl) ?_)
  conv => whnf
  refine hF ⟨n + 1, [(n, .str w)], [], []⟩ _ ?_
  conv => whnf
  refine IF_t (Nat.ble_eq_true_of_le (by show (ps.map D.str).length ≤ _; rw [List.length_map]; omega)) ?_
  refine lc_dec hW ps ⟨n + 1 + 1, [(n, .str w)], [], []⟩ _ (fun q hq => by rcases List.mem_singleton.mp hq with rfl; show n < n + 1 + 1; omega) (by show 1 + ps.length ≤ _; omega) ?_
  conv => whnf
  have e : St.mk (n + 1 + 1 + ps.length) ([(n, .str w)] ++ nmPs (n + 1 + 1) ps) [] [] = .con n (.def_ w ps) := by
    show _ = St.mk (n + (2 + ps.length)) ((n, .str w) :: nmPs (n + 2) ps) [] []
    rw [show n + 1 + 1 + ps.length = n + (2 + ps.length) by omega]; rfl
  rw [← e] at k
  exact k
theorem szKs_len : ∀ es : List Sk, es.length ≤ szKs es
  | [] => Nat.le_refl _
  | e :: es => by
    have := szK_pos e
    have := szKs_len es
    show es.length + 1 ≤ szK e + szKs es
    omega
theorem con_ok (o : Lb) (M : Mem) {h : Sh} (ho : ShOk h) : CoK o M S_Sketched_content h := by
  have hX : ∀ e ∈ exH h, ExK o M S_Sketched_expression e := fun e he => expr_ok o M (by have := ho.dp e he; omega) (ho.sm e he)
  have hF := fresh_ok o M
  have hW := dec_all o M
  have hU := use_all o M
  have hz := ho.sz
  cases h with
  | let_ w e => exact co_let hz hW (hX e (.head _))
  | set_ p e => exact co_set hz hU (hX e (.head _))
  | read p => exact co_read hU
  | do_ p es => exact co_do hz hU (by have := szKs_len es; have hz : 1 + szKs es ≤ 1000 := hz; omega) hX
  | def_ w ps => exact co_def hz hF hW
  | blk => exact co_blk hF
  | out e => exact co_out hz (hX e (.head _))
  | if_ e => exact co_if hz hF (hX e (.head _))
  | rep e => exact co_rep hz hF (hX e (.head _))
/-! ### a sketch put in -/
def SkdS (S : HI.Spec) (o : Lb) (h : Sh) (n : Nat) : Prop := ∀ M : Mem, Det S [shD h, .str o, .int n] M (.val (.tup [crD o (crH (n + 1) h), .cell (M.length + 1), .cell (M.length + 2), .cell (M.length + 3), .int (n + 1 + szH h : Nat)])) (E o M (.con (n + 1) h))
theorem ini_ok (o : Lb) (M : Mem) (n : Nat) : Det S_Sketched___init__ [.cell M.length, .str o, .int n] (M ++ [.obj cSk []]) (.val .non) (E o M (.ini n)) := by
  intro Q k
  unfold S_Sketched___init__ b_Sketched___init__
  conv => whnf
  (first | refine st_obj (hv0 rfl) ?_ | refine st_obj (hvk rfl) ?_ | refine st_some (hg0 rfl) ?_ | refine st_some (hgk rfl) ?_ | refine st_dct (hv0 rfl) ?_ | refine st_dct (hvk rfl) ?_)
  conv => whnf
  rw [s0]
  conv => whnf
  (first | refine st_obj (hv0 rfl) ?_ | refine st_obj (hvk rfl) ?_ | refine st_some (hg0 rfl) ?_ | refine st_some (hgk rfl) ?_ | refine st_dct (hv0 rfl) ?_ | refine st_dct (hvk rfl) ?_)
  conv => whnf
  rw [s0]
  conv => whnf
  rw [aaM M, laM M]
  (first | refine st_obj (hv0 rfl) ?_ | refine st_obj (hvk rfl) ?_ | refine st_some (hg0 rfl) ?_ | refine st_some (hgk rfl) ?_ | refine st_dct (hv0 rfl) ?_ | refine st_dct (hvk rfl) ?_)
  conv => whnf
  rw [s0]
  conv => whnf
  rw [aaM M, laM M]
  (first | refine st_obj (hv0 rfl) ?_ | refine st_obj (hvk rfl) ?_ | refine st_some (hg0 rfl) ?_ | refine st_some (hgk rfl) ?_ | refine st_dct (hv0 rfl) ?_ | refine st_dct (hvk rfl) ?_)
  conv => whnf
  rw [s0]
  conv => whnf
  rw [aaM M, laM M]
  (first | refine st_obj (hv0 rfl) ?_ | refine st_obj (hvk rfl) ?_ | refine st_some (hg0 rfl) ?_ | refine st_some (hgk rfl) ?_ | refine st_dct (hv0 rfl) ?_ | refine st_dct (hvk rfl) ?_)
  conv => whnf
  rw [s0]
  exact k
theorem sketched_ok' {I C : HI.Spec} {h : Sh} {n : Nat} (hI : ∀ M : Mem, Det I [.cell M.length, .str o, .int (n + 1 : Nat)] (M ++ [.obj cSk []]) (.val .non) (E o M (.ini (n + 1)))) (hC : ∀ M : Mem, CoK o M C h) : SkdS (bodyS 5 3 (b_sketched I C)) o h n := by
  intro M Q k
  have e1 : ((n : Int) + 1) = ((n + 1 : Nat) : Int) := by omega
  unfold b_sketched
  conv => whnf
  show I [.cell M.length, .str o, .int ((n : Int) + 1)] (M ++ [.obj cSk []]) _
  rw [e1]
  refine hI M _ ?_
  conv => whnf
  (first | refine st_obj (hv0 rfl) ?_ | refine st_obj (hvk rfl) ?_ | refine st_some (hg0 rfl) ?_ | refine st_some (hgk rfl) ?_ | refine st_dct (hv0 rfl) ?_ | refine st_dct (hvk rfl) ?_)
  conv => whnf
  refine hC M (n + 1) _ ?_
  conv => whnf
  (first | refine st_obj (hv0 rfl) ?_ | refine st_obj (hvk rfl) ?_ | refine st_some (hg0 rfl) ?_ | refine st_some (hgk rfl) ?_ | refine st_dct (hv0 rfl) ?_ | refine st_dct (hvk rfl) ?_)
  conv => whnf
  (first | refine st_obj (hv0 rfl) ?_ | refine st_obj (hvk rfl) ?_ | refine st_some (hg0 rfl) ?_ | refine st_some (hgk rfl) ?_ | refine st_dct (hv0 rfl) ?_ | refine st_dct (hvk rfl) ?_)
  conv => whnf
  (first | refine st_obj (hv0 rfl) ?_ | refine st_obj (hvk rfl) ?_ | refine st_some (hg0 rfl) ?_ | refine st_some (hgk rfl) ?_ | refine st_dct (hv0 rfl) ?_ | refine st_dct (hvk rfl) ?_)
  conv => whnf
  (first | refine st_obj (hv0 rfl) ?_ | refine st_obj (hvk rfl) ?_ | refine st_some (hg0 rfl) ?_ | refine st_some (hgk rfl) ?_ | refine st_dct (hv0 rfl) ?_ | refine st_dct (hvk rfl) ?_)
  conv => whnf
  exact k
theorem sketched_ok (o : Lb) {h : Sh} (n : Nat) (ho : ShOk h) : SkdS S_sketched o h n := sketched_ok' (fun M => ini_ok o M (n + 1)) fun M => con_ok o M ho
end Law

namespace Law
open PySem L2 HI
variable {o : Lb} {M R : Mem}
/-! ### the law's own sketching -/
def wD (o : Lb) (s : St) : D := .dct false [(.str [111, 119, 110, 101, 114], .str o), (.str [110, 101, 120, 116], .int s.n), (.str [117, 115, 101, 115], .lst (s.mn.map (prD o))), (.str [118, 97, 108, 117, 101, 115], .lst (s.vl.map (prD o)))]
abbrev WM (o : Lb) (M : Mem) (s : St) (R : Mem) : Mem := M ++ (wD o s :: R)
theorem vW (o : Lb) (M : Mem) (s : St) (R : Mem) : view (WM o M s R) (.cell M.length) = wD o s := hv0 (M := M) (l := wD o s :: R) (x := wD o s) rfl
def LNew (o : Lb) (F : HI.Spec) : Prop := ∀ (M : Mem) (s : St) (R : Mem), Det F [.cell M.length] (WM o M s R) (.val (idD o s.n)) (WM o M s.inc R)
theorem lnew_ok (o : Lb) : LNew o S__law_new := by
  intro M s R Q k
  have e1 : ((s.n : Int) + 1) = ((s.n + 1 : Nat) : Int) := by omega
  have e2 : ((s.n + 1 : Nat) : Int) - 1 = (s.n : Int) := by omega
  unfold S__law_new b__law_new
  conv => whnf
  rw [vW]
  conv => whnf
  (first | refine st_obj (hv0 rfl) ?_ | refine st_obj (hvk rfl) ?_ | refine st_some (hg0 rfl) ?_ | refine st_some (hgk rfl) ?_ | refine st_dct (hv0 rfl) ?_ | refine st_dct (hvk rfl) ?_)
  conv => whnf
  rw [s0]
  dsimp only [Rz.d]
  rw [show (putD [(D.str [111, 119, 110, 101, 114], D.str o), (.str [110, 101, 120, 116], .int s.n), (.str [117, 115, 101, 115], .lst (s.mn.map (prD o))), (.str [118, 97, 108, 117, 101, 115], .lst (s.vl.map (prD o)))] (.str [110, 101, 120, 116]) (.int ((s.n : Int) + 1))) = [(.str [111, 119, 110, 101, 114], .str o), (.str [110, 101, 120, 116], .int (s.n + 1 : Nat)), (.str [117, 115, 101, 115], .lst (s.mn.map (prD o))), (.str [118, 97, 108, 117, 101, 115], .lst (s.vl.map (prD o)))] by rw [e1]; rfl]
  rw [show M ++ (wD o s :: R).set 0 (D.dct false [(.str [111, 119, 110, 101, 114], .str o), (.str [110, 101, 120, 116], .int (s.n + 1 : Nat)), (.str [117, 115, 101, 115], .lst (s.mn.map (prD o))), (.str [118, 97, 108, 117, 101, 115], .lst (s.vl.map (prD o)))]) = WM o M s.inc R from rfl]
  rw [vW]
  conv => whnf
  rw [vW]
  conv => whnf
  show Q (.val (.tup [.str o, .int (((s.n + 1 : Nat) : Int) - 1)])) (WM o M s.inc R)
  rw [e2]
  exact k
def LMv (o : Lb) (F : HI.Spec) (ds : List D) (s : St) (r : D) (s' : St) : Prop := ∀ (M R : Mem), Det F (.cell M.length :: ds) (WM o M s R) (.val r) (WM o M s' R)
theorem luse_ok {F : HI.Spec} (hF : LNew o F) (s : St) (w : D) (hz : s.mn.length < 1000000) : LMv o (bodyS 3 2 (b__law_use F)) [w] s (idD o s.n) { s with n := s.n + 1, mn := s.mn ++ [(s.n, w)] } := by
  intro M R Q k
  unfold b__law_use
  conv => whnf
  refine hF M s R _ ?_
  conv => whnf
  rw [vW]
  conv => whnf
  refine IF_t (Nat.ble_eq_true_of_le (by show (s.mn.map (prD o)).length + 1 ≤ _; rw [List.length_map]; omega)) ?_
  conv => whnf
  (first | refine st_obj (hv0 rfl) ?_ | refine st_obj (hvk rfl) ?_ | refine st_some (hg0 rfl) ?_ | refine st_some (hgk rfl) ?_ | refine st_dct (hv0 rfl) ?_ | refine st_dct (hvk rfl) ?_)
  conv => whnf
  rw [s0]
  have k : Q (.val (idD o s.n)) (M ++ (.dct false [(.str [111, 119, 110, 101, 114], .str o), (.str [110, 101, 120, 116], .int (s.n + 1 : Nat)), (.str [117, 115, 101, 115], .lst ((s.mn ++ [(s.n, w)]).map (prD o))), (.str [118, 97, 108, 117, 101, 115], .lst (s.vl.map (prD o)))] :: R)) := k
  rw [List.map_append] at k
  exact k
def LUse (o : Lb) (U : HI.Spec) : Prop := ∀ (s : St) (w : D), s.mn.length < 1000000 → LMv o U [w] s (idD o s.n) { s with n := s.n + 1, mn := s.mn ++ [(s.n, w)] }
theorem luse_all (o : Lb) : LUse o S__law_use := fun s w hz => luse_ok (lnew_ok o) s w hz
def LEx (o : Lb) (X : HI.Spec) (t : Sk) : Prop := ∀ s : St, Fits s (szK t) → LMv o X [skD t] s (ceD o (ceK s.n t)) (s.ex t)
abbrev leS (X F : HI.Spec) : HI.Spec := bodyS 4 2 (b__law_sketch_term X F)
variable {F X : HI.Spec}
theorem le_num (hF : LNew o F) (v : Nat) : LEx o (leS X F) (.num v) := by
  intro s hs M R Q k
  have hl : s.vl.length + 1 ≤ 1000000 := hs.lv
  unfold leS b__law_sketch_term
  conv => whnf
  refine hF M s R _ ?_
  conv => whnf
  rw [vW]
  conv => whnf
  refine IF_t (Nat.ble_eq_true_of_le (by show (s.vl.map (prD o)).length + 1 ≤ _; rw [List.length_map]; omega)) ?_
  conv => whnf
  (first | refine st_obj (hv0 rfl) ?_ | refine st_obj (hvk rfl) ?_ | refine st_some (hg0 rfl) ?_ | refine st_some (hgk rfl) ?_ | refine st_dct (hv0 rfl) ?_ | refine st_dct (hvk rfl) ?_)
  conv => whnf
  rw [s0]
  have k : Q (.val (ceD o (ceK s.n (.num v)))) (M ++ (.dct false [(.str [111, 119, 110, 101, 114], .str o), (.str [110, 101, 120, 116], .int (s.n + 1 : Nat)), (.str [117, 115, 101, 115], .lst ((s.mn ++ []).map (prD o))), (.str [118, 97, 108, 117, 101, 115], .lst ((s.vl ++ [(s.n, D.int v)]).map (prD o)))] :: R)) := k
  rw [List.append_nil, List.map_append] at k
  exact k
theorem le_use (hF : LNew o F) (p : Lb × Nat) : LEx o (leS X F) (.use p) := by
  intro s hs M R Q k
  have hl : s.mn.length + 1 ≤ 1000000 := hs.lm
  unfold leS b__law_sketch_term
  conv => whnf
  refine hF M s R _ ?_
  conv => whnf
  rw [vW]
  conv => whnf
  refine IF_t (Nat.ble_eq_true_of_le (by show (s.mn.map (prD o)).length + 1 ≤ _; rw [List.length_map]; omega)) ?_
  conv => whnf
  (first | refine st_obj (hv0 rfl) ?_ | refine st_obj (hvk rfl) ?_ | refine st_some (hg0 rfl) ?_ | refine st_some (hgk rfl) ?_ | refine st_dct (hv0 rfl) ?_ | refine st_dct (hvk rfl) ?_)
  conv => whnf
  rw [s0]
  have k : Q (.val (ceD o (ceK s.n (.use p)))) (M ++ (.dct false [(.str [111, 119, 110, 101, 114], .str o), (.str [110, 101, 120, 116], .int (s.n + 1 : Nat)), (.str [117, 115, 101, 115], .lst ((s.mn ++ [(s.n, idP p)]).map (prD o))), (.str [118, 97, 108, 117, 101, 115], .lst ((s.vl ++ []).map (prD o)))] :: R)) := k
  rw [List.append_nil, List.map_append] at k
  exact k
theorem le_op (g : Sg) {a b : Sk} (ha : LEx o X a) (hb : LEx o X b) : LEx o (leS X F) (.op g a b) := by
  intro s hs M R Q k
  have hs : Fits s (szK a + szK b) := hs
  unfold leS b__law_sketch_term
  conv => whnf
  refine IF_f (by cases g <;> rfl) ?_
  conv => whnf
  refine ha s (hs.mono (by omega)) M R _ ?_
  conv => whnf
  refine hb (s.ex a) hs.ex M R _ ?_
  conv => whnf
  have e : (s.ex a).ex b = s.ex (.op g a b) := by
    unfold St.ex
    show St.mk (s.n + szK a + szK b) s.nm (s.mn ++ usK s.n a ++ usK (s.n + szK a) b) (s.vl ++ vaK s.n a ++ vaK (s.n + szK a) b) = St.mk (s.n + (szK a + szK b)) s.nm (s.mn ++ (usK s.n a ++ usK (s.n + szK a) b)) (s.vl ++ (vaK s.n a ++ vaK (s.n + szK a) b))
    rw [Nat.add_assoc, List.append_assoc, List.append_assoc]
  rw [← e] at k
  exact k
theorem le_all (X : Nat → HI.Spec) (hX : ∀ n, X (n + 1) = leS (X n) F) (hF : LNew o F) : ∀ (t : Sk) (n : Nat), dpK t < n → LEx o (X n) t
  | _, 0, h => absurd h (Nat.not_lt_zero _)
  | .num v, n + 1, _ => by rw [hX]; exact le_num hF v
  | .use p, n + 1, _ => by rw [hX]; exact le_use hF p
  | .op g a b, n + 1, h => by
    have h : max (dpK a) (dpK b) + 1 < n + 1 := h
    rw [hX]
    exact le_op g (le_all X hX hF a n (by omega)) (le_all X hX hF b n (by omega))
theorem lex_ok (o : Lb) {t : Sk} (h : dpK t < 8) : LEx o S__law_sketch_term t := le_all Sr__law_sketch_term (fun _ => rfl) (lnew_ok o) t 8 h
end Law

namespace Law
open PySem L2 HI
variable {o : Lb} {M R : Mem}
/-! ### the law's sketch of all forms -/
abbrev gRet : SV := (sRet (eTup (aCons (eV 7) (aCons (eV 5) (aCons (eCallB (dictD true) (aCons (eOp ixD (eV 3) (eC (.str [117, 115, 101, 115]))) (aNil))) (aCons (eCallB (dictD true) (aCons (eOp ixD (eV 3) (eC (.str [118, 97, 108, 117, 101, 115]))) (aNil))) (aCons (eOp ixD (eV 3) (eC (.str [110, 101, 120, 116]))) (aNil))))))))
theorem ret_i {Q : Rz → Mem → Prop} {n b c : DEnv → Mem → Prop} {s : St} {x0 x1 x2 x4 x6 x8 x9 x10 x11 x12 x13 : Sl} {co : D} {i : Nat} (h1 : (s.mn.map (·.1)).Nodup) (h2 : (s.vl.map (·.1)).Nodup) (k : Q (.val (.tup [co, .cell i, .dct true (dT o s.mn), .dct true (dT o s.vl), .int s.n])) (WM o M s R)) : gRet ⟨n, Q, b, c⟩ [x0, x1, x2, .val (.cell M.length), x4, .val (.cell i), x6, .val co, x8, x9, x10, x11, x12, x13] (WM o M s R) := by
  conv => whnf
  rw [vW]
  conv => whnf
  refine st_some (pairs_prD o s.mn) ?_
  conv => whnf
  refine IF_t (keysOk_dT o s.mn) ?_
  rw [show mergeD [] (dT o s.mn) = dT o s.mn from merge_dT o s.mn [] h1]
  conv => whnf
  rw [vW]
  conv => whnf
  refine st_some (pairs_prD o s.vl) ?_
  conv => whnf
  refine IF_t (keysOk_dT o s.vl) ?_
  rw [show mergeD [] (dT o s.vl) = dT o s.vl from merge_dT o s.vl [] h2]
  conv => whnf
  rw [vW]
  conv => whnf
  exact k
def LawK (S : HI.Spec) (o : Lb) (h : Sh) (n : Nat) : Prop := ∀ M : Mem, ∃ R : Mem, Det S [shD h, .str o, .int n] M (.val (.tup [crD o (crH (n + 1) h), .cell (M.length + 1), .dct true (dT o (mnH (n + 1) h)), .dct true (dT o (vlH (n + 1) h)), .int (n + 1 + szH h : Nat)])) (WM o M (.con (n + 1) h) (.dct true (dT o (nmH (n + 1) h)) :: R))
abbrev lkS (F U X : HI.Spec) : HI.Spec := bodyS 14 3 (b__law_sketch F U X)
variable {F U X : HI.Spec}
abbrev gA : SV := sPar2 3 4 (eCell (eDisp (dCons (eC (.str [111, 119, 110, 101, 114])) (eV 1) (dCons (eC (.str [110, 101, 120, 116])) (eOp addD (eV 2) (eC (.int 1))) (dCons (eC (.str [117, 115, 101, 115])) (eLst (aNil)) (dCons (eC (.str [118, 97, 108, 117, 101, 115])) (eLst (aNil)) (dNil))))))) (eFz (eOp ixD (eV 0) (eC (.int 0))))
abbrev gB : SV := sPar2 5 6 (eCell (eDnew true)) (eC .non)
abbrev g1 (F : HI.Spec) : SV := sIf (tCmp (inD false) (eV 4) (eTup (aCons (eC (.str [108, 101, 116])) (aCons (eC (.str [100, 101, 102])) (aNil))))) (sSeq (sAsg 6 (eFz (eCall F (aCons (eV 3) (aNil))))) (sCPut (eV 5) (eV 6) (eOp ixD (eV 0) (eC (.int 1))))) (sSkip)
abbrev g2 (U : HI.Spec) : SV := sIf (tCmp (inD false) (eV 4) (eTup (aCons (eC (.str [115, 101, 116])) (aCons (eC (.str [114, 101, 97, 100])) (aCons (eC (.str [100, 111])) (aNil)))))) (sAsg 6 (eFz (eCall U (aCons (eV 3) (aCons (eOp ixD (eV 0) (eC (.int 1))) (aNil)))))) (sSkip)
abbrev g3 (F X : HI.Spec) : SV := sIf (tO (tCmp eqB (eV 4) (eC (.str [108, 101, 116]))) (tCmp eqB (eV 4) (eC (.str [115, 101, 116])))) (sAsg 7 (eTup (aCons (eV 4) (aCons (eV 6) (aCons (eCall X (aCons (eV 3) (aCons (eOp ixD (eV 0) (eC (.int 2))) (aNil)))) (aNil)))))) (sIf (tCmp eqB (eV 4) (eC (.str [114, 101, 97, 100]))) (sAsg 7 (eTup (aCons (eC (.str [114, 101, 97, 100])) (aCons (eV 6) (aNil))))) (sIf (tCmp eqB (eV 4) (eC (.str [111, 117, 116]))) (sAsg 7 (eTup (aCons (eC (.str [111, 117, 116])) (aCons (eCall X (aCons (eV 3) (aCons (eOp ixD (eV 0) (eC (.int 1))) (aNil)))) (aNil))))) (sIf (tCmp eqB (eV 4) (eC (.str [100, 111]))) (sAsg 7 (eTup (aCons (eC (.str [100, 111])) (aCons (eV 6) (aCons (eCallB tupleD (aCons (eLc (iSeq (eOp ixD (eV 0) (eC (.int 2)))) (.one 13) tTrue (eCall X (aCons (eV 3) (aCons (eV 13) (aNil)))) [13]) (aNil))) (aNil)))))) (sIf (tCmp eqB (eV 4) (eC (.str [100, 101, 102]))) (sSeq (sPar2 8 9 (eFz (eCall F (aCons (eV 3) (aNil)))) (eCell (eLst (aNil)))) (sSeq (sFor (iSeq (eOp ixD (eV 0) (eC (.int 2)))) (.one 10) (w__law_sketch_1 F)) (sAsg 7 (eTup (aCons (eC (.str [100, 101, 102])) (aCons (eV 6) (aCons (eCallB tupleD (aCons (eV 9) (aNil))) (aCons (eV 8) (aNil))))))))) (sIf (tCmp eqB (eV 4) (eC (.str [105, 102]))) (sSeq (sPar2 11 12 (eFz (eCall X (aCons (eV 3) (aCons (eOp ixD (eV 0) (eC (.int 1))) (aNil))))) (eFz (eCall F (aCons (eV 3) (aNil))))) (sAsg 7 (eTup (aCons (eC (.str [105, 102])) (aCons (eV 11) (aCons (eV 12) (aCons (eCall F (aCons (eV 3) (aNil))) (aNil)))))))) (sIf (tCmp eqB (eV 4) (eC (.str [114, 101, 112, 101, 97, 116]))) (sSeq (sAsg 11 (eFz (eCall X (aCons (eV 3) (aCons (eOp ixD (eV 0) (eC (.int 1))) (aNil)))))) (sAsg 7 (eTup (aCons (eC (.str [114, 101, 112, 101, 97, 116])) (aCons (eV 11) (aCons (eCall F (aCons (eV 3) (aNil))) (aNil))))))) (sAsg 7 (eTup (aCons (eC (.str [98, 108, 111, 99, 107])) (aCons (eCall F (aCons (eV 3) (aNil))) (aNil)))))))))))
theorem lk_cut (F U X : HI.Spec) : b__law_sketch F U X = sSeq gA (sSeq gB (sSeq (g1 F) (sSeq (g2 U) (sSeq (g3 F X) gRet)))) := rfl
theorem mem_ini (o : Lb) (M : Mem) (n : Nat) (d : D) : M ++ [.dct false [(.str [111, 119, 110, 101, 114], .str o), (.str [110, 101, 120, 116], .int ((n : Int) + 1)), (.str [117, 115, 101, 115], .lst []), (.str [118, 97, 108, 117, 101, 115], .lst [])]] ++ [d] = WM o M (.ini (n + 1)) [d] := by
  rw [show ((n : Int) + 1) = ((n + 1 : Nat) : Int) by omega, aaM]; rfl
/-- the word of a sketch -/
def wdH : Sh → Lb
  | .let_ _ _ => wLet
  | .set_ _ _ => wSet
  | .read _ => wRead
  | .do_ _ _ => wDo
  | .def_ _ _ => wDef
  | .blk => wBlk
  | .out _ => wOut
  | .if_ _ => wIf
  | .rep _ => wRep
theorem lk_1 {G : SV} {K : KD} {h : Sh} {n : Nat} {x3 x4 x5 x6 x7 x8 x9 x10 x11 x12 x13 : Sl} (k : G K [.val (shD h), .val (.str o), .val (.int n), .val (.cell M.length), .val (.str (wdH h)), .val (.cell (M.length + 1)), .val .non, x7, x8, x9, x10, x11, x12, x13] (WM o M (.ini (n + 1)) [.dct true []])) : sSeq gA (sSeq gB G) K [.val (shD h), .val (.str o), .val (.int n), x3, x4, x5, x6, x7, x8, x9, x10, x11, x12, x13] M := by
  have e : (M ++ [D.dct false [(.str [111, 119, 110, 101, 114], .str o), (.str [110, 101, 120, 116], .int ((n : Int) + 1)), (.str [117, 115, 101, 115], .lst []), (.str [118, 97, 108, 117, 101, 115], .lst [])]]).length = M.length + 1 := laM ..
  rw [← mem_ini, ← e] at k
  unfold gA gB
  cases h <;>
  · refine seq_i ?_
    conv => whnf
    refine seq_i ?_
    conv => whnf
    exact k
end Law

namespace Law
open PySem L2 HI
variable {o : Lb} {M R : Mem} {F U X : HI.Spec}
def giv (o : Lb) (n : Nat) : Sh → Mem
  | .def_ _ ps => [.lst ((up (n + 2) ps.length).map (idD o))]
  | _ => []
def Mid (F U X : HI.Spec) (o : Lb) (h : Sh) : Prop := ∀ (M : Mem) (N : Nat) (Gr : SV) (K : KD) (x2 x7 x8 x9 x10 x11 x12 x13 : Sl), (∀ x6 x8 x9 x10 x11 x12 x13, Gr K [.val (shD h), .val (.str o), x2, .val (.cell M.length), .val (.str (wdH h)), .val (.cell (M.length + 1)), x6, .val (crD o (crH N h)), x8, x9, x10, x11, x12, x13] (WM o M (.con N h) (.dct true (dT o (nmH N h)) :: giv o N h))) →
  sSeq (g1 F) (sSeq (g2 U) (sSeq (g3 F X) Gr)) K [.val (shD h), .val (.str o), x2, .val (.cell M.length), .val (.str (wdH h)), .val (.cell (M.length + 1)), .val .non, x7, x8, x9, x10, x11, x12, x13] (WM o M (.ini N) [.dct true []])
theorem mid_let (hF : LNew o F) {w : Lb} {e : Sk} (hX : LEx o X e) (hz : szH (.let_ w e) ≤ 1000) : Mid F U X o (.let_ w e) := by
  intro M n Gr K x2 x7 x8 x9 x10 x11 x12 x13 k
  have hz : 1 + szK e ≤ 1000 := hz
  conv => whnf
  refine hF M _ _ _ ?_
  conv => whnf
  refine st_putK (k := 1) (tl := []) rfl rfl rfl (by show 0 < 1000000; decide) ?_
  conv => whnf
  refine hX (.ini (n + 1)) (fits_ini _ (by omega)) M _ _ ?_
  conv => whnf
  have e : (St.ini (n + 1)).ex e = ⟨n + (1 + szK e), [], mnH n (.let_ w e), vlH n (.let_ w e)⟩ := by
    show St.mk (n + 1 + szK e) [] ([] ++ usK (n + 1) e) ([] ++ vaK (n + 1) e) = _
    rw [List.nil_append, List.nil_append, Nat.add_assoc]; rfl
  rw [e]
  exact k _ _ _ _ _ _ _
theorem mid_set (hU : LUse o U) {p : Lb × Nat} {e : Sk} (hX : LEx o X e) (hz : szH (.set_ p e) ≤ 1000) : Mid F U X o (.set_ p e) := by
  intro M n Gr K x2 x7 x8 x9 x10 x11 x12 x13 k
  have hz : 1 + szK e ≤ 1000 := hz
  conv => whnf
  refine hU (.ini n) (idP p) (by show 0 < 1000000; decide) M _ _ ?_
  conv => whnf
  refine hX ⟨n + 1, [], [(n, idP p)], []⟩ ⟨fun q hq => by rcases List.mem_singleton.mp hq with rfl; exact Nat.lt_succ_self _, fun p hp => (nomatch hp), by show 1 + szK e ≤ _; omega, by show 0 + szK e ≤ _; omega⟩ M _ _ ?_
  conv => whnf
  have e : (St.mk (n + 1) [] [(n, idP p)] []).ex e = .con n (.set_ p e) := by
    show St.mk (n + 1 + szK e) [] ([(n, idP p)] ++ usK (n + 1) e) ([] ++ vaK (n + 1) e) = St.mk (n + (1 + szK e)) [] ((n, idP p) :: usK (n + 1) e) (vaK (n + 1) e)
    rw [List.nil_append, Nat.add_assoc]; rfl
  rw [e]
  exact k _ _ _ _ _ _ _
theorem mid_read (hU : LUse o U) {p : Lb × Nat} : Mid F U X o (.read p) := by
  intro M n Gr K x2 x7 x8 x9 x10 x11 x12 x13 k
  conv => whnf
  refine hU (.ini n) (idP p) (by show 0 < 1000000; decide) M _ _ ?_
  conv => whnf
  exact k _ _ _ _ _ _ _
theorem mid_out {e : Sk} (hX : LEx o X e) (hz : szH (.out e) ≤ 1000) : Mid F U X o (.out e) := by
  intro M n Gr K x2 x7 x8 x9 x10 x11 x12 x13 k
  have hz : szK e ≤ 1000 := hz
  conv => whnf
  refine hX (.ini n) (fits_ini n hz) M _ _ ?_
  conv => whnf
  exact k _ _ _ _ _ _ _
theorem mid_if (hF : LNew o F) {e : Sk} (hX : LEx o X e) (hz : szH (.if_ e) ≤ 1000) : Mid F U X o (.if_ e) := by
  intro M n Gr K x2 x7 x8 x9 x10 x11 x12 x13 k
  have hz : szK e + 2 ≤ 1000 := hz
  conv => whnf
  refine hX (.ini n) (fits_ini n (by omega)) M _ _ ?_
  conv => whnf
  refine hF M ((St.ini n).ex e) _ _ ?_
  conv => whnf
  refine hF M ((St.ini n).ex e).inc _ _ ?_
  conv => whnf
  exact k _ _ _ _ _ _ _
theorem mid_rep (hF : LNew o F) {e : Sk} (hX : LEx o X e) (hz : szH (.rep e) ≤ 1000) : Mid F U X o (.rep e) := by
  intro M n Gr K x2 x7 x8 x9 x10 x11 x12 x13 k
  have hz : szK e + 1 ≤ 1000 := hz
  conv => whnf
  refine hX (.ini n) (fits_ini n (by omega)) M _ _ ?_
  conv => whnf
  refine hF M ((St.ini n).ex e) _ _ ?_
  conv => whnf
  exact k _ _ _ _ _ _ _
theorem mid_blk (hF : LNew o F) : Mid F U X o .blk := by
  intro M n Gr K x2 x7 x8 x9 x10 x11 x12 x13 k
  conv => whnf
  refine hF M (.ini n) _ _ ?_
  conv => whnf
  exact k _ _ _ _ _ _ _
theorem lc_lex {x0 x1 x2 x4 x5 x6 x7 x8 x9 x10 x11 x12 x13 : Sl} : ∀ (es : List Sk) (s : St) (Q : List D → Mem → Prop), (∀ e ∈ es, LEx o X e) → Fits s (szKs es) → Q ((ceKs s.n es).map (ceD o)) (WM o M (s.exs es) R) → lcL [x0, x1, x2, .val (.cell M.length), x4, x5, x6, x7, x8, x9, x10, x11, x12, x13] (.one 13) tTrue (eCall X (aCons (eV 3) (aCons (eV 13) (aNil)))) none (es.map skD) (WM o M s R) Q
  | [], s, Q, _, _, k => by
    rw [exs_nil] at k
    exact k
  | e :: es, s, Q, hX, hs, k => by
    have hs : Fits s (szK e + szKs es) := hs
    conv => whnf
    refine hX e (.head _) s (hs.mono (by omega)) M R _ ?_
    conv => whnf
    refine lc_lex es (s.ex e) _ (fun e he => hX e (.tail _ he)) hs.ex ?_
    rw [exs_cons]
    exact k
theorem mid_do (hU : LUse o U) {p : Lb × Nat} {es : List Sk} (hX : ∀ e ∈ es, LEx o X e) (hz : szH (.do_ p es) ≤ 1000) : Mid F U X o (.do_ p es) := by
  intro M n Gr K x2 x7 x8 x9 x10 x11 x12 x13 k
  have hz : 1 + szKs es ≤ 1000 := hz
  have hl := szKs_len es
  conv => whnf
  refine hU (.ini n) (idP p) (by show 0 < 1000000; decide) M _ _ ?_
  conv => whnf
  refine IF_t (Nat.ble_eq_true_of_le (by show (es.map skD).length ≤ _; rw [List.length_map]; omega)) ?_
  refine lc_lex es ⟨n + 1, [], [(n, idP p)], []⟩ _ hX ⟨fun q hq => by rcases List.mem_singleton.mp hq with rfl; exact Nat.lt_succ_self _, fun p hp => (nomatch hp), by show 1 + szKs es ≤ _; omega, by show 0 + szKs es ≤ _; omega⟩ ?_
  conv => whnf
  have e : (St.mk (n + 1) [] [(n, idP p)] []).exs es = .con n (.do_ p es) := by
    show St.mk (n + 1 + szKs es) [] ([(n, idP p)] ++ usKs (n + 1) es) ([] ++ vaKs (n + 1) es) = St.mk (n + (1 + szKs es)) [] ((n, idP p) :: usKs (n + 1) es) (vaKs (n + 1) es)
    rw [List.nil_append, Nat.add_assoc]; rfl
  rw [e]
  exact k _ _ _ _ _ _ _
end Law

namespace Law
open PySem L2 HI
variable {o : Lb} {M R : Mem} {F U X : HI.Spec}
theorem nth_last {α : Type} (xs : List α) (x : α) : nthI (xs ++ [x]) (-1) = some x := by
  show (match Nat.ble 1 (xs ++ [x]).length with | true => (xs ++ [x])[(xs ++ [x]).length - (0 + 1)]? | false => none) = some x
  rw [Nat.ble_eq_true_of_le (by rw [List.length_append]; exact Nat.le_add_left _ _)]
  show (xs ++ [x])[(xs ++ [x]).length - 1]? = some x
  rw [List.length_append]
  show (xs ++ [x])[xs.length + 1 - 1]? = some x
  rw [Nat.add_sub_cancel, List.getElem?_append_right (Nat.le_refl _), Nat.sub_self]; rfl
/-- the memory while parameters are made -/
abbrev GM (o : Lb) (M : Mem) (n : Nat) (nm : TD) (gs : List Nat) : Mem := WM o M (.ini n) [.dct true (dT o nm), .lst (gs.map (idD o))]
theorem def_loop (hF : LNew o F) {K : KD} {x0 x1 x2 x4 x6 x7 x8 x11 x12 x13 : Sl} : ∀ (ws : List Lb) (x10 : Sl) (n : Nat) (nm : TD) (gs : List Nat), ltK n nm → nm.length + ws.length ≤ 1000000 → gs.length + ws.length ≤ 1000000 → (∀ x10, K.nx [x0, x1, x2, .val (.cell M.length), x4, .val (.cell (M.length + 1)), x6, x7, x8, .val (.cell (M.length + 2)), x10, x11, x12, x13] (GM o M (n + ws.length) (nm ++ nmPs n ws) (gs ++ up n ws.length))) → forL (.one 10) (w__law_sketch_1 F) none K (ws.map .str) [x0, x1, x2, .val (.cell M.length), x4, .val (.cell (M.length + 1)), x6, x7, x8, .val (.cell (M.length + 2)), x10, x11, x12, x13] (GM o M n nm gs)
  | [], x10, n, nm, gs, _, _, _, k => by
    have k := k x10
    rw [show nm ++ nmPs n [] = nm from List.append_nil _, show gs ++ up n ([] : List Lb).length = gs from List.append_nil _] at k
    exact k
  | w :: ws, x10, n, nm, gs, hk, hz, hg, k => by
    have hz : nm.length + (ws.length + 1) ≤ 1000000 := hz
    have hg : gs.length + (ws.length + 1) ≤ 1000000 := hg
    rw [List.map_cons]
    refine forL_i ?_
    conv => whnf
    (first | refine st_obj (hv0 rfl) ?_ | refine st_obj (hvk rfl) ?_ | refine st_some (hg0 rfl) ?_ | refine st_some (hgk rfl) ?_ | refine st_dct (hv0 rfl) ?_ | refine st_dct (hvk rfl) ?_)
    conv => whnf
    refine hF M _ _ _ ?_
    conv => whnf
    (first | refine st_obj (hv0 rfl) ?_ | refine st_obj (hvk rfl) ?_ | refine st_some (hg0 rfl) ?_ | refine st_some (hgk rfl) ?_ | refine st_dct (hv0 rfl) ?_ | refine st_dct (hvk rfl) ?_)
    conv => whnf
    refine IF_t (Nat.ble_eq_true_of_le (by rw [List.length_map]; omega)) ?_
    rw [sk]
    conv => whnf
    rw [hvk (x := .lst (gs.map (idD o) ++ [idD o n])) rfl]
    conv => whnf
    refine st_some (nth_last _ _) ?_
    conv => whnf
    refine st_putK (k := 1) (tl := nm) rfl rfl (lk_lt hk) (by omega) ?_
    have h := def_loop (x0 := x0) (x1 := x1) (x2 := x2) (x4 := x4) (x6 := x6) (x7 := x7) (x8 := x8) (x11 := x11) (x12 := x12) (x13 := x13) (K := K) hF ws (.val (.str w)) (n + 1) (nm ++ [(n, .str w)]) (gs ++ [n]) (ltK_put (ltK_le hk (Nat.le_succ _)) (Nat.lt_succ_self _)) (by rw [List.length_append]; show nm.length + 1 + ws.length ≤ _; omega) (by rw [List.length_append]; show gs.length + 1 + ws.length ≤ _; omega) fun y => by
      have k : K.nx [x0, x1, x2, .val (.cell M.length), x4, .val (.cell (M.length + 1)), x6, x7, x8, .val (.cell (M.length + 2)), y, x11, x12, x13] (GM o M (n + (ws.length + 1)) (nm ++ ((n, .str w) :: nmPs (n + 1) ws)) (gs ++ (n :: up (n + 1) ws.length))) := k y
      rw [List.append_assoc, List.append_assoc, show n + 1 + ws.length = n + (ws.length + 1) by omega]
      exact k
    have e : GM o M (n + 1) (nm ++ [(n, .str w)]) (gs ++ [n]) = M ++ [wD o (St.ini (n + 1)), .dct true (dT o (nm ++ [(n, .str w)])), .lst (gs.map (idD o) ++ [idD o n])] := by
      show M ++ [wD o (St.ini (n + 1)), .dct true (dT o (nm ++ [(n, .str w)])), .lst ((gs ++ [n]).map (idD o))] = _
      rw [List.map_append]; rfl
    rw [e] at h
    exact h
theorem con_def (o : Lb) (n : Nat) (w : Lb) (ps : List Lb) : wD o (.con n (.def_ w ps)) = wD o (.ini (n + 2 + ps.length)) := by
  show wD o ⟨n + (2 + ps.length), _, [], []⟩ = wD o ⟨n + 2 + ps.length, [], [], []⟩
  rw [Nat.add_assoc]; rfl
theorem mid_def (hF : LNew o F) {w : Lb} {ps : List Lb} (hz : szH (.def_ w ps) ≤ 1000) : Mid F U X o (.def_ w ps) := by
  intro M n Gr K x2 x7 x8 x9 x10 x11 x12 x13 k
  have hz : 2 + ps.length ≤ 1000 := hz
  conv => whnf
  refine hF M _ _ _ ?_
  conv => whnf
  refine st_putK (k := 1) (tl := []) rfl rfl rfl (by show 0 < 1000000; decide) ?_
  conv => whnf
  refine hF M (.ini (n + 1)) [.dct true (dT o [(n, .str w)])] _ ?_
  conv => whnf
  have el : (WM o M (St.ini (n + 1)).inc [D.dct true (dT o [(n, D.str w)])]).length = M.length + 2 := by rw [laM]; rfl
  have em : WM o M (St.ini (n + 1)).inc [D.dct true (dT o [(n, D.str w)])] ++ [D.lst []] = GM o M (n + 2) [(n, .str w)] [] := by rw [aaM]; rfl
  rw [el, em]
  refine def_loop hF ps _ (n + 2) [(n, .str w)] [] (fun q hq => by rcases List.mem_singleton.mp hq with rfl; show n < n + 2; omega) (by show 1 + ps.length ≤ _; omega) (by show 0 + ps.length ≤ _; omega) fun y => ?_
  conv => whnf
  rw [hvk (x := .lst ((up (n + 2) ps.length).map (idD o))) rfl]
  conv => whnf
  have k := k (.val (idD o n)) (.val (idD o (n + 1))) (.val (.cell (M.length + 2))) y x11 x12 x13
  have k : Gr K [.val (shD (.def_ w ps)), .val (.str o), x2, .val (.cell M.length), .val (.str wDef), .val (.cell (M.length + 1)), .val (idD o n), .val (crD o (crH n (.def_ w ps))), .val (idD o (n + 1)), .val (.cell (M.length + 2)), y, x11, x12, x13] (M ++ (wD o (.con n (.def_ w ps)) :: (.dct true (dT o (nmH n (.def_ w ps))) :: giv o n (.def_ w ps)))) := k
  rw [con_def] at k
  exact k
/-! ### whole -/
theorem mid_all (o : Lb) {h : Sh} (ho : ShOk h) : Mid S__law_new S__law_use S__law_sketch_term o h := by
  have hX : ∀ e ∈ exH h, LEx o S__law_sketch_term e := fun e he => lex_ok o (by have := ho.dp e he; omega)
  have hF := lnew_ok o
  have hU := luse_all o
  have hz := ho.sz
  cases h with
  | let_ w e => exact mid_let hF (hX e (.head _)) hz
  | set_ p e => exact mid_set hU (hX e (.head _)) hz
  | read p => exact mid_read hU
  | do_ p es => exact mid_do hU hX hz
  | def_ w ps => exact mid_def hF hz
  | blk => exact mid_blk hF
  | out e => exact mid_out (hX e (.head _)) hz
  | if_ e => exact mid_if hF (hX e (.head _)) hz
  | rep e => exact mid_rep hF (hX e (.head _)) hz
/-- keys of a table are all different -/
theorem nd_in {n m : Nat} : ∀ {l : TD}, inK n m l → (∀ (a b : TD) (p q : Nat × D), l = a ++ b → p ∈ a → q ∈ b → p.1 < q.1) → (l.map (·.1)).Nodup
  | [], _, _ => List.nodup_nil
  | p :: l, h, g => by
    refine List.nodup_cons.mpr ⟨fun hm => ?_, nd_in (n := n) (m := m) (fun q hq => h q (.tail _ hq)) fun a b q r e h1 h2 => g (p :: a) b q r (by rw [e]; rfl) (.tail _ h1) h2⟩
    obtain ⟨q, hq, e⟩ := List.mem_map.mp hm
    have := g [p] l p q rfl (.head _) hq
    dsimp only at e
    omega
theorem nd_app {n m k : Nat} {a b : TD} (ha : inK n m a) (hb : inK m k b) (na : (a.map (·.1)).Nodup) (nb : (b.map (·.1)).Nodup) : ((a ++ b).map (·.1)).Nodup := by
  rw [List.map_append, List.nodup_append]
  refine ⟨na, nb, fun x hx y hy e => ?_⟩
  obtain ⟨p, hp, rfl⟩ := List.mem_map.mp hx
  obtain ⟨q, hq, rfl⟩ := List.mem_map.mp hy
  have := ha p hp
  have := hb q hq
  omega
theorem nd_one (n : Nat) (d : D) : (([(n, d)] : TD).map (·.1)).Nodup := List.nodup_cons.mpr ⟨(nomatch ·), List.nodup_nil⟩
theorem in_one (n : Nat) (d : D) : inK n (n + 1) [(n, d)] := fun p hp => by rcases List.mem_singleton.mp hp with rfl; exact ⟨Nat.le_refl _, Nat.lt_succ_self _⟩
theorem nd_K : ∀ (n : Nat) (e : Sk), ((usK n e).map (·.1)).Nodup ∧ ((vaK n e).map (·.1)).Nodup
  | n, .num v => ⟨List.nodup_nil, nd_one n _⟩
  | n, .use p => ⟨nd_one n _, List.nodup_nil⟩
  | n, .op g a b => by
    obtain ⟨a1, a2, _⟩ := usK_in n a
    obtain ⟨b1, b2, _⟩ := usK_in (n + szK a) b
    obtain ⟨c1, c2⟩ := nd_K n a
    obtain ⟨d1, d2⟩ := nd_K (n + szK a) b
    exact ⟨nd_app a1 b1 c1 d1, nd_app a2 b2 c2 d2⟩
theorem in_Ks : ∀ (n : Nat) (es : List Sk), inK n (n + szKs es) (usKs n es) ∧ inK n (n + szKs es) (vaKs n es) ∧ ((usKs n es).map (·.1)).Nodup ∧ ((vaKs n es).map (·.1)).Nodup
  | n, [] => ⟨fun p hp => (nomatch hp), fun p hp => (nomatch hp), List.nodup_nil, List.nodup_nil⟩
  | n, e :: es => by
    obtain ⟨a1, a2, _⟩ := usK_in n e
    obtain ⟨b1, b2, b3, b4⟩ := in_Ks (n + szK e) es
    obtain ⟨c1, c2⟩ := nd_K n e
    have e1 : n + szKs (e :: es) = n + szK e + szKs es := by show n + (szK e + szKs es) = _; omega
    rw [e1]
    exact ⟨a1.app b1 (by omega) (by omega), a2.app b2 (by omega) (by omega), nd_app a1 b1 c1 b3, nd_app a2 b2 c2 b4⟩
theorem nd_H (n : Nat) (h : Sh) : ((mnH n h).map (·.1)).Nodup ∧ ((vlH n h).map (·.1)).Nodup := by
  cases h with
  | let_ w e => exact nd_K (n + 1) e
  | set_ p e => exact ⟨nd_app (in_one n _) (usK_in (n + 1) e).1 (nd_one n _) (nd_K (n + 1) e).1, (nd_K (n + 1) e).2⟩
  | read p => exact ⟨nd_one n _, List.nodup_nil⟩
  | do_ p es => exact ⟨nd_app (in_one n _) (in_Ks (n + 1) es).1 (nd_one n _) (in_Ks (n + 1) es).2.2.1, (in_Ks (n + 1) es).2.2.2⟩
  | def_ w ps => exact ⟨List.nodup_nil, List.nodup_nil⟩
  | blk => exact ⟨List.nodup_nil, List.nodup_nil⟩
  | out e => exact nd_K n e
  | if_ e => exact nd_K n e
  | rep e => exact nd_K n e
theorem law_sketch_ok (o : Lb) {h : Sh} (n : Nat) (ho : ShOk h) : LawK S__law_sketch o h n := fun M => ⟨giv o (n + 1) h, fun Q k => by
  unfold S__law_sketch
  rw [lk_cut]
  refine body_i rfl ?_
  refine lk_1 ?_
  refine mid_all o ho M (n + 1) _ _ _ _ _ _ _ _ _ _ fun x6 x8 x9 x10 x11 x12 x13 => ?_
  obtain ⟨h1, h2⟩ := nd_H (n + 1) h
  exact ret_i (s := .con (n + 1) h) h1 h2 k⟩
end Law

namespace Law
open PySem L2 HI
variable {o : Lb} {T X : HI.Spec}
/-! ### the law's things -/
theorem lt_ok (c : CR) (hz : (exC c).length ≤ 1000000) : Pur S__law_terms [crD o c] (.new (.lst ((exC c).map (ceD o)))) := by
  intro M Q k
  unfold S__law_terms b__law_terms
  cases c with
  | do_ u es =>
    conv => whnf
    exact k
  | _ =>
    conv => whnf
    exact k
theorem ltt_ok (e : CE) (h : dpC e < 8) (hz : (thE e).length ≤ 1000000) : Pur S__law_term_things [ceD o e] (.new (.lst ((thE e).map (thD o)))) := et_ok Sr__law_term_things (fun _ => rfl) e 8 h hz
theorem lth_loop {K : KD} {M : Mem} {x0 x1 x4 : Sl} : ∀ (es : List CE) (x3 : Sl) (acc : List D), (∀ e ∈ es, Pur T [ceD o e] (.new (.lst ((thE e).map (thD o))))) → acc.length + (thEs es).length ≤ 1000000 → (∀ x3, K.nx [x0, x1, .own (.lst (acc ++ (thEs es).map (thD o))), x3, x4] M) → forL (.one 3) (w__law_things_1 T) none K (es.map (ceD o)) [x0, x1, .own (.lst acc), x3, x4] M
  | [], x3, acc, _, _, k => by
    have k := k x3
    have k : K.nx [x0, x1, .own (.lst (acc ++ [])), x3, x4] M := k
    rw [List.append_nil] at k
    exact k
  | e :: es, x3, acc, h, hz, k => by
    have hz : acc.length + (thE e ++ thEs es).length ≤ 1000000 := hz
    rw [List.length_append] at hz
    conv => whnf
    refine h e (.head _) M _ ?_
    conv => whnf
    refine IF_t (Nat.ble_eq_true_of_le (by rw [List.length_map]; omega)) ?_
    refine lth_loop es _ _ (fun e he => h e (.tail _ he)) (by rw [List.length_append, List.length_map]; omega) fun x3 => ?_
    have k : K.nx [x0, x1, .own (.lst (acc ++ (thE e ++ thEs es).map (thD o))), x3, x4] M := k x3
    rw [List.map_append, ← List.append_assoc] at k
    exact k
theorem lc_ldecls {M : Mem} {x0 x1 x2 x3 x4 : Sl} : ∀ (bs : List Nat) (Q : List D → Mem → Prop), Q (bs.map fun b => thD o (wDecl, b)) M → lcL [x0, x1, x2, x3, x4] (.one 4) tTrue (eTup (aCons (eC (.str [100, 101, 99, 108, 97, 114, 97, 116, 105, 111, 110])) (aCons (eV 4) aNil))) none (bs.map (idD o)) M Q
  | [], Q, k => k
  | b :: bs, Q, k => by
    conv => whnf
    refine lc_ldecls bs _ ?_
    exact k
abbrev ltS (X T : HI.Spec) : HI.Spec := bodyS 5 1 (b__law_things X T)
theorem lth_all (c : CR) (hX : Pur X [crD o c] (.new (.lst ((exC c).map (ceD o))))) (hT : ∀ e ∈ exC c, Pur T [ceD o e] (.new (.lst ((thE e).map (thD o))))) (hz : (thC c).length ≤ 1000000) : ToOk o (ltS X T) c := by
  intro M Q k
  have lp : ∀ (K : KD) (x1 x3 x4 : Sl) (acc : List D), acc.length + (thEs (exC c)).length ≤ 1000000 → (∀ x3, K.nx [.val (crD o c), x1, .own (.lst (acc ++ (thEs (exC c)).map (thD o))), x3, x4] M) → forL (.one 3) (w__law_things_1 T) none K ((exC c).map (ceD o)) [.val (crD o c), x1, .own (.lst acc), x3, x4] M := fun K x1 x3 x4 acc h1 h2 => lth_loop (exC c) x3 acc hT h1 h2
  unfold ltS b__law_things
  cases c with
  | def_ d ps b =>
    have hz : (ps.map fun p => (wDecl, p)).length + 1 + 1 ≤ 1000000 := hz
    rw [List.length_map] at hz
    conv => whnf
    refine hX M _ ?_
    conv => whnf
    refine IF_t (Nat.ble_eq_true_of_le (by show (ps.map (idD o)).length ≤ _; rw [List.length_map]; omega)) ?_
    refine lc_ldecls ps _ ?_
    conv => whnf
    refine IF_t (Nat.ble_eq_true_of_le (by show 2 + (List.map (fun b => thD o (wDecl, b)) ps).length ≤ _; rw [List.length_map]; omega)) ?_
    have k : Q (.new (.lst (thD o (wDecl, d) :: thD o (wBlk, b) :: (ps.map fun p => (wDecl, p)).map (thD o)))) M := k
    rw [List.map_map] at k
    exact k
  | let_ d e =>
    have hz : (thE e).length + 1 ≤ 1000000 := hz
    conv => whnf
    refine hX M _ ?_
    conv => whnf
    refine lp _ _ _ _ [_] (by rw [show thEs (exC (.let_ d e)) = thE e from thEs_1 e]; show 1 + (thE e).length ≤ _; omega) fun x3 => ?_
    rw [show thEs (exC (.let_ d e)) = thE e from thEs_1 e]
    conv => whnf
    refine IF_t (Nat.ble_eq_true_of_le ?_) ?_
    · simp only [List.length_append, List.length_map, List.length_cons, List.length_nil]; omega
    have k : Q (.new (.lst (thD o (wDecl, d) :: (thE e).map (thD o)))) M := k
    show Q (.new (.lst ([thD o (wDecl, d)] ++ (thE e).map (thD o) ++ []))) M
    rw [List.append_nil]; exact k
  | set_ d e =>
    have hz : (thE e).length + 1 ≤ 1000000 := hz
    conv => whnf
    refine hX M _ ?_
    conv => whnf
    refine lp _ _ _ _ [_] (by rw [show thEs (exC (.set_ d e)) = thE e from thEs_1 e]; show 1 + (thE e).length ≤ _; omega) fun x3 => ?_
    rw [show thEs (exC (.set_ d e)) = thE e from thEs_1 e]
    conv => whnf
    refine IF_t (Nat.ble_eq_true_of_le ?_) ?_
    · simp only [List.length_append, List.length_map, List.length_cons, List.length_nil]; omega
    have k : Q (.new (.lst (thD o (wUse, d) :: (thE e).map (thD o)))) M := k
    show Q (.new (.lst ([thD o (wUse, d)] ++ (thE e).map (thD o) ++ []))) M
    rw [List.append_nil]; exact k
  | out e =>
    have hz : (thE e).length ≤ 1000000 := hz
    conv => whnf
    refine hX M _ ?_
    conv => whnf
    refine lp _ _ _ _ [] (by rw [show thEs (exC (.out e)) = thE e from thEs_1 e]; show 0 + (thE e).length ≤ _; omega) fun x3 => ?_
    rw [show thEs (exC (.out e)) = thE e from thEs_1 e]
    conv => whnf
    refine IF_t (Nat.ble_eq_true_of_le ?_) ?_
    · simp only [List.length_append, List.length_map, List.length_cons, List.length_nil]; omega
    show Q (.new (.lst ([] ++ (thE e).map (thD o) ++ []))) M
    rw [List.append_nil]; exact k
  | read d =>
    conv => whnf
    refine hX M _ ?_
    conv => whnf
    exact k
  | do_ d es =>
    have hz : (thEs es).length + 1 ≤ 1000000 := hz
    conv => whnf
    refine hX M _ ?_
    conv => whnf
    refine lp _ _ _ _ [_] (by rw [show thEs (exC (.do_ d es)) = thEs es from rfl]; show 1 + (thEs es).length ≤ _; omega) fun x3 => ?_
    rw [show thEs (exC (.do_ d es)) = thEs es from rfl]
    conv => whnf
    refine IF_t (Nat.ble_eq_true_of_le ?_) ?_
    · simp only [List.length_append, List.length_map, List.length_cons, List.length_nil]; omega
    have k : Q (.new (.lst (thD o (wUse, d) :: (thEs es).map (thD o)))) M := k
    show Q (.new (.lst ([thD o (wUse, d)] ++ (thEs es).map (thD o) ++ []))) M
    rw [List.append_nil]; exact k
  | if_ e b c =>
    have hz : (thE e ++ [(wBlk, b), (wBlk, c)]).length ≤ 1000000 := hz
    simp only [List.length_append, List.length_cons, List.length_nil] at hz
    conv => whnf
    refine hX M _ ?_
    conv => whnf
    refine lp _ _ _ _ [] (by rw [show thEs (exC (.if_ e b c)) = thE e from thEs_1 e]; show 0 + (thE e).length ≤ _; omega) fun x3 => ?_
    rw [show thEs (exC (.if_ e b c)) = thE e from thEs_1 e]
    conv => whnf
    refine IF_t (Nat.ble_eq_true_of_le ?_) ?_
    · simp only [List.length_append, List.length_map, List.length_cons, List.length_nil]; omega
    have k : Q (.new (.lst ((thE e ++ [(wBlk, b), (wBlk, c)]).map (thD o)))) M := k
    rw [List.map_append] at k
    exact k
  | rep e b =>
    have hz : (thE e ++ [(wBlk, b)]).length ≤ 1000000 := hz
    simp only [List.length_append, List.length_cons, List.length_nil] at hz
    conv => whnf
    refine hX M _ ?_
    conv => whnf
    refine lp _ _ _ _ [] (by rw [show thEs (exC (.rep e b)) = thE e from thEs_1 e]; show 0 + (thE e).length ≤ _; omega) fun x3 => ?_
    rw [show thEs (exC (.rep e b)) = thE e from thEs_1 e]
    conv => whnf
    refine IF_t (Nat.ble_eq_true_of_le ?_) ?_
    · simp only [List.length_append, List.length_map, List.length_cons, List.length_nil]; omega
    have k : Q (.new (.lst ((thE e ++ [(wBlk, b)]).map (thD o)))) M := k
    rw [List.map_append] at k
    exact k
  | blk b =>
    conv => whnf
    refine hX M _ ?_
    conv => whnf
    exact k
theorem lthings_ok (c : CR) (hd : ∀ e ∈ exC c, dpC e < 8) (hz : (thC c).length ≤ 1000000) : ToOk o S__law_things c := by
  have h0 : (exC c).length ≤ 1000000 ∧ ∀ e ∈ exC c, (thE e).length ≤ 1000000 := by
    by_cases h : ∃ d ps b, c = .def_ d ps b
    · obtain ⟨d, ps, b, rfl⟩ := h
      exact ⟨Nat.zero_le _, fun e he => (nomatch he)⟩
    · have h1 : ∀ d ps b, c ≠ .def_ d ps b := fun d ps b e => h ⟨d, ps, b, e⟩
      have hz2 := hz
      rw [thC_cut c h1, List.length_append, List.length_append] at hz2
      have := thEs_len (exC c)
      exact ⟨by omega, fun e he => by have := thEs_mem he; omega⟩
  exact lth_all c (lt_ok c h0.1) (fun e he => ltt_ok e (hd e he) (h0.2 e he)) hz
end Law

namespace Law
open PySem L2 HI
variable {o : Lb} {M : Mem}
/-! ### what contents declare; things of one kind -/
def dcC : CR → List Nat
  | .let_ d _ => [d]
  | .def_ d ps _ => d :: ps
  | _ => []
theorem do_ok (c : CR) (hz : (dcC c).length ≤ 1000000) : Pur S_declared_by [crD o c] (.new (.lst ((dcC c).map (idD o)))) := by
  intro M Q k
  unfold S_declared_by b_declared_by
  cases c with
  | def_ d ps b =>
    conv => whnf
    refine IF_t (Nat.ble_eq_true_of_le ?_) ?_
    · have hz : ps.length + 1 ≤ 1000000 := hz
      simp only [List.length_append, List.length_map, List.length_cons, List.length_nil]; omega
    have k : Q (.new (.lst (idD o d :: (ps.map (idD o))))) M := k
    show Q (.new (.lst (idD o d :: (ps.map (idD o) ++ [])))) M
    rw [List.append_nil]
    exact k
  | _ =>
    conv => whnf
    exact k
def sel (w : Lb) (l : List (Lb × Nat)) : List Nat := (l.filter fun p => eqN p.1 w).map (·.2)
theorem sel_app (w : Lb) (a b : List (Lb × Nat)) : sel w (a ++ b) = sel w a ++ sel w b := by
  unfold sel
  rw [List.filter_append, List.map_append]
theorem sel_E (w : Lb) (h1 : eqN wNumber w = false) (h2 : eqN wUse w = false) : ∀ e : CE, sel w (thE e) = []
  | .num i => by
    show (List.filter (fun p => eqN p.1 w) [(wNumber, i)]).map (·.2) = []
    rw [List.filter_cons_of_neg (by show ¬ eqN wNumber w = true; rw [h1]; exact Bool.false_ne_true)]; rfl
  | .use i => by
    show (List.filter (fun p => eqN p.1 w) [(wUse, i)]).map (·.2) = []
    rw [List.filter_cons_of_neg (by show ¬ eqN wUse w = true; rw [h2]; exact Bool.false_ne_true)]; rfl
  | .op g a b => by
    show sel w (thE a ++ thE b) = []
    rw [sel_app, sel_E w h1 h2 a, sel_E w h1 h2 b]; rfl
theorem sel_Es (w : Lb) (h1 : eqN wNumber w = false) (h2 : eqN wUse w = false) : ∀ es : List CE, sel w (thEs es) = []
  | [] => rfl
  | e :: es => by
    show sel w (thE e ++ thEs es) = []
    rw [sel_app, sel_E w h1 h2 e, sel_Es w h1 h2 es]; rfl
theorem sel_ps_b : ∀ ps : List Nat, sel wBlk (ps.map fun p => (wDecl, p)) = []
  | [] => rfl
  | p :: ps => sel_ps_b ps
theorem sel_ps_d : ∀ ps : List Nat, sel wDecl (ps.map fun p => (wDecl, p)) = ps
  | [] => rfl
  | p :: ps => congrArg (p :: ·) (sel_ps_d ps)
theorem sel_b (c : CR) : sel wBlk (thC c) = bkC c := by
  have E := sel_E wBlk rfl rfl
  cases c with
  | let_ d e => exact E e
  | set_ d e => exact E e
  | out e => exact E e
  | read d => rfl
  | do_ d es => exact sel_Es wBlk rfl rfl es
  | def_ d ps b => exact congrArg (b :: ·) (sel_ps_b ps)
  | if_ e b c => show sel wBlk (thE e ++ [(wBlk, b), (wBlk, c)]) = _; rw [sel_app, E]; rfl
  | rep e b => show sel wBlk (thE e ++ [(wBlk, b)]) = _; rw [sel_app, E]; rfl
  | blk b => rfl
theorem sel_d (c : CR) : sel wDecl (thC c) = dcC c := by
  have E := sel_E wDecl rfl rfl
  cases c with
  | let_ d e => exact congrArg (d :: ·) (E e)
  | set_ d e => exact E e
  | out e => exact E e
  | read d => rfl
  | do_ d es => exact sel_Es wDecl rfl rfl es
  | def_ d ps b => exact congrArg (d :: ·) (sel_ps_d ps)
  | if_ e b c => show sel wDecl (thE e ++ [(wBlk, b), (wBlk, c)]) = _; rw [sel_app, E]; rfl
  | rep e b => show sel wDecl (thE e ++ [(wBlk, b)]) = _; rw [sel_app, E]; rfl
  | blk b => rfl
theorem dcC_le (c : CR) : (dcC c).length ≤ (thC c).length := by
  rw [← sel_d c]
  unfold sel
  rw [List.length_map]
  exact List.length_filter_le _ _
theorem bkC_le (c : CR) : (bkC c).length ≤ (thC c).length := by
  rw [← sel_b c]
  unfold sel
  rw [List.length_map]
  exact List.length_filter_le _ _
/-- the law's comprehension of the things of one kind -/
theorem lc_sel {x0 x1 x2 x3 x4 x5 x6 x7 x8 x9 x10 x11 x13 x14 : Sl} {w : Lb} : ∀ (l : List (Lb × Nat)) (Q : List D → Mem → Prop), Q ((sel w l).map (idD o)) M → lcL [x0, x1, x2, x3, x4, x5, x6, x7, x8, x9, x10, x11, .val (.str w), x13, x14] (.tup [.one 13, .one 14]) (tCmp eqB (eV 13) (eV 12)) (eV 14) none (l.map (thD o)) M Q
  | [], Q, k => k
  | p :: l, Q, k => by
    conv => whnf
    have e : sel w (p :: l) = (if eqN p.1 w = true then p.2 :: sel w l else sel w l) := by
      show ((p :: l).filter fun p => eqN p.1 w).map (·.2) = _
      by_cases h : eqN p.1 w = true
      · rw [if_pos h, List.filter_cons_of_pos (by exact h)]; rfl
      · rw [if_neg h, List.filter_cons_of_neg (by exact h)]; rfl
    refine IF_c (fun h => ?_) (fun h => ?_)
    · have h : eqN p.1 w = true := h
      rw [if_pos h] at e
      rw [e] at k
      conv => whnf
      exact lc_sel l _ k
    · have h : eqN p.1 w = false := h
      rw [if_neg (by rw [h]; exact Bool.false_ne_true)] at e
      rw [e] at k
      exact lc_sel l _ k
end Law

namespace Law
open PySem L2 HI
/-! ### draws -/
def BagM (M : Mem) : Prop := ∃ b, M[0]? = some (.bag b)
theorem BagM.app {M : Mem} (h : BagM M) (l : Mem) : BagM (M ++ l) := by
  obtain ⟨b, h⟩ := h
  exact ⟨b, by rw [List.getElem?_append_left (List.getElem?_eq_some_iff.mp h).1, h]⟩
def DrawS (S : HI.Spec) : Prop := ∀ (n : Nat) (M : Mem) (Q : Rz → Mem → Prop), BagM M → 0 < n → n < 1000000000 → (∀ j : Nat, j < n → Q (.val (.int j)) M) → S [.cell 0, .int n] M Q
theorem draw_ok : DrawS drawS := fun n M Q h h0 h1 k => by
  obtain ⟨b, h⟩ := h
  show someQ M[0]? fun c => bagQ c (0 < (n : Int) ∧ (n : Int) < 1000000000000000000000 ∧ ∀ k : Int, 0 ≤ k → k < n → Q (.val (.int k)) M)
  rw [h]
  refine ⟨by omega, by omega, fun j j0 j1 => ?_⟩
  obtain ⟨i, rfl⟩ := Int.eq_ofNat_of_zero_le j0
  exact k i (by omega)
def OfS (S : HI.Spec) : Prop := ∀ (ds : List D) (M : Mem) (Q : Rz → Mem → Prop), BagM M → 0 < ds.length → ds.length < 1000000 → (∀ d ∈ ds, Q (.val d) M) → S [.cell 0, .lst ds] M Q
theorem of_ok' {S : HI.Spec} (hS : DrawS S) : OfS (bodyS 2 2 (b__law_pick S)) := fun ds M Q h h0 h1 k => by
  conv => whnf
  refine hS _ _ _ h h0 (by omega) fun j hj => ?_
  conv => whnf
  rw [show nthI ds (j : Int) = some ds[j] from List.getElem?_eq_getElem hj]
  exact k _ (List.getElem_mem hj)
theorem of_ok : OfS S__law_pick := of_ok' draw_ok
def ValS (S : HI.Spec) : Prop := ∀ (M : Mem) (Q : Rz → Mem → Prop), BagM M → (∀ v : Nat, v < 1000000 → Q (.val (.int v)) M) → S [.cell 0] M Q
theorem value_ok' {O S : HI.Spec} (hO : OfS O) (hS : DrawS S) : ValS (bodyS 1 1 (b__law_value O S)) := fun M Q h k => by
  conv => whnf
  refine hS 1000 _ _ h (by decide) (by decide) fun j hj => ?_
  conv => whnf
  refine hO [.int (0 : Nat), .int (1 : Nat), .int (2 : Nat), .int (7 : Nat), .int (999999 : Nat), .int j] _ _ h (by show 0 < 6; decide) (by show 6 < 1000000; decide) fun d hd => ?_
  rcases List.mem_cons.mp hd with rfl | hd
  · exact k _ (by decide)
  rcases List.mem_cons.mp hd with rfl | hd
  · exact k _ (by decide)
  rcases List.mem_cons.mp hd with rfl | hd
  · exact k _ (by decide)
  rcases List.mem_cons.mp hd with rfl | hd
  · exact k _ (by decide)
  rcases List.mem_cons.mp hd with rfl | hd
  · exact k _ (by decide)
  rcases List.mem_cons.mp hd with rfl | hd
  · exact k _ (by omega)
  · cases hd
theorem value_ok : ValS S__law_value := value_ok' of_ok draw_ok
def IdS (S : HI.Spec) : Prop := ∀ (M : Mem) (Q : Rz → Mem → Prop), BagM M → (∀ p : Lb × Nat, Q (.val (idP p)) M) → S [.cell 0] M Q
theorem id_ok' {O S : HI.Spec} (hO : OfS O) (hS : DrawS S) : IdS (bodyS 1 1 (b__law_any_id O S)) := fun M Q h k => by
  conv => whnf
  refine hO [.str [], .str [97, 110, 110], .str [98, 111, 98]] _ _ h (by show 0 < 3; decide) (by show 3 < 1000000; decide) fun d hd => ?_
  have : ∃ l, d = .str l := by
    rcases List.mem_cons.mp hd with rfl | hd
    · exact ⟨_, rfl⟩
    rcases List.mem_cons.mp hd with rfl | hd
    · exact ⟨_, rfl⟩
    rcases List.mem_cons.mp hd with rfl | hd
    · exact ⟨_, rfl⟩
    · cases hd
  obtain ⟨l, rfl⟩ := this
  conv => whnf
  refine hS 40 _ _ h (by decide) (by decide) fun j hj => ?_
  conv => whnf
  exact k (l, j)
theorem id_ok : IdS S__law_any_id := id_ok' of_ok draw_ok
structure KOk (k : Nat) (t : Sk) : Prop where
  dp : dpK t ≤ k
  sz : szK t ≤ 2 ^ k
  sm : smK t
def TmS (k : Nat) (S : HI.Spec) : Prop := ∀ (M : Mem) (Q : Rz → Mem → Prop), BagM M → (∀ t, KOk k t → Q (.val (skD t)) M) → S [.cell 0, .int k] M Q
theorem kok_op {k : Nat} (g : Sg) {a b : Sk} (ha : KOk k a) (hb : KOk k b) : KOk (k + 1) (.op g a b) := ⟨by
  have := ha.dp
  have := hb.dp
  show max (dpK a) (dpK b) + 1 ≤ _
  omega, by
  have := ha.sz
  have := hb.sz
  show szK a + szK b ≤ _
  rw [Nat.pow_succ]
  omega, ha.sm, hb.sm⟩
theorem tm_leaf {V I : HI.Spec} (hV : ValS V) (hI : IdS I) {k j : Nat} {M : Mem} {Q : Rz → Mem → Prop} (h : BagM M) (kk : ∀ t, KOk k t → Q (.val (skD t)) M) : sRet (eIf (tCmp eqB (eOp modD (eTr (eCallB intD (aCons (eV 2) (aNil)))) (eC (.int 2))) (eC (.int 0))) (eCall V (aCons (eV 0) (aNil))) (eTup (aCons (eC (.str [117, 115, 101])) (aCons (eCall I (aCons (eV 0) (aNil))) (aNil))))) ⟨fun _ M1 => Q (.val .non) M1, Q, fun _ _ => False, fun _ _ => False⟩ [.val (.cell 0), .val (.int (k : Nat)), .val (.int (j : Nat))] M := by
  conv => whnf
  refine ⟨by decide, ?_⟩
  conv => whnf
  refine IF_c (fun _ => ?_) (fun _ => ?_)
  · conv => whnf
    exact hV _ _ h fun v hv => kk (.num v) ⟨Nat.zero_le _, Nat.one_le_two_pow, hv⟩
  · conv => whnf
    refine hI _ _ h fun p => ?_
    conv => whnf
    exact kk (.use p) ⟨Nat.zero_le _, Nat.one_le_two_pow, trivial⟩
theorem tm_ok' {O X V I Dr : HI.Spec} (hD : DrawS Dr) (hO : OfS O) (hV : ValS V) (hI : IdS I) : ∀ k : Nat, (∀ m, k = m + 1 → TmS m X) → TmS k (bodyS 3 2 (b__law_any_term Dr V O X I))
  | 0, _ => fun M Q h kk => by
    unfold b__law_any_term
    conv => whnf
    refine hD 6 _ _ h (by decide) (by decide) fun j hj => ?_
    conv => whnf
    exact tm_leaf hV hI h kk
  | k + 1, hX => fun M Q h kk => by
    have hX := hX k rfl
    have e1 : ((k + 1 : Nat) : Int) - 1 = (k : Int) := by omega
    unfold b__law_any_term
    conv => whnf
    refine hD 6 _ _ h (by decide) (by decide) fun j hj => ?_
    conv => whnf
    refine IF_t (decide_eq_true (by omega)) ?_
    conv => whnf
    refine IF_c (fun _ => ?_) (fun _ => ?_)
    · conv => whnf
      refine hO [.str [43], .str [45], .str [42], .str [60]] _ _ h (by decide) (by decide) fun d hd => ?_
      obtain ⟨g, rfl⟩ : ∃ g, d = .str (sgT g) := by
        rcases List.mem_cons.mp hd with rfl | hd
        · exact ⟨.add, rfl⟩
        rcases List.mem_cons.mp hd with rfl | hd
        · exact ⟨.sub, rfl⟩
        rcases List.mem_cons.mp hd with rfl | hd
        · exact ⟨.mul, rfl⟩
        rcases List.mem_cons.mp hd with rfl | hd
        · exact ⟨.lt, rfl⟩
        · cases hd
      conv => whnf
      show X [.cell 0, .int (((k + 1 : Nat) : Int) - 1)] M _
      rw [e1]
      refine hX _ _ h fun a ha => ?_
      conv => whnf
      show X [.cell 0, .int (((k + 1 : Nat) : Int) - 1)] M _
      rw [e1]
      refine hX _ _ h fun c hc => ?_
      conv => whnf
      exact kk (.op g a c) (kok_op g ha hc)
    · conv => whnf
      exact tm_leaf hV hI h kk
theorem tm_all {O V I Dr : HI.Spec} (hD : DrawS Dr) (hO : OfS O) (hV : ValS V) (hI : IdS I) (X : Nat → HI.Spec) (hX : ∀ n, X (n + 1) = bodyS 3 2 (b__law_any_term Dr V O (X n) I)) : ∀ (k n : Nat), k < n → TmS k (X n)
  | _, 0, h => absurd h (Nat.not_lt_zero _)
  | k, n + 1, h => by
    rw [hX]
    exact tm_ok' hD hO hV hI k fun m hm => tm_all hD hO hV hI X hX m n (by omega)
theorem term_ok (k : Nat) (h : k < 6) : TmS k S__law_any_term := tm_all draw_ok of_ok value_ok id_ok Sr__law_any_term (fun _ => rfl) k 6 h
end Law

namespace Law
open PySem L2 HI
/-! ### drawn sketches -/
def SkS (S : HI.Spec) : Prop := ∀ (M : Mem) (Q : Rz → Mem → Prop), BagM M → (∀ h : Sh, ShOk h → szH h ≤ 100 → (∀ e ∈ exH h, dpK e ≤ 3) → Q (.val (shD h)) M) → S [.cell 0] M Q
theorem lc_terms {X : HI.Spec} {M : Mem} (hB : BagM M) (hX : TmS 2 X) {x1 x2 x3 x4 : Sl} : ∀ (rs : List D) (x5 : Sl) (Q : List D → Mem → Prop), (∀ es : List Sk, es.length = rs.length → (∀ e ∈ es, KOk 2 e) → Q (es.map skD) M) → lcL [.val (.cell 0), x1, x2, x3, x4, x5] (.one 5) tTrue (eCall X (aCons (eV 0) (aCons (eC (.int 2)) (aNil)))) none rs M Q
  | [], x5, Q, k => k [] rfl fun e he => (nomatch he)
  | r :: rs, x5, Q, k => by
    conv => whnf
    refine hX M _ hB fun t ht => ?_
    conv => whnf
    refine lc_terms hB hX rs _ _ fun es hl he => ?_
    exact k (t :: es) (congrArg (· + 1) hl) fun e h => by
      rcases List.mem_cons.mp h with rfl | h
      · exact ht
      · exact he e h
theorem szKs_le : ∀ {es : List Sk}, (∀ e ∈ es, szK e ≤ 4) → szKs es ≤ 4 * es.length
  | [], _ => Nat.zero_le _
  | e :: es, h => by
    have h1 := h e (.head _)
    have h2 := szKs_le fun x hx => h x (.tail _ hx)
    show szK e + szKs es ≤ 4 * (es.length + 1)
    omega
abbrev skS (Dr O X I : HI.Spec) : HI.Spec := bodyS 6 1 (b__law_any_sketch Dr O X I)
theorem sk_ok' {Dr O X I : HI.Spec} (hD : DrawS Dr) (hO : OfS O) (hX3 : TmS 3 X) (hX2 : TmS 2 X) (hI : IdS I) : SkS (skS Dr O X I) := by
  intro M Q h k
  unfold skS b__law_any_sketch
  conv => whnf
  refine hD 9 _ _ h (by decide) (by decide) fun j hj => ?_
  conv => whnf
  refine hO [.str [120], .str [97, 98, 99, 100, 101, 102], .str [122, 122], .str [102]] _ _ h (by decide) (by decide) fun d hd => ?_
  have : ∃ l, d = .str l := by
    rcases List.mem_cons.mp hd with rfl | hd
    · exact ⟨_, rfl⟩
    rcases List.mem_cons.mp hd with rfl | hd
    · exact ⟨_, rfl⟩
    rcases List.mem_cons.mp hd with rfl | hd
    · exact ⟨_, rfl⟩
    rcases List.mem_cons.mp hd with rfl | hd
    · exact ⟨_, rfl⟩
    · cases hd
  obtain ⟨nm, rfl⟩ := this
  conv => whnf
  refine hX3 _ _ h fun t ht => ?_
  have t1 := ht.sz
  have t2 := ht.dp
  have t3 := ht.sm
  have t1 : szK t ≤ 8 := t1
  conv => whnf
  refine hI _ _ h fun p => ?_
  match j, hj with
  | 0, _ =>
    conv => whnf
    exact k (.let_ nm t) ⟨fun e he => by rcases List.mem_singleton.mp he with rfl; omega, fun e he => by rcases List.mem_singleton.mp he with rfl; exact t3, by show 1 + szK t ≤ _; omega⟩ (by show 1 + szK t ≤ _; omega) fun e he => by rcases List.mem_singleton.mp he with rfl; omega
  | 1, _ =>
    conv => whnf
    exact k (.set_ p t) ⟨fun e he => by rcases List.mem_singleton.mp he with rfl; omega, fun e he => by rcases List.mem_singleton.mp he with rfl; exact t3, by show 1 + szK t ≤ _; omega⟩ (by show 1 + szK t ≤ _; omega) fun e he => by rcases List.mem_singleton.mp he with rfl; omega
  | 2, _ =>
    conv => whnf
    refine hD 4 _ _ h (by decide) (by decide) fun m hm => ?_
    have fin : ∀ es : List Sk, es.length ≤ 3 → (∀ e ∈ es, KOk 2 e) → Q (.val (shD (.do_ p es))) M := fun es hl he => by
      have hz : szKs es ≤ 4 * es.length := szKs_le fun e h => by have := (he e h).sz; have : szK e ≤ 4 := this; exact this
      exact k (.do_ p es) ⟨fun e h => by have := (he e h).dp; omega, fun e h => (he e h).sm, by show 1 + szKs es ≤ _; omega⟩ (by show 1 + szKs es ≤ _; omega) fun e h => by have := (he e h).dp; omega
    match m, hm with
    | 0, _ =>
      conv => whnf
      refine ⟨by decide, ?_⟩
      conv => whnf
      exact fin [] (by decide) fun e he => (nomatch he)
    | 1, _ =>
      conv => whnf
      refine ⟨by decide, ?_⟩
      conv => whnf
      refine hX2 _ _ h fun t1' h1 => ?_
      conv => whnf
      exact fin [t1'] (by show 1 ≤ 3; decide) fun e he => by
        simp only [List.mem_cons, List.not_mem_nil, or_false] at he
        subst he; exact h1
    | 2, _ =>
      conv => whnf
      refine ⟨by decide, ?_⟩
      conv => whnf
      refine hX2 _ _ h fun t1' h1 => ?_
      conv => whnf
      refine hX2 _ _ h fun t2' h2 => ?_
      conv => whnf
      exact fin [t1', t2'] (by show 2 ≤ 3; decide) fun e he => by
        simp only [List.mem_cons, List.not_mem_nil, or_false] at he
        rcases he with rfl | rfl
        · exact h1
        · exact h2
    | 3, _ =>
      conv => whnf
      refine ⟨by decide, ?_⟩
      conv => whnf
      refine hX2 _ _ h fun t1' h1 => ?_
      conv => whnf
      refine hX2 _ _ h fun t2' h2 => ?_
      conv => whnf
      refine hX2 _ _ h fun t3' h3 => ?_
      conv => whnf
      exact fin [t1', t2', t3'] (by show 3 ≤ 3; decide) fun e he => by
        simp only [List.mem_cons, List.not_mem_nil, or_false] at he
        rcases he with rfl | rfl | rfl
        · exact h1
        · exact h2
        · exact h3
    | m + 4, hm => exact absurd hm (by omega)
  | 3, _ =>
    conv => whnf
    refine hD 6 _ _ h (by decide) (by decide) fun m hm => ?_
    have fin : ∀ ps : List Lb, ps.length ≤ 6 → Q (.val (shD (.def_ nm ps))) M := fun ps hl => k (.def_ nm ps) ⟨fun e h => (nomatch h), fun e h => (nomatch h), by show 2 + ps.length ≤ _; omega⟩ (by show 2 + ps.length ≤ _; omega) fun e h => (nomatch h)
    match m, hm with
    | 0, _ =>
      conv => whnf
      exact fin [] (by decide)
    | 1, _ =>
      conv => whnf
      exact fin [[97]] (by decide)
    | 2, _ =>
      conv => whnf
      exact fin [[97], [98]] (by decide)
    | 3, _ =>
      conv => whnf
      exact fin [[97], [98], [120]] (by decide)
    | 4, _ =>
      conv => whnf
      exact fin [[97], [98], [120], [97, 98, 99, 100, 101, 102]] (by decide)
    | 5, _ =>
      conv => whnf
      exact fin [[97], [98], [120], [97, 98, 99, 100, 101, 102], [101]] (by decide)
    | m + 6, hm => exact absurd hm (by omega)
  | 4, _ =>
    conv => whnf
    exact k (.read p) ⟨fun e he => (nomatch he), fun e he => (nomatch he), by show 1 ≤ 1000; decide⟩ (by show 1 ≤ 100; decide) fun e he => (nomatch he)
  | 5, _ =>
    conv => whnf
    exact k (.out t) ⟨fun e he => by rcases List.mem_singleton.mp he with rfl; omega, fun e he => by rcases List.mem_singleton.mp he with rfl; exact t3, by show szK t ≤ _; omega⟩ (by show szK t ≤ _; omega) fun e he => by rcases List.mem_singleton.mp he with rfl; omega
  | 6, _ =>
    conv => whnf
    exact k (.if_ t) ⟨fun e he => by rcases List.mem_singleton.mp he with rfl; omega, fun e he => by rcases List.mem_singleton.mp he with rfl; exact t3, by show szK t + 2 ≤ _; omega⟩ (by show szK t + 2 ≤ _; omega) fun e he => by rcases List.mem_singleton.mp he with rfl; omega
  | 7, _ =>
    conv => whnf
    exact k (.rep t) ⟨fun e he => by rcases List.mem_singleton.mp he with rfl; omega, fun e he => by rcases List.mem_singleton.mp he with rfl; exact t3, by show szK t + 1 ≤ _; omega⟩ (by show szK t + 1 ≤ _; omega) fun e he => by rcases List.mem_singleton.mp he with rfl; omega
  | 8, _ =>
    conv => whnf
    exact k .blk ⟨fun e he => (nomatch he), fun e he => (nomatch he), by show 1 ≤ 1000; decide⟩ (by show 1 ≤ 100; decide) fun e he => (nomatch he)
  | j + 9, hj => exact absurd hj (by omega)
theorem sk_ok : SkS S__law_any_sketch := sk_ok' draw_ok of_ok (term_ok 3 (by decide)) (term_ok 2 (by decide)) id_ok
end Law

namespace Law
open PySem L2 HI
/-! ### a turn of the law, cut -/
abbrev t1 (Ak : HI.Spec) (Op : HI.Spec) (Dr : HI.Spec) : SV := sPar3 3 4 5 (eFz (eCall Ak (aCons (eV 1) (aNil)))) (eFz (eCall Op (aCons (eV 1) (aCons (eLst (aCons (eC (.str [97, 110, 110])) (aCons (eC (.str [98, 111, 98])) (aCons (eC (.str [120])) (aNil))))) (aNil))))) (eFz (eCall Dr (aCons (eV 1) (aCons (eC (.int 50)) (aNil)))))
abbrev t2 (Dr : HI.Spec) : SV := sIf (tAn (tCmp eqB (eOp ixD (eV 3) (eC (.int 0))) (eC (.str [108, 101, 116]))) (tCmp eqB (eCall Dr (aCons (eV 1) (aCons (eC (.int 3)) (aNil)))) (eC (.int 0)))) (sAsg 3 (eTup (aCons (eC (.str [108, 101, 116])) (aCons (eOp ixD (eV 3) (eC (.int 1))) (aCons (eTup (aCons (eC (.str [45])) (aCons (eTup (aCons (eC (.str [117, 115, 101])) (aCons (eTup (aCons (eV 4) (aCons (eOp addD (eV 5) (eC (.int 1))) (aNil)))) (aNil)))) (aCons (eOp ixD (eV 3) (eC (.int 2))) (aNil))))) (aNil)))))) (sSkip)
abbrev t3 (Ls : HI.Spec) : SV := sAsg 6 (eFz (eCall Ls (aCons (eV 3) (aCons (eV 4) (aCons (eV 5) (aNil))))))
abbrev t4 (Sd : HI.Spec) : SV := sAsg 7 (eFz (eCallK 1 2 [0, 1, 2] Sd (aCons (eV 3) (aNil)) (aCons (eV 4) (aCons (eV 5) (aNil)))))
abbrev t5 (Lk : HI.Spec) : SV := sIf (tO (tNt (tE (eTr (eCall Lk (aCons (eLst (aCons (eOp ixD (eV 7) (eC (.int 0))) (aCons (eOp ixD (eV 7) (eC (.int 4))) (aCons (eTr (eCallB lenD (aCons (eV 7) (aNil)))) (aNil))))) (aCons (eLst (aCons (eOp ixD (eV 6) (eC (.int 0))) (aCons (eOp ixD (eV 6) (eC (.int 4))) (aCons (eC (.int 5)) (aNil))))) (aNil))))))) (tNt (tE (eIsi 5 (eV 7))))) (sRet (eC (.bl false))) (sSkip)
abbrev t6  : SV := sIf (tO (tCmp neB (eLc (iSeq (eTup (aCons (eC (.int 1)) (aCons (eC (.int 2)) (aCons (eC (.int 3)) (aNil)))))) (.one 11) tTrue (eIsi 6 (eOp ixD (eV 7) (eV 11))) [11]) (eOp mulD (eLst (aCons (eC (.bl true)) (aNil))) (eC (.int 3)))) (tCmp neLD (eCallB listD (aCons (eSl (eV 7) (oSome (eC (.int 1))) (oSome (eC (.int 4)))) (aNil))) (eCallB listD (aCons (eSl (eV 6) (oSome (eC (.int 1))) (oSome (eC (.int 4)))) (aNil))))) (sRet (eC (.bl false))) (sSkip)
abbrev t7 (Lt : HI.Spec) : SV := sAsg 8 (eFz (eCall Lt (aCons (eOp ixD (eV 6) (eC (.int 0))) (aNil))))
abbrev t8 (To : HI.Spec) (Bo : HI.Spec) (Do : HI.Spec) : SV := sAsg 9 (eFz (eLst (aCons (eCell (eCall To (aCons (eOp ixD (eV 6) (eC (.int 0))) (aNil)))) (aCons (eCall Bo (aCons (eOp ixD (eV 6) (eC (.int 0))) (aNil))) (aCons (eCall Do (aCons (eOp ixD (eV 6) (eC (.int 0))) (aNil))) (aNil))))))
abbrev t9 (Lk : HI.Spec) : SV := sIf (tNt (tE (eTr (eCall Lk (aCons (eV 9) (aCons (eOp addD (eLst (aCons (eV 8) (aNil))) (eLc (iSeq (eTup (aCons (eC (.str [98, 108, 111, 99, 107])) (aCons (eC (.str [100, 101, 99, 108, 97, 114, 97, 116, 105, 111, 110])) (aNil))))) (.one 12) tTrue (eLc (iSeq (eV 8)) (.tup [.one 13, .one 14]) (tCmp eqB (eV 13) (eV 12)) (eV 14) [13, 14]) [12])) (aNil))))))) (sRet (eC (.bl false))) (sSkip)
abbrev t10  : SV := sCMix (eOp ixD (eV 7) (eC (.int 1))) (eC (.str [120])) (eC (.str [121]))
abbrev t11  : SV := sCApp (eOp ixD (eV 9) (eC (.int 0))) (eC .non)
abbrev t12 (Sd : HI.Spec) : SV := sAsg 10 (eFz (eCallK 0 3 [2, 1, 0] Sd aNil (aCons (eV 5) (aCons (eV 4) (aCons (eV 3) (aNil))))))
abbrev t13 (Lk : HI.Spec) (To : HI.Spec) : SV := sIf (tO (tCmp neLD (eCallB listD (aCons (eSl (eV 10) (oSome (eC (.int 1))) (oSome (eC (.int 4)))) (aNil))) (eCallB listD (aCons (eSl (eV 6) (oSome (eC (.int 1))) (oSome (eC (.int 4)))) (aNil)))) (tNt (tE (eTr (eCall Lk (aCons (eCall To (aCons (eOp ixD (eV 10) (eC (.int 0))) (aNil))) (aCons (eV 8) (aNil)))))))) (sRet (eC (.bl false))) (sSkip)
theorem w_cut (Ak Op Dr Ls Sd Lk Lt To Bo Do : HI.Spec) : w_law_1 Ak Op Dr Ls Sd Lk Lt To Bo Do = sSeq (t1 Ak Op Dr) (sSeq (t2 Dr) (sSeq (t3 Ls) (sSeq (t4 Sd) (sSeq (t5 Lk) (sSeq (t6 ) (sSeq (t7 Lt) (sSeq (t8 To Bo Do) (sSeq (t9 Lk) (sSeq (t10 ) (sSeq (t11 ) (sSeq (t12 Sd) (t13 Lk To)))))))))))) := rfl
end Law

namespace Law
open PySem L2 HI
variable {L : Mem} {Ak Op Dr Ls Sd Lk Lt To Bo Do : HI.Spec} {o : Lb} {n : Nat} {h : Sh}
theorem step_1 (hB : BagM L) (hA : SkS Ak) (hO : OfS Op) (hD : DrawS Dr) {G : SV} {K : KD} {x0 x2 x3 x4 x5 x6 x7 x8 x9 x10 x11 x12 x13 x14 : Sl} (k : ∀ h o n, ShOk h → szH h ≤ 100 → (∀ e ∈ exH h, dpK e ≤ 3) → G K [x0, .val (.cell 0), x2, .val (shD h), .val (.str o), .val (.int (n : Nat)), x6, x7, x8, x9, x10, x11, x12, x13, x14] L) : sSeq (t1 Ak Op Dr) G K [x0, .val (.cell 0), x2, x3, x4, x5, x6, x7, x8, x9, x10, x11, x12, x13, x14] L := by
  refine seq_i ?_
  conv => whnf
  refine hA _ _ hB fun h h1 h2 h3 => ?_
  conv => whnf
  refine hO [.str [97, 110, 110], .str [98, 111, 98], .str [120]] _ _ hB (by show 0 < 3; decide) (by show 3 < 1000000; decide) fun d hd => ?_
  have : ∃ l, d = .str l := by
    rcases List.mem_cons.mp hd with rfl | hd
    · exact ⟨_, rfl⟩
    rcases List.mem_cons.mp hd with rfl | hd
    · exact ⟨_, rfl⟩
    rcases List.mem_cons.mp hd with rfl | hd
    · exact ⟨_, rfl⟩
    · cases hd
  obtain ⟨o, rfl⟩ := this
  conv => whnf
  refine hD 50 _ _ hB (by decide) (by decide) fun j hj => ?_
  conv => whnf
  exact k h o j h1 h2 h3
theorem step_2 (hB : BagM L) (hD : DrawS Dr) (h1 : ShOk h) (h2 : szH h ≤ 100) (h3 : ∀ e ∈ exH h, dpK e ≤ 3) {G : SV} {K : KD} {x0 x2 x6 x7 x8 x9 x10 x11 x12 x13 x14 : Sl} (k : ∀ h, ShOk h → G K [x0, .val (.cell 0), x2, .val (shD h), .val (.str o), .val (.int n), x6, x7, x8, x9, x10, x11, x12, x13, x14] L) : sSeq (t2 Dr) G K [x0, .val (.cell 0), x2, .val (shD h), .val (.str o), .val (.int n), x6, x7, x8, x9, x10, x11, x12, x13, x14] L := by
  refine seq_i ?_
  cases h with
  | let_ w e =>
    conv => whnf
    refine hD 3 _ _ hB (by decide) (by decide) fun j hj => ?_
    conv => whnf
    refine IF_c (fun _ => ?_) (fun _ => ?_)
    · conv => whnf
      have e1 : ((n : Int) + 1) = ((n + 1 : Nat) : Int) := by omega
      have hz : 1 + szK e ≤ 100 := h2
      have hd := h3 e (.head _)
      have hs := h1.sm e (.head _)
      have k := k (.let_ w (.op .sub (.use (o, n + 1)) e)) ⟨fun x hx => by
        rcases List.mem_singleton.mp hx with rfl
        show max 0 (dpK e) + 1 < 6
        omega, fun x hx => by
        rcases List.mem_singleton.mp hx with rfl
        exact ⟨trivial, hs⟩, by show 1 + (1 + szK e) ≤ 1000; omega⟩
      show G K [x0, .val (.cell 0), x2, .val (.tup [.str wLet, .str w, .tup [.str [45], .tup [.str wUse, .tup [.str o, .int ((n : Int) + 1)]], skD e]]), .val (.str o), .val (.int n), x6, x7, x8, x9, x10, x11, x12, x13, x14] L
      rw [e1]
      exact k
    · exact k _ h1
  | _ =>
    conv => whnf
    exact k _ h1
theorem step_3 {R : Mem} {r : D} {L2 : Mem} (hS : Det Ls [shD h, .str o, .int n] L (.val r) L2) {G : SV} {K : KD} {x0 x1 x2 x6 x7 x8 x9 x10 x11 x12 x13 x14 : Sl} (k : G K [x0, x1, x2, .val (shD h), .val (.str o), .val (.int n), .val r, x7, x8, x9, x10, x11, x12, x13, x14] L2) : sSeq (t3 Ls) G K [x0, x1, x2, .val (shD h), .val (.str o), .val (.int n), x6, x7, x8, x9, x10, x11, x12, x13, x14] L := by
  refine seq_i ?_
  conv => whnf
  refine hS _ ?_
  conv => whnf
  exact k
theorem step_4 {R : Mem} {r : D} {L2 : Mem} (hS : Det Sd [shD h, .str o, .int n] L (.val r) L2) {G : SV} {K : KD} {x0 x1 x2 x6 x7 x8 x9 x10 x11 x12 x13 x14 : Sl} (k : G K [x0, x1, x2, .val (shD h), .val (.str o), .val (.int n), x6, .val r, x8, x9, x10, x11, x12, x13, x14] L2) : sSeq (t4 Sd) G K [x0, x1, x2, .val (shD h), .val (.str o), .val (.int n), x6, x7, x8, x9, x10, x11, x12, x13, x14] L := by
  refine seq_i ?_
  conv => whnf
  refine hS _ ?_
  conv => whnf
  exact k
/-- what the two sketchings answer: c the content, nm the first table's cell .. -/
abbrev dueD (c : D) (a : Nat) (mn vl : List (D × D)) (m : Nat) : D := .tup [c, .cell a, .dct true mn, .dct true vl, .int m]
abbrev fouD (c : D) (b1 b2 b3 : Nat) (m : Nat) : D := .tup [c, .cell b1, .cell b2, .cell b3, .int m]
theorem step_5 {c : D} {m a b1 b2 b3 : Nat} {mn vl : List (D × D)} (hs : SmOk Lk (.lst [c, .int m, .int 5]) (.lst [c, .int m, .int 5]) L) {G : SV} {K : KD} {x0 x1 x2 x3 x4 x5 x8 x9 x10 x11 x12 x13 x14 : Sl} (k : G K [x0, x1, x2, x3, x4, x5, .val (dueD c a mn vl m), .val (fouD c b1 b2 b3 m), x8, x9, x10, x11, x12, x13, x14] L) : sSeq (t5 Lk) G K [x0, x1, x2, x3, x4, x5, .val (dueD c a mn vl m), .val (fouD c b1 b2 b3 m), x8, x9, x10, x11, x12, x13, x14] L := by
  refine seq_i ?_
  conv => whnf
  refine hs _ ?_
  conv => whnf
  exact k
end Law

namespace Law
open PySem L2 HI
variable {L : Mem} {Ak Op Dr Ls Sd Lk Lt To Bo Do : HI.Spec} {o : Lb} {n : Nat} {h : Sh}
theorem dd_all {x y z x' y' z' : D} {a b c : TD} {q : Prop} (h1 : view L x = .dct true (dT o a)) (h1' : view L x' = .dct true (dT o a)) (s1 : SimT a) (h2 : view L y = .dct true (dT o b)) (h2' : view L y' = .dct true (dT o b)) (s2 : SimT b) (h3 : view L z = .dct true (dT o c)) (h3' : view L z' = .dct true (dT o c)) (s3 : SimT c) (k : q) : ddAll L [x, y, z] [x', y', z'] q := by
  show ddQ L x x' fun b => okQ b (ddAll L [y, z] [y', z'] q)
  refine dd_i h1 h1' s1 ?_
  show ddQ L y y' fun b => okQ b (ddAll L [z] [z'] q)
  refine dd_i h2 h2' s2 ?_
  show ddQ L z z' fun b => okQ b q
  exact dd_i h3 h3' s3 k
theorem step_6 {c : D} {m a b1 b2 b3 : Nat} {nm mn vl : TD} (ha : L[a]? = some (.dct true (dT o nm))) (h1 : L[b1]? = some (.dct true (dT o nm))) (h2 : L[b2]? = some (.dct true (dT o mn))) (h3 : L[b3]? = some (.dct true (dT o vl))) (s1 : SimT nm) (s2 : SimT mn) (s3 : SimT vl) {G : SV} {K : KD} {x0 x1 x2 x3 x4 x5 x8 x9 x10 x11 x12 x13 x14 : Sl} (k : G K [x0, x1, x2, x3, x4, x5, .val (dueD c a (dT o mn) (dT o vl) m), .val (fouD c b1 b2 b3 m), x8, x9, x10, x11, x12, x13, x14] L) : sSeq t6 G K [x0, x1, x2, x3, x4, x5, .val (dueD c a (dT o mn) (dT o vl) m), .val (fouD c b1 b2 b3 m), x8, x9, x10, x11, x12, x13, x14] L := by
  refine seq_i ?_
  conv => whnf
  rw [view_of h1]
  conv => whnf
  dsimp only [Rz.d]
  rw [view_of h2]
  conv => whnf
  dsimp only [Rz.d]
  rw [view_of h3]
  conv => whnf
  refine ⟨by decide, ?_⟩
  conv => whnf
  rw [view_of h1]
  conv => whnf
  rw [view_of ha]
  conv => whnf
  refine IF_t (okVals_T nm s1.sm) ?_
  conv => whnf
  refine IF_t (okVals_T nm s1.sm) ?_
  conv => whnf
  refine IF_t (dEq_self s1) ?_
  conv => whnf
  rw [view_of h2]
  conv => whnf
  refine IF_t (okVals_T mn s2.sm) ?_
  conv => whnf
  refine IF_t (okVals_T mn s2.sm) ?_
  conv => whnf
  refine IF_t (dEq_self s2) ?_
  conv => whnf
  rw [view_of h3]
  conv => whnf
  refine IF_t (okVals_T vl s3.sm) ?_
  conv => whnf
  refine IF_t (okVals_T vl s3.sm) ?_
  conv => whnf
  refine IF_t (dEq_self s3) ?_
  conv => whnf
  exact k
theorem step_7 {c : CR} {m a : Nat} {mn vl : List (D × D)} (hT : ToOk o Lt c) {G : SV} {K : KD} {x0 x1 x2 x3 x4 x5 x7 x8 x9 x10 x11 x12 x13 x14 : Sl} (k : G K [x0, x1, x2, x3, x4, x5, .val (dueD (crD o c) a mn vl m), x7, .val (.lst ((thC c).map (thD o))), x9, x10, x11, x12, x13, x14] L) : sSeq (t7 Lt) G K [x0, x1, x2, x3, x4, x5, .val (dueD (crD o c) a mn vl m), x7, x8, x9, x10, x11, x12, x13, x14] L := by
  refine seq_i ?_
  conv => whnf
  refine hT _ _ ?_
  conv => whnf
  exact k
theorem step_8 {c : CR} {m a : Nat} {mn vl : List (D × D)} (hT : ToOk o To c) (hB : Pur Bo [crD o c] (.new (.lst ((bkC c).map (idD o))))) (hD : Pur Do [crD o c] (.new (.lst ((dcC c).map (idD o))))) {G : SV} {K : KD} {x0 x1 x2 x3 x4 x5 x7 x8 x9 x10 x11 x12 x13 x14 : Sl} (k : G K [x0, x1, x2, x3, x4, x5, .val (dueD (crD o c) a mn vl m), x7, x8, .val (.lst [.cell L.length, .lst ((bkC c).map (idD o)), .lst ((dcC c).map (idD o))]), x10, x11, x12, x13, x14] (L ++ [.lst ((thC c).map (thD o))])) : sSeq (t8 To Bo Do) G K [x0, x1, x2, x3, x4, x5, .val (dueD (crD o c) a mn vl m), x7, x8, x9, x10, x11, x12, x13, x14] L := by
  refine seq_i ?_
  conv => whnf
  refine hT _ _ ?_
  conv => whnf
  refine hB _ _ ?_
  conv => whnf
  refine hD _ _ ?_
  conv => whnf
  exact k
theorem step_9 {c : CR} {t : Nat} (ht : L[t]? = some (.lst ((thC c).map (thD o)))) (hz : (thC c).length ≤ 1000000) (hs : SmOk Lk (.lst [.cell t, .lst ((bkC c).map (idD o)), .lst ((dcC c).map (idD o))]) (.lst [.lst ((thC c).map (thD o)), .lst ((bkC c).map (idD o)), .lst ((dcC c).map (idD o))]) L) {G : SV} {K : KD} {x0 x1 x2 x3 x4 x5 x6 x7 x10 x11 x12 x13 x14 : Sl} (k : G K [x0, x1, x2, x3, x4, x5, x6, x7, .val (.lst ((thC c).map (thD o))), .val (.lst [.cell t, .lst ((bkC c).map (idD o)), .lst ((dcC c).map (idD o))]), x10, x11, x12, x13, x14] L) : sSeq (t9 Lk) G K [x0, x1, x2, x3, x4, x5, x6, x7, .val (.lst ((thC c).map (thD o))), .val (.lst [.cell t, .lst ((bkC c).map (idD o)), .lst ((dcC c).map (idD o))]), x10, x11, x12, x13, x14] L := by
  refine seq_i ?_
  have l1 : ((thC c).map (thD o)).length ≤ 1000000 := by rw [List.length_map]; exact hz
  conv => whnf
  refine IF_t (Nat.ble_eq_true_of_le l1) ?_
  refine lc_sel (thC c) _ ?_
  conv => whnf
  refine IF_t (Nat.ble_eq_true_of_le l1) ?_
  refine lc_sel (thC c) _ ?_
  conv => whnf
  rw [sel_b, sel_d]
  refine hs _ ?_
  conv => whnf
  exact k
theorem step_10 {c : D} {m b1 b2 b3 : Nat} {nm : TD} (h1 : L[b1]? = some (.dct true (dT o nm))) {G : SV} {K : KD} {x0 x1 x2 x3 x4 x5 x6 x8 x9 x10 x11 x12 x13 x14 : Sl} (k : G K [x0, x1, x2, x3, x4, x5, x6, .val (fouD c b1 b2 b3 m), x8, x9, x10, x11, x12, x13, x14] (L.set b1 .opq)) : sSeq t10 G K [x0, x1, x2, x3, x4, x5, x6, .val (fouD c b1 b2 b3 m), x8, x9, x10, x11, x12, x13, x14] L := by
  refine seq_i ?_
  conv => whnf
  refine st_some h1 ?_
  conv => whnf
  exact k
theorem step_11 {xs : List D} {t : Nat} {y z : D} (ht : L[t]? = some (.lst xs)) (hz : xs.length < 1000000) {G : SV} {K : KD} {x0 x1 x2 x3 x4 x5 x6 x7 x8 x10 x11 x12 x13 x14 : Sl} (k : G K [x0, x1, x2, x3, x4, x5, x6, x7, x8, .val (.lst [.cell t, y, z]), x10, x11, x12, x13, x14] (L.set t (.lst (xs ++ [.non])))) : sSeq t11 G K [x0, x1, x2, x3, x4, x5, x6, x7, x8, .val (.lst [.cell t, y, z]), x10, x11, x12, x13, x14] L := by
  refine seq_i ?_
  conv => whnf
  refine st_some ht ?_
  conv => whnf
  refine st_some ht ?_
  conv => whnf
  refine IF_t (Nat.ble_eq_true_of_le hz) ?_
  exact k
theorem step_12 {r : D} {L2 : Mem} (hS : Det Sd [shD h, .str o, .int n] L (.val r) L2) {G : SV} {K : KD} {x0 x1 x2 x6 x7 x8 x9 x10 x11 x12 x13 x14 : Sl} (k : G K [x0, x1, x2, .val (shD h), .val (.str o), .val (.int n), x6, x7, x8, x9, .val r, x11, x12, x13, x14] L2) : sSeq (t12 Sd) G K [x0, x1, x2, .val (shD h), .val (.str o), .val (.int n), x6, x7, x8, x9, x10, x11, x12, x13, x14] L := by
  refine seq_i ?_
  conv => whnf
  refine hS _ ?_
  conv => whnf
  exact k
theorem step_13 {c : CR} {m a b1 b2 b3 : Nat} {nm mn vl : TD} (ha : L[a]? = some (.dct true (dT o nm))) (h1 : L[b1]? = some (.dct true (dT o nm))) (h2 : L[b2]? = some (.dct true (dT o mn))) (h3 : L[b3]? = some (.dct true (dT o vl))) (s1 : SimT nm) (s2 : SimT mn) (s3 : SimT vl) (hT : ToOk o To c) (hs : SmOk Lk (.lst ((thC c).map (thD o))) (.lst ((thC c).map (thD o))) L) {K : KD} {x0 x1 x2 x3 x4 x5 x7 x9 x11 x12 x13 x14 : Sl} (k : K.nx [x0, x1, x2, x3, x4, x5, .val (dueD (crD o c) a (dT o mn) (dT o vl) m), x7, .val (.lst ((thC c).map (thD o))), x9, .val (fouD (crD o c) b1 b2 b3 m), x11, x12, x13, x14] L) : t13 Lk To K [x0, x1, x2, x3, x4, x5, .val (dueD (crD o c) a (dT o mn) (dT o vl) m), x7, .val (.lst ((thC c).map (thD o))), x9, .val (fouD (crD o c) b1 b2 b3 m), x11, x12, x13, x14] L := by
  conv => whnf
  rw [view_of h1]
  conv => whnf
  rw [view_of ha]
  conv => whnf
  refine IF_t (okVals_T nm s1.sm) ?_
  conv => whnf
  refine IF_t (okVals_T nm s1.sm) ?_
  conv => whnf
  refine IF_t (dEq_self s1) ?_
  conv => whnf
  rw [view_of h2]
  conv => whnf
  refine IF_t (okVals_T mn s2.sm) ?_
  conv => whnf
  refine IF_t (okVals_T mn s2.sm) ?_
  conv => whnf
  refine IF_t (dEq_self s2) ?_
  conv => whnf
  rw [view_of h3]
  conv => whnf
  refine IF_t (okVals_T vl s3.sm) ?_
  conv => whnf
  refine IF_t (okVals_T vl s3.sm) ?_
  conv => whnf
  refine IF_t (dEq_self s3) ?_
  conv => whnf
  refine hT _ _ ?_
  conv => whnf
  refine hs _ ?_
  conv => whnf
  exact k
end Law

namespace Law
open PySem L2 HI
variable {o : Lb}
/-! ### sizes of what is made -/
theorem dp_ceK : ∀ (n : Nat) (e : Sk), dpC (ceK n e) = dpK e
  | _, .num _ => rfl
  | _, .use _ => rfl
  | n, .op g a b => by
    show max (dpC (ceK n a)) (dpC (ceK (n + szK a) b)) + 1 = max (dpK a) (dpK b) + 1
    rw [dp_ceK, dp_ceK]
theorem th_ceK : ∀ (n : Nat) (e : Sk), (thE (ceK n e)).length = szK e
  | _, .num _ => rfl
  | _, .use _ => rfl
  | n, .op g a b => by
    show (thE (ceK n a) ++ thE (ceK (n + szK a) b)).length = szK a + szK b
    rw [List.length_append, th_ceK, th_ceK]
theorem th_ceKs : ∀ (n : Nat) (es : List Sk), (thEs (ceKs n es)).length = szKs es
  | _, [] => rfl
  | n, e :: es => by
    show (thE (ceK n e) ++ thEs (ceKs (n + szK e) es)).length = szK e + szKs es
    rw [List.length_append, th_ceK, th_ceKs]
theorem ceKs_mem : ∀ (n : Nat) (es : List Sk), ∀ c ∈ ceKs n es, ∃ m, ∃ e ∈ es, c = ceK m e
  | _, [], c, h => (nomatch h)
  | n, e :: es, c, h => by
    rcases List.mem_cons.mp h with rfl | h
    · exact ⟨n, e, .head _, rfl⟩
    · obtain ⟨m, x, hx, e⟩ := ceKs_mem (n + szK e) es c h
      exact ⟨m, x, .tail _ hx, e⟩
theorem ex_crH (n : Nat) (h : Sh) : ∀ c ∈ exC (crH n h), ∃ m, ∃ e ∈ exH h, c = ceK m e := by
  cases h with
  | do_ p es => exact ceKs_mem (n + 1) es
  | let_ w e => exact fun c hc => ⟨n + 1, e, .head _, List.mem_singleton.mp hc⟩
  | set_ p e => exact fun c hc => ⟨n + 1, e, .head _, List.mem_singleton.mp hc⟩
  | out e => exact fun c hc => ⟨n, e, .head _, List.mem_singleton.mp hc⟩
  | if_ e => exact fun c hc => ⟨n, e, .head _, List.mem_singleton.mp hc⟩
  | rep e => exact fun c hc => ⟨n, e, .head _, List.mem_singleton.mp hc⟩
  | _ => exact fun c hc => (nomatch hc)
theorem th_crH (n : Nat) (h : Sh) : (thC (crH n h)).length ≤ szH h := by
  cases h with
  | let_ w e => show (thE (ceK (n + 1) e)).length + 1 ≤ 1 + szK e; rw [th_ceK]; omega
  | set_ p e => show (thE (ceK (n + 1) e)).length + 1 ≤ 1 + szK e; rw [th_ceK]; omega
  | read p => exact Nat.le_refl _
  | do_ p es => show (thEs (ceKs (n + 1) es)).length + 1 ≤ 1 + szKs es; rw [th_ceKs]; omega
  | def_ w ps => show ((up (n + 2) ps.length).map fun p => (wDecl, p)).length + 1 + 1 ≤ 2 + ps.length; rw [List.length_map, up_len]; omega
  | blk => exact Nat.le_refl _
  | out e => show (thE (ceK n e)).length ≤ szK e; rw [th_ceK]; exact Nat.le_refl _
  | if_ e => show (thE (ceK n e) ++ [_, _]).length ≤ szK e + 2; rw [List.length_append, th_ceK]; exact Nat.le_refl _
  | rep e => show (thE (ceK n e) ++ [_]).length ≤ szK e + 1; rw [List.length_append, th_ceK]; exact Nat.le_refl _
theorem dp_crH {n : Nat} {h : Sh} (ho : ShOk h) : ∀ c ∈ exC (crH n h), dpC c ≤ 5 := fun c hc => by
  obtain ⟨m, e, he, rfl⟩ := ex_crH n h c hc
  rw [dp_ceK]
  have := ho.dp e he
  omega
theorem th_ok {n : Nat} {h : Sh} (ho : ShOk h) : (thC (crH n h)).length ≤ 1000 := Nat.le_trans (th_crH n h) ho.sz
theorem simp_crH (o : Lb) {n : Nat} {h : Sh} (ho : ShOk h) : Simp 10 (crD o (crH n h)) := simp_cr o (k := 5) _ (dp_crH ho) (by have := th_ok (n := n) ho; omega)
/-! tables -/
theorem nmPs_in : ∀ (n : Nat) (ps : List Lb), inK n (n + ps.length) (nmPs n ps) ∧ ((nmPs n ps).map (·.1)).Nodup ∧ ∀ p ∈ nmPs n ps, Simp 50 p.2
  | n, [] => ⟨fun p hp => (nomatch hp), List.nodup_nil, fun p hp => (nomatch hp)⟩
  | n, w :: ws => by
    obtain ⟨a1, a2, a3⟩ := nmPs_in (n + 1) ws
    refine ⟨?_, nd_app (in_one n (.str w)) a1 (nd_one n _) a2, fun p hp => ?_⟩
    · have := (in_one n (.str w)).app a1 (by omega) (by omega)
      rw [show n + 1 + ws.length = n + (w :: ws).length by show _ = n + (ws.length + 1); omega] at this
      exact this
    · rcases List.mem_cons.mp hp with rfl | hp
      · trivial
      · exact a3 p hp
theorem simT_nm (n : Nat) (h : Sh) : SimT (nmH n h) := by
  cases h with
  | let_ w e => exact ⟨nd_one n _, fun p hp => by rcases List.mem_singleton.mp hp with rfl; trivial⟩
  | def_ w ps =>
    obtain ⟨a1, a2, a3⟩ := nmPs_in (n + 2) ps
    refine ⟨nd_app (n := n) (m := n + 2) (a := [(n, .str w)]) (fun p hp => by rcases List.mem_singleton.mp hp with rfl; exact ⟨Nat.le_refl _, by show n < n + 2; omega⟩) a1 (nd_one n _) a2, fun p hp => ?_⟩
    rcases List.mem_cons.mp hp with rfl | hp
    · trivial
    · exact a3 p hp
  | _ => exact ⟨List.nodup_nil, fun p hp => (nomatch hp)⟩
theorem simp_idP (p : Lb × Nat) : Simp 50 (idP p) := simp_id p.1 p.2 48
theorem sm_K : ∀ (n : Nat) (e : Sk), (∀ p ∈ usK n e, Simp 50 p.2) ∧ ∀ p ∈ vaK n e, Simp 50 p.2
  | n, .num v => ⟨fun p hp => (nomatch hp), fun p hp => by rcases List.mem_singleton.mp hp with rfl; trivial⟩
  | n, .use q => ⟨fun p hp => by rcases List.mem_singleton.mp hp with rfl; exact simp_idP q, fun p hp => (nomatch hp)⟩
  | n, .op g a b => by
    obtain ⟨a1, a2⟩ := sm_K n a
    obtain ⟨b1, b2⟩ := sm_K (n + szK a) b
    exact ⟨fun p hp => (List.mem_append.mp hp).elim (a1 p) (b1 p), fun p hp => (List.mem_append.mp hp).elim (a2 p) (b2 p)⟩
theorem sm_Ks : ∀ (n : Nat) (es : List Sk), (∀ p ∈ usKs n es, Simp 50 p.2) ∧ ∀ p ∈ vaKs n es, Simp 50 p.2
  | n, [] => ⟨fun p hp => (nomatch hp), fun p hp => (nomatch hp)⟩
  | n, e :: es => by
    obtain ⟨a1, a2⟩ := sm_K n e
    obtain ⟨b1, b2⟩ := sm_Ks (n + szK e) es
    exact ⟨fun p hp => (List.mem_append.mp hp).elim (a1 p) (b1 p), fun p hp => (List.mem_append.mp hp).elim (a2 p) (b2 p)⟩
theorem sm_cons {q : Lb × Nat} {n : Nat} {l : TD} (h : ∀ p ∈ l, Simp 50 p.2) : ∀ p ∈ ((n, idP q) :: l : TD), Simp 50 p.2 := fun p hp => by
  rcases List.mem_cons.mp hp with rfl | hp
  · exact simp_idP q
  · exact h p hp
theorem simT_mv (n : Nat) (h : Sh) : SimT (mnH n h) ∧ SimT (vlH n h) := by
  obtain ⟨h1, h2⟩ := nd_H n h
  suffices hs : (∀ p ∈ mnH n h, Simp 50 p.2) ∧ ∀ p ∈ vlH n h, Simp 50 p.2 from ⟨⟨h1, hs.1⟩, ⟨h2, hs.2⟩⟩
  have no : ∀ p ∈ ([] : TD), Simp 50 p.2 := fun p hp => (nomatch hp)
  cases h with
  | let_ w e => exact sm_K (n + 1) e
  | set_ p e => exact ⟨sm_cons (sm_K (n + 1) e).1, (sm_K (n + 1) e).2⟩
  | read p => exact ⟨sm_cons no, no⟩
  | do_ p es => exact ⟨sm_cons (sm_Ks (n + 1) es).1, (sm_Ks (n + 1) es).2⟩
  | def_ w ps => exact ⟨no, no⟩
  | blk => exact ⟨no, no⟩
  | out e => exact sm_K n e
  | if_ e => exact sm_K n e
  | rep e => exact sm_K n e
theorem simp_th (o : Lb) (k : Nat) (l : List (Lb × Nat)) (hl : l.length ≤ 1000000) : Simp (k + 4) (.lst (l.map (thD o))) := simp_lmap hl fun p _ => simp_2 (n := k + 2) (simp_s _ _) (simp_id o _ k)
theorem simp_ids (o : Lb) (k : Nat) (l : List Nat) (hl : l.length ≤ 1000000) : Simp (k + 3) (.lst (l.map (idD o))) := simp_lmap hl fun p _ => simp_id o _ k
theorem told_same {L : Mem} {t : Nat} {c : CR} (ht : L[t]? = some (.lst ((thC c).map (thD o)))) (hz : (thC c).length ≤ 1000) : SmOk S__law_like (.lst [.cell t, .lst ((bkC c).map (idD o)), .lst ((dcC c).map (idD o))]) (.lst [.lst ((thC c).map (thD o)), .lst ((bkC c).map (idD o)), .lst ((dcC c).map (idD o))]) L := by
  have b1 := bkC_le c
  have b2 := dcC_le c
  refine same_lst (R := Sr__law_like 11) (l := [(.cell t, .lst ((thC c).map (thD o))), (.lst ((bkC c).map (idD o)), .lst ((bkC c).map (idD o))), (.lst ((dcC c).map (idD o)), .lst ((dcC c).map (idD o)))]) (by show 3 ≤ _; decide) fun p hp => ?_
  rcases List.mem_cons.mp hp with rfl | hp
  · have := same_lstC (R := Sr__law_like 10) (M := L) (n := t) (l := ((thC c).map (thD o)).map fun x => (x, x)) (by rw [dup1]; exact ht) (by rw [List.length_map, List.length_map]; omega) fun p hp => by
      obtain ⟨x, hx, rfl⟩ := List.mem_map.mp hp
      obtain ⟨q, _, rfl⟩ := List.mem_map.mp hx
      exact same_simp 10 _ (simp_2 (n := 9) (simp_s _ _) (simp_id o _ 7))
    rw [dup2] at this
    exact this
  rcases List.mem_cons.mp hp with rfl | hp
  · exact same_simp 11 _ (simp_ids o 8 _ (by omega))
  rcases List.mem_cons.mp hp with rfl | hp
  · exact same_simp 11 _ (simp_ids o 8 _ (by omega))
  · cases hp
theorem head_same {L : Mem} {c : D} {m : Nat} (hc : Simp 10 c) : SmOk S__law_like (.lst [c, .int m, .int 5]) (.lst [c, .int m, .int 5]) L := same_simp 12 _ ⟨by show 3 ≤ 1000000; decide, fun x hx => by
  rcases List.mem_cons.mp hx with rfl | hx
  · exact hc.up (by decide)
  rcases List.mem_cons.mp hx with rfl | hx
  · trivial
  rcases List.mem_cons.mp hx with rfl | hx
  · trivial
  · cases hx⟩
end Law

namespace Law
open PySem L2 HI
variable {L : Mem}
theorem BagM.set {M : Mem} (h : BagM M) {i : Nat} {d : D} (hi : i ≠ 0) : BagM (M.set i d) := by
  obtain ⟨b, h⟩ := h
  exact ⟨b, by rw [List.getElem?_set_ne hi]; exact h⟩
theorem BagM.pos {M : Mem} (h : BagM M) : 0 < M.length := by
  obtain ⟨b, h⟩ := h
  exact (List.getElem?_eq_some_iff.mp h).1
theorem turn_ok (hB : BagM L) {K : KD} {x0 x2 x3 x4 x5 x6 x7 x8 x9 x10 x11 x12 x13 x14 : Sl} (k : ∀ L2, BagM L2 → ∀ x3 x4 x5 x6 x7 x8 x9 x10 x11 x12 x13 x14, K.nx [x0, .val (.cell 0), x2, x3, x4, x5, x6, x7, x8, x9, x10, x11, x12, x13, x14] L2) : w_law_1 S__law_any_sketch S__law_pick S__law_draw S__law_sketch S_sketched S__law_like S__law_things S_things_of S_blocks_of S_declared_by K [x0, .val (.cell 0), x2, x3, x4, x5, x6, x7, x8, x9, x10, x11, x12, x13, x14] L := by
  rw [w_cut]
  refine step_1 hB sk_ok of_ok draw_ok fun h o n q1 q2 q3 => ?_
  refine step_2 hB draw_ok q1 q2 q3 fun h ho => ?_
  clear q1 q2 q3
  obtain ⟨R, hR⟩ := law_sketch_ok o n ho L
  refine step_3 (R := R) hR ?_
  have a2 : (WM o L (.con (n + 1) h) (.dct true (dT o (nmH (n + 1) h)) :: R))[L.length + 1]? = some (.dct true (dT o (nmH (n + 1) h))) := hgk (k := 1) rfl
  have B2 : BagM (WM o L (.con (n + 1) h) (.dct true (dT o (nmH (n + 1) h)) :: R)) := hB.app _
  have l2 : L.length + 1 < (WM o L (.con (n + 1) h) (.dct true (dT o (nmH (n + 1) h)) :: R)).length := (List.getElem?_eq_some_iff.mp a2).1
  generalize WM o L (.con (n + 1) h) (.dct true (dT o (nmH (n + 1) h)) :: R) = L2 at a2 B2 l2 ⊢
  generalize L.length + 1 = a at a2 l2 ⊢
  refine step_4 (R := R) (sketched_ok o n ho L2) ?_
  obtain ⟨s2, s3⟩ := simT_mv (n + 1) h
  have s1 := simT_nm (n + 1) h
  have a3 : (E o L2 (.con (n + 1) h))[a]? = some (.dct true (dT o (nmH (n + 1) h))) := hlo a2
  have B3 : BagM (E o L2 (.con (n + 1) h)) := B2.app _
  have c1 : (E o L2 (.con (n + 1) h))[L2.length + 1]? = some (.dct true (dT o (nmH (n + 1) h))) := hgk (k := 1) rfl
  have c2 : (E o L2 (.con (n + 1) h))[L2.length + 2]? = some (.dct true (dT o (mnH (n + 1) h))) := hgk (k := 2) rfl
  have c3 : (E o L2 (.con (n + 1) h))[L2.length + 3]? = some (.dct true (dT o (vlH (n + 1) h))) := hgk (k := 3) rfl
  have lb : a < L2.length + 1 := by omega
  generalize hb1 : L2.length + 1 = b1 at c1 lb ⊢
  generalize L2.length + 2 = b2 at c2 ⊢
  generalize L2.length + 3 = b3 at c3 ⊢
  generalize E o L2 (.con (n + 1) h) = L3 at a3 B3 c1 c2 c3 ⊢
  have hth := th_ok (n := n + 1) ho
  have hdp : ∀ e ∈ exC (crH (n + 1) h), dpC e < 8 := fun e he => by have := dp_crH ho e he; omega
  have hdc := dcC_le (crH (n + 1) h)
  have hsc := simp_crH o (n := n + 1) ho
  refine step_5 (head_same hsc) ?_
  refine step_6 a3 c1 c2 c3 s1 s2 s3 ?_
  refine step_7 (lthings_ok _ hdp (by omega)) ?_
  refine step_8 (things_ok _ hdp (by omega)) (bo_ok _) (do_ok _ (by omega)) ?_
  have t4 : (L3 ++ [.lst ((thC (crH (n + 1) h)).map (thD o))])[L3.length]? = some (.lst ((thC (crH (n + 1) h)).map (thD o))) := hg0 rfl
  have a4 : (L3 ++ [.lst ((thC (crH (n + 1) h)).map (thD o))])[a]? = _ := hlo a3
  have d1 : (L3 ++ [.lst ((thC (crH (n + 1) h)).map (thD o))])[b1]? = _ := hlo c1
  have B4 : BagM (L3 ++ [.lst ((thC (crH (n + 1) h)).map (thD o))]) := B3.app _
  have lt : b1 < L3.length := (List.getElem?_eq_some_iff.mp c1).1
  generalize L3.length = t at t4 lt ⊢
  generalize L3 ++ [.lst ((thC (crH (n + 1) h)).map (thD o))] = L4 at t4 a4 d1 B4 ⊢
  refine step_9 t4 (by omega) (told_same t4 hth) ?_
  refine step_10 d1 ?_
  have t5 : (L4.set b1 .opq)[t]? = some (.lst ((thC (crH (n + 1) h)).map (thD o))) := by rw [List.getElem?_set_ne (by omega)]; exact t4
  refine step_11 t5 (by rw [List.length_map]; omega) ?_
  have a6 : ((L4.set b1 .opq).set t (.lst ((thC (crH (n + 1) h)).map (thD o) ++ [.non])))[a]? = some (.dct true (dT o (nmH (n + 1) h))) := by
    rw [List.getElem?_set_ne (by omega), List.getElem?_set_ne (by omega)]; exact a4
  have B6 : BagM ((L4.set b1 .opq).set t (.lst ((thC (crH (n + 1) h)).map (thD o) ++ [.non]))) := (B4.set (by omega)).set (by omega)
  generalize (L4.set b1 .opq).set t (.lst ((thC (crH (n + 1) h)).map (thD o) ++ [.non])) = L6 at a6 B6 ⊢
  refine step_12 (sketched_ok o n ho L6) ?_
  have a7 : (E o L6 (.con (n + 1) h))[a]? = some (.dct true (dT o (nmH (n + 1) h))) := hlo a6
  have B7 : BagM (E o L6 (.con (n + 1) h)) := B6.app _
  have e1 : (E o L6 (.con (n + 1) h))[L6.length + 1]? = some (.dct true (dT o (nmH (n + 1) h))) := hgk (k := 1) rfl
  have e2 : (E o L6 (.con (n + 1) h))[L6.length + 2]? = some (.dct true (dT o (mnH (n + 1) h))) := hgk (k := 2) rfl
  have e3 : (E o L6 (.con (n + 1) h))[L6.length + 3]? = some (.dct true (dT o (vlH (n + 1) h))) := hgk (k := 3) rfl
  generalize E o L6 (.con (n + 1) h) = L7 at a7 B7 e1 e2 e3 ⊢
  refine step_13 a7 e1 e2 e3 s1 s2 s3 (things_ok _ hdp (by omega)) (same_simp 12 _ (simp_th o 8 _ (by omega))) ?_
  exact k L7 B7 _ _ _ _ _ _ _ _ _ _ _ _
theorem for_t {f : SV} {K : KD} {x0 : Sl} (hf : ∀ (K2 : KD) (L2 : Mem) (x2 x3 x4 x5 x6 x7 x8 x9 x10 x11 x12 x13 x14 : Sl), BagM L2 → (∀ L3, BagM L3 → ∀ x3 x4 x5 x6 x7 x8 x9 x10 x11 x12 x13 x14, K2.nx [x0, .val (.cell 0), x2, x3, x4, x5, x6, x7, x8, x9, x10, x11, x12, x13, x14] L3) → f K2 [x0, .val (.cell 0), x2, x3, x4, x5, x6, x7, x8, x9, x10, x11, x12, x13, x14] L2)
    (k : ∀ L3, BagM L3 → ∀ x2 x3 x4 x5 x6 x7 x8 x9 x10 x11 x12 x13 x14, K.nx [x0, .val (.cell 0), x2, x3, x4, x5, x6, x7, x8, x9, x10, x11, x12, x13, x14] L3) : ∀ (rs : List D) (L : Mem) (x2 x3 x4 x5 x6 x7 x8 x9 x10 x11 x12 x13 x14 : Sl), BagM L → forL (.one 2) f none K rs [x0, .val (.cell 0), x2, x3, x4, x5, x6, x7, x8, x9, x10, x11, x12, x13, x14] L
  | [], L, x2, x3, x4, x5, x6, x7, x8, x9, x10, x11, x12, x13, x14, hL => k L hL _ _ _ _ _ _ _ _ _ _ _ _ _
  | r :: rs, L, x2, x3, x4, x5, x6, x7, x8, x9, x10, x11, x12, x13, x14, hL => forL_i (hf _ L _ x3 x4 x5 x6 x7 x8 x9 x10 x11 x12 x13 x14 hL fun L3 h3 y3 y4 y5 y6 y7 y8 y9 y10 y11 y12 y13 y14 => for_t hf k rs L3 _ y3 y4 y5 y6 y7 y8 y9 y10 y11 y12 y13 y14 h3)
theorem for_b {f G : SV} {K : KD} {x0 : Sl} (hf : ∀ (K2 : KD) (L2 : Mem) (x2 x3 x4 x5 x6 x7 x8 x9 x10 x11 x12 x13 x14 : Sl), BagM L2 → (∀ L3, BagM L3 → ∀ x3 x4 x5 x6 x7 x8 x9 x10 x11 x12 x13 x14, K2.nx [x0, .val (.cell 0), x2, x3, x4, x5, x6, x7, x8, x9, x10, x11, x12, x13, x14] L3) → f K2 [x0, .val (.cell 0), x2, x3, x4, x5, x6, x7, x8, x9, x10, x11, x12, x13, x14] L2) {x2 x3 x4 x5 x6 x7 x8 x9 x10 x11 x12 x13 x14 : Sl} (hL : BagM L)
    (k : ∀ L3, BagM L3 → ∀ x2 x3 x4 x5 x6 x7 x8 x9 x10 x11 x12 x13 x14, G K [x0, .val (.cell 0), x2, x3, x4, x5, x6, x7, x8, x9, x10, x11, x12, x13, x14] L3) : (sSeq (sFor (iRg1 (eC (.int 10))) (.one 2) f) G) K [x0, .val (.cell 0), x2, x3, x4, x5, x6, x7, x8, x9, x10, x11, x12, x13, x14] L := by
  have h0 := for_t (K := ⟨G K, K.rt, K.bk, K.ct⟩) hf k [.int 0, .int 1, .int 2, .int 3, .int 4, .int 5, .int 6, .int 7, .int 8, .int 9] L x2 x3 x4 x5 x6 x7 x8 x9 x10 x11 x12 x13 x14 hL
  exact ⟨by decide, h0⟩
theorem law_holds : lawS 15 (b_law S__law_sketch S_sketched S__law_things S__law_any_sketch S__law_pick S__law_draw S_things_of S_blocks_of S_declared_by S__law_like) := fun b => by
  unfold b_law
  refine for_b (K := ⟨fun _ _ => False, fun r _ => r = .val (.bl true), fun _ _ => False, fun _ _ => False⟩) (x0 := .no) (fun K2 L2 x2 x3 x4 x5 x6 x7 x8 x9 x10 x11 x12 x13 x14 hL k => turn_ok hL k) ⟨b, rfl⟩ fun L3 h3 x2 x3 x4 x5 x6 x7 x8 x9 x10 x11 x12 x13 x14 => ?_
  exact rfl
end Law

namespace Law
open PySem PySem.Spec PyProof.Rows L2 HI
def top (i : Nat) : Stmt := PySem.Challenge.pw_piercednames_k41_sketches_put_in.main.body.getD i (.Pass ⟨0, 0, 0, 0⟩)
structure Txt (K : PySem.W.Frag) (mg : Str → Option Value) (A_Sketched : Addr) : Prop where
  b_all : mg "all" = none
  b_bool : mg "bool" = none
  b_dict : mg "dict" = none
  b_int : mg "int" = none
  b_len : mg "len" = none
  b_list : mg "list" = none
  b_range : mg "range" = none
  b_str : mg "str" = none
  b_tuple : mg "tuple" = none
  b_zip : mg "zip" = none
  isinstance : mg "isinstance" = none
  m_Sketched : mg (tx [83, 107, 101, 116, 99, 104, 101, 100]) = some (.ref A_Sketched)
  l_Sketched : Cls K A_Sketched
  n_Sketched__person : NoAttr K A_Sketched (tx [95, 112, 101, 114, 115, 111, 110])
  n_Sketched_number : NoAttr K A_Sketched (tx [110, 117, 109, 98, 101, 114])
  n_Sketched_new_names : NoAttr K A_Sketched (tx [110, 101, 119, 95, 110, 97, 109, 101, 115])
  n_Sketched_new_meanings : NoAttr K A_Sketched (tx [110, 101, 119, 95, 109, 101, 97, 110, 105, 110, 103, 115])
  n_Sketched_new_values : NoAttr K A_Sketched (tx [110, 101, 119, 95, 118, 97, 108, 117, 101, 115])
  k_LIMIT : ∃ t, mg "LIMIT" = some (.int 1000000 t)
theorem q_LIMIT {X : Cx} {rw : Bool} {pos : Pos} {A_Sketched : Addr} (T : Txt X.K X.mg A_Sketched) (hg : L2.Gl X "LIMIT" := by rfl) : QE X rw (.Name "LIMIT" pos) (eC c_LIMIT) := by
  obtain ⟨t, h⟩ := T.k_LIMIT
  exact q_glob (v := .int 1000000) h ⟨t, rfl⟩ (fun _ _ => .int _) hg
abbrev s_is_number : Stmt := top 2
abbrev N_is_number : List Str := ["value", "least", "most"]
theorem sc_is_number : FnScope N_is_number ["value", "least", "most"] (defScope s_is_number) := ⟨rfl, rfl, rfl, by decide +kernel, rfl, by decide +kernel, by decide +kernel⟩
abbrev s_Sketched___init__ : Stmt := inClass (top 4) 0
abbrev N_Sketched___init__ : List Str := ["self", "person", "start"]
theorem sc_Sketched___init__ : FnScope N_Sketched___init__ ["self", "person", "start"] (defScope s_Sketched___init__) := ⟨rfl, rfl, rfl, by decide +kernel, rfl, by decide +kernel, by decide +kernel⟩
abbrev s_Sketched_fresh : Stmt := inClass (top 4) 1
abbrev N_Sketched_fresh : List Str := ["self", "found"]
theorem sc_Sketched_fresh : FnScope N_Sketched_fresh ["self"] (defScope s_Sketched_fresh) := ⟨rfl, rfl, rfl, by decide +kernel, rfl, by decide +kernel, by decide +kernel⟩
abbrev s_Sketched_made_declaration : Stmt := inClass (top 4) 2
abbrev N_Sketched_made_declaration : List Str := ["self", "name", "found"]
theorem sc_Sketched_made_declaration : FnScope N_Sketched_made_declaration ["self", "name"] (defScope s_Sketched_made_declaration) := ⟨rfl, rfl, rfl, by decide +kernel, rfl, by decide +kernel, by decide +kernel⟩
abbrev s_Sketched_made_use : Stmt := inClass (top 4) 3
abbrev N_Sketched_made_use : List Str := ["self", "declaration", "found"]
theorem sc_Sketched_made_use : FnScope N_Sketched_made_use ["self", "declaration"] (defScope s_Sketched_made_use) := ⟨rfl, rfl, rfl, by decide +kernel, rfl, by decide +kernel, by decide +kernel⟩
abbrev s_Sketched_expression : Stmt := inClass (top 4) 4
abbrev N_Sketched_expression : List Str := ["self", "operand", "found", "left"]
theorem sc_Sketched_expression : FnScope N_Sketched_expression ["self", "operand"] (defScope s_Sketched_expression) := ⟨rfl, rfl, rfl, by decide +kernel, rfl, by decide +kernel, by decide +kernel⟩
abbrev s_Sketched_content : Stmt := inClass (top 4) 5
abbrev N_Sketched_content : List Str := ["self", "sketch", "word", "own", "body", "use", "worth", "name", "one"]
theorem sc_Sketched_content : FnScope N_Sketched_content ["self", "sketch"] (defScope s_Sketched_content) := ⟨rfl, rfl, rfl, by decide +kernel, rfl, by decide +kernel, by decide +kernel⟩
abbrev s_sketched : Stmt := top 5
abbrev N_sketched : List Str := ["sketch", "person", "start", "made", "content"]
theorem sc_sketched : FnScope N_sketched ["sketch", "person", "start"] (defScope s_sketched) := ⟨rfl, rfl, rfl, by decide +kernel, rfl, by decide +kernel, by decide +kernel⟩
abbrev s_expression_things : Stmt := top 7
abbrev N_expression_things : List Str := ["expression"]
theorem sc_expression_things : FnScope N_expression_things ["expression"] (defScope s_expression_things) := ⟨rfl, rfl, rfl, by decide +kernel, rfl, by decide +kernel, by decide +kernel⟩
abbrev s_expressions_of : Stmt := top 8
abbrev N_expressions_of : List Str := ["content", "word"]
theorem sc_expressions_of : FnScope N_expressions_of ["content"] (defScope s_expressions_of) := ⟨rfl, rfl, rfl, by decide +kernel, rfl, by decide +kernel, by decide +kernel⟩
abbrev s_blocks_of : Stmt := top 9
abbrev N_blocks_of : List Str := ["content", "word"]
theorem sc_blocks_of : FnScope N_blocks_of ["content"] (defScope s_blocks_of) := ⟨rfl, rfl, rfl, by decide +kernel, rfl, by decide +kernel, by decide +kernel⟩
abbrev s_declared_by : Stmt := top 10
abbrev N_declared_by : List Str := ["content"]
theorem sc_declared_by : FnScope N_declared_by ["content"] (defScope s_declared_by) := ⟨rfl, rfl, rfl, by decide +kernel, rfl, by decide +kernel, by decide +kernel⟩
abbrev s_things_of : Stmt := top 11
abbrev N_things_of : List Str := ["content", "word", "parameters", "things", "expression", "parameter", "block"]
theorem sc_things_of : FnScope N_things_of ["content"] (defScope s_things_of) := ⟨rfl, rfl, rfl, by decide +kernel, rfl, by decide +kernel, by decide +kernel⟩
abbrev s__law_draw : Stmt := top 13
abbrev N__law_draw : List Str := ["_law_box", "_law_many", "_law_cell", "_law_digit", "_law_seed"]
theorem sc__law_draw : FnScope N__law_draw ["_law_box", "_law_many"] (defScope s__law_draw) := ⟨rfl, rfl, rfl, by decide +kernel, rfl, by decide +kernel, by decide +kernel⟩
abbrev s__law_pick : Stmt := top 14
abbrev N__law_pick : List Str := ["_law_box", "_law_row"]
theorem sc__law_pick : FnScope N__law_pick ["_law_box", "_law_row"] (defScope s__law_pick) := ⟨rfl, rfl, rfl, by decide +kernel, rfl, by decide +kernel, by decide +kernel⟩
abbrev s__law_like : Stmt := top 15
abbrev N__law_like : List Str := ["_law_found", "_law_due", "_law_one", "_law_other"]
theorem sc__law_like : FnScope N__law_like ["_law_found", "_law_due"] (defScope s__law_like) := ⟨rfl, rfl, rfl, by decide +kernel, rfl, by decide +kernel, by decide +kernel⟩
abbrev s__law_begin : Stmt := top 16
abbrev N__law_begin : List Str := ["_law_script", "_law_cells", "_law_mix", "_law_cell"]
theorem sc__law_begin : FnScope N__law_begin ["_law_script"] (defScope s__law_begin) := ⟨rfl, rfl, rfl, by decide +kernel, rfl, by decide +kernel, by decide +kernel⟩
abbrev s__law_value : Stmt := top 17
abbrev N__law_value : List Str := ["_law_box"]
theorem sc__law_value : FnScope N__law_value ["_law_box"] (defScope s__law_value) := ⟨rfl, rfl, rfl, by decide +kernel, rfl, by decide +kernel, by decide +kernel⟩
abbrev s__law_new : Stmt := top 18
abbrev N__law_new : List Str := ["_law_w"]
theorem sc__law_new : FnScope N__law_new ["_law_w"] (defScope s__law_new) := ⟨rfl, rfl, rfl, by decide +kernel, rfl, by decide +kernel, by decide +kernel⟩
abbrev s__law_use : Stmt := top 19
abbrev N__law_use : List Str := ["_law_w", "_law_label", "_law_made"]
theorem sc__law_use : FnScope N__law_use ["_law_w", "_law_label"] (defScope s__law_use) := ⟨rfl, rfl, rfl, by decide +kernel, rfl, by decide +kernel, by decide +kernel⟩
abbrev s__law_terms : Stmt := top 20
abbrev N__law_terms : List Str := ["_law_content"]
theorem sc__law_terms : FnScope N__law_terms ["_law_content"] (defScope s__law_terms) := ⟨rfl, rfl, rfl, by decide +kernel, rfl, by decide +kernel, by decide +kernel⟩
abbrev s__law_term_things : Stmt := top 21
abbrev N__law_term_things : List Str := ["_law_term"]
theorem sc__law_term_things : FnScope N__law_term_things ["_law_term"] (defScope s__law_term_things) := ⟨rfl, rfl, rfl, by decide +kernel, rfl, by decide +kernel, by decide +kernel⟩
abbrev s__law_things : Stmt := top 22
abbrev N__law_things : List Str := ["_law_content", "_law_word", "_law_found", "_law_term", "_law_own"]
theorem sc__law_things : FnScope N__law_things ["_law_content"] (defScope s__law_things) := ⟨rfl, rfl, rfl, by decide +kernel, rfl, by decide +kernel, by decide +kernel⟩
abbrev s__law_sketch_term : Stmt := top 23
abbrev N__law_sketch_term : List Str := ["_law_w", "_law_term", "_law_made", "_law_left"]
theorem sc__law_sketch_term : FnScope N__law_sketch_term ["_law_w", "_law_term"] (defScope s__law_sketch_term) := ⟨rfl, rfl, rfl, by decide +kernel, rfl, by decide +kernel, by decide +kernel⟩
abbrev s__law_sketch : Stmt := top 24
abbrev N__law_sketch : List Str := ["_law_sketch_z", "_law_person_z", "_law_start_z", "_law_w", "_law_word", "_law_names", "_law_own", "_law_content", "_law_body", "_law_given", "_law_name", "_law_test", "_law_half", "_law_term"]
theorem sc__law_sketch : FnScope N__law_sketch ["_law_sketch_z", "_law_person_z", "_law_start_z"] (defScope s__law_sketch) := ⟨rfl, rfl, rfl, by decide +kernel, rfl, by decide +kernel, by decide +kernel⟩
abbrev s__law_any_id : Stmt := top 25
abbrev N__law_any_id : List Str := ["_law_box"]
theorem sc__law_any_id : FnScope N__law_any_id ["_law_box"] (defScope s__law_any_id) := ⟨rfl, rfl, rfl, by decide +kernel, rfl, by decide +kernel, by decide +kernel⟩
abbrev s__law_any_term : Stmt := top 26
abbrev N__law_any_term : List Str := ["_law_box", "_law_deep", "_law_way"]
theorem sc__law_any_term : FnScope N__law_any_term ["_law_box", "_law_deep"] (defScope s__law_any_term) := ⟨rfl, rfl, rfl, by decide +kernel, rfl, by decide +kernel, by decide +kernel⟩
abbrev s__law_any_sketch : Stmt := top 27
abbrev N__law_any_sketch : List Str := ["_law_box", "_law_way", "_law_name", "_law_term", "_law_own", "_law_k"]
theorem sc__law_any_sketch : FnScope N__law_any_sketch ["_law_box"] (defScope s__law_any_sketch) := ⟨rfl, rfl, rfl, by decide +kernel, rfl, by decide +kernel, by decide +kernel⟩
abbrev s_law : Stmt := top 28
abbrev N_law : List Str := ["_law_script", "_law_box", "_law_turn", "_law_sketch_z", "_law_owner", "_law_first", "_law_due", "_law_found", "_law_things_here", "_law_told", "_law_again", "_law_k", "_law_kind", "_law_word", "_law_thing"]
theorem sc_law : FnScope N_law ["_law_script"] (defScope s_law) := ⟨rfl, rfl, rfl, by decide +kernel, rfl, by decide +kernel, by decide +kernel⟩
section
variable {P : Program} {w : World} {K : PySem.W.Frag} {mg : Str → Option Value} {base : Heap} {A_Sketched : Addr}
theorem ok_is_number {f : Addr} {fd : FuncData} (F : Fun K "is_number" "is_number" s_is_number f fd) (T : Txt K mg A_Sketched)  : FnOk P w K mg base CX0 1 f fd ["value", "least", "most"] (SpD ⟨K, mg⟩ false 3 S_is_number) :=
  fn_data (rw := false) (k := 0) (g := b_is_number ) F sc_is_number (by decide) fun cdv A outer s H E hr => q_sone (q_ret (q_and (q_isi 2 (q_var 0) T.isinstance T.b_int bt_int) (q_and (q_not (q_isi 1 (q_var 0) T.isinstance T.b_bool bt_bool)) (q_one (q_tr (q_chain op_leL op_leL (q_var 1) (q_var 0) (q_var 2)))))))
theorem ok_Sketched___init__ {f : Addr} {fd : FuncData} (F : Fun K "__init__" "Sketched.__init__" s_Sketched___init__ f fd) (T : Txt K mg A_Sketched)  : FnOk P w K mg base CX0 1 f fd ["self", "person", "start"] (SpD ⟨K, mg⟩ true 3 S_Sketched___init__) :=
  fn_data (rw := true) (k := 0) (g := b_Sketched___init__ ) F sc_Sketched___init__ (by decide) fun cdv A outer s H E hr => q_scons (q_fld ⟨T.m_Sketched, T.l_Sketched⟩ T.n_Sketched__person (q_var 0) (q_var 1))
      (q_scons (q_fld ⟨T.m_Sketched, T.l_Sketched⟩ T.n_Sketched_number (q_var 0) (q_var 2))
      (q_scons (q_fld ⟨T.m_Sketched, T.l_Sketched⟩ T.n_Sketched_new_names (q_var 0) (q_cell (q_dnewT)))
      (q_scons (q_fld ⟨T.m_Sketched, T.l_Sketched⟩ T.n_Sketched_new_meanings (q_var 0) (q_cell (q_dnewT)))
      (q_sone (q_fld ⟨T.m_Sketched, T.l_Sketched⟩ T.n_Sketched_new_values (q_var 0) (q_cell (q_dnewT)))))))
theorem ok_Sketched_fresh {f : Addr} {fd : FuncData} (F : Fun K "fresh" "Sketched.fresh" s_Sketched_fresh f fd) (T : Txt K mg A_Sketched)  : FnOk P w K mg base CX0 1 f fd ["self"] (SpD ⟨K, mg⟩ true 1 S_Sketched_fresh) :=
  fn_data (rw := true) (k := 0) (g := b_Sketched_fresh ) F sc_Sketched_fresh (by decide) fun cdv A outer s H E hr => q_scons (q_asg (i := 1) sc_Sketched_fresh.nd (q_tup (q_cons (q_attr ⟨T.m_Sketched, T.l_Sketched⟩ T.n_Sketched__person (q_var 0)) (q_cons (q_attr ⟨T.m_Sketched, T.l_Sketched⟩ T.n_Sketched_number (q_var 0)) (q_nil)))))
      (q_scons (q_fldAug ⟨T.m_Sketched, T.l_Sketched⟩ T.n_Sketched_number (q_var 0) (q_int))
      (q_sone (q_ret (q_var 1))))
theorem ok_Sketched_made_declaration {f : Addr} {fd : FuncData} (F : Fun K "made_declaration" "Sketched.made_declaration" s_Sketched_made_declaration f fd) (T : Txt K mg A_Sketched) (D_Sketched_fresh : Met P w K mg base [83, 107, 101, 116, 99, 104, 101, 100] "fresh" ["self"] 1 true S_Sketched_fresh) : FnOk P w K mg base CX0 2 f fd ["self", "name"] (SpD ⟨K, mg⟩ true 2 S_Sketched_made_declaration) :=
  fn_data (rw := true) (k := 1) (g := b_Sketched_made_declaration S_Sketched_fresh) F sc_Sketched_made_declaration (by decide) fun cdv A outer s H E hr => q_scons (q_asg (i := 2) sc_Sketched_made_declaration.nd (q_fz (q_meth0 D_Sketched_fresh hr (q_var 0))))
      (q_scons (q_cPut hr (q_attr ⟨T.m_Sketched, T.l_Sketched⟩ T.n_Sketched_new_names (q_var 0)) (q_var 2) (q_var 1))
      (q_sone (q_ret (q_var 2))))
theorem ok_Sketched_made_use {f : Addr} {fd : FuncData} (F : Fun K "made_use" "Sketched.made_use" s_Sketched_made_use f fd) (T : Txt K mg A_Sketched) (D_Sketched_fresh : Met P w K mg base [83, 107, 101, 116, 99, 104, 101, 100] "fresh" ["self"] 1 true S_Sketched_fresh) : FnOk P w K mg base CX0 2 f fd ["self", "declaration"] (SpD ⟨K, mg⟩ true 2 S_Sketched_made_use) :=
  fn_data (rw := true) (k := 1) (g := b_Sketched_made_use S_Sketched_fresh) F sc_Sketched_made_use (by decide) fun cdv A outer s H E hr => q_scons (q_asg (i := 2) sc_Sketched_made_use.nd (q_fz (q_meth0 D_Sketched_fresh hr (q_var 0))))
      (q_scons (q_cPut hr (q_attr ⟨T.m_Sketched, T.l_Sketched⟩ T.n_Sketched_new_meanings (q_var 0)) (q_var 2) (q_var 1))
      (q_sone (q_ret (q_var 2))))
theorem okr_Sketched_expression {f : Addr} {fd : FuncData} (F : Fun K "expression" "Sketched.expression" s_Sketched_expression f fd) (T : Txt K mg A_Sketched) (mt : Meth K A_Sketched "expression" f) (bf : Binds K fd ["self", "operand"] []) (D_is_number : Def P w K mg base "is_number" ["value", "least", "most"] 1 false S_is_number) (D_Sketched_fresh : Met P w K mg base [83, 107, 101, 116, 99, 104, 101, 100] "fresh" ["self"] 1 true S_Sketched_fresh) (D_Sketched_made_use : Met P w K mg base [83, 107, 101, 116, 99, 104, 101, 100] "made_use" ["self", "declaration"] 2 true S_Sketched_made_use) : ∀ n : Nat, FnOk P w K mg base CX0 (3 + n) f fd ["self", "operand"] (SpD ⟨K, mg⟩ true 2 (Sr_Sketched_expression n))
  | 0 => ⟨fun vs H Q E h => by obtain ⟨_, _, _, _, _, _, _, z, _⟩ := h; exact z.elim, fun A outer s H args us vs Q E hr he hb hv hs => by obtain ⟨_, _, _, _, _, _, _, z, _⟩ := hs; exact z.elim⟩
  | n + 1 => by
    have ih := okr_Sketched_expression F T mt bf D_is_number D_Sketched_fresh D_Sketched_made_use n
    have D_Sketched_expression : Met P w K mg base [83, 107, 101, 116, 99, 104, 101, 100] "expression" ["self", "operand"] (3 + n) true (Sr_Sketched_expression n) := ⟨fun ds M Q h => by cases n with | zero => exact h.elim | succ m => exact bodyS_len h, A_Sketched, f, fd, T.m_Sketched, T.l_Sketched, mt, ih, bf⟩
    exact fn_data (rw := true) (k := 3 + n) (g := b_Sketched_expression S_is_number (Sr_Sketched_expression n) S_Sketched_fresh S_Sketched_made_use) F sc_Sketched_expression (by decide) fun cdv A outer s H E hr => q_scons (q_sif (q_t (q_callD D_is_number hr (q_cons (q_var 1) (q_cons (q_int) (q_cons (q_op op_subL (q_LIMIT T) (q_int)) (q_nil)))))) (q_scons (q_asg (i := 2) sc_Sketched_expression.nd (q_fz (q_meth0 D_Sketched_fresh hr (q_var 0))))
      (q_scons (q_cPut hr (q_attr ⟨T.m_Sketched, T.l_Sketched⟩ T.n_Sketched_new_values (q_var 0)) (q_var 2) (q_var 1))
      (q_sone (q_ret (q_tup (q_cons (q_str [110, 117, 109, 98, 101, 114]) (q_cons (q_var 2) (q_nil)))))))) (q_snil))
      (q_scons (q_sif (q_tcmp (op_eqH hr) (q_ix hr (q_var 1) (q_int)) (q_str [117, 115, 101])) (q_sone (q_ret (q_tup (q_cons (q_str [117, 115, 101]) (q_cons (q_meth D_Sketched_made_use hr (q_var 0) (q_cons (q_ix hr (q_var 1) (q_int)) (q_nil))) (q_nil)))))) (q_snil))
      (q_scons (q_asg (i := 3) sc_Sketched_expression.nd (q_fz (q_meth D_Sketched_expression hr (q_var 0) (q_cons (q_ix hr (q_var 1) (q_int)) (q_nil)))))
      (q_sone (q_ret (q_tup (q_cons (q_ix hr (q_var 1) (q_int)) (q_cons (q_var 3) (q_cons (q_meth D_Sketched_expression hr (q_var 0) (q_cons (q_ix hr (q_var 1) (q_int)) (q_nil))) (q_nil)))))))))
theorem ok_Sketched_content {f : Addr} {fd : FuncData} (F : Fun K "content" "Sketched.content" s_Sketched_content f fd) (T : Txt K mg A_Sketched) (D_Sketched_expression : Met P w K mg base [83, 107, 101, 116, 99, 104, 101, 100] "expression" ["self", "operand"] 11 true S_Sketched_expression) (D_Sketched_fresh : Met P w K mg base [83, 107, 101, 116, 99, 104, 101, 100] "fresh" ["self"] 1 true S_Sketched_fresh) (D_Sketched_made_declaration : Met P w K mg base [83, 107, 101, 116, 99, 104, 101, 100] "made_declaration" ["self", "name"] 2 true S_Sketched_made_declaration) (D_Sketched_made_use : Met P w K mg base [83, 107, 101, 116, 99, 104, 101, 100] "made_use" ["self", "declaration"] 2 true S_Sketched_made_use) : FnOk P w K mg base CX0 12 f fd ["self", "sketch"] (SpD ⟨K, mg⟩ true 2 S_Sketched_content) :=
  fn_data (rw := true) (k := 11) (g := b_Sketched_content S_Sketched_expression S_Sketched_fresh S_Sketched_made_declaration S_Sketched_made_use) F sc_Sketched_content (by decide) fun cdv A outer s H E hr => q_scons (q_asg (i := 2) sc_Sketched_content.nd (q_fz (q_ix hr (q_var 1) (q_int))))
      (q_scons (q_sif (q_tcmp (op_eqH hr) (q_var 2) (q_str [108, 101, 116])) (q_scons (q_asg (i := 3) sc_Sketched_content.nd (q_fz (q_meth D_Sketched_made_declaration hr (q_var 0) (q_cons (q_ix hr (q_var 1) (q_int)) (q_nil)))))
      (q_sone (q_ret (q_tup (q_cons (q_var 2) (q_cons (q_var 3) (q_cons (q_meth D_Sketched_expression hr (q_var 0) (q_cons (q_ix hr (q_var 1) (q_int)) (q_nil))) (q_nil)))))))) (q_snil))
      (q_scons (q_sif (q_tcmp (op_eqH hr) (q_var 2) (q_str [100, 101, 102])) (q_scons (q_par2 3 4 sc_Sketched_content.nd (q_fz (q_meth D_Sketched_made_declaration hr (q_var 0) (q_cons (q_ix hr (q_var 1) (q_int)) (q_nil)))) (q_fz (q_meth0 D_Sketched_fresh hr (q_var 0))) rfl)
      (q_sone (q_ret (q_tup (q_cons (q_var 2) (q_cons (q_var 3) (q_cons (q_callTy call_tupleL T.b_tuple bt_tuple (q_cons (q_lc (own := [("name", 7)]) (t := (.one 7)) sc_Sketched_content.nd (q_seq (q_ix hr (q_var 1) (q_int))) (blkOk_by (N := N_Sketched_content) (sc := defScope s_Sketched_content) (by decide +kernel)) (fun _ _ _ _ _ => q_name (i := 7) sc_Sketched_content.nd) (fun _ _ _ _ _ => q_meth D_Sketched_made_declaration hr (q_var 0) (q_cons (q_var 7) (q_nil)))) (q_nil))) (q_cons (q_var 4) (q_nil))))))))) (q_snil))
      (q_scons (q_sif (q_tcmp (op_eqH hr) (q_var 2) (q_str [98, 108, 111, 99, 107])) (q_sone (q_ret (q_tup (q_cons (q_var 2) (q_cons (q_meth0 D_Sketched_fresh hr (q_var 0)) (q_nil)))))) (q_snil))
      (q_scons (q_sif (q_tcmp (op_inH hr) (q_var 2) (q_tup (q_cons (q_str [115, 101, 116]) (q_cons (q_str [114, 101, 97, 100]) (q_cons (q_str [100, 111]) (q_nil)))))) (q_scons (q_asg (i := 5) sc_Sketched_content.nd (q_fz (q_meth D_Sketched_made_use hr (q_var 0) (q_cons (q_ix hr (q_var 1) (q_int)) (q_nil)))))
      (q_scons (q_sif (q_tcmp (op_eqH hr) (q_var 2) (q_str [114, 101, 97, 100])) (q_sone (q_ret (q_tup (q_cons (q_var 2) (q_cons (q_var 5) (q_nil)))))) (q_snil))
      (q_scons (q_sif (q_tcmp (op_eqH hr) (q_var 2) (q_str [115, 101, 116])) (q_sone (q_ret (q_tup (q_cons (q_var 2) (q_cons (q_var 5) (q_cons (q_meth D_Sketched_expression hr (q_var 0) (q_cons (q_ix hr (q_var 1) (q_int)) (q_nil))) (q_nil))))))) (q_snil))
      (q_sone (q_ret (q_tup (q_cons (q_var 2) (q_cons (q_var 5) (q_cons (q_callTy call_tupleL T.b_tuple bt_tuple (q_cons (q_lc (own := [("one", 8)]) (t := (.one 8)) sc_Sketched_content.nd (q_seq (q_ix hr (q_var 1) (q_int))) (blkOk_by (N := N_Sketched_content) (sc := defScope s_Sketched_content) (by decide +kernel)) (fun _ _ _ _ _ => q_name (i := 8) sc_Sketched_content.nd) (fun _ _ _ _ _ => q_meth D_Sketched_expression hr (q_var 0) (q_cons (q_var 8) (q_nil)))) (q_nil))) (q_nil)))))))))) (q_snil))
      (q_scons (q_asg (i := 6) sc_Sketched_content.nd (q_fz (q_meth D_Sketched_expression hr (q_var 0) (q_cons (q_ix hr (q_var 1) (q_int)) (q_nil)))))
      (q_scons (q_sif (q_tcmp (op_eqH hr) (q_var 2) (q_str [111, 117, 116])) (q_sone (q_ret (q_tup (q_cons (q_var 2) (q_cons (q_var 6) (q_nil)))))) (q_snil))
      (q_scons (q_asg (i := 4) sc_Sketched_content.nd (q_fz (q_meth0 D_Sketched_fresh hr (q_var 0))))
      (q_sone (q_ret (q_if (q_tcmp (op_eqH hr) (q_var 2) (q_str [114, 101, 112, 101, 97, 116])) (q_tup (q_cons (q_var 2) (q_cons (q_var 6) (q_cons (q_var 4) (q_nil))))) (q_tup (q_cons (q_var 2) (q_cons (q_var 6) (q_cons (q_var 4) (q_cons (q_meth0 D_Sketched_fresh hr (q_var 0)) (q_nil))))))))))))))))
theorem ok_sketched {f : Addr} {fd : FuncData} (F : Fun K "sketched" "sketched" s_sketched f fd) (T : Txt K mg A_Sketched) (D_Sketched___init__ : Mak P w K mg base [83, 107, 101, 116, 99, 104, 101, 100] ["self", "person", "start"] 1 S_Sketched___init__) (D_Sketched_content : Met P w K mg base [83, 107, 101, 116, 99, 104, 101, 100] "content" ["self", "sketch"] 12 true S_Sketched_content) : FnOk P w K mg base CX0 13 f fd ["sketch", "person", "start"] (SpD ⟨K, mg⟩ true 3 S_sketched) :=
  fn_data (rw := true) (k := 12) (g := b_sketched S_Sketched___init__ S_Sketched_content) F sc_sketched (by decide) fun cdv A outer s H E hr => q_scons (q_asg (i := 3) sc_sketched.nd (q_fz (q_make D_Sketched___init__ hr (q_cons (q_var 1) (q_cons (q_op op_addL (q_var 2) (q_int)) (q_nil))))))
      (q_scons (q_asg (i := 4) sc_sketched.nd (q_fz (q_meth D_Sketched_content hr (q_var 3) (q_cons (q_var 0) (q_nil)))))
      (q_sone (q_ret (q_tup (q_cons (q_var 4) (q_cons (q_attr ⟨T.m_Sketched, T.l_Sketched⟩ T.n_Sketched_new_names (q_var 3)) (q_cons (q_attr ⟨T.m_Sketched, T.l_Sketched⟩ T.n_Sketched_new_meanings (q_var 3)) (q_cons (q_attr ⟨T.m_Sketched, T.l_Sketched⟩ T.n_Sketched_new_values (q_var 3)) (q_cons (q_attr ⟨T.m_Sketched, T.l_Sketched⟩ T.n_Sketched_number (q_var 3)) (q_nil))))))))))
theorem okr_expression_things {f : Addr} {fd : FuncData} (F : Fun K "expression_things" "expression_things" s_expression_things f fd) (T : Txt K mg A_Sketched) (mf : mg "expression_things" = some (.ref f)) (bf : Binds K fd ["expression"] [])  : ∀ n : Nat, FnOk P w K mg base CX0 (1 + n) f fd ["expression"] (SpD ⟨K, mg⟩ false 1 (Sr_expression_things n))
  | 0 => ⟨fun vs H Q E h => by obtain ⟨_, _, _, _, _, _, _, z, _⟩ := h; exact z.elim, fun A outer s H args us vs Q E hr he hb hv hs => by obtain ⟨_, _, _, _, _, _, _, z, _⟩ := hs; exact z.elim⟩
  | n + 1 => by
    have ih := okr_expression_things F T mf bf  n
    have D_expression_things : Def P w K mg base "expression_things" ["expression"] (1 + n) false (Sr_expression_things n) := ⟨fun ds M Q h => by cases n with | zero => exact h.elim | succ m => exact bodyS_len h, f, fd, ih, mf, F.kp, bf⟩
    exact fn_data (rw := false) (k := 1 + n) (g := b_expression_things (Sr_expression_things n)) F sc_expression_things (by decide) fun cdv A outer s H E hr => q_scons (q_sif (q_tcmp (op_inH hr) (q_ix hr (q_var 0) (q_int)) (q_tup (q_cons (q_str [117, 115, 101]) (q_cons (q_str [110, 117, 109, 98, 101, 114]) (q_nil))))) (q_sone (q_ret (q_lst (q_cons (q_tup (q_cons (q_ix hr (q_var 0) (q_int)) (q_cons (q_ix hr (q_var 0) (q_int)) (q_nil)))) (q_nil))))) (q_snil))
      (q_sone (q_ret (q_op op_addL (q_callD D_expression_things hr (q_cons (q_ix hr (q_var 0) (q_int)) (q_nil))) (q_callD D_expression_things hr (q_cons (q_ix hr (q_var 0) (q_int)) (q_nil))))))
theorem ok_expressions_of {f : Addr} {fd : FuncData} (F : Fun K "expressions_of" "expressions_of" s_expressions_of f fd) (T : Txt K mg A_Sketched)  : FnOk P w K mg base CX0 1 f fd ["content"] (SpD ⟨K, mg⟩ false 1 S_expressions_of) :=
  fn_data (rw := false) (k := 0) (g := b_expressions_of ) F sc_expressions_of (by decide) fun cdv A outer s H E hr => q_scons (q_asg (i := 1) sc_expressions_of.nd (q_fz (q_ix hr (q_var 0) (q_int))))
      (q_scons (q_sif (q_tcmp (op_inH hr) (q_var 1) (q_tup (q_cons (q_str [108, 101, 116]) (q_cons (q_str [115, 101, 116]) (q_nil))))) (q_sone (q_ret (q_lst (q_cons (q_ix hr (q_var 0) (q_int)) (q_nil))))) (q_snil))
      (q_scons (q_sif (q_tcmp (op_inH hr) (q_var 1) (q_tup (q_cons (q_str [111, 117, 116]) (q_cons (q_str [105, 102]) (q_cons (q_str [114, 101, 112, 101, 97, 116]) (q_nil)))))) (q_sone (q_ret (q_lst (q_cons (q_ix hr (q_var 0) (q_int)) (q_nil))))) (q_snil))
      (q_sone (q_ret (q_if (q_tcmp (op_eqH hr) (q_var 1) (q_str [100, 111])) (q_callTy (call_listL rfl) T.b_list bt_list (q_cons (q_ix hr (q_var 0) (q_int)) (q_nil))) (q_lst (q_nil)))))))
theorem ok_blocks_of {f : Addr} {fd : FuncData} (F : Fun K "blocks_of" "blocks_of" s_blocks_of f fd) (T : Txt K mg A_Sketched)  : FnOk P w K mg base CX0 1 f fd ["content"] (SpD ⟨K, mg⟩ false 1 S_blocks_of) :=
  fn_data (rw := false) (k := 0) (g := b_blocks_of ) F sc_blocks_of (by decide) fun cdv A outer s H E hr => q_scons (q_asg (i := 1) sc_blocks_of.nd (q_fz (q_ix hr (q_var 0) (q_int))))
      (q_scons (q_sif (q_tcmp (op_eqH hr) (q_var 1) (q_str [100, 101, 102])) (q_sone (q_ret (q_lst (q_cons (q_ix hr (q_var 0) (q_int)) (q_nil))))) (q_snil))
      (q_scons (q_sif (q_tcmp (op_eqH hr) (q_var 1) (q_str [105, 102])) (q_sone (q_ret (q_lst (q_cons (q_ix hr (q_var 0) (q_int)) (q_cons (q_ix hr (q_var 0) (q_int)) (q_nil)))))) (q_snil))
      (q_scons (q_sif (q_tcmp (op_eqH hr) (q_var 1) (q_str [114, 101, 112, 101, 97, 116])) (q_sone (q_ret (q_lst (q_cons (q_ix hr (q_var 0) (q_int)) (q_nil))))) (q_snil))
      (q_sone (q_ret (q_if (q_tcmp (op_eqH hr) (q_var 1) (q_str [98, 108, 111, 99, 107])) (q_lst (q_cons (q_ix hr (q_var 0) (q_int)) (q_nil))) (q_lst (q_nil))))))))
theorem ok_declared_by {f : Addr} {fd : FuncData} (F : Fun K "declared_by" "declared_by" s_declared_by f fd) (T : Txt K mg A_Sketched)  : FnOk P w K mg base CX0 1 f fd ["content"] (SpD ⟨K, mg⟩ false 1 S_declared_by) :=
  fn_data (rw := false) (k := 0) (g := b_declared_by ) F sc_declared_by (by decide) fun cdv A outer s H E hr => q_scons (q_sif (q_tcmp (op_eqH hr) (q_ix hr (q_var 0) (q_int)) (q_str [108, 101, 116])) (q_sone (q_ret (q_lst (q_cons (q_ix hr (q_var 0) (q_int)) (q_nil))))) (q_snil))
      (q_sone (q_ret (q_if (q_tcmp (op_eqH hr) (q_ix hr (q_var 0) (q_int)) (q_str [100, 101, 102])) (q_lst (q_cons (q_ix hr (q_var 0) (q_int)) (q_star (q_ix hr (q_var 0) (q_int)) (q_nil)))) (q_lst (q_nil)))))
theorem ok_things_of {f : Addr} {fd : FuncData} (F : Fun K "things_of" "things_of" s_things_of f fd) (T : Txt K mg A_Sketched) (D_expressions_of : Def P w K mg base "expressions_of" ["content"] 1 false S_expressions_of) (D_expression_things : Def P w K mg base "expression_things" ["expression"] 9 false S_expression_things) (D_blocks_of : Def P w K mg base "blocks_of" ["content"] 1 false S_blocks_of) : FnOk P w K mg base CX0 10 f fd ["content"] (SpD ⟨K, mg⟩ false 1 S_things_of) :=
  fn_data (rw := false) (k := 9) (g := b_things_of S_expressions_of S_expression_things S_blocks_of) F sc_things_of (by decide) fun cdv A outer s H E hr => q_scons (q_asg (i := 1) sc_things_of.nd (q_fz (q_ix hr (q_var 0) (q_int))))
      (q_scons (q_sif (q_tcmp (op_eqH hr) (q_var 1) (q_str [100, 101, 102])) (q_scons (q_asgLcF (i := 2) (own := [("parameter", 5)]) (t := (.one 5)) sc_things_of.nd (q_seq (q_ix hr (q_var 0) (q_int))) (blkOk_by (N := N_things_of) (sc := defScope s_things_of) (by decide +kernel)) (fun _ _ _ _ _ => q_name (i := 5) sc_things_of.nd) (fun _ _ _ _ _ => q_tup (q_cons (q_str [100, 101, 99, 108, 97, 114, 97, 116, 105, 111, 110]) (q_cons (q_var 5) (q_nil)))) (sw_true rfl rfl rfl (by decide +kernel)))
      (q_sone (q_ret (q_lst (q_cons (q_tup (q_cons (q_str [100, 101, 99, 108, 97, 114, 97, 116, 105, 111, 110]) (q_cons (q_ix hr (q_var 0) (q_int)) (q_nil)))) (q_cons (q_tup (q_cons (q_str [98, 108, 111, 99, 107]) (q_cons (q_ix hr (q_var 0) (q_int)) (q_nil)))) (q_star (q_var 2) (q_nil)))))))) (q_snil))
      (q_scons (q_asg (i := 3) sc_things_of.nd (q_lst (q_nil)))
      (q_scons (q_sif (q_tcmp (op_eqH hr) (q_var 1) (q_str [108, 101, 116])) (q_sone (q_app 3 (q_tup (q_cons (q_str [100, 101, 99, 108, 97, 114, 97, 116, 105, 111, 110]) (q_cons (q_ix hr (q_var 0) (q_int)) (q_nil)))))) (q_snil))
      (q_scons (q_sif (q_tcmp (op_inH hr) (q_var 1) (q_tup (q_cons (q_str [115, 101, 116]) (q_cons (q_str [114, 101, 97, 100]) (q_cons (q_str [100, 111]) (q_nil)))))) (q_sone (q_app 3 (q_tup (q_cons (q_str [117, 115, 101]) (q_cons (q_ix hr (q_var 0) (q_int)) (q_nil)))))) (q_snil))
      (q_scons (q_sfor (q_seq (q_callD D_expressions_of hr (q_cons (q_var 0) (q_nil)))) (q_name (i := 4) sc_things_of.nd) (q_sone (q_ext 3 (q_callD D_expression_things hr (q_cons (q_var 4) (q_nil))))))
      (q_frz 3 (q_sone (q_ret (q_op op_addL (q_var 3) (q_lc (own := [("block", 6)]) (t := (.one 6)) sc_things_of.nd (q_seq (q_callD D_blocks_of hr (q_cons (q_var 0) (q_nil)))) (blkOk_by (N := N_things_of) (sc := defScope s_things_of) (by decide +kernel)) (fun _ _ _ _ _ => q_name (i := 6) sc_things_of.nd) (fun _ _ _ _ _ => q_tup (q_cons (q_str [98, 108, 111, 99, 107]) (q_cons (q_var 6) (q_nil))))))))))))))
theorem ok__law_draw {f : Addr} {fd : FuncData} (F : Fun K "_law_draw" "_law_draw" s__law_draw f fd) (T : Txt K mg A_Sketched) : FnOk P w K mg base CX0 1 f fd ["_law_box", "_law_many"] (SpD ⟨K, mg⟩ false 2 drawS) := by
  refine F.ok sc__law_draw (fun vs H Q E h => ?_) fun cdv A outer s H vs Q E hr h => ⟨_, pss_cons (ps_asg (pe_op op_add (pe_ix ix_list (pv 0) pe_int (fun _ _ => rfl)) pe_int) (pg_sub (pv 0) pe_int set_list)) (pss_cons (ps_if (PW.pt (pw_and (pt_cmpR op_lt (pe_ix ix_list (pv 0) pe_int (fun _ _ => rfl)) pe_int (nomark _)) (pw_and1 (pt_cmpR op_lt (pe_ix ix_list (pv 0) pe_int (fun _ _ => rfl)) (pe_callB call_len_seq (by rfl) T.b_len bt_len (pa_cons (pe_ix ix_list (pv 0) pe_int (fun _ _ => rfl)) pa_nil)) (nomark _))))) (pss_cons (ps_set (i := 2) sc__law_draw.nd rfl (Or.inl rfl) (pe_ix ix_list (pe_ix ix_list (pv 0) pe_int (fun _ _ => rfl)) (pe_ix ix_list (pv 0) pe_int (fun _ _ => rfl)) (fun _ _ => rfl))) (pss_cons (ps_asg (pe_op op_add (pe_ix ix_list (pv 0) pe_int (fun _ _ => rfl)) pe_int) (pg_sub (pv 0) pe_int set_list)) (pss_cons (ps_asg (pe_op op_mod (pe_callTy call_int1 (by rfl) T.b_int bt_int (pa_cons (pe_op op_add (pe_op op_add (pe_op op_mul (pe_ix ix_list (pv 0) pe_int (fun _ _ => rfl)) pe_int) (pe_op op_mod (pe_callTy call_int1 (by rfl) T.b_int bt_int (pa_cons (pv 2) pa_nil)) pe_int)) (pe_ix ix_list (pv 0) pe_int (fun _ _ => rfl))) pa_nil)) pe_int) (pg_sub (pv 0) pe_int set_list)) (pss_one (ps_asg (pe_ifExp (pt_cmpR op_ge (pv 2) (pe_op op_pow pe_int pe_int) (nomark _)) (pv 2) pe_int) (pg_sub (pv 0) pe_int set_list)))))) pss_nil) (pss_cons (ps_if (pt_cmpR op_gt (pe_ix ix_list (pv 0) pe_int (fun _ _ => rfl)) pe_int (nomark _)) (pss_cons (ps_set (i := 3) sc__law_draw.nd rfl (Or.inl rfl) (pe_op op_mod (pe_callTy call_int1 (by rfl) T.b_int bt_int (pa_cons (pe_ix ix_list (pv 0) pe_int (fun _ _ => rfl)) pa_nil)) (pv 1))) (pss_cons (ps_asg (pe_op op_fdivW (pe_callTy call_int1 (by rfl) T.b_int bt_int (pa_cons (pe_ix ix_list (pv 0) pe_int (fun _ _ => rfl)) pa_nil)) (pv 1)) (pg_sub (pv 0) pe_int set_list)) (pss_one (ps_ret (pv 3))))) pss_nil) (pss_cons (ps_set (i := 4) sc__law_draw.nd rfl (Or.inl rfl) (pe_op op_mod (pe_callTy call_int1 (by rfl) T.b_int bt_int (pa_cons (pe_op op_add (pe_ix ix_list (pv 0) pe_int (fun _ _ => rfl)) (pe_op op_mul (pe_ix ix_list (pv 0) pe_int (fun _ _ => rfl)) pe_int)) pa_nil)) pe_int)) (pss_cons (ps_asg (pe_op op_mod (pe_callTy call_int1 (by rfl) T.b_int bt_int (pa_cons (pe_op op_add (pe_op op_add (pe_op op_mul (pv 4) (pv 4)) (pe_op op_mul (pv 4) pe_int)) pe_int) pa_nil)) pe_int) (pg_sub (pv 0) pe_int set_list)) (pss_one (ps_ret (pe_op op_mod (pe_callTy call_int1 (by rfl) T.b_int bt_int (pa_cons (pe_op op_add (pe_op op_fdivW (pe_ix ix_list (pv 0) pe_int (fun _ _ => rfl)) pe_int) (pe_op op_mul (pe_op op_mod (pe_callTy call_int1 (by rfl) T.b_int bt_int (pa_cons (pe_ix ix_list (pv 0) pe_int (fun _ _ => rfl)) pa_nil)) pe_int) pe_int)) pa_nil)) (pv 1)))))))), draw2_read rfl h⟩
  obtain ⟨w2, ds, Qd, _, _, h3, h4, _⟩ := h
  rw [h3.length, h4]
  rfl
theorem ok__law_pick {f : Addr} {fd : FuncData} (F : Fun K "_law_pick" "_law_pick" s__law_pick f fd) (T : Txt K mg A_Sketched) (D__law_draw : Def P w K mg base "_law_draw" ["_law_box", "_law_many"] 1 false S__law_draw) : FnOk P w K mg base CX0 2 f fd ["_law_box", "_law_row"] (SpD ⟨K, mg⟩ false 2 S__law_pick) :=
  fn_data (rw := false) (k := 1) (g := b__law_pick S__law_draw) F sc__law_pick (by decide) fun cdv A outer s H E hr => q_sone (q_ret (q_ix hr (q_var 1) (q_callD D__law_draw hr (q_cons (q_var 0) (q_cons (q_tr (q_callB call_lenL T.b_len bt_len (q_cons (q_var 1) (q_nil)))) (q_nil))))))
theorem okr__law_like {f : Addr} {fd : FuncData} (F : Fun K "_law_like" "_law_like" s__law_like f fd) (T : Txt K mg A_Sketched) (mf : mg "_law_like" = some (.ref f)) (bf : Binds K fd ["_law_found", "_law_due"] [])  : ∀ n : Nat, FnOk P w K mg base CX0 (1 + n) f fd ["_law_found", "_law_due"] (SpD ⟨K, mg⟩ false 2 (Sr__law_like n))
  | 0 => ⟨fun vs H Q E h => by obtain ⟨_, _, _, _, _, _, _, z, _⟩ := h; exact z.elim, fun A outer s H args us vs Q E hr he hb hv hs => by obtain ⟨_, _, _, _, _, _, _, z, _⟩ := hs; exact z.elim⟩
  | n + 1 => by
    have ih := okr__law_like F T mf bf  n
    have D__law_like : Def P w K mg base "_law_like" ["_law_found", "_law_due"] (1 + n) false (Sr__law_like n) := ⟨fun ds M Q h => by cases n with | zero => exact h.elim | succ m => exact bodyS_len h, f, fd, ih, mf, F.kp, bf⟩
    exact fn_data (rw := false) (k := 1 + n) (g := b__law_like (Sr__law_like n)) F sc__law_like (by decide) fun cdv A outer s H E hr => q_scons (q_sif (q_w (q_wor (q_t (q_isi2 4 5 (q_var 1) T.isinstance T.b_list bt_list T.b_tuple bt_tuple)) (q_wor1 (q_t (q_isi2 4 5 (q_var 0) T.isinstance T.b_list bt_list T.b_tuple bt_tuple))))) (q_scons (q_sif (q_tcmp (op_neH hr) (q_isi 4 (q_var 1) T.isinstance T.b_list bt_list) (q_isi 4 (q_var 0) T.isinstance T.b_list bt_list)) (q_sone (q_ret (q_bl))) (q_snil))
      (q_scons (q_sif (q_w (q_wor (q_tcmp (op_neH hr) (q_isi 5 (q_var 1) T.isinstance T.b_tuple bt_tuple) (q_isi 5 (q_var 0) T.isinstance T.b_tuple bt_tuple)) (q_wor1 (q_tcmp (op_neH hr) (q_tr (q_callB call_lenL T.b_len bt_len (q_cons (q_var 0) (q_nil)))) (q_tr (q_callB call_lenL T.b_len bt_len (q_cons (q_var 1) (q_nil)))))))) (q_sone (q_ret (q_bl))) (q_snil))
      (q_sone (q_ret (q_tr (q_callB (call_allL rfl) T.b_all bt_all (q_cons (q_lc (own := [("_law_one", 2), ("_law_other", 3)]) (t := (.tup [.one 2, .one 3])) sc__law_like.nd (q_zp (q_var 0) (q_var 1) T.b_zip) (blkOk_by (N := N__law_like) (sc := defScope s__law_like) (by decide +kernel)) (fun _ _ _ _ _ => q_gtup (q_gcons (q_name (i := 2) sc__law_like.nd) (q_gcons (q_name (i := 3) sc__law_like.nd) (q_gnil)))) (fun _ _ _ _ _ => q_tr (q_callD D__law_like hr (q_cons (q_var 2) (q_cons (q_var 3) (q_nil)))))) (q_nil)))))))) (q_snil))
      (q_scons (q_sif (q_w (q_wor (q_tcmp op_isL (q_var 1) (q_non)) (q_wor1 (q_tcmp op_isL (q_var 0) (q_non))))) (q_sone (q_ret (q_and (q_tr (q_cmp op_isL (q_var 1) (q_non))) (q_one (q_tr (q_cmp op_isL (q_var 0) (q_non))))))) (q_snil))
      (q_scons (q_sif (q_tcmp (op_neH hr) (q_isi 1 (q_var 0) T.isinstance T.b_bool bt_bool) (q_isi 1 (q_var 1) T.isinstance T.b_bool bt_bool)) (q_sone (q_ret (q_bl))) (q_snil))
      (q_sone (q_ret (q_and (q_tr (q_cmp (op_eqH hr) (q_isi 3 (q_var 0) T.isinstance T.b_str bt_str) (q_isi 3 (q_var 1) T.isinstance T.b_str bt_str))) (q_one (q_tr (q_cmp (op_eqH hr) (q_var 0) (q_var 1)))))))))
theorem ok__law_begin {f : Addr} {fd : FuncData} (F : Fun K "_law_begin" "_law_begin" s__law_begin f fd) (T : Txt K mg A_Sketched) : FnOk P w K mg base CX0 1 f fd ["_law_script"] (spBag K) := by
  refine F.ok sc__law_begin (fun vs H Q E h => ?_) fun cdv A outer s H vs Q E hr h => ⟨_, pss_cons (ps_setLc (i := 1) (own := [("_law_cell", 3)]) rfl sc__law_begin.nd rfl rfl (sw_true rfl rfl rfl (by decide +kernel)) (pi_list (pe_slice sl_list (pv 0) po_none (po_some pe_int))) (blkOk_by (N := N__law_begin) (sc := defScope s__law_begin) (by decide +kernel)) (fun _ _ _ _ _ => pg_name (i := 3) sc__law_begin.nd rfl (Or.inl rfl)) (fun _ _ _ _ _ => pts_nil) (fun _ _ _ _ _ => (pe_callTy call_int1 (by rfl) T.b_int bt_int (pa_cons (pv 3) pa_nil)))) (pss_cons (ps_set (i := 2) sc__law_begin.nd rfl (Or.inl rfl) (pe_op op_add pe_int (pe_op op_mul pe_int (pe_callB call_len_seq (by rfl) T.b_len bt_len (pa_cons (pv 1) pa_nil))))) (pss_cons (ps_for PassesOwn.never rfl (pi_list (pv 1)) (pg_name (i := 3) sc__law_begin.nd rfl (Or.inl rfl)) (pss_one (ps_set (i := 2) sc__law_begin.nd rfl (Or.inl rfl) (pe_op op_mod (pe_callTy call_int1 (by rfl) T.b_int bt_int (pa_cons (pe_op op_add (pe_op op_mul (pv 2) pe_int) (pv 3)) pa_nil)) pe_int)))) (pss_one (ps_ret (pe_lst (pa_cons (pv 1) (pa_cons pe_int (pa_cons pe_int (pa_cons (pv 2) (pa_cons pe_int pa_nil)))))))))), beg_read h⟩
  obtain ⟨a, ns, rfl, _⟩ := h
  rfl
theorem ok__law_value {f : Addr} {fd : FuncData} (F : Fun K "_law_value" "_law_value" s__law_value f fd) (T : Txt K mg A_Sketched) (D__law_pick : Def P w K mg base "_law_pick" ["_law_box", "_law_row"] 2 false S__law_pick) (D__law_draw : Def P w K mg base "_law_draw" ["_law_box", "_law_many"] 1 false S__law_draw) : FnOk P w K mg base CX0 3 f fd ["_law_box"] (SpD ⟨K, mg⟩ false 1 S__law_value) :=
  fn_data (rw := false) (k := 2) (g := b__law_value S__law_pick S__law_draw) F sc__law_value (by decide) fun cdv A outer s H E hr => q_sone (q_ret (q_callD D__law_pick hr (q_cons (q_var 0) (q_cons (q_lst (q_cons (q_int) (q_cons (q_int) (q_cons (q_int) (q_cons (q_int) (q_cons (q_int) (q_cons (q_callD D__law_draw hr (q_cons (q_var 0) (q_cons (q_int) (q_nil)))) (q_nil)))))))) (q_nil)))))
theorem ok__law_new {f : Addr} {fd : FuncData} (F : Fun K "_law_new" "_law_new" s__law_new f fd) (T : Txt K mg A_Sketched)  : FnOk P w K mg base CX0 1 f fd ["_law_w"] (SpD ⟨K, mg⟩ true 1 S__law_new) :=
  fn_data (rw := true) (k := 0) (g := b__law_new ) F sc__law_new (by decide) fun cdv A outer s H E hr => q_scons (q_cPut hr (q_var 0) (q_str [110, 101, 120, 116]) (q_op op_addL (q_ix hr (q_var 0) (q_str [110, 101, 120, 116])) (q_int)))
      (q_sone (q_ret (q_tup (q_cons (q_ix hr (q_var 0) (q_str [111, 119, 110, 101, 114])) (q_cons (q_op op_subL (q_ix hr (q_var 0) (q_str [110, 101, 120, 116])) (q_int)) (q_nil))))))
theorem ok__law_use {f : Addr} {fd : FuncData} (F : Fun K "_law_use" "_law_use" s__law_use f fd) (T : Txt K mg A_Sketched) (D__law_new : Def P w K mg base "_law_new" ["_law_w"] 1 true S__law_new) : FnOk P w K mg base CX0 2 f fd ["_law_w", "_law_label"] (SpD ⟨K, mg⟩ true 2 S__law_use) :=
  fn_data (rw := true) (k := 1) (g := b__law_use S__law_new) F sc__law_use (by decide) fun cdv A outer s H E hr => q_scons (q_asg (i := 2) sc__law_use.nd (q_fz (q_callD D__law_new hr (q_cons (q_var 0) (q_nil)))))
      (q_scons (q_cPut hr (q_var 0) (q_str [117, 115, 101, 115]) (q_op op_addL (q_ix hr (q_var 0) (q_str [117, 115, 101, 115])) (q_lst (q_cons (q_tup (q_cons (q_var 2) (q_cons (q_var 1) (q_nil)))) (q_nil)))))
      (q_sone (q_ret (q_var 2))))
theorem ok__law_terms {f : Addr} {fd : FuncData} (F : Fun K "_law_terms" "_law_terms" s__law_terms f fd) (T : Txt K mg A_Sketched)  : FnOk P w K mg base CX0 1 f fd ["_law_content"] (SpD ⟨K, mg⟩ false 1 S__law_terms) :=
  fn_data (rw := false) (k := 0) (g := b__law_terms ) F sc__law_terms (by decide) fun cdv A outer s H E hr => q_scons (q_sif (q_tcmp (op_inH hr) (q_ix hr (q_var 0) (q_int)) (q_tup (q_cons (q_str [108, 101, 116]) (q_cons (q_str [115, 101, 116]) (q_nil))))) (q_sone (q_ret (q_lst (q_cons (q_ix hr (q_var 0) (q_int)) (q_nil))))) (q_snil))
      (q_scons (q_sif (q_tcmp (op_inH hr) (q_ix hr (q_var 0) (q_int)) (q_tup (q_cons (q_str [111, 117, 116]) (q_cons (q_str [105, 102]) (q_cons (q_str [114, 101, 112, 101, 97, 116]) (q_nil)))))) (q_sone (q_ret (q_lst (q_cons (q_ix hr (q_var 0) (q_int)) (q_nil))))) (q_snil))
      (q_sone (q_ret (q_if (q_tcmp (op_eqH hr) (q_ix hr (q_var 0) (q_int)) (q_str [100, 111])) (q_callTy (call_listL rfl) T.b_list bt_list (q_cons (q_ix hr (q_var 0) (q_int)) (q_nil))) (q_lst (q_nil))))))
theorem okr__law_term_things {f : Addr} {fd : FuncData} (F : Fun K "_law_term_things" "_law_term_things" s__law_term_things f fd) (T : Txt K mg A_Sketched) (mf : mg "_law_term_things" = some (.ref f)) (bf : Binds K fd ["_law_term"] [])  : ∀ n : Nat, FnOk P w K mg base CX0 (1 + n) f fd ["_law_term"] (SpD ⟨K, mg⟩ false 1 (Sr__law_term_things n))
  | 0 => ⟨fun vs H Q E h => by obtain ⟨_, _, _, _, _, _, _, z, _⟩ := h; exact z.elim, fun A outer s H args us vs Q E hr he hb hv hs => by obtain ⟨_, _, _, _, _, _, _, z, _⟩ := hs; exact z.elim⟩
  | n + 1 => by
    have ih := okr__law_term_things F T mf bf  n
    have D__law_term_things : Def P w K mg base "_law_term_things" ["_law_term"] (1 + n) false (Sr__law_term_things n) := ⟨fun ds M Q h => by cases n with | zero => exact h.elim | succ m => exact bodyS_len h, f, fd, ih, mf, F.kp, bf⟩
    exact fn_data (rw := false) (k := 1 + n) (g := b__law_term_things (Sr__law_term_things n)) F sc__law_term_things (by decide) fun cdv A outer s H E hr => q_scons (q_sif (q_tcmp (op_inH hr) (q_ix hr (q_var 0) (q_int)) (q_tup (q_cons (q_str [117, 115, 101]) (q_cons (q_str [110, 117, 109, 98, 101, 114]) (q_nil))))) (q_sone (q_ret (q_lst (q_cons (q_tup (q_cons (q_ix hr (q_var 0) (q_int)) (q_cons (q_ix hr (q_var 0) (q_int)) (q_nil)))) (q_nil))))) (q_snil))
      (q_sone (q_ret (q_op op_addL (q_callD D__law_term_things hr (q_cons (q_ix hr (q_var 0) (q_int)) (q_nil))) (q_callD D__law_term_things hr (q_cons (q_ix hr (q_var 0) (q_int)) (q_nil))))))
theorem ok__law_things {f : Addr} {fd : FuncData} (F : Fun K "_law_things" "_law_things" s__law_things f fd) (T : Txt K mg A_Sketched) (D__law_terms : Def P w K mg base "_law_terms" ["_law_content"] 1 false S__law_terms) (D__law_term_things : Def P w K mg base "_law_term_things" ["_law_term"] 9 false S__law_term_things) : FnOk P w K mg base CX0 10 f fd ["_law_content"] (SpD ⟨K, mg⟩ false 1 S__law_things) :=
  fn_data (rw := false) (k := 9) (g := b__law_things S__law_terms S__law_term_things) F sc__law_things (by decide) fun cdv A outer s H E hr => q_scons (q_par2 1 2 sc__law_things.nd (q_fz (q_ix hr (q_var 0) (q_int))) (q_lst (q_nil)) rfl)
      (q_scons (q_sif (q_tcmp (op_eqH hr) (q_var 1) (q_str [108, 101, 116])) (q_sone (q_app 2 (q_tup (q_cons (q_str [100, 101, 99, 108, 97, 114, 97, 116, 105, 111, 110]) (q_cons (q_ix hr (q_var 0) (q_int)) (q_nil)))))) (q_snil))
      (q_scons (q_sif (q_tcmp (op_inH hr) (q_var 1) (q_tup (q_cons (q_str [115, 101, 116]) (q_cons (q_str [114, 101, 97, 100]) (q_cons (q_str [100, 111]) (q_nil)))))) (q_sone (q_app 2 (q_tup (q_cons (q_str [117, 115, 101]) (q_cons (q_ix hr (q_var 0) (q_int)) (q_nil)))))) (q_snil))
      (q_scons (q_sfor (q_seq (q_callD D__law_terms hr (q_cons (q_var 0) (q_nil)))) (q_name (i := 3) sc__law_things.nd) (q_frz 2 (q_sone (q_asg (i := 2) sc__law_things.nd (q_op op_addL (q_var 2) (q_callD D__law_term_things hr (q_cons (q_var 3) (q_nil))))))))
      (q_frz 2 (q_scons (q_sif (q_tcmp (op_eqH hr) (q_var 1) (q_str [100, 101, 102])) (q_sone (q_ret (q_op op_addL (q_lst (q_cons (q_tup (q_cons (q_str [100, 101, 99, 108, 97, 114, 97, 116, 105, 111, 110]) (q_cons (q_ix hr (q_var 0) (q_int)) (q_nil)))) (q_cons (q_tup (q_cons (q_str [98, 108, 111, 99, 107]) (q_cons (q_ix hr (q_var 0) (q_int)) (q_nil)))) (q_nil)))) (q_lc (own := [("_law_own", 4)]) (t := (.one 4)) sc__law_things.nd (q_seq (q_ix hr (q_var 0) (q_int))) (blkOk_by (N := N__law_things) (sc := defScope s__law_things) (by decide +kernel)) (fun _ _ _ _ _ => q_name (i := 4) sc__law_things.nd) (fun _ _ _ _ _ => q_tup (q_cons (q_str [100, 101, 99, 108, 97, 114, 97, 116, 105, 111, 110]) (q_cons (q_var 4) (q_nil)))))))) (q_snil))
      (q_scons (q_sif (q_tcmp (op_eqH hr) (q_var 1) (q_str [105, 102])) (q_sone (q_ret (q_op op_addL (q_var 2) (q_lst (q_cons (q_tup (q_cons (q_str [98, 108, 111, 99, 107]) (q_cons (q_ix hr (q_var 0) (q_int)) (q_nil)))) (q_cons (q_tup (q_cons (q_str [98, 108, 111, 99, 107]) (q_cons (q_ix hr (q_var 0) (q_int)) (q_nil)))) (q_nil))))))) (q_snil))
      (q_scons (q_sif (q_tcmp (op_eqH hr) (q_var 1) (q_str [114, 101, 112, 101, 97, 116])) (q_sone (q_ret (q_op op_addL (q_var 2) (q_lst (q_cons (q_tup (q_cons (q_str [98, 108, 111, 99, 107]) (q_cons (q_ix hr (q_var 0) (q_int)) (q_nil)))) (q_nil)))))) (q_snil))
      (q_sone (q_ret (q_op op_addL (q_var 2) (q_if (q_tcmp (op_eqH hr) (q_var 1) (q_str [98, 108, 111, 99, 107])) (q_lst (q_cons (q_tup (q_cons (q_str [98, 108, 111, 99, 107]) (q_cons (q_ix hr (q_var 0) (q_int)) (q_nil)))) (q_nil))) (q_lst (q_nil)))))))))))))
theorem okr__law_sketch_term {f : Addr} {fd : FuncData} (F : Fun K "_law_sketch_term" "_law_sketch_term" s__law_sketch_term f fd) (T : Txt K mg A_Sketched) (mf : mg "_law_sketch_term" = some (.ref f)) (bf : Binds K fd ["_law_w", "_law_term"] []) (D__law_new : Def P w K mg base "_law_new" ["_law_w"] 1 true S__law_new) : ∀ n : Nat, FnOk P w K mg base CX0 (2 + n) f fd ["_law_w", "_law_term"] (SpD ⟨K, mg⟩ true 2 (Sr__law_sketch_term n))
  | 0 => ⟨fun vs H Q E h => by obtain ⟨_, _, _, _, _, _, _, z, _⟩ := h; exact z.elim, fun A outer s H args us vs Q E hr he hb hv hs => by obtain ⟨_, _, _, _, _, _, _, z, _⟩ := hs; exact z.elim⟩
  | n + 1 => by
    have ih := okr__law_sketch_term F T mf bf D__law_new n
    have D__law_sketch_term : Def P w K mg base "_law_sketch_term" ["_law_w", "_law_term"] (2 + n) true (Sr__law_sketch_term n) := ⟨fun ds M Q h => by cases n with | zero => exact h.elim | succ m => exact bodyS_len h, f, fd, ih, mf, F.kp, bf⟩
    exact fn_data (rw := true) (k := 2 + n) (g := b__law_sketch_term (Sr__law_sketch_term n) S__law_new) F sc__law_sketch_term (by decide) fun cdv A outer s H E hr => q_scons (q_sif (q_t (q_isi 2 (q_var 1) T.isinstance T.b_int bt_int)) (q_scons (q_asg (i := 2) sc__law_sketch_term.nd (q_fz (q_callD D__law_new hr (q_cons (q_var 0) (q_nil)))))
      (q_scons (q_cPut hr (q_var 0) (q_str [118, 97, 108, 117, 101, 115]) (q_op op_addL (q_ix hr (q_var 0) (q_str [118, 97, 108, 117, 101, 115])) (q_lst (q_cons (q_tup (q_cons (q_var 2) (q_cons (q_var 1) (q_nil)))) (q_nil)))))
      (q_sone (q_ret (q_tup (q_cons (q_str [110, 117, 109, 98, 101, 114]) (q_cons (q_var 2) (q_nil)))))))) (q_snil))
      (q_scons (q_sif (q_tcmp (op_eqH hr) (q_ix hr (q_var 1) (q_int)) (q_str [117, 115, 101])) (q_scons (q_asg (i := 2) sc__law_sketch_term.nd (q_fz (q_callD D__law_new hr (q_cons (q_var 0) (q_nil)))))
      (q_scons (q_cPut hr (q_var 0) (q_str [117, 115, 101, 115]) (q_op op_addL (q_ix hr (q_var 0) (q_str [117, 115, 101, 115])) (q_lst (q_cons (q_tup (q_cons (q_var 2) (q_cons (q_ix hr (q_var 1) (q_int)) (q_nil)))) (q_nil)))))
      (q_sone (q_ret (q_tup (q_cons (q_str [117, 115, 101]) (q_cons (q_var 2) (q_nil)))))))) (q_snil))
      (q_scons (q_asg (i := 3) sc__law_sketch_term.nd (q_fz (q_callD D__law_sketch_term hr (q_cons (q_var 0) (q_cons (q_ix hr (q_var 1) (q_int)) (q_nil))))))
      (q_sone (q_ret (q_tup (q_cons (q_ix hr (q_var 1) (q_int)) (q_cons (q_var 3) (q_cons (q_callD D__law_sketch_term hr (q_cons (q_var 0) (q_cons (q_ix hr (q_var 1) (q_int)) (q_nil)))) (q_nil)))))))))
theorem ok__law_sketch {f : Addr} {fd : FuncData} (F : Fun K "_law_sketch" "_law_sketch" s__law_sketch f fd) (T : Txt K mg A_Sketched) (D__law_new : Def P w K mg base "_law_new" ["_law_w"] 1 true S__law_new) (D__law_use : Def P w K mg base "_law_use" ["_law_w", "_law_label"] 2 true S__law_use) (D__law_sketch_term : Def P w K mg base "_law_sketch_term" ["_law_w", "_law_term"] 10 true S__law_sketch_term) : FnOk P w K mg base CX0 11 f fd ["_law_sketch_z", "_law_person_z", "_law_start_z"] (SpD ⟨K, mg⟩ true 3 S__law_sketch) :=
  fn_data (rw := true) (k := 10) (g := b__law_sketch S__law_new S__law_use S__law_sketch_term) F sc__law_sketch (by decide) fun cdv A outer s H E hr => q_scons (q_par2T 3 4 (q_cell (q_disp (q_dcons (q_str [111, 119, 110, 101, 114]) (q_var 1) (q_dcons (q_str [110, 101, 120, 116]) (q_op op_addL (q_var 2) (q_int)) (q_dcons (q_str [117, 115, 101, 115]) (q_lst (q_nil)) (q_dcons (q_str [118, 97, 108, 117, 101, 115]) (q_lst (q_nil)) (q_dnil))))))) (q_fz (q_ix hr (q_var 0) (q_int))) (q_gtup (q_gcons (q_name (i := 3) sc__law_sketch.nd) (q_gcons (q_name (i := 4) sc__law_sketch.nd) (q_gnil)))))
      (q_scons (q_par2 5 6 sc__law_sketch.nd (q_cell (q_dnewT)) (q_non) rfl)
      (q_scons (q_sif (q_tcmp (op_inH hr) (q_var 4) (q_tup (q_cons (q_str [108, 101, 116]) (q_cons (q_str [100, 101, 102]) (q_nil))))) (q_scons (q_asg (i := 6) sc__law_sketch.nd (q_fz (q_callD D__law_new hr (q_cons (q_var 3) (q_nil)))))
      (q_sone (q_cPut hr (q_var 5) (q_var 6) (q_ix hr (q_var 0) (q_int))))) (q_snil))
      (q_scons (q_sif (q_tcmp (op_inH hr) (q_var 4) (q_tup (q_cons (q_str [115, 101, 116]) (q_cons (q_str [114, 101, 97, 100]) (q_cons (q_str [100, 111]) (q_nil)))))) (q_sone (q_asg (i := 6) sc__law_sketch.nd (q_fz (q_callD D__law_use hr (q_cons (q_var 3) (q_cons (q_ix hr (q_var 0) (q_int)) (q_nil))))))) (q_snil))
      (q_scons (q_sif (q_w (q_wor (q_tcmp (op_eqH hr) (q_var 4) (q_str [108, 101, 116])) (q_wor1 (q_tcmp (op_eqH hr) (q_var 4) (q_str [115, 101, 116]))))) (q_sone (q_asg (i := 7) sc__law_sketch.nd (q_tup (q_cons (q_var 4) (q_cons (q_var 6) (q_cons (q_callD D__law_sketch_term hr (q_cons (q_var 3) (q_cons (q_ix hr (q_var 0) (q_int)) (q_nil)))) (q_nil))))))) (q_sone (q_sif (q_tcmp (op_eqH hr) (q_var 4) (q_str [114, 101, 97, 100])) (q_sone (q_asg (i := 7) sc__law_sketch.nd (q_tup (q_cons (q_str [114, 101, 97, 100]) (q_cons (q_var 6) (q_nil)))))) (q_sone (q_sif (q_tcmp (op_eqH hr) (q_var 4) (q_str [111, 117, 116])) (q_sone (q_asg (i := 7) sc__law_sketch.nd (q_tup (q_cons (q_str [111, 117, 116]) (q_cons (q_callD D__law_sketch_term hr (q_cons (q_var 3) (q_cons (q_ix hr (q_var 0) (q_int)) (q_nil)))) (q_nil)))))) (q_sone (q_sif (q_tcmp (op_eqH hr) (q_var 4) (q_str [100, 111])) (q_sone (q_asg (i := 7) sc__law_sketch.nd (q_tup (q_cons (q_str [100, 111]) (q_cons (q_var 6) (q_cons (q_callTy call_tupleL T.b_tuple bt_tuple (q_cons (q_lc (own := [("_law_term", 13)]) (t := (.one 13)) sc__law_sketch.nd (q_seq (q_ix hr (q_var 0) (q_int))) (blkOk_by (N := N__law_sketch) (sc := defScope s__law_sketch) (by decide +kernel)) (fun _ _ _ _ _ => q_name (i := 13) sc__law_sketch.nd) (fun _ _ _ _ _ => q_callD D__law_sketch_term hr (q_cons (q_var 3) (q_cons (q_var 13) (q_nil))))) (q_nil))) (q_nil))))))) (q_sone (q_sif (q_tcmp (op_eqH hr) (q_var 4) (q_str [100, 101, 102])) (q_scons (q_par2 8 9 sc__law_sketch.nd (q_fz (q_callD D__law_new hr (q_cons (q_var 3) (q_nil)))) (q_cell (q_lst (q_nil))) rfl)
      (q_scons (q_sfor (q_seq (q_ix hr (q_var 0) (q_int))) (q_name (i := 10) sc__law_sketch.nd) (q_scons (q_cApp (q_var 9) (q_callD D__law_new hr (q_cons (q_var 3) (q_nil))))
      (q_sone (q_cPut hr (q_var 5) (q_ix hr (q_var 9) (q_neg (q_int))) (q_var 10)))))
      (q_sone (q_asg (i := 7) sc__law_sketch.nd (q_tup (q_cons (q_str [100, 101, 102]) (q_cons (q_var 6) (q_cons (q_callTy call_tupleL T.b_tuple bt_tuple (q_cons (q_var 9) (q_nil))) (q_cons (q_var 8) (q_nil)))))))))) (q_sone (q_sif (q_tcmp (op_eqH hr) (q_var 4) (q_str [105, 102])) (q_scons (q_par2 11 12 sc__law_sketch.nd (q_fz (q_callD D__law_sketch_term hr (q_cons (q_var 3) (q_cons (q_ix hr (q_var 0) (q_int)) (q_nil))))) (q_fz (q_callD D__law_new hr (q_cons (q_var 3) (q_nil)))) rfl)
      (q_sone (q_asg (i := 7) sc__law_sketch.nd (q_tup (q_cons (q_str [105, 102]) (q_cons (q_var 11) (q_cons (q_var 12) (q_cons (q_callD D__law_new hr (q_cons (q_var 3) (q_nil))) (q_nil))))))))) (q_sone (q_sif (q_tcmp (op_eqH hr) (q_var 4) (q_str [114, 101, 112, 101, 97, 116])) (q_scons (q_asg (i := 11) sc__law_sketch.nd (q_fz (q_callD D__law_sketch_term hr (q_cons (q_var 3) (q_cons (q_ix hr (q_var 0) (q_int)) (q_nil))))))
      (q_sone (q_asg (i := 7) sc__law_sketch.nd (q_tup (q_cons (q_str [114, 101, 112, 101, 97, 116]) (q_cons (q_var 11) (q_cons (q_callD D__law_new hr (q_cons (q_var 3) (q_nil))) (q_nil)))))))) (q_sone (q_asg (i := 7) sc__law_sketch.nd (q_tup (q_cons (q_str [98, 108, 111, 99, 107]) (q_cons (q_callD D__law_new hr (q_cons (q_var 3) (q_nil))) (q_nil)))))))))))))))))))
      (q_sone (q_ret (q_tup (q_cons (q_var 7) (q_cons (q_var 5) (q_cons (q_callTy (call_dictL hr true) T.b_dict bt_dict (q_cons (q_ix hr (q_var 3) (q_str [117, 115, 101, 115])) (q_nil))) (q_cons (q_callTy (call_dictL hr true) T.b_dict bt_dict (q_cons (q_ix hr (q_var 3) (q_str [118, 97, 108, 117, 101, 115])) (q_nil))) (q_cons (q_ix hr (q_var 3) (q_str [110, 101, 120, 116])) (q_nil)))))))))))))
theorem ok__law_any_id {f : Addr} {fd : FuncData} (F : Fun K "_law_any_id" "_law_any_id" s__law_any_id f fd) (T : Txt K mg A_Sketched) (D__law_pick : Def P w K mg base "_law_pick" ["_law_box", "_law_row"] 2 false S__law_pick) (D__law_draw : Def P w K mg base "_law_draw" ["_law_box", "_law_many"] 1 false S__law_draw) : FnOk P w K mg base CX0 3 f fd ["_law_box"] (SpD ⟨K, mg⟩ false 1 S__law_any_id) :=
  fn_data (rw := false) (k := 2) (g := b__law_any_id S__law_pick S__law_draw) F sc__law_any_id (by decide) fun cdv A outer s H E hr => q_sone (q_ret (q_tup (q_cons (q_callD D__law_pick hr (q_cons (q_var 0) (q_cons (q_lst (q_cons (q_str []) (q_cons (q_str [97, 110, 110]) (q_cons (q_str [98, 111, 98]) (q_nil))))) (q_nil)))) (q_cons (q_callD D__law_draw hr (q_cons (q_var 0) (q_cons (q_int) (q_nil)))) (q_nil)))))
theorem okr__law_any_term {f : Addr} {fd : FuncData} (F : Fun K "_law_any_term" "_law_any_term" s__law_any_term f fd) (T : Txt K mg A_Sketched) (mf : mg "_law_any_term" = some (.ref f)) (bf : Binds K fd ["_law_box", "_law_deep"] []) (D__law_draw : Def P w K mg base "_law_draw" ["_law_box", "_law_many"] 1 false S__law_draw) (D__law_value : Def P w K mg base "_law_value" ["_law_box"] 3 false S__law_value) (D__law_pick : Def P w K mg base "_law_pick" ["_law_box", "_law_row"] 2 false S__law_pick) (D__law_any_id : Def P w K mg base "_law_any_id" ["_law_box"] 3 false S__law_any_id) : ∀ n : Nat, FnOk P w K mg base CX0 (4 + n) f fd ["_law_box", "_law_deep"] (SpD ⟨K, mg⟩ false 2 (Sr__law_any_term n))
  | 0 => ⟨fun vs H Q E h => by obtain ⟨_, _, _, _, _, _, _, z, _⟩ := h; exact z.elim, fun A outer s H args us vs Q E hr he hb hv hs => by obtain ⟨_, _, _, _, _, _, _, z, _⟩ := hs; exact z.elim⟩
  | n + 1 => by
    have ih := okr__law_any_term F T mf bf D__law_draw D__law_value D__law_pick D__law_any_id n
    have D__law_any_term : Def P w K mg base "_law_any_term" ["_law_box", "_law_deep"] (4 + n) false (Sr__law_any_term n) := ⟨fun ds M Q h => by cases n with | zero => exact h.elim | succ m => exact bodyS_len h, f, fd, ih, mf, F.kp, bf⟩
    exact fn_data (rw := false) (k := 4 + n) (g := b__law_any_term S__law_draw S__law_value S__law_pick (Sr__law_any_term n) S__law_any_id) F sc__law_any_term (by decide) fun cdv A outer s H E hr => q_scons (q_asg (i := 2) sc__law_any_term.nd (q_fz (q_callD D__law_draw hr (q_cons (q_var 0) (q_cons (q_int) (q_nil))))))
      (q_scons (q_sif (q_w (q_wand (q_tcmp op_gtL (q_var 1) (q_int)) (q_wand1 (q_tcmp op_gtL (q_var 2) (q_int))))) (q_sone (q_ret (q_tup (q_cons (q_callD D__law_pick hr (q_cons (q_var 0) (q_cons (q_lst (q_cons (q_str [43]) (q_cons (q_str [45]) (q_cons (q_str [42]) (q_cons (q_str [60]) (q_nil)))))) (q_nil)))) (q_cons (q_callD D__law_any_term hr (q_cons (q_var 0) (q_cons (q_op op_subL (q_var 1) (q_int)) (q_nil)))) (q_cons (q_callD D__law_any_term hr (q_cons (q_var 0) (q_cons (q_op op_subL (q_var 1) (q_int)) (q_nil)))) (q_nil))))))) (q_snil))
      (q_sone (q_ret (q_if (q_tcmp (op_eqH hr) (q_op op_modL (q_tr (q_callTy call_intL T.b_int bt_int (q_cons (q_var 2) (q_nil)))) (q_int)) (q_int)) (q_callD D__law_value hr (q_cons (q_var 0) (q_nil))) (q_tup (q_cons (q_str [117, 115, 101]) (q_cons (q_callD D__law_any_id hr (q_cons (q_var 0) (q_nil))) (q_nil))))))))
theorem ok__law_any_sketch {f : Addr} {fd : FuncData} (F : Fun K "_law_any_sketch" "_law_any_sketch" s__law_any_sketch f fd) (T : Txt K mg A_Sketched) (D__law_draw : Def P w K mg base "_law_draw" ["_law_box", "_law_many"] 1 false S__law_draw) (D__law_pick : Def P w K mg base "_law_pick" ["_law_box", "_law_row"] 2 false S__law_pick) (D__law_any_term : Def P w K mg base "_law_any_term" ["_law_box", "_law_deep"] 10 false S__law_any_term) (D__law_any_id : Def P w K mg base "_law_any_id" ["_law_box"] 3 false S__law_any_id) : FnOk P w K mg base CX0 11 f fd ["_law_box"] (SpD ⟨K, mg⟩ false 1 S__law_any_sketch) :=
  fn_data (rw := false) (k := 10) (g := b__law_any_sketch S__law_draw S__law_pick S__law_any_term S__law_any_id) F sc__law_any_sketch (by decide) fun cdv A outer s H E hr => q_scons (q_par2 1 2 sc__law_any_sketch.nd (q_fz (q_callD D__law_draw hr (q_cons (q_var 0) (q_cons (q_int) (q_nil))))) (q_fz (q_callD D__law_pick hr (q_cons (q_var 0) (q_cons (q_lst (q_cons (q_str [120]) (q_cons (q_str [97, 98, 99, 100, 101, 102]) (q_cons (q_str [122, 122]) (q_cons (q_str [102]) (q_nil)))))) (q_nil))))) rfl)
      (q_scons (q_par2 3 4 sc__law_any_sketch.nd (q_fz (q_callD D__law_any_term hr (q_cons (q_var 0) (q_cons (q_int) (q_nil))))) (q_fz (q_callD D__law_any_id hr (q_cons (q_var 0) (q_nil)))) rfl)
      (q_scons (q_sif (q_tcmp (op_ltH hr) (q_var 1) (q_int)) (q_sone (q_ret (q_if (q_tcmp (op_eqH hr) (q_var 1) (q_int)) (q_tup (q_cons (q_str [108, 101, 116]) (q_cons (q_var 2) (q_cons (q_var 3) (q_nil))))) (q_tup (q_cons (q_str [115, 101, 116]) (q_cons (q_var 4) (q_cons (q_var 3) (q_nil)))))))) (q_snil))
      (q_scons (q_sif (q_tcmp (op_eqH hr) (q_var 1) (q_int)) (q_sone (q_ret (q_tup (q_cons (q_str [100, 111]) (q_cons (q_var 4) (q_cons (q_callTy call_tupleL T.b_tuple bt_tuple (q_cons (q_lc (own := [("_law_k", 5)]) (t := (.one 5)) sc__law_any_sketch.nd (q_rg1 (q_callD D__law_draw hr (q_cons (q_var 0) (q_cons (q_int) (q_nil)))) T.b_range) (blkOk_by (N := N__law_any_sketch) (sc := defScope s__law_any_sketch) (by decide +kernel)) (fun _ _ _ _ _ => q_name (i := 5) sc__law_any_sketch.nd) (fun _ _ _ _ _ => q_callD D__law_any_term hr (q_cons (q_var 0) (q_cons (q_int) (q_nil))))) (q_nil))) (q_nil))))))) (q_snil))
      (q_scons (q_sif (q_tcmp (op_eqH hr) (q_var 1) (q_int)) (q_sone (q_ret (q_tup (q_cons (q_str [100, 101, 102]) (q_cons (q_var 2) (q_cons (q_callTy call_tupleL T.b_tuple bt_tuple (q_cons (q_sl (q_lst (q_cons (q_str [97]) (q_cons (q_str [98]) (q_cons (q_str [120]) (q_cons (q_str [97, 98, 99, 100, 101, 102]) (q_cons (q_str [101]) (q_nil))))))) (q_no) (q_some (q_callD D__law_draw hr (q_cons (q_var 0) (q_cons (q_int) (q_nil)))))) (q_nil))) (q_nil))))))) (q_snil))
      (q_sone (q_ret (q_ix hr (q_lst (q_cons (q_tup (q_cons (q_str [114, 101, 97, 100]) (q_cons (q_var 4) (q_nil)))) (q_cons (q_tup (q_cons (q_str [111, 117, 116]) (q_cons (q_var 3) (q_nil)))) (q_cons (q_tup (q_cons (q_str [105, 102]) (q_cons (q_var 3) (q_nil)))) (q_cons (q_tup (q_cons (q_str [114, 101, 112, 101, 97, 116]) (q_cons (q_var 3) (q_nil)))) (q_cons (q_tup (q_cons (q_str [98, 108, 111, 99, 107]) (q_nil))) (q_nil))))))) (q_op op_subL (q_var 1) (q_int)))))))))
theorem ok_law {f : Addr} {fd : FuncData} (F : Fun K "law" "law" s_law f fd) (T : Txt K mg A_Sketched) {fb : Addr} {fdb : FuncData} (GB : FnOk P w K mg base CX0 1 fb fdb ["_law_script"] (spBag K)) (mB : mg "_law_begin" = some (.ref fb)) (kB : PySem.W.keepIn K (.ref fb) = true) (bB : Binds K fdb ["_law_script"] []) (D__law_sketch : Def P w K mg base "_law_sketch" ["_law_sketch_z", "_law_person_z", "_law_start_z"] 11 true S__law_sketch) (D__law_things : Def P w K mg base "_law_things" ["_law_content"] 10 false S__law_things) (D__law_any_sketch : Def P w K mg base "_law_any_sketch" ["_law_box"] 11 false S__law_any_sketch) (D__law_pick : Def P w K mg base "_law_pick" ["_law_box", "_law_row"] 2 false S__law_pick) (D__law_draw : Def P w K mg base "_law_draw" ["_law_box", "_law_many"] 1 false S__law_draw) (D_things_of : Def P w K mg base "things_of" ["content"] 10 false S_things_of) (D_blocks_of : Def P w K mg base "blocks_of" ["content"] 1 false S_blocks_of) (D_declared_by : Def P w K mg base "declared_by" ["content"] 1 false S_declared_by) (D__law_like : Def P w K mg base "_law_like" ["_law_found", "_law_due"] 13 false S__law_like) (K_sketched_0 : DefK P w K mg base "sketched" ["sketch", "person", "start"] 13 true S_sketched 1 ["person", "start"] [0, 1, 2]) (K_sketched_1 : DefK P w K mg base "sketched" ["sketch", "person", "start"] 13 true S_sketched 0 ["start", "person", "sketch"] [2, 1, 0]) (hL : lawS 15 (b_law S__law_sketch S_sketched S__law_things S__law_any_sketch S__law_pick S__law_draw S_things_of S_blocks_of S_declared_by S__law_like)) : RunAt P w K mg base callerA [] f fd ["_law_script"] (spLaw K) := by
  refine run_at (k := 13) F sc_law ⟨rfl, by decide, by decide⟩ (fun vs H Q E h => ?_) fun cdv s H vs Q E hr h => ⟨_, pss_cons (ps_set (i := 1) sc_law.nd rfl (Or.inl rfl) (pe_call GB (hr.mono (by omega)) (by rfl) mB kB bB .nil pass0 (pa_cons (pv 0) pa_nil))) (QSs.pss (rw := true) (f := b_law S__law_sketch S_sketched S__law_things S__law_any_sketch S__law_pick S__law_draw S_things_of S_blocks_of S_declared_by S__law_like) (q_scons (q_sfor (q_rg1 (q_int) T.b_range) (q_name (i := 2) sc_law.nd) (q_scons (q_par3 3 4 5 sc_law.nd (q_fz (q_callD D__law_any_sketch hr (q_cons (q_var 1) (q_nil)))) (q_fz (q_callD D__law_pick hr (q_cons (q_var 1) (q_cons (q_lst (q_cons (q_str [97, 110, 110]) (q_cons (q_str [98, 111, 98]) (q_cons (q_str [120]) (q_nil))))) (q_nil))))) (q_fz (q_callD D__law_draw hr (q_cons (q_var 1) (q_cons (q_int) (q_nil))))) rfl)
      (q_scons (q_sif (q_w (q_wand (q_tcmp (op_eqH hr) (q_ix hr (q_var 3) (q_int)) (q_str [108, 101, 116])) (q_wand1 (q_tcmp (op_eqH hr) (q_callD D__law_draw hr (q_cons (q_var 1) (q_cons (q_int) (q_nil)))) (q_int))))) (q_sone (q_asg (i := 3) sc_law.nd (q_tup (q_cons (q_str [108, 101, 116]) (q_cons (q_ix hr (q_var 3) (q_int)) (q_cons (q_tup (q_cons (q_str [45]) (q_cons (q_tup (q_cons (q_str [117, 115, 101]) (q_cons (q_tup (q_cons (q_var 4) (q_cons (q_op op_addL (q_var 5) (q_int)) (q_nil)))) (q_nil)))) (q_cons (q_ix hr (q_var 3) (q_int)) (q_nil))))) (q_nil))))))) (q_snil))
      (q_scons (q_asg (i := 6) sc_law.nd (q_fz (q_callD D__law_sketch hr (q_cons (q_var 3) (q_cons (q_var 4) (q_cons (q_var 5) (q_nil)))))))
      (q_scons (q_asg (i := 7) sc_law.nd (q_fz (q_callK K_sketched_0 hr (q_cons (q_var 3) (q_nil)) (q_kcons (q_var 4) (q_kcons (q_var 5) (q_knil))))))
      (q_scons (q_sif (q_w (q_wor (q_tnot (q_t (q_tr (q_callD D__law_like hr (q_cons (q_lst (q_cons (q_ix hr (q_var 7) (q_int)) (q_cons (q_ix hr (q_var 7) (q_int)) (q_cons (q_tr (q_callB call_lenL T.b_len bt_len (q_cons (q_var 7) (q_nil)))) (q_nil))))) (q_cons (q_lst (q_cons (q_ix hr (q_var 6) (q_int)) (q_cons (q_ix hr (q_var 6) (q_int)) (q_cons (q_int) (q_nil))))) (q_nil))))))) (q_wor1 (q_tnot (q_t (q_isi 5 (q_var 7) T.isinstance T.b_tuple bt_tuple)))))) (q_sone (q_ret (q_bl))) (q_snil))
      (q_scons (q_sif (q_w (q_wor (q_tcmp (op_neH hr) (q_lc (own := [("_law_k", 11)]) (t := (.one 11)) sc_law.nd (q_seq (q_tup (q_cons (q_int) (q_cons (q_int) (q_cons (q_int) (q_nil)))))) (blkOk_by (N := N_law) (sc := defScope s_law) (by decide +kernel)) (fun _ _ _ _ _ => q_name (i := 11) sc_law.nd) (fun _ _ _ _ _ => q_isi 6 (q_ix hr (q_var 7) (q_var 11)) T.isinstance T.b_dict bt_dict)) (q_op op_mulL (q_lst (q_cons (q_bl) (q_nil))) (q_int))) (q_wor1 (q_tcmp (op_neLD hr) (q_callTy (call_listL rfl) T.b_list bt_list (q_cons (q_sl (q_var 7) (q_some (q_int)) (q_some (q_int))) (q_nil))) (q_callTy (call_listL rfl) T.b_list bt_list (q_cons (q_sl (q_var 6) (q_some (q_int)) (q_some (q_int))) (q_nil))))))) (q_sone (q_ret (q_bl))) (q_snil))
      (q_scons (q_asg (i := 8) sc_law.nd (q_fz (q_callD D__law_things hr (q_cons (q_ix hr (q_var 6) (q_int)) (q_nil)))))
      (q_scons (q_asg (i := 9) sc_law.nd (q_fz (q_lst (q_cons (q_cell (q_callD D_things_of hr (q_cons (q_ix hr (q_var 6) (q_int)) (q_nil)))) (q_cons (q_callD D_blocks_of hr (q_cons (q_ix hr (q_var 6) (q_int)) (q_nil))) (q_cons (q_callD D_declared_by hr (q_cons (q_ix hr (q_var 6) (q_int)) (q_nil))) (q_nil)))))))
      (q_scons (q_sif (q_tnot (q_t (q_tr (q_callD D__law_like hr (q_cons (q_var 9) (q_cons (q_op op_addL (q_lst (q_cons (q_var 8) (q_nil))) (q_lc (own := [("_law_kind", 12)]) (t := (.one 12)) sc_law.nd (q_seq (q_tup (q_cons (q_str [98, 108, 111, 99, 107]) (q_cons (q_str [100, 101, 99, 108, 97, 114, 97, 116, 105, 111, 110]) (q_nil))))) (blkOk_by (N := N_law) (sc := defScope s_law) (by decide +kernel)) (fun _ _ _ _ _ => q_name (i := 12) sc_law.nd) (fun _ _ _ _ _ => q_lcIf (own := [("_law_word", 13), ("_law_thing", 14)]) (t := (.tup [.one 13, .one 14])) sc_law.nd (q_seq (q_var 8)) (blkOk_by (N := N_law) (sc := { kind := ScopeKind.function, names := [(".0", NameKind.local), ("_law_kind", NameKind.cell), ("_law_things_here", NameKind.cell)], isGenerator := false, isCoroutine := false }) (by decide +kernel)) (fun _ _ _ _ _ => q_gtup (q_gcons (q_name (i := 13) sc_law.nd) (q_gcons (q_name (i := 14) sc_law.nd) (q_gnil)))) (fun _ _ _ _ _ => q_tcmp (op_eqH hr) (q_var 13) (q_var 12)) (fun _ _ _ _ _ => q_var 14)))) (q_nil))))))) (q_sone (q_ret (q_bl))) (q_snil))
      (q_scons (q_cMix hr (q_ix hr (q_var 7) (q_int)) (q_str [120]) (q_str [121]))
      (q_scons (q_cApp (q_ix hr (q_var 9) (q_int)) (q_non))
      (q_scons (q_asg (i := 10) sc_law.nd (q_fz (q_callK0 K_sketched_1 hr (q_kcons (q_var 5) (q_kcons (q_var 4) (q_kcons (q_var 3) (q_knil)))))))
      (q_sone (q_sif (q_w (q_wor (q_tcmp (op_neLD hr) (q_callTy (call_listL rfl) T.b_list bt_list (q_cons (q_sl (q_var 10) (q_some (q_int)) (q_some (q_int))) (q_nil))) (q_callTy (call_listL rfl) T.b_list bt_list (q_cons (q_sl (q_var 6) (q_some (q_int)) (q_some (q_int))) (q_nil)))) (q_wor1 (q_tnot (q_t (q_tr (q_callD D__law_like hr (q_cons (q_callD D_things_of hr (q_cons (q_ix hr (q_var 10) (q_int)) (q_nil))) (q_cons (q_var 8) (q_nil)))))))))) (q_sone (q_ret (q_bl))) (q_snil))))))))))))))))
      (q_sone (q_ret (q_bl))))), law_read (G := ⟨K, mg⟩) rfl hL (by decide) h⟩
  obtain ⟨a, ns, rfl, _⟩ := h
  rfl
end
end Law

namespace Law
open PySem PySem.Spec PyProof.Rows L2 HI
theorem all_mk {l : PySem.W.OpenLaw} {w : World} {K : PySem.W.Frag} {h : Heap} {mg : Str → Option Value} {fa : Addr} (X : K.In h) (G : h.Ns mainGlobals mg) (hfa : mg "law" = some (.ref fa)) (hL : lawS 15 (b_law S__law_sketch S_sketched S__law_things S__law_any_sketch S__law_pick S__law_draw S_things_of S_blocks_of S_declared_by S__law_like))
    {A_Sketched : Addr}
    {f0 : Addr} {od0 an0 : Option Addr} {sl0 : Array (Option Value)} {oc0 kV0 dc0 pm0 cd0 ct0 : Value}
    {f1 : Addr} {od1 an1 : Option Addr} {sl1 : Array (Option Value)} {oc1 kV1 dc1 pm1 cd1 ct1 : Value}
    {f2 : Addr} {od2 an2 : Option Addr} {sl2 : Array (Option Value)} {oc2 kV2 dc2 pm2 cd2 ct2 : Value}
    {f3 : Addr} {od3 an3 : Option Addr} {sl3 : Array (Option Value)} {oc3 kV3 dc3 pm3 cd3 ct3 : Value}
    {f4 : Addr} {od4 an4 : Option Addr} {sl4 : Array (Option Value)} {oc4 kV4 dc4 pm4 cd4 ct4 : Value}
    {f5 : Addr} {od5 an5 : Option Addr} {sl5 : Array (Option Value)} {oc5 kV5 dc5 pm5 cd5 ct5 : Value}
    {f6 : Addr} {od6 an6 : Option Addr} {sl6 : Array (Option Value)} {oc6 kV6 dc6 pm6 cd6 ct6 : Value}
    {f7 : Addr} {od7 an7 : Option Addr} {sl7 : Array (Option Value)} {oc7 kV7 dc7 pm7 cd7 ct7 : Value}
    {f8 : Addr} {od8 an8 : Option Addr} {sl8 : Array (Option Value)} {oc8 kV8 dc8 pm8 cd8 ct8 : Value}
    {f9 : Addr} {od9 an9 : Option Addr} {sl9 : Array (Option Value)} {oc9 kV9 dc9 pm9 cd9 ct9 : Value}
    {f10 : Addr} {od10 an10 : Option Addr} {sl10 : Array (Option Value)} {oc10 kV10 dc10 pm10 cd10 ct10 : Value}
    {f11 : Addr} {od11 an11 : Option Addr} {sl11 : Array (Option Value)} {oc11 kV11 dc11 pm11 cd11 ct11 : Value}
    {f12 : Addr} {od12 an12 : Option Addr} {sl12 : Array (Option Value)} {oc12 kV12 dc12 pm12 cd12 ct12 : Value}
    {f13 : Addr} {od13 an13 : Option Addr} {sl13 : Array (Option Value)} {oc13 kV13 dc13 pm13 cd13 ct13 : Value}
    {f14 : Addr} {od14 an14 : Option Addr} {sl14 : Array (Option Value)} {oc14 kV14 dc14 pm14 cd14 ct14 : Value}
    {f15 : Addr} {od15 an15 : Option Addr} {sl15 : Array (Option Value)} {oc15 kV15 dc15 pm15 cd15 ct15 : Value}
    {f16 : Addr} {od16 an16 : Option Addr} {sl16 : Array (Option Value)} {oc16 kV16 dc16 pm16 cd16 ct16 : Value}
    {f17 : Addr} {od17 an17 : Option Addr} {sl17 : Array (Option Value)} {oc17 kV17 dc17 pm17 cd17 ct17 : Value}
    {f18 : Addr} {od18 an18 : Option Addr} {sl18 : Array (Option Value)} {oc18 kV18 dc18 pm18 cd18 ct18 : Value}
    {f19 : Addr} {od19 an19 : Option Addr} {sl19 : Array (Option Value)} {oc19 kV19 dc19 pm19 cd19 ct19 : Value}
    {f20 : Addr} {od20 an20 : Option Addr} {sl20 : Array (Option Value)} {oc20 kV20 dc20 pm20 cd20 ct20 : Value}
    {f21 : Addr} {od21 an21 : Option Addr} {sl21 : Array (Option Value)} {oc21 kV21 dc21 pm21 cd21 ct21 : Value}
    {f22 : Addr} {od22 an22 : Option Addr} {sl22 : Array (Option Value)} {oc22 kV22 dc22 pm22 cd22 ct22 : Value}
    {f23 : Addr} {od23 an23 : Option Addr} {sl23 : Array (Option Value)} {oc23 kV23 dc23 pm23 cd23 ct23 : Value}
    {f24 : Addr} {od24 an24 : Option Addr} {sl24 : Array (Option Value)} {oc24 kV24 dc24 pm24 cd24 ct24 : Value}
    {f25 : Addr} {od25 an25 : Option Addr} {sl25 : Array (Option Value)} {oc25 kV25 dc25 pm25 cd25 ct25 : Value}
    {f26 : Addr} {od26 an26 : Option Addr} {sl26 : Array (Option Value)} {oc26 kV26 dc26 pm26 cd26 ct26 : Value}
    {f27 : Addr} {od27 an27 : Option Addr} {sl27 : Array (Option Value)} {oc27 kV27 dc27 pm27 cd27 ct27 : Value}
    {f28 : Addr} {od28 an28 : Option Addr} {sl28 : Array (Option Value)} {oc28 kV28 dc28 pm28 cd28 ct28 : Value}
    {t_LIMIT : Tok}
    (aC_Sketched : PySem.W.nsIn K mainGlobals "Sketched" = some (some (.ref A_Sketched)))
    (pg_Sketched : PySem.W.plainGet K A_Sketched Str.empty = true)
    (hd_Sketched : PySem.W.hasDictIn K A_Sketched = true)
    (po_Sketched : PySem.W.plainOver K A_Sketched = true)
    (sa_Sketched : PySem.W.findIn K (.ref A_Sketched) "__setattr__" = some (some (.builtin "object.__setattr__")))
    (mk_Sketched : PySem.W.makesIn K A_Sketched = true)
    (kc_Sketched : PySem.W.keepIn K (.ref A_Sketched) = true)
    (n_Sketched__person : PySem.W.findIn K (.ref A_Sketched) "_person" = some none)
    (n_Sketched_number : PySem.W.findIn K (.ref A_Sketched) "number" = some none)
    (n_Sketched_new_names : PySem.W.findIn K (.ref A_Sketched) "new_names" = some none)
    (n_Sketched_new_meanings : PySem.W.findIn K (.ref A_Sketched) "new_meanings" = some none)
    (n_Sketched_new_values : PySem.W.findIn K (.ref A_Sketched) "new_values" = some none)
    (a0 : PySem.W.nsIn K mainGlobals "is_number" = some (some (.ref f0)))
    (l0 : K.lookup f0 = some ⟨oc0, od0, .func (PySem.W.fnOf "is_number" "is_number" (defArgs s_is_number) (defBody s_is_number) (defScope s_is_number) .none kV0 dc0 pm0 an0 cd0 ct0), sl0⟩)
    (c0 : PySem.W.codeIn K cd0 "is_number" = true)
    (k0 : PySem.W.keepIn K (.ref f0) = true)
    (a1 : PySem.W.findIn K (.ref A_Sketched) "__init__" = some (some (.ref f1)))
    (i1 : PySem.W.isFn K (.ref f1) = true)
    (l1 : K.lookup f1 = some ⟨oc1, od1, .func (PySem.W.fnOf "__init__" "Sketched.__init__" (defArgs s_Sketched___init__) (defBody s_Sketched___init__) (defScope s_Sketched___init__) .none kV1 dc1 pm1 an1 cd1 ct1), sl1⟩)
    (c1 : PySem.W.codeIn K cd1 "Sketched.__init__" = true)
    (k1 : PySem.W.keepIn K (.ref f1) = true)
    (a2 : PySem.W.findIn K (.ref A_Sketched) "fresh" = some (some (.ref f2)))
    (i2 : PySem.W.isFn K (.ref f2) = true)
    (l2 : K.lookup f2 = some ⟨oc2, od2, .func (PySem.W.fnOf "fresh" "Sketched.fresh" (defArgs s_Sketched_fresh) (defBody s_Sketched_fresh) (defScope s_Sketched_fresh) .none kV2 dc2 pm2 an2 cd2 ct2), sl2⟩)
    (c2 : PySem.W.codeIn K cd2 "Sketched.fresh" = true)
    (k2 : PySem.W.keepIn K (.ref f2) = true)
    (a3 : PySem.W.findIn K (.ref A_Sketched) "made_declaration" = some (some (.ref f3)))
    (i3 : PySem.W.isFn K (.ref f3) = true)
    (l3 : K.lookup f3 = some ⟨oc3, od3, .func (PySem.W.fnOf "made_declaration" "Sketched.made_declaration" (defArgs s_Sketched_made_declaration) (defBody s_Sketched_made_declaration) (defScope s_Sketched_made_declaration) .none kV3 dc3 pm3 an3 cd3 ct3), sl3⟩)
    (c3 : PySem.W.codeIn K cd3 "Sketched.made_declaration" = true)
    (k3 : PySem.W.keepIn K (.ref f3) = true)
    (a4 : PySem.W.findIn K (.ref A_Sketched) "made_use" = some (some (.ref f4)))
    (i4 : PySem.W.isFn K (.ref f4) = true)
    (l4 : K.lookup f4 = some ⟨oc4, od4, .func (PySem.W.fnOf "made_use" "Sketched.made_use" (defArgs s_Sketched_made_use) (defBody s_Sketched_made_use) (defScope s_Sketched_made_use) .none kV4 dc4 pm4 an4 cd4 ct4), sl4⟩)
    (c4 : PySem.W.codeIn K cd4 "Sketched.made_use" = true)
    (k4 : PySem.W.keepIn K (.ref f4) = true)
    (a5 : PySem.W.findIn K (.ref A_Sketched) "expression" = some (some (.ref f5)))
    (i5 : PySem.W.isFn K (.ref f5) = true)
    (l5 : K.lookup f5 = some ⟨oc5, od5, .func (PySem.W.fnOf "expression" "Sketched.expression" (defArgs s_Sketched_expression) (defBody s_Sketched_expression) (defScope s_Sketched_expression) .none kV5 dc5 pm5 an5 cd5 ct5), sl5⟩)
    (c5 : PySem.W.codeIn K cd5 "Sketched.expression" = true)
    (k5 : PySem.W.keepIn K (.ref f5) = true)
    (a6 : PySem.W.findIn K (.ref A_Sketched) "content" = some (some (.ref f6)))
    (i6 : PySem.W.isFn K (.ref f6) = true)
    (l6 : K.lookup f6 = some ⟨oc6, od6, .func (PySem.W.fnOf "content" "Sketched.content" (defArgs s_Sketched_content) (defBody s_Sketched_content) (defScope s_Sketched_content) .none kV6 dc6 pm6 an6 cd6 ct6), sl6⟩)
    (c6 : PySem.W.codeIn K cd6 "Sketched.content" = true)
    (k6 : PySem.W.keepIn K (.ref f6) = true)
    (a7 : PySem.W.nsIn K mainGlobals "sketched" = some (some (.ref f7)))
    (l7 : K.lookup f7 = some ⟨oc7, od7, .func (PySem.W.fnOf "sketched" "sketched" (defArgs s_sketched) (defBody s_sketched) (defScope s_sketched) .none kV7 dc7 pm7 an7 cd7 ct7), sl7⟩)
    (c7 : PySem.W.codeIn K cd7 "sketched" = true)
    (k7 : PySem.W.keepIn K (.ref f7) = true)
    (a8 : PySem.W.nsIn K mainGlobals "expression_things" = some (some (.ref f8)))
    (l8 : K.lookup f8 = some ⟨oc8, od8, .func (PySem.W.fnOf "expression_things" "expression_things" (defArgs s_expression_things) (defBody s_expression_things) (defScope s_expression_things) .none kV8 dc8 pm8 an8 cd8 ct8), sl8⟩)
    (c8 : PySem.W.codeIn K cd8 "expression_things" = true)
    (k8 : PySem.W.keepIn K (.ref f8) = true)
    (a9 : PySem.W.nsIn K mainGlobals "expressions_of" = some (some (.ref f9)))
    (l9 : K.lookup f9 = some ⟨oc9, od9, .func (PySem.W.fnOf "expressions_of" "expressions_of" (defArgs s_expressions_of) (defBody s_expressions_of) (defScope s_expressions_of) .none kV9 dc9 pm9 an9 cd9 ct9), sl9⟩)
    (c9 : PySem.W.codeIn K cd9 "expressions_of" = true)
    (k9 : PySem.W.keepIn K (.ref f9) = true)
    (a10 : PySem.W.nsIn K mainGlobals "blocks_of" = some (some (.ref f10)))
    (l10 : K.lookup f10 = some ⟨oc10, od10, .func (PySem.W.fnOf "blocks_of" "blocks_of" (defArgs s_blocks_of) (defBody s_blocks_of) (defScope s_blocks_of) .none kV10 dc10 pm10 an10 cd10 ct10), sl10⟩)
    (c10 : PySem.W.codeIn K cd10 "blocks_of" = true)
    (k10 : PySem.W.keepIn K (.ref f10) = true)
    (a11 : PySem.W.nsIn K mainGlobals "declared_by" = some (some (.ref f11)))
    (l11 : K.lookup f11 = some ⟨oc11, od11, .func (PySem.W.fnOf "declared_by" "declared_by" (defArgs s_declared_by) (defBody s_declared_by) (defScope s_declared_by) .none kV11 dc11 pm11 an11 cd11 ct11), sl11⟩)
    (c11 : PySem.W.codeIn K cd11 "declared_by" = true)
    (k11 : PySem.W.keepIn K (.ref f11) = true)
    (a12 : PySem.W.nsIn K mainGlobals "things_of" = some (some (.ref f12)))
    (l12 : K.lookup f12 = some ⟨oc12, od12, .func (PySem.W.fnOf "things_of" "things_of" (defArgs s_things_of) (defBody s_things_of) (defScope s_things_of) .none kV12 dc12 pm12 an12 cd12 ct12), sl12⟩)
    (c12 : PySem.W.codeIn K cd12 "things_of" = true)
    (k12 : PySem.W.keepIn K (.ref f12) = true)
    (a13 : PySem.W.nsIn K mainGlobals "_law_draw" = some (some (.ref f13)))
    (l13 : K.lookup f13 = some ⟨oc13, od13, .func (PySem.W.fnOf "_law_draw" "_law_draw" (defArgs s__law_draw) (defBody s__law_draw) (defScope s__law_draw) .none kV13 dc13 pm13 an13 cd13 ct13), sl13⟩)
    (c13 : PySem.W.codeIn K cd13 "_law_draw" = true)
    (k13 : PySem.W.keepIn K (.ref f13) = true)
    (a14 : PySem.W.nsIn K mainGlobals "_law_pick" = some (some (.ref f14)))
    (l14 : K.lookup f14 = some ⟨oc14, od14, .func (PySem.W.fnOf "_law_pick" "_law_pick" (defArgs s__law_pick) (defBody s__law_pick) (defScope s__law_pick) .none kV14 dc14 pm14 an14 cd14 ct14), sl14⟩)
    (c14 : PySem.W.codeIn K cd14 "_law_pick" = true)
    (k14 : PySem.W.keepIn K (.ref f14) = true)
    (a15 : PySem.W.nsIn K mainGlobals "_law_like" = some (some (.ref f15)))
    (l15 : K.lookup f15 = some ⟨oc15, od15, .func (PySem.W.fnOf "_law_like" "_law_like" (defArgs s__law_like) (defBody s__law_like) (defScope s__law_like) .none kV15 dc15 pm15 an15 cd15 ct15), sl15⟩)
    (c15 : PySem.W.codeIn K cd15 "_law_like" = true)
    (k15 : PySem.W.keepIn K (.ref f15) = true)
    (a16 : PySem.W.nsIn K mainGlobals "_law_begin" = some (some (.ref f16)))
    (l16 : K.lookup f16 = some ⟨oc16, od16, .func (PySem.W.fnOf "_law_begin" "_law_begin" (defArgs s__law_begin) (defBody s__law_begin) (defScope s__law_begin) .none kV16 dc16 pm16 an16 cd16 ct16), sl16⟩)
    (c16 : PySem.W.codeIn K cd16 "_law_begin" = true)
    (k16 : PySem.W.keepIn K (.ref f16) = true)
    (a17 : PySem.W.nsIn K mainGlobals "_law_value" = some (some (.ref f17)))
    (l17 : K.lookup f17 = some ⟨oc17, od17, .func (PySem.W.fnOf "_law_value" "_law_value" (defArgs s__law_value) (defBody s__law_value) (defScope s__law_value) .none kV17 dc17 pm17 an17 cd17 ct17), sl17⟩)
    (c17 : PySem.W.codeIn K cd17 "_law_value" = true)
    (k17 : PySem.W.keepIn K (.ref f17) = true)
    (a18 : PySem.W.nsIn K mainGlobals "_law_new" = some (some (.ref f18)))
    (l18 : K.lookup f18 = some ⟨oc18, od18, .func (PySem.W.fnOf "_law_new" "_law_new" (defArgs s__law_new) (defBody s__law_new) (defScope s__law_new) .none kV18 dc18 pm18 an18 cd18 ct18), sl18⟩)
    (c18 : PySem.W.codeIn K cd18 "_law_new" = true)
    (k18 : PySem.W.keepIn K (.ref f18) = true)
    (a19 : PySem.W.nsIn K mainGlobals "_law_use" = some (some (.ref f19)))
    (l19 : K.lookup f19 = some ⟨oc19, od19, .func (PySem.W.fnOf "_law_use" "_law_use" (defArgs s__law_use) (defBody s__law_use) (defScope s__law_use) .none kV19 dc19 pm19 an19 cd19 ct19), sl19⟩)
    (c19 : PySem.W.codeIn K cd19 "_law_use" = true)
    (k19 : PySem.W.keepIn K (.ref f19) = true)
    (a20 : PySem.W.nsIn K mainGlobals "_law_terms" = some (some (.ref f20)))
    (l20 : K.lookup f20 = some ⟨oc20, od20, .func (PySem.W.fnOf "_law_terms" "_law_terms" (defArgs s__law_terms) (defBody s__law_terms) (defScope s__law_terms) .none kV20 dc20 pm20 an20 cd20 ct20), sl20⟩)
    (c20 : PySem.W.codeIn K cd20 "_law_terms" = true)
    (k20 : PySem.W.keepIn K (.ref f20) = true)
    (a21 : PySem.W.nsIn K mainGlobals "_law_term_things" = some (some (.ref f21)))
    (l21 : K.lookup f21 = some ⟨oc21, od21, .func (PySem.W.fnOf "_law_term_things" "_law_term_things" (defArgs s__law_term_things) (defBody s__law_term_things) (defScope s__law_term_things) .none kV21 dc21 pm21 an21 cd21 ct21), sl21⟩)
    (c21 : PySem.W.codeIn K cd21 "_law_term_things" = true)
    (k21 : PySem.W.keepIn K (.ref f21) = true)
    (a22 : PySem.W.nsIn K mainGlobals "_law_things" = some (some (.ref f22)))
    (l22 : K.lookup f22 = some ⟨oc22, od22, .func (PySem.W.fnOf "_law_things" "_law_things" (defArgs s__law_things) (defBody s__law_things) (defScope s__law_things) .none kV22 dc22 pm22 an22 cd22 ct22), sl22⟩)
    (c22 : PySem.W.codeIn K cd22 "_law_things" = true)
    (k22 : PySem.W.keepIn K (.ref f22) = true)
    (a23 : PySem.W.nsIn K mainGlobals "_law_sketch_term" = some (some (.ref f23)))
    (l23 : K.lookup f23 = some ⟨oc23, od23, .func (PySem.W.fnOf "_law_sketch_term" "_law_sketch_term" (defArgs s__law_sketch_term) (defBody s__law_sketch_term) (defScope s__law_sketch_term) .none kV23 dc23 pm23 an23 cd23 ct23), sl23⟩)
    (c23 : PySem.W.codeIn K cd23 "_law_sketch_term" = true)
    (k23 : PySem.W.keepIn K (.ref f23) = true)
    (a24 : PySem.W.nsIn K mainGlobals "_law_sketch" = some (some (.ref f24)))
    (l24 : K.lookup f24 = some ⟨oc24, od24, .func (PySem.W.fnOf "_law_sketch" "_law_sketch" (defArgs s__law_sketch) (defBody s__law_sketch) (defScope s__law_sketch) .none kV24 dc24 pm24 an24 cd24 ct24), sl24⟩)
    (c24 : PySem.W.codeIn K cd24 "_law_sketch" = true)
    (k24 : PySem.W.keepIn K (.ref f24) = true)
    (a25 : PySem.W.nsIn K mainGlobals "_law_any_id" = some (some (.ref f25)))
    (l25 : K.lookup f25 = some ⟨oc25, od25, .func (PySem.W.fnOf "_law_any_id" "_law_any_id" (defArgs s__law_any_id) (defBody s__law_any_id) (defScope s__law_any_id) .none kV25 dc25 pm25 an25 cd25 ct25), sl25⟩)
    (c25 : PySem.W.codeIn K cd25 "_law_any_id" = true)
    (k25 : PySem.W.keepIn K (.ref f25) = true)
    (a26 : PySem.W.nsIn K mainGlobals "_law_any_term" = some (some (.ref f26)))
    (l26 : K.lookup f26 = some ⟨oc26, od26, .func (PySem.W.fnOf "_law_any_term" "_law_any_term" (defArgs s__law_any_term) (defBody s__law_any_term) (defScope s__law_any_term) .none kV26 dc26 pm26 an26 cd26 ct26), sl26⟩)
    (c26 : PySem.W.codeIn K cd26 "_law_any_term" = true)
    (k26 : PySem.W.keepIn K (.ref f26) = true)
    (a27 : PySem.W.nsIn K mainGlobals "_law_any_sketch" = some (some (.ref f27)))
    (l27 : K.lookup f27 = some ⟨oc27, od27, .func (PySem.W.fnOf "_law_any_sketch" "_law_any_sketch" (defArgs s__law_any_sketch) (defBody s__law_any_sketch) (defScope s__law_any_sketch) .none kV27 dc27 pm27 an27 cd27 ct27), sl27⟩)
    (c27 : PySem.W.codeIn K cd27 "_law_any_sketch" = true)
    (k27 : PySem.W.keepIn K (.ref f27) = true)
    (a28 : PySem.W.nsIn K mainGlobals "law" = some (some (.ref f28)))
    (l28 : K.lookup f28 = some ⟨oc28, od28, .func (PySem.W.fnOf "law" "law" (defArgs s_law) (defBody s_law) (defScope s_law) .none kV28 dc28 pm28 an28 cd28 ct28), sl28⟩)
    (c28 : PySem.W.codeIn K cd28 "law" = true)
    (k28 : PySem.W.keepIn K (.ref f28) = true)
    (z_all : PySem.W.nsIn K mainGlobals "all" = some none)
    (z_bool : PySem.W.nsIn K mainGlobals "bool" = some none)
    (z_dict : PySem.W.nsIn K mainGlobals "dict" = some none)
    (z_int : PySem.W.nsIn K mainGlobals "int" = some none)
    (z_isinstance : PySem.W.nsIn K mainGlobals "isinstance" = some none)
    (z_len : PySem.W.nsIn K mainGlobals "len" = some none)
    (z_list : PySem.W.nsIn K mainGlobals "list" = some none)
    (z_range : PySem.W.nsIn K mainGlobals "range" = some none)
    (z_str : PySem.W.nsIn K mainGlobals "str" = some none)
    (z_tuple : PySem.W.nsIn K mainGlobals "tuple" = some none)
    (z_zip : PySem.W.nsIn K mainGlobals "zip" = some none)
    (v_LIMIT : PySem.W.nsIn K mainGlobals "LIMIT" = some (some (.int 1000000 t_LIMIT))) :
    ∃ fd : FuncData, (∀ (s : Shared) (v : Value), BindsTo s fd ⟨[v], []⟩ [("_law_script", v)]) ∧ ∀ base : Heap, K.In base → base.Ns mainGlobals mg → RunAt l.prog w K mg base callerA [] fa fd ["_law_script"] (spLaw K) := by
  have e := hfa.symm.trans (PySem.W.mg_of X G a28)
  cases e
  have mc_Sketched : mg (tx [83, 107, 101, 116, 99, 104, 101, 100]) = some (.ref A_Sketched) := (show (tx [83, 107, 101, 116, 99, 104, 101, 100] : Str) = "Sketched" by decide +kernel) ▸ PySem.W.mg_of X G aC_Sketched
  have lc_Sketched : Cls K A_Sketched := ⟨pg_Sketched, hd_Sketched, po_Sketched, sa_Sketched⟩
  have T : Txt K mg A_Sketched := { b_all := PySem.W.mg_none_of X G z_all, b_bool := PySem.W.mg_none_of X G z_bool, b_dict := PySem.W.mg_none_of X G z_dict, b_int := PySem.W.mg_none_of X G z_int, isinstance := PySem.W.mg_none_of X G z_isinstance, b_len := PySem.W.mg_none_of X G z_len, b_list := PySem.W.mg_none_of X G z_list, b_range := PySem.W.mg_none_of X G z_range, b_str := PySem.W.mg_none_of X G z_str, b_tuple := PySem.W.mg_none_of X G z_tuple, b_zip := PySem.W.mg_none_of X G z_zip, m_Sketched := mc_Sketched, l_Sketched := lc_Sketched, n_Sketched__person := (show (tx [95, 112, 101, 114, 115, 111, 110] : Str) = "_person" by decide +kernel) ▸ n_Sketched__person, n_Sketched_number := (show (tx [110, 117, 109, 98, 101, 114] : Str) = "number" by decide +kernel) ▸ n_Sketched_number, n_Sketched_new_names := (show (tx [110, 101, 119, 95, 110, 97, 109, 101, 115] : Str) = "new_names" by decide +kernel) ▸ n_Sketched_new_names, n_Sketched_new_meanings := (show (tx [110, 101, 119, 95, 109, 101, 97, 110, 105, 110, 103, 115] : Str) = "new_meanings" by decide +kernel) ▸ n_Sketched_new_meanings, n_Sketched_new_values := (show (tx [110, 101, 119, 95, 118, 97, 108, 117, 101, 115] : Str) = "new_values" by decide +kernel) ▸ n_Sketched_new_values, k_LIMIT := ⟨_, PySem.W.mg_of X G v_LIMIT⟩ }
  have F0 := fun_mk (st := s_is_number) l0 c0 k0
  have b0 := F0.binds (ps := ["value", "least", "most"]) fun _ _ _ _ _ _ us hl => match us, hl with | [_, _, _], _ => rfl
  have F1 := fun_mk (st := s_Sketched___init__) l1 c1 k1
  have b1 := F1.binds (ps := ["self", "person", "start"]) fun _ _ _ _ _ _ us hl => match us, hl with | [_, _, _], _ => rfl
  have F2 := fun_mk (st := s_Sketched_fresh) l2 c2 k2
  have b2 := F2.binds (ps := ["self"]) fun _ _ _ _ _ _ us hl => match us, hl with | [_], _ => rfl
  have F3 := fun_mk (st := s_Sketched_made_declaration) l3 c3 k3
  have b3 := F3.binds (ps := ["self", "name"]) fun _ _ _ _ _ _ us hl => match us, hl with | [_, _], _ => rfl
  have F4 := fun_mk (st := s_Sketched_made_use) l4 c4 k4
  have b4 := F4.binds (ps := ["self", "declaration"]) fun _ _ _ _ _ _ us hl => match us, hl with | [_, _], _ => rfl
  have F5 := fun_mk (st := s_Sketched_expression) l5 c5 k5
  have b5 := F5.binds (ps := ["self", "operand"]) fun _ _ _ _ _ _ us hl => match us, hl with | [_, _], _ => rfl
  have F6 := fun_mk (st := s_Sketched_content) l6 c6 k6
  have b6 := F6.binds (ps := ["self", "sketch"]) fun _ _ _ _ _ _ us hl => match us, hl with | [_, _], _ => rfl
  have F7 := fun_mk (st := s_sketched) l7 c7 k7
  have F8 := fun_mk (st := s_expression_things) l8 c8 k8
  have b8 := F8.binds (ps := ["expression"]) fun _ _ _ _ _ _ us hl => match us, hl with | [_], _ => rfl
  have F9 := fun_mk (st := s_expressions_of) l9 c9 k9
  have b9 := F9.binds (ps := ["content"]) fun _ _ _ _ _ _ us hl => match us, hl with | [_], _ => rfl
  have F10 := fun_mk (st := s_blocks_of) l10 c10 k10
  have b10 := F10.binds (ps := ["content"]) fun _ _ _ _ _ _ us hl => match us, hl with | [_], _ => rfl
  have F11 := fun_mk (st := s_declared_by) l11 c11 k11
  have b11 := F11.binds (ps := ["content"]) fun _ _ _ _ _ _ us hl => match us, hl with | [_], _ => rfl
  have F12 := fun_mk (st := s_things_of) l12 c12 k12
  have b12 := F12.binds (ps := ["content"]) fun _ _ _ _ _ _ us hl => match us, hl with | [_], _ => rfl
  have F13 := fun_mk (st := s__law_draw) l13 c13 k13
  have b13 := F13.binds (ps := ["_law_box", "_law_many"]) fun _ _ _ _ _ _ us hl => match us, hl with | [_, _], _ => rfl
  have F14 := fun_mk (st := s__law_pick) l14 c14 k14
  have b14 := F14.binds (ps := ["_law_box", "_law_row"]) fun _ _ _ _ _ _ us hl => match us, hl with | [_, _], _ => rfl
  have F15 := fun_mk (st := s__law_like) l15 c15 k15
  have b15 := F15.binds (ps := ["_law_found", "_law_due"]) fun _ _ _ _ _ _ us hl => match us, hl with | [_, _], _ => rfl
  have F16 := fun_mk (st := s__law_begin) l16 c16 k16
  have b16 := F16.binds (ps := ["_law_script"]) fun _ _ _ _ _ _ us hl => match us, hl with | [_], _ => rfl
  have F17 := fun_mk (st := s__law_value) l17 c17 k17
  have b17 := F17.binds (ps := ["_law_box"]) fun _ _ _ _ _ _ us hl => match us, hl with | [_], _ => rfl
  have F18 := fun_mk (st := s__law_new) l18 c18 k18
  have b18 := F18.binds (ps := ["_law_w"]) fun _ _ _ _ _ _ us hl => match us, hl with | [_], _ => rfl
  have F19 := fun_mk (st := s__law_use) l19 c19 k19
  have b19 := F19.binds (ps := ["_law_w", "_law_label"]) fun _ _ _ _ _ _ us hl => match us, hl with | [_, _], _ => rfl
  have F20 := fun_mk (st := s__law_terms) l20 c20 k20
  have b20 := F20.binds (ps := ["_law_content"]) fun _ _ _ _ _ _ us hl => match us, hl with | [_], _ => rfl
  have F21 := fun_mk (st := s__law_term_things) l21 c21 k21
  have b21 := F21.binds (ps := ["_law_term"]) fun _ _ _ _ _ _ us hl => match us, hl with | [_], _ => rfl
  have F22 := fun_mk (st := s__law_things) l22 c22 k22
  have b22 := F22.binds (ps := ["_law_content"]) fun _ _ _ _ _ _ us hl => match us, hl with | [_], _ => rfl
  have F23 := fun_mk (st := s__law_sketch_term) l23 c23 k23
  have b23 := F23.binds (ps := ["_law_w", "_law_term"]) fun _ _ _ _ _ _ us hl => match us, hl with | [_, _], _ => rfl
  have F24 := fun_mk (st := s__law_sketch) l24 c24 k24
  have b24 := F24.binds (ps := ["_law_sketch_z", "_law_person_z", "_law_start_z"]) fun _ _ _ _ _ _ us hl => match us, hl with | [_, _, _], _ => rfl
  have F25 := fun_mk (st := s__law_any_id) l25 c25 k25
  have b25 := F25.binds (ps := ["_law_box"]) fun _ _ _ _ _ _ us hl => match us, hl with | [_], _ => rfl
  have F26 := fun_mk (st := s__law_any_term) l26 c26 k26
  have b26 := F26.binds (ps := ["_law_box", "_law_deep"]) fun _ _ _ _ _ _ us hl => match us, hl with | [_, _], _ => rfl
  have F27 := fun_mk (st := s__law_any_sketch) l27 c27 k27
  have b27 := F27.binds (ps := ["_law_box"]) fun _ _ _ _ _ _ us hl => match us, hl with | [_], _ => rfl
  have F28 := fun_mk (st := s_law) l28 c28 k28
  have kb0 : KBn K _ ["sketch", "person", "start"] 1 ["person", "start"] (fun us ws => perm [0, 1, 2] (us ++ ws)) (fun vs zs => perm [0, 1, 2] (vs ++ zs)) := ⟨fun s us ws _ h1 h2 => (match us, ws, h1, h2 with | [_], [_, _], _, _ => .of_eq rfl : BindsTo s (PySem.W.fnOf "sketched" "sketched" (defArgs s_sketched) (defBody s_sketched) (defScope s_sketched) .none kV7 dc7 pm7 an7 cd7 ct7) ⟨us, List.zip ["person", "start"] ws⟩ (List.zip ["sketch", "person", "start"] (perm [0, 1, 2] (us ++ ws)))), fun r1 r2 => perm_vals (r1.append r2) _⟩
  have kb1 : KBn K _ ["sketch", "person", "start"] 0 ["start", "person", "sketch"] (fun us ws => perm [2, 1, 0] (us ++ ws)) (fun vs zs => perm [2, 1, 0] (vs ++ zs)) := ⟨fun s us ws _ h1 h2 => (match us, ws, h1, h2 with | [], [_, _, _], _, _ => .of_eq rfl : BindsTo s (PySem.W.fnOf "sketched" "sketched" (defArgs s_sketched) (defBody s_sketched) (defScope s_sketched) .none kV7 dc7 pm7 an7 cd7 ct7) ⟨us, List.zip ["start", "person", "sketch"] ws⟩ (List.zip ["sketch", "person", "start"] (perm [2, 1, 0] (us ++ ws)))), fun r1 r2 => perm_vals (r1.append r2) _⟩
  refine ⟨PySem.W.fnOf "law" "law" (defArgs s_law) (defBody s_law) (defScope s_law) .none kV28 dc28 pm28 an28 cd28 ct28, fun s v => .of_eq rfl, fun base _ _ => ?_⟩
  have D_is_number : Def l.prog w K mg base "is_number" ["value", "least", "most"] 1 false S_is_number := ⟨fun ds M Q h => bodyS_len h, _, _, ok_is_number F0 T, PySem.W.mg_of X G a0, F0.kp, b0⟩
  have D_Sketched___init__ : Mak l.prog w K mg base [83, 107, 101, 116, 99, 104, 101, 100] ["self", "person", "start"] 1 S_Sketched___init__ := ⟨fun ds M Q h => bodyS_len h, A_Sketched, _, _, mc_Sketched, ⟨mk_Sketched, a1, i1, kc_Sketched⟩, ok_Sketched___init__ F1 T, b1⟩
  have D_Sketched_fresh : Met l.prog w K mg base [83, 107, 101, 116, 99, 104, 101, 100] "fresh" ["self"] 1 true S_Sketched_fresh := ⟨fun ds M Q h => bodyS_len h, A_Sketched, _, _, mc_Sketched, lc_Sketched, ⟨a2, i2, k2⟩, ok_Sketched_fresh F2 T, b2⟩
  have D_Sketched_made_declaration : Met l.prog w K mg base [83, 107, 101, 116, 99, 104, 101, 100] "made_declaration" ["self", "name"] 2 true S_Sketched_made_declaration := ⟨fun ds M Q h => bodyS_len h, A_Sketched, _, _, mc_Sketched, lc_Sketched, ⟨a3, i3, k3⟩, ok_Sketched_made_declaration F3 T D_Sketched_fresh, b3⟩
  have D_Sketched_made_use : Met l.prog w K mg base [83, 107, 101, 116, 99, 104, 101, 100] "made_use" ["self", "declaration"] 2 true S_Sketched_made_use := ⟨fun ds M Q h => bodyS_len h, A_Sketched, _, _, mc_Sketched, lc_Sketched, ⟨a4, i4, k4⟩, ok_Sketched_made_use F4 T D_Sketched_fresh, b4⟩
  have G5 := okr_Sketched_expression (P := l.prog) (w := w) (base := base) F5 T ⟨a5, i5, k5⟩ b5 D_is_number D_Sketched_fresh D_Sketched_made_use 8
  have D_Sketched_expression : Met l.prog w K mg base [83, 107, 101, 116, 99, 104, 101, 100] "expression" ["self", "operand"] 11 true S_Sketched_expression := ⟨fun ds M Q h => bodyS_len h, A_Sketched, _, _, mc_Sketched, lc_Sketched, ⟨a5, i5, k5⟩, G5, b5⟩
  have D_Sketched_content : Met l.prog w K mg base [83, 107, 101, 116, 99, 104, 101, 100] "content" ["self", "sketch"] 12 true S_Sketched_content := ⟨fun ds M Q h => bodyS_len h, A_Sketched, _, _, mc_Sketched, lc_Sketched, ⟨a6, i6, k6⟩, ok_Sketched_content F6 T D_Sketched_expression D_Sketched_fresh D_Sketched_made_declaration D_Sketched_made_use, b6⟩
  have K_sketched_0 : DefK l.prog w K mg base "sketched" ["sketch", "person", "start"] 13 true S_sketched 1 ["person", "start"] [0, 1, 2] := ⟨fun ds M Q h => bodyS_len h, _, _, ok_sketched F7 T D_Sketched___init__ D_Sketched_content, PySem.W.mg_of X G a7, F7.kp, kb0⟩
  have K_sketched_1 : DefK l.prog w K mg base "sketched" ["sketch", "person", "start"] 13 true S_sketched 0 ["start", "person", "sketch"] [2, 1, 0] := ⟨fun ds M Q h => bodyS_len h, _, _, ok_sketched F7 T D_Sketched___init__ D_Sketched_content, PySem.W.mg_of X G a7, F7.kp, kb1⟩
  have G8 := okr_expression_things (P := l.prog) (w := w) (base := base) F8 T (PySem.W.mg_of X G a8) b8  8
  have D_expression_things : Def l.prog w K mg base "expression_things" ["expression"] 9 false S_expression_things := ⟨fun ds M Q h => bodyS_len h, _, _, G8, PySem.W.mg_of X G a8, F8.kp, b8⟩
  have D_expressions_of : Def l.prog w K mg base "expressions_of" ["content"] 1 false S_expressions_of := ⟨fun ds M Q h => bodyS_len h, _, _, ok_expressions_of F9 T, PySem.W.mg_of X G a9, F9.kp, b9⟩
  have D_blocks_of : Def l.prog w K mg base "blocks_of" ["content"] 1 false S_blocks_of := ⟨fun ds M Q h => bodyS_len h, _, _, ok_blocks_of F10 T, PySem.W.mg_of X G a10, F10.kp, b10⟩
  have D_declared_by : Def l.prog w K mg base "declared_by" ["content"] 1 false S_declared_by := ⟨fun ds M Q h => bodyS_len h, _, _, ok_declared_by F11 T, PySem.W.mg_of X G a11, F11.kp, b11⟩
  have D_things_of : Def l.prog w K mg base "things_of" ["content"] 10 false S_things_of := ⟨fun ds M Q h => bodyS_len h, _, _, ok_things_of F12 T D_expressions_of D_expression_things D_blocks_of, PySem.W.mg_of X G a12, F12.kp, b12⟩
  have D__law_draw : Def l.prog w K mg base "_law_draw" ["_law_box", "_law_many"] 1 false drawS := ⟨fun ds M Q h => by obtain ⟨_, _, _, e, _⟩ := drawS_e h; rw [e]; rfl, _, _, ok__law_draw F13 T, PySem.W.mg_of X G a13, F13.kp, b13⟩
  have D__law_pick : Def l.prog w K mg base "_law_pick" ["_law_box", "_law_row"] 2 false S__law_pick := ⟨fun ds M Q h => bodyS_len h, _, _, ok__law_pick F14 T D__law_draw, PySem.W.mg_of X G a14, F14.kp, b14⟩
  have G15 := okr__law_like (P := l.prog) (w := w) (base := base) F15 T (PySem.W.mg_of X G a15) b15  12
  have D__law_like : Def l.prog w K mg base "_law_like" ["_law_found", "_law_due"] 13 false S__law_like := ⟨fun ds M Q h => bodyS_len h, _, _, G15, PySem.W.mg_of X G a15, F15.kp, b15⟩
  have GB : FnOk l.prog w K mg base CX0 1 f16 _ ["_law_script"] (spBag K) := ok__law_begin F16 T
  have D__law_value : Def l.prog w K mg base "_law_value" ["_law_box"] 3 false S__law_value := ⟨fun ds M Q h => bodyS_len h, _, _, ok__law_value F17 T D__law_pick D__law_draw, PySem.W.mg_of X G a17, F17.kp, b17⟩
  have D__law_new : Def l.prog w K mg base "_law_new" ["_law_w"] 1 true S__law_new := ⟨fun ds M Q h => bodyS_len h, _, _, ok__law_new F18 T, PySem.W.mg_of X G a18, F18.kp, b18⟩
  have D__law_use : Def l.prog w K mg base "_law_use" ["_law_w", "_law_label"] 2 true S__law_use := ⟨fun ds M Q h => bodyS_len h, _, _, ok__law_use F19 T D__law_new, PySem.W.mg_of X G a19, F19.kp, b19⟩
  have D__law_terms : Def l.prog w K mg base "_law_terms" ["_law_content"] 1 false S__law_terms := ⟨fun ds M Q h => bodyS_len h, _, _, ok__law_terms F20 T, PySem.W.mg_of X G a20, F20.kp, b20⟩
  have G21 := okr__law_term_things (P := l.prog) (w := w) (base := base) F21 T (PySem.W.mg_of X G a21) b21  8
  have D__law_term_things : Def l.prog w K mg base "_law_term_things" ["_law_term"] 9 false S__law_term_things := ⟨fun ds M Q h => bodyS_len h, _, _, G21, PySem.W.mg_of X G a21, F21.kp, b21⟩
  have D__law_things : Def l.prog w K mg base "_law_things" ["_law_content"] 10 false S__law_things := ⟨fun ds M Q h => bodyS_len h, _, _, ok__law_things F22 T D__law_terms D__law_term_things, PySem.W.mg_of X G a22, F22.kp, b22⟩
  have G23 := okr__law_sketch_term (P := l.prog) (w := w) (base := base) F23 T (PySem.W.mg_of X G a23) b23 D__law_new 8
  have D__law_sketch_term : Def l.prog w K mg base "_law_sketch_term" ["_law_w", "_law_term"] 10 true S__law_sketch_term := ⟨fun ds M Q h => bodyS_len h, _, _, G23, PySem.W.mg_of X G a23, F23.kp, b23⟩
  have D__law_sketch : Def l.prog w K mg base "_law_sketch" ["_law_sketch_z", "_law_person_z", "_law_start_z"] 11 true S__law_sketch := ⟨fun ds M Q h => bodyS_len h, _, _, ok__law_sketch F24 T D__law_new D__law_use D__law_sketch_term, PySem.W.mg_of X G a24, F24.kp, b24⟩
  have D__law_any_id : Def l.prog w K mg base "_law_any_id" ["_law_box"] 3 false S__law_any_id := ⟨fun ds M Q h => bodyS_len h, _, _, ok__law_any_id F25 T D__law_pick D__law_draw, PySem.W.mg_of X G a25, F25.kp, b25⟩
  have G26 := okr__law_any_term (P := l.prog) (w := w) (base := base) F26 T (PySem.W.mg_of X G a26) b26 D__law_draw D__law_value D__law_pick D__law_any_id 6
  have D__law_any_term : Def l.prog w K mg base "_law_any_term" ["_law_box", "_law_deep"] 10 false S__law_any_term := ⟨fun ds M Q h => bodyS_len h, _, _, G26, PySem.W.mg_of X G a26, F26.kp, b26⟩
  have D__law_any_sketch : Def l.prog w K mg base "_law_any_sketch" ["_law_box"] 11 false S__law_any_sketch := ⟨fun ds M Q h => bodyS_len h, _, _, ok__law_any_sketch F27 T D__law_draw D__law_pick D__law_any_term D__law_any_id, PySem.W.mg_of X G a27, F27.kp, b27⟩
  exact ok_law F28 T GB (PySem.W.mg_of X G a16) F16.kp b16 D__law_sketch D__law_things D__law_any_sketch D__law_pick D__law_draw D_things_of D_blocks_of D_declared_by D__law_like K_sketched_0 K_sketched_1 hL
end Law
open PySem PySem.W PyProof.Rows in
set_option maxRecDepth 100000 in
set_option maxHeartbeats 0 in
theorem PySem.Challenge.cw_piercednames_k41_sketches_put_in_holds : PySem.Challenge.rw_piercednames_k41_sketches_put_in.Holds := by
  w_on; o_law; k_head; (case hw => w_witness2)
  k_fill
  refine HI.law_walk_at (l := PySem.Challenge.rw_piercednames_k41_sketches_put_in) (n := 63) (x := "_law_script") rfl (by decide) (by decide) rfl (fun w h Y => PySem.W.kIn_of Y) ?F
  case F =>
    intro w mg fa h KX G hmg
    refine' Law.all_mk KX G hmg Law.law_holds ?aC_Sketched ?pg_Sketched ?hd_Sketched ?po_Sketched ?sa_Sketched ?mk_Sketched ?kc_Sketched ?n_Sketched__person ?n_Sketched_number ?n_Sketched_new_names ?n_Sketched_new_meanings ?n_Sketched_new_values ?a0 ?l0 ?c0 ?k0 ?a1 ?i1 ?l1 ?c1 ?k1 ?a2 ?i2 ?l2 ?c2 ?k2 ?a3 ?i3 ?l3 ?c3 ?k3 ?a4 ?i4 ?l4 ?c4 ?k4 ?a5 ?i5 ?l5 ?c5 ?k5 ?a6 ?i6 ?l6 ?c6 ?k6 ?a7 ?l7 ?c7 ?k7 ?a8 ?l8 ?c8 ?k8 ?a9 ?l9 ?c9 ?k9 ?a10 ?l10 ?c10 ?k10 ?a11 ?l11 ?c11 ?k11 ?a12 ?l12 ?c12 ?k12 ?a13 ?l13 ?c13 ?k13 ?a14 ?l14 ?c14 ?k14 ?a15 ?l15 ?c15 ?k15 ?a16 ?l16 ?c16 ?k16 ?a17 ?l17 ?c17 ?k17 ?a18 ?l18 ?c18 ?k18 ?a19 ?l19 ?c19 ?k19 ?a20 ?l20 ?c20 ?k20 ?a21 ?l21 ?c21 ?k21 ?a22 ?l22 ?c22 ?k22 ?a23 ?l23 ?c23 ?k23 ?a24 ?l24 ?c24 ?k24 ?a25 ?l25 ?c25 ?k25 ?a26 ?l26 ?c26 ?k26 ?a27 ?l27 ?c27 ?k27 ?a28 ?l28 ?c28 ?k28 ?z_all ?z_bool ?z_dict ?z_int ?z_isinstance ?z_len ?z_list ?z_range ?z_str ?z_tuple ?z_zip ?v_LIMIT
    (case aC_Sketched => k_is)
    (case pg_Sketched => k_is)
    (case hd_Sketched => k_is)
    (case po_Sketched => k_is)
    (case sa_Sketched => k_is)
    (case mk_Sketched => k_is)
    (case kc_Sketched => k_is)
    (case n_Sketched__person => k_is)
    (case n_Sketched_number => k_is)
    (case n_Sketched_new_names => k_is)
    (case n_Sketched_new_meanings => k_is)
    (case n_Sketched_new_values => k_is)
    (case a0 => k_is)
    (case l0 => k_is)
    (case c0 => k_is)
    (case k0 => k_is)
    (case a1 => k_is)
    (case i1 => k_is)
    (case l1 => k_is)
    (case c1 => k_is)
    (case k1 => k_is)
    (case a2 => k_is)
    (case i2 => k_is)
    (case l2 => k_is)
    (case c2 => k_is)
    (case k2 => k_is)
    (case a3 => k_is)
    (case i3 => k_is)
    (case l3 => k_is)
    (case c3 => k_is)
    (case k3 => k_is)
    (case a4 => k_is)
    (case i4 => k_is)
    (case l4 => k_is)
    (case c4 => k_is)
    (case k4 => k_is)
    (case a5 => k_is)
    (case i5 => k_is)
    (case l5 => k_is)
    (case c5 => k_is)
    (case k5 => k_is)
    (case a6 => k_is)
    (case i6 => k_is)
    (case l6 => k_is)
    (case c6 => k_is)
    (case k6 => k_is)
    (case a7 => k_is)
    (case l7 => k_is)
    (case c7 => k_is)
    (case k7 => k_is)
    (case a8 => k_is)
    (case l8 => k_is)
    (case c8 => k_is)
    (case k8 => k_is)
    (case a9 => k_is)
    (case l9 => k_is)
    (case c9 => k_is)
    (case k9 => k_is)
    (case a10 => k_is)
    (case l10 => k_is)
    (case c10 => k_is)
    (case k10 => k_is)
    (case a11 => k_is)
    (case l11 => k_is)
    (case c11 => k_is)
    (case k11 => k_is)
    (case a12 => k_is)
    (case l12 => k_is)
    (case c12 => k_is)
    (case k12 => k_is)
    (case a13 => k_is)
    (case l13 => k_is)
    (case c13 => k_is)
    (case k13 => k_is)
    (case a14 => k_is)
    (case l14 => k_is)
    (case c14 => k_is)
    (case k14 => k_is)
    (case a15 => k_is)
    (case l15 => k_is)
    (case c15 => k_is)
    (case k15 => k_is)
    (case a16 => k_is)
    (case l16 => k_is)
    (case c16 => k_is)
    (case k16 => k_is)
    (case a17 => k_is)
    (case l17 => k_is)
    (case c17 => k_is)
    (case k17 => k_is)
    (case a18 => k_is)
    (case l18 => k_is)
    (case c18 => k_is)
    (case k18 => k_is)
    (case a19 => k_is)
    (case l19 => k_is)
    (case c19 => k_is)
    (case k19 => k_is)
    (case a20 => k_is)
    (case l20 => k_is)
    (case c20 => k_is)
    (case k20 => k_is)
    (case a21 => k_is)
    (case l21 => k_is)
    (case c21 => k_is)
    (case k21 => k_is)
    (case a22 => k_is)
    (case l22 => k_is)
    (case c22 => k_is)
    (case k22 => k_is)
    (case a23 => k_is)
    (case l23 => k_is)
    (case c23 => k_is)
    (case k23 => k_is)
    (case a24 => k_is)
    (case l24 => k_is)
    (case c24 => k_is)
    (case k24 => k_is)
    (case a25 => k_is)
    (case l25 => k_is)
    (case c25 => k_is)
    (case k25 => k_is)
    (case a26 => k_is)
    (case l26 => k_is)
    (case c26 => k_is)
    (case k26 => k_is)
    (case a27 => k_is)
    (case l27 => k_is)
    (case c27 => k_is)
    (case k27 => k_is)
    (case a28 => k_is)
    (case l28 => k_is)
    (case c28 => k_is)
    (case k28 => k_is)
    (case z_all => k_is)
    (case z_bool => k_is)
    (case z_dict => k_is)
    (case z_int => k_is)
    (case z_isinstance => k_is)
    (case z_len => k_is)
    (case z_list => k_is)
    (case z_range => k_is)
    (case z_str => k_is)
    (case z_tuple => k_is)
    (case z_zip => k_is)
    (case v_LIMIT => k_is)
