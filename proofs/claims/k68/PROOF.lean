import PyProof.Rows.All
import Wide.All
import OpenK.AllK
import Wide.FinOn
import HandS.ForMost
import HandS.IsInst
import HandS.Walk
import HandS.WideBits
import HandS.TupAny
import HandS.Flow
import HandS.Style
import HandS.Zip
import HandS.Deep
import HandS.Conv
import HandS.SortInts
import HandS.EndBits
import KE.GoesEnum
import HandS.Defaults
import HandS.Head0
import HandS.Head1
import HandS.Head2
import HandS.HeadEnd
import HandS.HeadHook1
import HandS.HeadHook2
import PySem.Challenge.RW_showneither_k68_whole_checks_and_faults
set_option Elab.async false
set_option linter.all false
set_option maxRecDepth 100000
set_option maxHeartbeats 0
/-! Core 1: pure data D, results, stores, what stands for what in the heap. -/
namespace Ev1
open PySem L2

/-- pure data; ref: a shared list that may change -/
inductive D where
  | non | bl (b : Bool) | int (i : Int) | str (x : Str) | lst (xs : List D) | tup (xs : List D) | ref (n : Nat) | scr (ns : List Int)

mutual
def D.py : D → PyData
  | .non => .none
  | .bl b => .bool b
  | .int i => .int i
  | .str x => .str x
  | .lst xs => .list (D.pys xs)
  | .tup xs => .tuple (D.pys xs)
  | .ref _ => .none
  | .scr _ => .none
def D.pys : List D → List PyData
  | [] => []
  | x :: xs => D.py x :: D.pys xs
end
/-- no shared list in it, texts of plain signs, at most k deep -/
@[simp] def D.ok : Nat → D → Bool
  | _, .non => true
  | _, .bl _ => true
  | _, .int _ => true
  | _, .str x => PyData.strOk x
  | k + 1, .lst xs => xs.all (D.ok k)
  | k + 1, .tup xs => xs.all (D.ok k)
  | 0, .lst _ => false
  | 0, .tup _ => false
  | _, .ref _ => false
  | _, .scr _ => false

/-- a cell of a store: a list as it stands; none: no longer to be changed -/
abbrev Cell := List D
structure S where
  l : List Cell
  g : List Cell
/-- what an expression comes to: a value; a new list that is nobody else's; a list of the def's own, by its number -/
inductive Rs where
  | v (d : D)
  | own (xs : List D)
  | loc (n : Nat)
abbrev Env := List (Option Rs)

/-- M: what may be changed; la, ga: the cells; H0: the heap as it was when the def was entered -/
structure Wd where
  M : Addr → Prop
  la : List Addr
  ga : List Addr
  H0 : Hp

mutual
inductive Rp (K : PySem.W.Frag) (H : Hp) (w : Wd) : V → D → Prop
  | non : Rp K H w .non .non
  | bl (b : Bool) : Rp K H w (.bl b) (.bl b)
  | int (i : Int) : Rp K H w (.int i) (.int i)
  | str (x : Str) : Rp K H w (.str x) (.str x)
  | lst {a : Addr} {vs : List V} {ds : List D} : H a = some (.lst vs) → ¬ w.M a → RpAll K H w vs ds → Rp K H w (.ref a) (.lst ds)
  | tup {a : Addr} {vs : List V} {ds : List D} : SqT K H a vs → RpAll K H w vs ds → Rp K H w (.ref a) (.tup ds)
  | ref {a : Addr} {n : Nat} : w.ga[n]? = some a → Rp K H w (.ref a) (.ref n)
  /-- the script: locked, or one of the module's own -/
  | scr {a : Addr} {ns : List Int} : (∃ o, H a = some (.frz o (.lst (ns.map V.int)))) ∨ SqL K (fun _ => none) a (ns.map V.int) → Rp K H w (.ref a) (.scr ns)
inductive RpAll (K : PySem.W.Frag) (H : Hp) (w : Wd) : List V → List D → Prop
  | nil : RpAll K H w [] []
  | cons {v : V} {vs : List V} {d : D} {ds : List D} : Rp K H w v d → RpAll K H w vs ds → RpAll K H w (v :: vs) (d :: ds)
end

/-- from one moment to a later one: all that is there stays there; what is no cell of the stores is as it was -/
structure Keep (H : Hp) (w : Wd) (H' : Hp) (w' : Wd) : Prop where
  is : ∀ a o, H a = some o → ∃ o', H' a = some o'
  obj : ∀ a o, H a = some o → a ∉ w.la ++ w.ga → H' a = some o
  nc : ∀ a o, H a = some o → a ∉ w.la ++ w.ga → a ∉ w'.la ++ w'.ga
  nm : ∀ a o, H a = some o → ¬ w.M a → ¬ w'.M a
  mm : ∀ a o, H a = some o → w.M a → w'.M a
  la : ∀ (n : Nat) (a : Addr), w.la[n]? = some a → w'.la[n]? = some a
  ga : ∀ (n : Nat) (a : Addr), w.ga[n]? = some a → w'.ga[n]? = some a
  h0 : w'.H0 = w.H0
/-- cells are lists that no plain data has in it -/
structure Wk (H : Hp) (w : Wd) : Prop where
  nd : (w.la ++ w.ga).Nodup
  inM : ∀ a ∈ w.la ++ w.ga, w.M a
  isL : ∀ a, w.M a → ∃ vs, H a = some (.lst vs)
  fr : ∀ a ∈ w.la, w.H0 a = none
  back : ∀ a, H a = none → w.H0 a = none

section
variable {K : PySem.W.Frag} {H H' H'' : Hp} {w w' w'' : Wd}
theorem Keep.refl (H : Hp) (w : Wd) : Keep H w H w := ⟨fun _ o h => ⟨o, h⟩, fun _ _ h _ => h, fun _ _ _ h => h, fun _ _ _ h => h, fun _ _ _ h => h, fun _ _ h => h, fun _ _ h => h, rfl⟩
theorem Keep.trans (a : Keep H w H' w') (b : Keep H' w' H'' w'') : Keep H w H'' w'' where
  is := fun x o h => let ⟨o', h'⟩ := a.is x o h; b.is x o' h'
  obj := fun x o h m => b.obj x o (a.obj x o h m) (a.nc x o h m)
  nc := fun x o h m => b.nc x o (a.obj x o h m) (a.nc x o h m)
  nm := fun x o h m => let ⟨o', h'⟩ := a.is x o h; b.nm x o' h' (a.nm x o h m)
  mm := fun x o h m => let ⟨o', h'⟩ := a.is x o h; b.mm x o' h' (a.mm x o h m)
  la := fun n x h => b.la n x (a.la n x h)
  ga := fun n x h => b.ga n x (a.ga n x h)
  h0 := b.h0.trans a.h0
theorem Keep.back (k : Keep H w H' w') {a : Addr} (h : H' a = none) : H a = none := by
  cases e : H a with
  | none => rfl
  | some o =>
    obtain ⟨o', h'⟩ := k.is a o e
    rw [h] at h'; cases h'
theorem Wk.tup (L : Wk H w) {a : Addr} {vs : List V} (h : H a = some (.tup vs)) : ¬ w.M a := fun m => by
  obtain ⟨us, e⟩ := L.isL a m
  rw [h] at e; cases e
theorem Wk.frz (L : Wk H w) {a : Addr} {o : Obj} {u : HO} (h : H a = some (.frz o u)) : ¬ w.M a := fun m => by
  obtain ⟨us, e⟩ := L.isL a m
  rw [h] at e; cases e
theorem Wk.out (L : Wk H w) {a : Addr} (h : ¬ w.M a) : a ∉ w.la ++ w.ga := fun z => h (L.inM a z)
theorem Keep.plain (k : Keep H w H' w') (L : Wk H w) {a : Addr} {o : HO} (h : H a = some o) (m : ¬ w.M a) : H' a = some o := k.obj a o h (L.out m)
theorem Keep.sqT (k : Keep H w H' w') (L : Wk H w) {a : Addr} {vs : List V} (h : SqT K H a vs) : SqT K H' a vs := by
  rcases h with (h | ⟨o, h⟩) | h
  · exact .inl (.inl (k.plain L h (L.tup h)))
  · exact .inl (.inr ⟨o, k.plain L h (L.frz h)⟩)
  · exact .inr h
theorem sqL_scr {a : Addr} {vs : List V} (h : (∃ o, H a = some (.frz o (.lst vs))) ∨ SqL K (fun _ => none) a vs) : SqL K H a vs := by
  rcases h with h | ((h | ⟨o, h⟩) | h)
  · exact .inl (.inr h)
  · cases h
  · cases h
  · exact .inr h
mutual
theorem Rp.keep (k : Keep H w H' w') (L : Wk H w) : ∀ {v : V} {d : D}, Rp K H w v d → Rp K H' w' v d
  | _, _, .non => .non
  | _, _, .bl b => .bl b
  | _, _, .int i => .int i
  | _, _, .str x => .str x
  | _, _, .lst h m a => .lst (k.plain L h m) (k.nm _ _ h m) (RpAll.keep k L a)
  | _, _, .tup h a => .tup (k.sqT L h) (RpAll.keep k L a)
  | _, _, .ref h => .ref (k.ga _ _ h)
  | _, _, .scr h => .scr (h.elim (fun ⟨o, q⟩ => .inl ⟨o, k.plain L q (L.frz q)⟩) .inr)
theorem RpAll.keep (k : Keep H w H' w') (L : Wk H w) : ∀ {vs : List V} {ds : List D}, RpAll K H w vs ds → RpAll K H' w' vs ds
  | _, _, .nil => .nil
  | _, _, .cons h t => .cons (Rp.keep k L h) (RpAll.keep k L t)
end
theorem RpAll.length : ∀ {vs : List V} {ds : List D}, RpAll K H w vs ds → vs.length = ds.length
  | _, _, .nil => rfl
  | _, _, .cons _ t => by simp [RpAll.length t]
theorem RpAll.append : ∀ {vs us : List V} {ds es : List D}, RpAll K H w vs ds → RpAll K H w us es → RpAll K H w (vs ++ us) (ds ++ es)
  | _, _, _, _, .nil, s => s
  | _, _, _, _, .cons h t, s => .cons h (RpAll.append t s)
theorem RpAll.get : ∀ {vs : List V} {ds : List D} {i : Nat} {d : D}, RpAll K H w vs ds → ds[i]? = some d → ∃ v, vs[i]? = some v ∧ Rp K H w v d
  | _, _, _, _, .nil, e => by simp at e
  | _, _, 0, _, .cons h _, e => by simp at e; subst e; exact ⟨_, rfl, h⟩
  | _, _, i + 1, d, .cons _ t, e => by
    obtain ⟨v, h1, h2⟩ := RpAll.get (i := i) (d := d) t (by simpa using e)
    exact ⟨v, by simpa using h1, h2⟩
theorem RpAll.getV : ∀ {vs : List V} {ds : List D} {i : Nat} {v : V}, RpAll K H w vs ds → vs[i]? = some v → ∃ d, ds[i]? = some d ∧ Rp K H w v d
  | _, _, _, _, .nil, e => by simp at e
  | _, _, 0, _, .cons h _, e => by simp at e; subst e; exact ⟨_, rfl, h⟩
  | _, _, i + 1, v, .cons _ t, e => by
    obtain ⟨d, h1, h2⟩ := RpAll.getV (i := i) (v := v) t (by simpa using e)
    exact ⟨d, by simpa using h1, h2⟩
theorem RpAll.take : ∀ {vs : List V} {ds : List D} (n : Nat), RpAll K H w vs ds → RpAll K H w (vs.take n) (ds.take n)
  | _, _, 0, _ => .nil
  | _, _, _ + 1, .nil => .nil
  | _, _, n + 1, .cons h t => .cons h (RpAll.take n t)
theorem RpAll.drop : ∀ {vs : List V} {ds : List D} (n : Nat), RpAll K H w vs ds → RpAll K H w (vs.drop n) (ds.drop n)
  | _, _, 0, h => h
  | _, _, _ + 1, .nil => .nil
  | _, _, n + 1, .cons _ t => RpAll.drop n t
theorem RpAll.set {v : V} {d : D} (r : Rp K H w v d) : ∀ {vs : List V} {ds : List D} (i : Nat), RpAll K H w vs ds → RpAll K H w (vs.set i v) (ds.set i d)
  | _, _, _, .nil => .nil
  | _, _, 0, .cons _ t => .cons r t
  | _, _, i + 1, .cons q t => .cons q (RpAll.set r i t)
theorem RpAll.rev {vs : List V} {ds : List D} (h : RpAll K H w vs ds) : RpAll K H w vs.reverse ds.reverse := by
  induction vs generalizing ds with
  | nil => cases h; exact .nil
  | cons v vs ih =>
    cases h with
    | cons a b =>
      rw [List.reverse_cons, List.reverse_cons]
      exact (ih b).append (.cons a .nil)
theorem RpAll.dropLast {vs : List V} {ds : List D} (h : RpAll K H w vs ds) : RpAll K H w vs.dropLast ds.dropLast := by
  have e := h.length
  rw [List.dropLast_eq_take, List.dropLast_eq_take, e]
  exact h.take _
theorem RpAll.flat {vs : List V} {ds : List D} (h : RpAll K H w vs ds) : ∀ k : Nat, RpAll K H w (List.replicate k vs).flatten (List.replicate k ds).flatten
  | 0 => .nil
  | k + 1 => by
    rw [List.replicate_succ, List.flatten_cons, List.replicate_succ, List.flatten_cons]
    exact h.append (RpAll.flat h k)
/-- lists of ints, of truth values, of texts: what stands for them -/
theorem RpAll.ints : ∀ {vs : List V} {ns : List Int}, RpAll K H w vs (ns.map D.int) → vs = ns.map V.int
  | _, [], h => by cases h; rfl
  | _, _ :: _, h => by
    cases h with
    | cons a b => cases a; rw [RpAll.ints b]; rfl
theorem RpAll.of_ints : ∀ (ns : List Int), RpAll K H w (ns.map V.int) (ns.map D.int)
  | [] => .nil
  | n :: ns => .cons (.int n) (RpAll.of_ints ns)
theorem RpAll.bls : ∀ {vs : List V} {bs : List Bool}, RpAll K H w vs (bs.map D.bl) → vs = bs.map V.bl
  | _, [], h => by cases h; rfl
  | _, _ :: _, h => by
    cases h with
    | cons a b => cases a; rw [RpAll.bls b]; rfl
theorem RpAll.strs : ∀ {vs : List V} {xs : List Str}, RpAll K H w vs (xs.map D.str) → vs = xs.map V.str
  | _, [], h => by cases h; rfl
  | _, _ :: _, h => by
    cases h with
    | cons a b => cases a; rw [RpAll.strs b]; rfl
/-- plain data is the layer's data -/
theorem ok_dp : ∀ (k : Nat) {v : V} {d : D}, Rp K H w v d → D.ok k d = true → Dp K H v d.py := by
  intro k
  induction k with
  | zero =>
    intro v d h e
    cases h with
    | non => exact .non
    | bl b => exact .bl b
    | int i => exact .int i
    | str x => exact .str x
    | lst h m a => simp [D.ok] at e
    | tup h a => simp [D.ok] at e
    | ref h => simp [D.ok] at e
    | scr h => simp [D.ok] at e
  | succ k ih =>
    have all : ∀ {vs : List V} {ds : List D}, RpAll K H w vs ds → ds.all (D.ok k) = true → DpAll K H vs (D.pys ds) := by
      intro vs ds h e
      induction ds generalizing vs with
      | nil => cases h; exact .nil
      | cons d ds ih2 =>
        cases h with
        | cons a b =>
          simp only [List.all_cons, Bool.and_eq_true] at e
          exact .cons (ih a e.1) (ih2 b e.2)
    intro v d h e
    cases h with
    | non => exact .non
    | bl b => exact .bl b
    | int i => exact .int i
    | str x => exact .str x
    | lst h m a =>
      simp only [D.ok] at e
      exact .lst (SqL.of h) (all a e)
    | tup h a =>
      simp only [D.ok] at e
      exact .tup h (all a e)
    | ref h => simp [D.ok] at e
    | scr h => simp [D.ok] at e
theorem pys_lay {k : Nat} (ih : ∀ d : D, D.ok k d = true → d.py.canLay0 = true ∧ d.py.depth ≤ k) : ∀ ds : List D, ds.all (D.ok k) = true → PyData.canLayAll0 (D.pys ds) = true ∧ PyData.depthAll (D.pys ds) ≤ k
  | [], _ => by simp [D.pys, PyData.canLayAll0, PyData.depthAll]
  | d :: ds, e => by
    simp only [List.all_cons, Bool.and_eq_true] at e
    have h1 := ih d e.1
    have h2 := pys_lay ih ds e.2
    simp only [D.pys, PyData.canLayAll0, PyData.depthAll, h1.1, h2.1, Bool.and_self, true_and]
    omega
theorem ok_lay : ∀ (k : Nat) (d : D), D.ok k d = true → d.py.canLay0 = true ∧ d.py.depth ≤ k
  | k, .non, _ => by simp [D.py, PyData.canLay0, PyData.depth]
  | k, .bl _, _ => by simp [D.py, PyData.canLay0, PyData.depth]
  | k, .int _, _ => by simp [D.py, PyData.canLay0, PyData.depth]
  | k, .str x, e => by
    have e' : PyData.strOk x = true := by cases k <;> simpa [D.ok] using e
    simp [D.py, PyData.canLay0, PyData.depth, e']
  | 0, .lst _, e => by simp [D.ok] at e
  | 0, .tup _, e => by simp [D.ok] at e
  | k, .ref _, e => by cases k <;> simp [D.ok] at e
  | k, .scr _, e => by cases k <;> simp [D.ok] at e
  | k + 1, .lst xs, e => by
    have h := pys_lay (ok_lay k) xs (by simpa only [D.ok] using e)
    simp only [D.py, PyData.canLay0, PyData.depth]
    exact ⟨h.1, by omega⟩
  | k + 1, .tup xs, e => by
    have h := pys_lay (ok_lay k) xs (by simpa only [D.ok] using e)
    simp only [D.py, PyData.canLay0, PyData.depth]
    exact ⟨h.1, by omega⟩
theorem ok_shaped {d : D} (e : D.ok 12 d = true) : SeqAt.shaped d.py = true := by
  have h := ok_lay 12 d e
  unfold SeqAt.shaped
  rw [Bool.and_eq_true]
  exact ⟨h.1, decide_eq_true (by omega)⟩
end

/-! ### == of plain data, as Python tells it -/
mutual
@[simp] def D.eqb : D → D → Bool
  | .non, .non => true
  | .bl a, .bl b => a == b
  | .bl a, .int j => (if a then 1 else 0) == j
  | .int i, .bl b => i == (if b then 1 else 0)
  | .int i, .int j => i == j
  | .str x, .str y => x == y
  | .lst xs, .lst ys => D.eqbs xs ys
  | .tup xs, .tup ys => D.eqbs xs ys
  | .non, .bl _ | .non, .int _ | .non, .str _ | .non, .lst _ | .non, .tup _ | .non, .ref _ | .non, .scr _ => false
  | .bl _, .non | .bl _, .str _ | .bl _, .lst _ | .bl _, .tup _ | .bl _, .ref _ | .bl _, .scr _ => false
  | .int _, .non | .int _, .str _ | .int _, .lst _ | .int _, .tup _ | .int _, .ref _ | .int _, .scr _ => false
  | .str _, .non | .str _, .bl _ | .str _, .int _ | .str _, .lst _ | .str _, .tup _ | .str _, .ref _ | .str _, .scr _ => false
  | .lst _, .non | .lst _, .bl _ | .lst _, .int _ | .lst _, .str _ | .lst _, .tup _ | .lst _, .ref _ | .lst _, .scr _ => false
  | .tup _, .non | .tup _, .bl _ | .tup _, .int _ | .tup _, .str _ | .tup _, .lst _ | .tup _, .ref _ | .tup _, .scr _ => false
  | .ref _, _ => false
  | .scr _, _ => false
@[simp] def D.eqbs : List D → List D → Bool
  | [], [] => true
  | x :: xs, y :: ys => D.eqb x y && D.eqbs xs ys
  | [], _ :: _ => false
  | _ :: _, [] => false
end
theorem eqbs_py (k : Nat) (ih : ∀ d e : D, D.ok k d = true → D.ok k e = true → D.eqb d e = PyData.eqv d.py e.py) : ∀ ds es : List D, ds.all (D.ok k) = true → es.all (D.ok k) = true → D.eqbs ds es = PyData.eqvAll (D.pys ds) (D.pys es)
  | [], [], _, _ => by simp [D.eqbs, D.pys, PyData.eqvAll]
  | [], _ :: _, _, _ => by simp [D.eqbs, D.pys, PyData.eqvAll]
  | _ :: _, [], _, _ => by simp [D.eqbs, D.pys, PyData.eqvAll]
  | d :: ds, e :: es, h1, h2 => by
    simp only [List.all_cons, Bool.and_eq_true] at h1 h2
    simp only [D.eqbs, D.pys, PyData.eqvAll, ih d e h1.1 h2.1, eqbs_py k ih ds es h1.2 h2.2]
theorem eqb_py : ∀ (k : Nat) (d e : D), D.ok k d = true → D.ok k e = true → D.eqb d e = PyData.eqv d.py e.py := by
  intro k
  induction k with
  | zero =>
    intro d e h1 h2
    cases d <;> cases e <;> first | (simp [D.ok] at h1; done) | (simp [D.ok] at h2; done) | simp [D.eqb, D.py, PyData.eqv]
  | succ k ih =>
    intro d e h1 h2
    cases d <;> cases e <;> first
      | (simp [D.ok] at h1; done)
      | (simp [D.ok] at h2; done)
      | (simp only [D.ok] at h1 h2; simp only [D.eqb, D.py, PyData.eqv]; exact eqbs_py k ih _ _ h1 h2)
      | simp [D.eqb, D.py, PyData.eqv]
end Ev1
/-! Core 2: the state, what an expression's denotation promises, values and operators. -/
namespace Ev1
open PySem L2

@[simp] def Rs.fz : Rs → Rs
  | .own xs => .v (.lst xs)
  | r => r
/-- .. that has come since H0 -/
def RsE (K : PySem.W.Frag) (H0 H : Hp) (w : Wd) (x : V) : Rs → Prop
  | .v d => Rp K H w x d
  | .loc n => ∃ a, x = .ref a ∧ w.la[n]? = some a
  | .own xs => ∃ a vs, x = .ref a ∧ H0 a = none ∧ H a = some (.lst vs) ∧ RpAll K H w vs xs ∧ w.M a ∧ a ∉ w.la ++ w.ga
/-- .. that is no new list -/
def RsN (K : PySem.W.Frag) (H : Hp) (w : Wd) (x : V) : Rs → Prop
  | .v d => Rp K H w x d
  | .loc n => ∃ a, x = .ref a ∧ w.la[n]? = some a
  | .own _ => False
def Cells (K : PySem.W.Frag) (H : Hp) (w : Wd) (as : List Addr) (cs : List Cell) : Prop :=
  as.length = cs.length ∧ ∀ (n : Nat) (c : Cell), cs[n]? = some c → ∃ a vs, as[n]? = some a ∧ H a = some (.lst vs) ∧ RpAll K H w vs c

structure SR (K : PySem.W.Frag) (H : Hp) (w : Wd) (σ : St) (ρ : Env) (s : S) : Prop where
  len : σ.length = ρ.length
  env : ∀ (i : Nat) (r : Rs), ρ[i]? = some (some r) → ∃ x, σ[i]? = some (some x) ∧ RsN K H w x r
  loc : Cells K H w w.la s.l
  glb : Cells K H w w.ga s.g
  wk : Wk H w

section
variable {K : PySem.W.Frag} {H0 H H' : Hp} {w0 w w' : Wd} {σ : St} {ρ : Env} {s : S}
theorem RsN.keep (k : Keep H w H' w') (L : Wk H w) {x : V} {r : Rs} (h : RsN K H w x r) : RsN K H' w' x r := by
  cases r with
  | v d => exact Rp.keep k L h
  | loc n => obtain ⟨a, e, q⟩ := h; exact ⟨a, e, k.la _ _ q⟩
  | own xs => exact h.elim
theorem RsN.e {x : V} {r : Rs} (h : RsN K H w x r) : RsE K H0 H w x r := by
  cases r with
  | v d => exact h
  | loc n => exact h
  | own xs => exact h.elim
theorem RsE.back (k : Keep H0 w0 H w) {x : V} {r : Rs} (h : RsE K H H' w' x r) : RsE K H0 H' w' x r := by
  cases r with
  | v d => exact h
  | loc n => exact h
  | own xs => obtain ⟨a, vs, e, h0, h1⟩ := h; exact ⟨a, vs, e, k.back h0, h1⟩
theorem Cells.keep (k : Keep H w H' w') (L : Wk H w) {as : List Addr} {cs : List Cell} (h : Cells K H w as cs) (st : ∀ a ∈ as, H' a = H a) : Cells K H' w' as cs := by
  refine ⟨h.1, fun n c e => ?_⟩
  obtain ⟨a, vs, h1, h2, h3⟩ := h.2 n c e
  exact ⟨a, vs, h1, by rw [st a (List.mem_of_getElem? h1)]; exact h2, h3.keep k L⟩
/-- to a later moment at which the cells stand as they stood -/
theorem SR.move (R : SR K H w σ ρ s) (k : Keep H w H' w') (e1 : w'.la = w.la) (e2 : w'.ga = w.ga) (st : ∀ a ∈ w.la ++ w.ga, H' a = H a) (L : Wk H' w') : SR K H' w' σ ρ s := by
  refine ⟨R.len, fun i r e => ?_, ?_, ?_, L⟩
  · obtain ⟨x, h1, h2⟩ := R.env i r e
    exact ⟨x, h1, h2.keep k R.wk⟩
  · rw [e1]; exact R.loc.keep k R.wk fun a ha => st a (List.mem_append_left _ ha)
  · rw [e2]; exact R.glb.keep k R.wk fun a ha => st a (List.mem_append_right _ ha)
def Wd.add (w : Wd) (p : Addr) : Wd := { w with M := fun a => w.M a ∨ a = p }
def Wd.rem (w : Wd) (p : Addr) : Wd := { w with M := fun a => w.M a ∧ a ≠ p }
theorem SR.newAny (R : SR K H w σ ρ s) {p : Addr} (np : H p = none) {o : HO} : Keep H w (upd H p o) w ∧ SR K (upd H p o) w σ ρ s := by
  have k : Keep H w (upd H p o) w := ⟨fun a u h => ⟨u, by rw [upd_ne (ne_of_none h np)]; exact h⟩, fun a u h _ => by rw [upd_ne (ne_of_none h np)]; exact h, fun _ _ _ h => h, fun _ _ _ h => h, fun _ _ _ h => h, fun _ _ h => h, fun _ _ h => h, rfl⟩
  have st : ∀ a, w.M a → (upd H p o) a = H a := fun a m => by
    obtain ⟨vs, e⟩ := R.wk.isL a m
    rw [upd_ne (ne_of_none e np)]
  refine ⟨k, R.move k rfl rfl (fun a ha => st a (R.wk.inM a ha)) ⟨R.wk.nd, R.wk.inM, fun a m => ?_, R.wk.fr, fun a h => R.wk.back a (k.back h)⟩⟩
  obtain ⟨vs, e⟩ := R.wk.isL a m
  exact ⟨vs, by rw [st a m]; exact e⟩
/-- a new list, that may change -/
theorem SR.newL (R : SR K H w σ ρ s) {p : Addr} (np : H p = none) {vs : List V} : Keep H w (upd H p (.lst vs)) (w.add p) ∧ SR K (upd H p (.lst vs)) (w.add p) σ ρ s ∧ p ∉ w.la ++ w.ga := by
  have hm : ¬ w.M p := fun m => by
    obtain ⟨us, e⟩ := R.wk.isL p m
    rw [np] at e; cases e
  have k : Keep H w (upd H p (.lst vs)) (w.add p) := ⟨fun a u h => ⟨u, by rw [upd_ne (ne_of_none h np)]; exact h⟩, fun a u h _ => by rw [upd_ne (ne_of_none h np)]; exact h, fun _ _ _ h => h,
    fun a u h m z => z.elim m fun z => ne_of_none h np z, fun _ _ _ h => .inl h, fun _ _ h => h, fun _ _ h => h, rfl⟩
  have hn : p ∉ w.la ++ w.ga := R.wk.out hm
  refine ⟨k, R.move k rfl rfl (fun a ha => ?_) ⟨R.wk.nd, fun a ha => .inl (R.wk.inM a ha), fun a m => ?_, R.wk.fr, fun a h => R.wk.back a (k.back h)⟩, hn⟩
  · rw [upd_ne (show a ≠ p from fun z => hn (z ▸ ha))]
  · rcases m with m | m
    · obtain ⟨us, e⟩ := R.wk.isL a m
      exact ⟨us, by rw [upd_ne (ne_of_none e np)]; exact e⟩
    · subst m; exact ⟨vs, upd_same⟩
/-- a list that is new since H0 is kept as plain data from here on -/
theorem Keep.rem (k : Keep H0 w0 H w) {p : Addr} (h0 : H0 p = none) : Keep H0 w0 H (w.rem p) :=
  ⟨k.is, k.obj, k.nc, fun a o h m z => k.nm a o h m z.1, fun a o h m => ⟨k.mm a o h m, ne_of_none h h0⟩, k.la, k.ga, k.h0⟩
theorem Rp.rem {p : Addr} {v : V} {d : D} (h : Rp K H w v d) : Rp K H (w.rem p) v d := by
  refine Rp.rec (motive_1 := fun v d _ => Rp K H (w.rem p) v d) (motive_2 := fun vs ds _ => RpAll K H (w.rem p) vs ds) .non .bl .int .str (fun h m _ r => .lst h (fun z => m z.1) r) (fun h _ r => .tup h r) (fun h => .ref h) (fun h => .scr h) .nil (fun _ _ a b => .cons a b) h
theorem RpAll.rem {p : Addr} {vs : List V} {ds : List D} (h : RpAll K H w vs ds) : RpAll K H (w.rem p) vs ds := by
  refine RpAll.rec (motive_1 := fun v d _ => Rp K H (w.rem p) v d) (motive_2 := fun vs ds _ => RpAll K H (w.rem p) vs ds) .non .bl .int .str (fun h m _ r => .lst h (fun z => m z.1) r) (fun h _ r => .tup h r) (fun h => .ref h) (fun h => .scr h) .nil (fun _ _ a b => .cons a b) h
theorem RsN.rem {p : Addr} {x : V} {r : Rs} (h : RsN K H w x r) : RsN K H (w.rem p) x r := by
  cases r with
  | v d => exact Rp.rem h
  | loc n => exact h
  | own xs => exact h.elim
theorem SR.rem (R : SR K H w σ ρ s) {p : Addr} (hp : p ∉ w.la ++ w.ga) : SR K H (w.rem p) σ ρ s := by
  have cc : ∀ {as : List Addr} {cs : List Cell}, Cells K H w as cs → Cells K H (w.rem p) as cs := fun h => ⟨h.1, fun n c e => by
    obtain ⟨a, vs, h1, h2, h3⟩ := h.2 n c e
    exact ⟨a, vs, h1, h2, h3.rem⟩⟩
  refine ⟨R.len, fun i r e => ?_, cc R.loc, cc R.glb, R.wk.nd, fun a ha => ⟨R.wk.inM a ha, fun z => hp (z ▸ ha)⟩, fun a m => R.wk.isL a m.1, R.wk.fr, R.wk.back⟩
  obtain ⟨x, h1, h2⟩ := R.env i r e
  exact ⟨x, h1, h2.rem⟩
theorem SR.freeze (R : SR K H w σ ρ s) (k : Keep H0 w0 H w) {x : V} {r : Rs} (h : RsE K H0 H w x r) : ∃ w2, Keep H0 w0 H w2 ∧ SR K H w2 σ ρ s ∧ RsN K H w2 x r.fz := by
  cases r with
  | v d => exact ⟨w, k, R, h⟩
  | loc n => exact ⟨w, k, R, h⟩
  | own xs =>
    obtain ⟨a, vs, rfl, h0, h1, h2, h3, h4⟩ := h
    exact ⟨_, k.rem h0, R.rem h4, Rp.lst h1 (fun z => z.2 rfl) h2.rem⟩
/-- the items of a list or a tuple: true: a list -/
@[simp] def Rs.seq (s : S) : Rs → Option (Bool × List D)
  | .v (.lst xs) => some (true, xs)
  | .v (.tup xs) => some (false, xs)
  | .v (.ref n) => s.g[n]?.map fun c => (true, c)
  | .v (.scr ns) => some (true, ns.map D.int)
  | .loc n => s.l[n]?.map fun c => (true, c)
  | _ => none
/-- .. where it stands -/
theorem SR.seq (R : SR K H w σ ρ s) {x : V} {r : Rs} (h : RsN K H w x r) {b : Bool} {xs : List D} (e : r.seq s = some (b, xs)) :
    ∃ a vs, x = .ref a ∧ RpAll K H w vs xs ∧ if b = true then SqL K H a vs else SqT K H a vs := by
  cases r with
  | own xs => exact h.elim
  | loc n =>
    obtain ⟨a, rfl, ha⟩ := h
    simp only [Rs.seq, Option.map_eq_some_iff] at e
    obtain ⟨c, hc, e⟩ := e
    cases e
    obtain ⟨a', vs, h1, h2, h3⟩ := R.loc.2 n _ hc
    rw [ha] at h1; cases h1
    exact ⟨a, vs, rfl, h3, SqL.of h2⟩
  | v d =>
    cases d with
    | lst ys =>
      cases e
      cases h with
      | lst h1 h2 h3 => exact ⟨_, _, rfl, h3, SqL.of h1⟩
    | tup ys =>
      cases e
      cases h with
      | tup h1 h2 => exact ⟨_, _, rfl, h2, h1⟩
    | ref n =>
      cases h with
      | ref ha =>
        simp only [Rs.seq, Option.map_eq_some_iff] at e
        obtain ⟨c, hc, e⟩ := e
        cases e
        obtain ⟨a', vs, h1, h2, h3⟩ := R.glb.2 n _ hc
        rw [ha] at h1; cases h1
        exact ⟨_, vs, rfl, h3, SqL.of h2⟩
    | scr ns =>
      cases e
      cases h with
      | scr h1 => exact ⟨_, _, rfl, RpAll.of_ints ns, sqL_scr h1⟩
    | non => cases e
    | bl _ => cases e
    | int _ => cases e
    | str _ => cases e
end

/-! ### the program as it stands, a def's names, where one stands -/
structure Pr where
  P : Program
  w : World
  K : PySem.W.Frag
  mg : Str → Option Value
  base : Heap
structure Cst where
  N : List Str
  sc : Scope
  fn : Str → Bool
structure Good (p : Pr) (c : Cst) (n : Nat) (X : Cx) : Prop where
  prog : X.prog = p.P
  wd : X.w = p.w
  K : X.K = p.K
  mg : X.mg = p.mg
  base : X.base = p.base
  N : X.N = c.N
  sc : X.env.scope = c.sc
  fn : X.fn = c.fn
  calm : X.calm = true
  room : Room n X.A
  gd : X.A.guards = some []
  xe : X.xe = fun _ _ => False
  nd : c.N.Nodup

def wE (X : Cx) (e : Expr) : TE := fun σ H Q => ∃ t, PE X e t ∧ t σ H Q
theorem wE_ok {X : Cx} {e : Expr} : PE X e (wE X e) := ⟨fun pins s σ H Q I ⟨t, h, q⟩ => h.run pins s σ H Q I q⟩
def wT (X : Cx) (e : Expr) : TT := fun σ H Q => ∃ t, PT X e t ∧ t σ H Q
theorem wT_ok {X : Cx} {e : Expr} : PT X e (wT X e) := ⟨fun pins s σ H Q I ⟨t, h, q⟩ => h.run pins s σ H Q I q⟩
def wA (X : Cx) (es : List Expr) : TA := fun σ H Q => ∃ t, PA X es t ∧ t σ H Q
theorem wA_ok {X : Cx} {es : List Expr} : PA X es (wA X es) := ⟨fun pos pins s σ H Q I ⟨t, h, q⟩ => h.run pos pins s σ H Q I q⟩
def wSs (X : Cx) (st : List Stmt) : TS := fun D σ H => ∃ t, PSs X st t ∧ t D σ H
theorem wSs_ok {X : Cx} {st : List Stmt} : PSs X st (wSs X st) := ⟨fun pins s σ H D I ⟨t, h, q⟩ => h.run pins s σ H D I q⟩
def wS (X : Cx) (st : Stmt) : TS := fun D σ H => ∃ t, PS X st t ∧ t D σ H
theorem wS_ok {X : Cx} {st : Stmt} : PS X st (wS X st) := ⟨fun pins s σ H D I ⟨t, h, q⟩ => h.run pins s σ H D I q⟩

abbrev Den := Env → S → Option (Rs × S)
abbrev DenT := Env → S → Option (Bool × S)
abbrev DenA := Env → S → Option (List Rs × S)
/-- an expression comes to what its denotation says -/
def SE (p : Pr) (c : Cst) (n : Nat) (e : Expr) (d : Den) : Prop :=
  ∀ X, Good p c n X → ∀ (ρ : Env) (s : S) (r : Rs) (s' : S), d ρ s = some (r, s') → ∀ (σ : St) (H : Hp) (w : Wd) (Q : VK), SR p.K H w σ ρ s →
    (∀ x H' w', Keep H w H' w' → SR p.K H' w' σ ρ s' → RsE p.K H H' w' x r → Q x H') → wE X e σ H Q
def ST (p : Pr) (c : Cst) (n : Nat) (e : Expr) (d : DenT) : Prop :=
  ∀ X, Good p c n X → ∀ (ρ : Env) (s : S) (b : Bool) (s' : S), d ρ s = some (b, s') → ∀ (σ : St) (H : Hp) (w : Wd) (Q : Bool → Hp → Prop), SR p.K H w σ ρ s →
    (∀ H' w', Keep H w H' w' → SR p.K H' w' σ ρ s' → Q b H') → wT X e σ H Q
inductive RsNs (K : PySem.W.Frag) (H : Hp) (w : Wd) : List V → List Rs → Prop
  | nil : RsNs K H w [] []
  | cons {x : V} {xs : List V} {r : Rs} {rs : List Rs} : RsN K H w x r → RsNs K H w xs rs → RsNs K H w (x :: xs) (r :: rs)
theorem RsNs.keep {K : PySem.W.Frag} {H H' : Hp} {w w' : Wd} (k : Keep H w H' w') (L : Wk H w) : ∀ {xs : List V} {rs : List Rs}, RsNs K H w xs rs → RsNs K H' w' xs rs
  | _, _, .nil => .nil
  | _, _, .cons h t => .cons (h.keep k L) (t.keep k L)
/-- arguments: each new list is kept as plain data -/
def SA (p : Pr) (c : Cst) (n : Nat) (es : List Expr) (d : DenA) : Prop :=
  ∀ X, Good p c n X → ∀ (ρ : Env) (s : S) (rs : List Rs) (s' : S), d ρ s = some (rs, s') → ∀ (σ : St) (H : Hp) (w : Wd) (Q : List V → Hp → Prop), SR p.K H w σ ρ s →
    (∀ xs H' w', Keep H w H' w' → SR p.K H' w' σ ρ s' → RsNs p.K H' w' xs rs → Q xs H') → wA X es σ H Q

section
variable {p : Pr} {c : Cst} {n : Nat} {e e1 e2 : Expr} {es : List Expr} {d d1 d2 : Den} {da : DenA} {pos : Pos}
/-- with new lists kept as plain data -/
theorem SE.fz (h : SE p c n e d) {X : Cx} (g : Good p c n X) {ρ : Env} {s s' : S} {r : Rs} (e' : d ρ s = some (r, s')) {σ : St} {H : Hp} {w : Wd} {Q : VK} (R : SR p.K H w σ ρ s)
    (q : ∀ x H' w', Keep H w H' w' → SR p.K H' w' σ ρ s' → RsN p.K H' w' x r.fz → Q x H') : wE X e σ H Q :=
  h X g ρ s r s' e' σ H w Q R fun x H' w' k R' rx => by
    obtain ⟨w2, k2, R2, r2⟩ := R'.freeze k rx
    exact q x H' w2 k2 R2 r2
@[simp] def aNil : DenA := fun _ s => some ([], s)
@[simp] def aCons (d : Den) (da : DenA) : DenA := fun ρ s => (d ρ s).bind fun a => (da ρ a.2).bind fun b => some (a.1.fz :: b.1, b.2)
theorem sa_nil : SA p c n [] aNil := by
  intro X g ρ s rs s' e σ H w Q R q
  cases e
  exact ⟨_, pa_nil, q [] H w (Keep.refl H w) R .nil⟩
theorem sa_cons (h : SE p c n e d) (ha : SA p c n es da) (hs : ∀ env, starEach (e :: es) env = (false, eval e env) :: starEach es env := by intro _; rfl) : SA p c n (e :: es) (aCons d da) := by
  intro X g ρ s rs s' e' σ H w Q R q
  simp only [aCons, Option.bind_eq_some_iff] at e'
  obtain ⟨⟨r1, s1⟩, e1, ⟨rs2, s2⟩, e2, e3⟩ := e'
  cases e3
  refine ⟨_, pa_cons wE_ok wA_ok (hs _), ?_⟩
  refine h.fz g e1 R fun x H1 w1 k1 R1 r1 => ?_
  exact ha X g ρ s1 rs2 s2 e2 σ H1 w1 _ R1 fun xs H2 w2 k2 R2 r2 => q _ _ _ (k1.trans k2) R2 (.cons (r1.keep k2 R1.wk) r2)

/-- a two-place operation on values keeps to f -/
def Ok2 (p : Pr) (f : S → Rs → Rs → Option Rs) (rl : R2) : Prop :=
  ∀ {H : Hp} {w : Wd} {σ : St} {ρ : Env} {s : S} {x y : V} {r1 r2 r : Rs} {Q : VK}, SR p.K H w σ ρ s → RsN p.K H w x r1 → RsN p.K H w y r2 → f s r1 r2 = some r →
    (∀ z H' w', Keep H w H' w' → SR p.K H' w' σ ρ s → RsE p.K H H' w' z r → Q z H') → rl x y H Q
@[simp] def dBin (f : S → Rs → Rs → Option Rs) (d1 d2 : Den) : Den := fun ρ s => (d1 ρ s).bind fun a => (d2 ρ a.2).bind fun b => (f b.2 a.1.fz b.1.fz).bind fun r => some (r, b.2)
theorem bin_core {f : S → Rs → Rs → Option Rs} {rl : R2} (hf : Ok2 p f rl) (h1 : SE p c n e1 d1) (h2 : SE p c n e2 d2) {X : Cx} (g : Good p c n X) {ρ : Env} {s s' : S} {r : Rs}
    (e' : dBin f d1 d2 ρ s = some (r, s')) {σ : St} {H : Hp} {w : Wd} {Q : VK} (R : SR p.K H w σ ρ s) (q : ∀ x H' w', Keep H w H' w' → SR p.K H' w' σ ρ s' → RsE p.K H H' w' x r → Q x H') :
    tOp rl (wE X e1) (wE X e2) σ H Q := by
  simp only [dBin, Option.bind_eq_some_iff] at e'
  obtain ⟨⟨r1, s1⟩, a1, ⟨r2, s2⟩, a2, r3, a3, a4⟩ := e'
  cases a4
  refine h1.fz g a1 R fun x H1 w1 k1 R1 q1 => ?_
  refine h2.fz g a2 R1 fun y H2 w2 k2 R2 q2 => ?_
  exact hf R2 (q1.keep k2 R1.wk) q2 a3 fun z H3 w3 k3 R3 q3 => q z H3 w3 ((k1.trans k2).trans k3) R3 (q3.back (k1.trans k2))
theorem se_op {op : Operator} {f : S → Rs → Rs → Option Rs} {rl : R2} (ho : ∀ X, Good p c n X → OpR X (binaryOp op) rl) (hf : Ok2 p f rl) (h1 : SE p c n e1 d1) (h2 : SE p c n e2 d2) : SE p c n (.BinOp e1 op e2 pos) (dBin f d1 d2) := by
  intro X g ρ s r s' e' σ H w Q R q
  exact ⟨_, pe_op (ho X g) wE_ok wE_ok, bin_core hf h1 h2 g e' R q⟩
theorem se_cmp {op : CmpOp} {f : S → Rs → Rs → Option Rs} {rl : R2} (ho : ∀ X, Good p c n X → OpR X (compareOp op) rl) (hf : Ok2 p f rl) (h1 : SE p c n e1 d1) (h2 : SE p c n e2 d2)
    (hm : behindInMarks op e2 = false := by first | exact nobehind _ (by decide) (by decide) | rfl) : SE p c n (.Compare e1 [op] [e2] pos) (dBin f d1 d2) := by
  intro X g ρ s r s' e' σ H w Q R q
  exact ⟨_, pe_cmpR (ho X g) wE_ok wE_ok hm, bin_core hf h1 h2 g e' R q⟩
theorem se_ix {f : S → Rs → Rs → Option Rs} {rl : R2} (ho : ∀ X, Good p c n X → IxR X rl) (hf : Ok2 p f rl) (h1 : SE p c n e1 d1) (h2 : SE p c n e2 d2) (hs : PlainIx e2 := by exact fun _ _ => rfl) : SE p c n (.Subscript e1 e2 pos) (dBin f d1 d2) := by
  intro X g ρ s r s' e' σ H w Q R q
  exact ⟨_, pe_ix (ho X g) wE_ok wE_ok hs, bin_core hf h1 h2 g e' R q⟩

/-! ### names and constants -/
@[simp] def dVar (i : Nat) : Den := fun ρ s => (ρ[i]?.bind id).map fun r => (r, s)
theorem se_var (i : Nat) {x : Str} (hN : c.N[i]? = some x) (hv : Vis c.sc x) (hd : (x == ("__debug__" : Str)) = false := by decide) (hcd : (x == ("__classdict__" : Str)) = false := by decide) : SE p c n (.Name x pos) (dVar i) := by
  intro X g ρ s r s' e' σ H w Q R q
  simp only [dVar, Option.map_eq_some_iff, Option.bind_eq_some_iff, id] at e'
  obtain ⟨r0, ⟨o, h1, h2⟩, h3⟩ := e'
  cases h3
  subst h2
  obtain ⟨v, hv1, hv2⟩ := R.env i _ h1
  exact ⟨_, pe_var (by rw [g.N]; exact hN) (by rw [g.sc]; exact hv) hd hcd, v, hv1, q v H w (Keep.refl H w) R hv2.e⟩
@[simp] def dC (d : D) : Den := fun _ s => some (.v d, s)
theorem se_int {i j} : SE p c n (.Constant (.int i) j pos) (dC (.int i)) := fun X g ρ s r s' e' σ H w Q R q => by cases e'; exact ⟨_, pe_int, q _ _ _ (Keep.refl H w) R (.int i)⟩
theorem se_bl {b j} : SE p c n (.Constant (.bool b) j pos) (dC (.bl b)) := fun X g ρ s r s' e' σ H w Q R q => by cases e'; exact ⟨_, pe_bl, q _ _ _ (Keep.refl H w) R (.bl b)⟩
theorem se_non {j} : SE p c n (.Constant .none j pos) (dC .non) := fun X g ρ s r s' e' σ H w Q R q => by cases e'; exact ⟨_, pe_non, q _ _ _ (Keep.refl H w) R .non⟩
theorem se_str {x j} : SE p c n (.Constant (.str x) j pos) (dC (.str x)) := fun X g ρ s r s' e' σ H w Q R q => by cases e'; exact ⟨_, pe_str, q _ _ _ (Keep.refl H w) R (.str x)⟩
/-- a module's constant -/
theorem se_glob {x : Str} {u : Value} {v : V} {dd : D} (hg : c.sc.names.lookup x = some .globalImplicit) (hm : p.mg x = some u) (r : RelV v u) (hr : ∀ (H : Hp) (w : Wd), Rp p.K H w v dd) (hd : (x == ("__debug__" : Str)) = false := by decide) :
    SE p c n (.Name x pos) (dC dd) := fun X g ρ s rr s' e' σ H w Q R q => by
  cases e'
  exact ⟨_, pe_glob (by show X.env.scope.names.lookup x = _; rw [g.sc]; exact hg) (by rw [g.mg]; exact hm) r hd, q _ _ _ (Keep.refl H w) R (hr H w)⟩

/-! ### operators on ints -/
@[simp] def fI (C : Int → Int → Bool) (g : Int → Int → D) : S → Rs → Rs → Option Rs := fun _ a b => match a, b with
  | .v (.int i), .v (.int j) => if C i j = true then some (.v (g i j)) else none
  | _, _ => none
theorem ok_I {C : Int → Int → Bool} {Cp : Int → Int → Prop} {g : Int → Int → D} {gV : Int → Int → V} (hC : ∀ i j, C i j = true → Cp i j) (hg : ∀ i j (H : Hp) (w : Wd), Rp p.K H w (gV i j) (g i j)) : Ok2 p (fI C g) (rI Cp gV) := by
  intro H w σ ρ s x y r1 r2 r Q R h1 h2 e q
  unfold fI at e
  split at e
  · split at e
    · cases e
      cases h1
      cases h2
      exact ⟨_, _, rfl, rfl, hC _ _ (by assumption), q _ H w (Keep.refl H w) R (hg _ _ H w)⟩
    · cases e
  · cases e
@[simp] def fI0 (g : Int → Int → D) : S → Rs → Rs → Option Rs := fun _ a b => match a, b with
  | .v (.int i), .v (.int j) => some (.v (g i j))
  | _, _ => none
theorem ok_I0 {g : Int → Int → D} {gV : Int → Int → V} (hg : ∀ i j (H : Hp) (w : Wd), Rp p.K H w (gV i j) (g i j)) : Ok2 p (fI0 g) (rI0 gV) := by
  intro H w σ ρ s x y r1 r2 r Q R h1 h2 e q
  unfold fI0 at e
  split at e
  · cases e
    cases h1
    cases h2
    exact ⟨_, _, rfl, rfl, q _ H w (Keep.refl H w) R (hg _ _ H w)⟩
  · cases e
@[simp] def dSub (d1 d2 : Den) : Den := fun ρ s => dBin (fI0 fun i j => .int (i - j)) d1 d2 ρ s
theorem se_sub (h1 : SE p c n e1 d1) (h2 : SE p c n e2 d2) : SE p c n (.BinOp e1 .Sub e2 pos) (dSub d1 d2) :=
  se_op (fun X _ => op_sub) (ok_I0 fun _ _ _ _ => .int _) h1 h2
def sm64 (i : Int) : Bool := decide (i.natAbs < 18446744073709551616)
@[simp] def dMul (d1 d2 : Den) : Den := fun ρ s => dBin (fI (fun i j => sm64 i || sm64 j) fun i j => .int (i * j)) d1 d2 ρ s
theorem se_mul (h1 : SE p c n e1 d1) (h2 : SE p c n e2 d2) : SE p c n (.BinOp e1 .Mult e2 pos) (dMul d1 d2) :=
  se_op (fun X _ => op_mul) (ok_I (fun i j h => by
    simp only [sm64, Bool.or_eq_true, decide_eq_true_eq] at h
    exact h.imp (fun h => by omega) fun h => by omega) fun _ _ _ _ => .int _) h1 h2
@[simp] def dMod (d1 d2 : Den) : Den := fun ρ s => dBin (fI (fun _ j => decide (0 < j)) fun i j => .int (i % j)) d1 d2 ρ s
theorem se_mod (h1 : SE p c n e1 d1) (h2 : SE p c n e2 d2) : SE p c n (.BinOp e1 .Mod e2 pos) (dMod d1 d2) :=
  se_op (fun X _ => op_mod) (ok_I (fun i j h => of_decide_eq_true h) fun _ _ _ _ => .int _) h1 h2
@[simp] def dDiv (d1 d2 : Den) : Den := fun ρ s => dBin (fI (fun _ j => decide (0 < j) && decide (j.natAbs < 1073741824)) fun i j => .int (i / j)) d1 d2 ρ s
theorem se_div (h1 : SE p c n e1 d1) (h2 : SE p c n e2 d2) : SE p c n (.BinOp e1 .FloorDiv e2 pos) (dDiv d1 d2) :=
  se_op (fun X _ => op_fdiv) (ok_I (fun i j h => by
    simp only [Bool.and_eq_true, decide_eq_true_eq] at h
    exact ⟨h.1, by omega⟩) fun _ _ _ _ => .int _) h1 h2
@[simp] def dPow (d1 d2 : Den) : Den := fun ρ s => dBin (fI (fun i j => decide (0 ≤ j) && decide (j.natAbs ≤ 1000000) && decide (i.natAbs < 18446744073709551616)) fun i j => .int (i ^ j.toNat)) d1 d2 ρ s
theorem se_pow (h1 : SE p c n e1 d1) (h2 : SE p c n e2 d2) : SE p c n (.BinOp e1 .Pow e2 pos) (dPow d1 d2) :=
  se_op (fun X _ => op_pow) (ok_I (fun i j h => by
    simp only [Bool.and_eq_true, decide_eq_true_eq] at h
    exact ⟨h.1.1, by omega, by omega⟩) fun _ _ _ _ => .int _) h1 h2
@[simp] def dLt (d1 d2 : Den) : Den := fun ρ s => dBin (fI0 fun i j => .bl (decide (i < j))) d1 d2 ρ s
theorem se_lt (h1 : SE p c n e1 d1) (h2 : SE p c n e2 d2) : SE p c n (.Compare e1 [.Lt] [e2] pos) (dLt d1 d2) := se_cmp (fun X _ => op_lt) (ok_I0 fun _ _ _ _ => .bl _) h1 h2
@[simp] def dLe (d1 d2 : Den) : Den := fun ρ s => dBin (fI0 fun i j => .bl (decide (i ≤ j))) d1 d2 ρ s
theorem se_le (h1 : SE p c n e1 d1) (h2 : SE p c n e2 d2) : SE p c n (.Compare e1 [.LtE] [e2] pos) (dLe d1 d2) := se_cmp (fun X _ => op_le) (ok_I0 fun _ _ _ _ => .bl _) h1 h2
@[simp] def dGt (d1 d2 : Den) : Den := fun ρ s => dBin (fI0 fun i j => .bl (decide (j < i))) d1 d2 ρ s
theorem se_gt (h1 : SE p c n e1 d1) (h2 : SE p c n e2 d2) : SE p c n (.Compare e1 [.Gt] [e2] pos) (dGt d1 d2) := se_cmp (fun X _ => op_gt) (ok_I0 fun _ _ _ _ => .bl _) h1 h2
@[simp] def dGe (d1 d2 : Den) : Den := fun ρ s => dBin (fI0 fun i j => .bl (decide (j ≤ i))) d1 d2 ρ s
theorem se_ge (h1 : SE p c n e1 d1) (h2 : SE p c n e2 d2) : SE p c n (.Compare e1 [.GtE] [e2] pos) (dGe d1 d2) := se_cmp (fun X _ => op_ge) (ok_I0 fun _ _ _ _ => .bl _) h1 h2
end
end Ev1
/-! Core 3: +, *, ==, is, subscripts, slices, displays, tests, built-ins by values. -/
namespace Ev1
open PySem L2

section
variable {K : PySem.W.Frag} {H : Hp} {w : Wd} {σ : St} {ρ : Env} {s : S}
theorem SR.own (R : SR K H w σ ρ s) {q : Addr} (np : H q = none) {vs : List V} {xs : List D} (rv : RpAll K H w vs xs) :
    Keep H w (upd H q (.lst vs)) (w.add q) ∧ SR K (upd H q (.lst vs)) (w.add q) σ ρ s ∧ RsE K H (upd H q (.lst vs)) (w.add q) (.ref q) (.own xs) := by
  obtain ⟨k, R2, hn⟩ := R.newL (vs := vs) np
  exact ⟨k, R2, q, vs, rfl, np, upd_same, rv.keep k R.wk, .inr rfl, hn⟩
theorem SR.mkTup (R : SR K H w σ ρ s) {q : Addr} (np : H q = none) {vs : List V} {xs : List D} (rv : RpAll K H w vs xs) :
    Keep H w (upd H q (.tup vs)) w ∧ SR K (upd H q (.tup vs)) w σ ρ s ∧ Rp K (upd H q (.tup vs)) w (.ref q) (.tup xs) := by
  obtain ⟨k, R2⟩ := R.newAny (o := .tup vs) np
  exact ⟨k, R2, .tup (.inl (.inl upd_same)) (rv.keep k R.wk)⟩
/-- a list that is no locked one -/
@[simp] def Rs.lstc (s : S) : Rs → Option (List D)
  | .v (.lst xs) => some xs
  | .v (.ref n) => s.g[n]?
  | .loc n => s.l[n]?
  | _ => none
theorem SR.lstc (R : SR K H w σ ρ s) {x : V} {r : Rs} (h : RsN K H w x r) {xs : List D} (e : r.lstc s = some xs) : ∃ a vs, x = .ref a ∧ H a = some (.lst vs) ∧ RpAll K H w vs xs := by
  cases r with
  | own xs => exact h.elim
  | loc n =>
    obtain ⟨a, rfl, ha⟩ := h
    obtain ⟨a', vs, h1, h2, h3⟩ := R.loc.2 n _ e
    rw [ha] at h1; cases h1
    exact ⟨a, vs, rfl, h2, h3⟩
  | v d =>
    cases d with
    | lst ys =>
      cases e
      cases h with
      | lst h1 h2 h3 => exact ⟨_, _, rfl, h1, h3⟩
    | ref n =>
      cases h with
      | ref ha =>
        obtain ⟨a', vs, h1, h2, h3⟩ := R.glb.2 n _ e
        rw [ha] at h1; cases h1
        exact ⟨_, vs, rfl, h2, h3⟩
    | scr ns => cases e
    | tup _ => cases e
    | non => cases e
    | bl _ => cases e
    | int _ => cases e
    | str _ => cases e
/-- the data that a result is -/
@[simp] def Rs.dat (s : S) : Rs → Option D
  | .v (.ref n) => s.g[n]?.map D.lst
  | .v d => some d
  | .loc n => s.l[n]?.map D.lst
  | .own _ => none
theorem ok_dps {k : Nat} : ∀ {vs : List V} {ds : List D}, RpAll K H w vs ds → ds.all (D.ok k) = true → DpAll K H vs (D.pys ds) := by
  intro vs ds h e
  induction ds generalizing vs with
  | nil => cases h; exact .nil
  | cons d ds ih2 =>
    cases h with
    | cons a b =>
      simp only [List.all_cons, Bool.and_eq_true] at e
      exact .cons (ok_dp k a e.1) (ih2 b e.2)
theorem SR.dat (R : SR K H w σ ρ s) {x : V} {r : Rs} (h : RsN K H w x r) {d : D} (e : r.dat s = some d) (o : D.ok 12 d = true) : Dp K H x d.py := by
  have cell : ∀ {vs : List V} {xs : List D} {a : Addr}, H a = some (.lst vs) → RpAll K H w vs xs → D.ok 12 (.lst xs) = true → Dp K H (.ref a) (D.py (.lst xs)) := by
    intro vs xs a h1 h2 h3
    simp only [D.ok] at h3
    exact .lst (SqL.of h1) (ok_dps h2 h3)
  cases r with
  | own xs => exact h.elim
  | loc n =>
    obtain ⟨a, rfl, ha⟩ := h
    simp only [Rs.dat, Option.map_eq_some_iff] at e
    obtain ⟨cc, hc, e⟩ := e
    cases e
    obtain ⟨a', vs, h1, h2, h3⟩ := R.loc.2 n _ hc
    rw [ha] at h1; cases h1
    exact cell h2 h3 o
  | v dd =>
    cases dd with
    | ref n =>
      cases h with
      | ref ha =>
        simp only [Rs.dat, Option.map_eq_some_iff] at e
        obtain ⟨cc, hc, e⟩ := e
        cases e
        obtain ⟨a', vs, h1, h2, h3⟩ := R.glb.2 n _ hc
        rw [ha] at h1; cases h1
        exact cell h2 h3 o
    | lst ys => cases e; exact ok_dp 12 h o
    | tup ys => cases e; exact ok_dp 12 h o
    | scr ns => cases e; exact ok_dp 12 h o
    | non => cases e; exact ok_dp 12 h o
    | bl _ => cases e; exact ok_dp 12 h o
    | int _ => cases e; exact ok_dp 12 h o
    | str _ => cases e; exact ok_dp 12 h o
end

def bigLen : Nat := 10000000
theorem big_line {n : Nat} (h : n ≤ bigLen) : n ≤ sizeLine := Nat.le_trans h (by rw [sizeLine_eq]; decide)
theorem big_lt {n : Nat} (h : n < bigLen) : n < sizeLine := Nat.lt_of_lt_of_le h (by rw [sizeLine_eq]; decide)

section
variable {p : Pr} {c : Cst} {n : Nat} {e e1 e2 e3 : Expr} {es : List Expr} {d d1 d2 d3 : Den} {da : DenA} {pos : Pos}
def r2or (r r' : R2) : R2 := fun x y H Q => r x y H Q ∨ r' x y H Q
theorem op_or2 {X : Cx} {f : Value → Value → Sem Value} {r r' : R2} (h : OpR X f r) (h' : OpR X f r') : OpR X f (r2or r r') := fun pins s σ H x y v u Q I rx ry q => q.elim (h pins s σ H x y v u Q I rx ry) (h' pins s σ H x y v u Q I rx ry)

/-! ### + and * -/
@[simp] def fAdd : S → Rs → Rs → Option Rs := fun s a b => match a, b with
  | .v (.int i), .v (.int j) => some (.v (.int (i + j)))
  | .v (.tup xs), .v (.tup ys) => if xs.length + ys.length ≤ bigLen then some (.v (.tup (xs ++ ys))) else none
  | .v (.str x), .v (.str y) => if x.length + y.length ≤ bigLen then some (.v (.str (x ++ y))) else none
  | a, b => match a.lstc s, b.lstc s with
    | some xs, some ys => if xs.length + ys.length ≤ bigLen then some (.own (xs ++ ys)) else none
    | _, _ => none
def rStrCat : R2 := fun x y H Q => ∃ i j, x = .str i ∧ y = .str j ∧ i.length + j.length ≤ sizeLine ∧ Q (.str (i ++ j)) H
def rAddAll (K : PySem.W.Frag) : R2 := r2or (rI0 fun i j => .int (i + j)) (r2or (rCatA K) (r2or rStrCat rCat))
theorem ok_add : Ok2 p fAdd (rAddAll p.K) := by
  intro H w σ ρ s x y r1 r2 r Q R h1 h2 e q
  unfold fAdd at e
  split at e
  · cases e
    cases h1
    cases h2
    exact .inl ⟨_, _, rfl, rfl, q _ H w (Keep.refl H w) R (.int _)⟩
  · rename_i xs ys
    split at e
    · rename_i hz
      cases e
      cases h1 with
      | tup ta ra =>
      cases h2 with
      | tup tb rb =>
      refine .inr (.inl ⟨_, _, _, _, rfl, rfl, ta, tb, by rw [ra.length, rb.length]; exact big_line hz, fun z => ?_, fun _ z => ?_, fun _ _ l hl => ?_⟩)
      · subst z
        cases ra
        exact q _ H w (Keep.refl H w) R (.tup tb rb)
      · subst z
        cases rb
        rw [List.append_nil] at q
        exact q _ H w (Keep.refl H w) R (.tup ta ra)
      · obtain ⟨k, R2, r2⟩ := R.mkTup hl (ra.append rb)
        exact q _ _ _ k R2 r2
    · cases e
  · split at e
    · rename_i hz
      cases e
      cases h1
      cases h2
      exact .inr (.inr (.inl ⟨_, _, rfl, rfl, big_line hz, q _ H w (Keep.refl H w) R (.str _)⟩))
    · cases e
  · split at e
    · rename_i xs ys ea eb
      split at e
      · rename_i hz
        cases e
        obtain ⟨a, va, rfl, ha, ra⟩ := R.lstc h1 ea
        obtain ⟨b, vb, rfl, hb, rb⟩ := R.lstc h2 eb
        refine .inr (.inr (.inr ⟨a, b, va, vb, rfl, rfl, ha, hb, by rw [ra.length, rb.length]; exact big_line hz, fun l hl => ?_⟩))
        obtain ⟨k, R2, r2⟩ := R.own hl (ra.append rb)
        exact q _ _ _ k R2 r2
      · cases e
    · cases e
@[simp] def dAdd (d1 d2 : Den) : Den := fun ρ s => dBin fAdd d1 d2 ρ s
theorem se_add (h1 : SE p c n e1 d1) (h2 : SE p c n e2 d2) : SE p c n (.BinOp e1 .Add e2 pos) (dAdd d1 d2) :=
  se_op (fun X g => by rw [← g.K]; exact op_or2 op_add (op_or2 op_catA (op_or2 op_add_str op_cat))) ok_add h1 h2
@[simp] def fRep : S → Rs → Rs → Option Rs := fun s a b => match a.lstc s, b with
  | some xs, .v (.int k) => if k.natAbs < 4611686018427387904 ∧ xs.length * k.toNat ≤ bigLen then some (.own (List.replicate k.toNat xs).flatten) else none
  | _, _ => none
theorem ok_rep : Ok2 p fRep rRep := by
  intro H w σ ρ s x y r1 r2 r Q R h1 h2 e q
  unfold fRep at e
  split at e
  · rename_i xs k ea
    split at e
    · rename_i hz
      cases e
      obtain ⟨a, va, rfl, ha, ra⟩ := R.lstc h1 ea
      cases h2
      refine ⟨a, k, va, rfl, rfl, ha, by omega, by omega, by rw [ra.length]; exact big_line hz.2, fun l hl => ?_⟩
      obtain ⟨k2, R2, r2⟩ := R.own hl (ra.flat k.toNat)
      exact q _ _ _ k2 R2 r2
    · cases e
  · cases e
/-- a list, so many times -/
@[simp] def dRep (d1 d2 : Den) : Den := fun ρ s => dBin fRep d1 d2 ρ s
theorem se_rep (h1 : SE p c n e1 d1) (h2 : SE p c n e2 d2) : SE p c n (.BinOp e1 .Mult e2 pos) (dRep d1 d2) :=
  se_op (fun X g => op_rep) ok_rep h1 h2

/-! ### ==, !=, is -/
@[simp] def fEq (k : Bool) : S → Rs → Rs → Option Rs := fun s a b => match a, b with
  | .v (.str x), .v (.str y) => some (.v (.bl (k == (x == y))))
  | a, b => match a.dat s, b.dat s with
    | some d, some e => if (D.ok 12 d && D.ok 12 e) = true then some (.v (.bl (k == D.eqb d e))) else none
    | _, _ => none
theorem ok_eq : Ok2 p (fEq true) (r2or rEq (rEqD p.K)) := by
  intro H w σ ρ s x y r1 r2 r Q R h1 h2 e q
  unfold fEq at e
  split at e
  · cases e
    cases h1
    cases h2
    refine .inl ⟨rfl, ?_⟩
    rw [dec_str]
    have := q (.bl _) H w (Keep.refl H w) R (.bl _)
    rw [Bool.true_beq] at this
    exact this
  · split at e
    · rename_i d d' ea eb
      split at e
      · rename_i hz
        cases e
        rw [Bool.and_eq_true] at hz
        refine .inr ⟨_, _, R.dat h1 ea hz.1, R.dat h2 eb hz.2, ok_shaped hz.1, ok_shaped hz.2, ?_⟩
        rw [← eqb_py 12 d d' hz.1 hz.2]
        have := q (.bl (D.eqb d d')) H w (Keep.refl H w) R
        simp only [Bool.true_beq] at this
        exact this (.bl _)
      · cases e
    · cases e
theorem ok_ne : Ok2 p (fEq false) (r2or rNe (rNeD p.K)) := by
  intro H w σ ρ s x y r1 r2 r Q R h1 h2 e q
  unfold fEq at e
  split at e
  · cases e
    cases h1
    cases h2
    refine .inl ⟨rfl, ?_⟩
    rw [dec_str]
    have := q (.bl _) H w (Keep.refl H w) R (.bl _)
    rw [Bool.false_beq] at this
    exact this
  · split at e
    · rename_i d d' ea eb
      split at e
      · rename_i hz
        cases e
        rw [Bool.and_eq_true] at hz
        refine .inr ⟨_, _, R.dat h1 ea hz.1, R.dat h2 eb hz.2, ok_shaped hz.1, ok_shaped hz.2, ?_⟩
        rw [← eqb_py 12 d d' hz.1 hz.2]
        have := q (.bl (!D.eqb d d')) H w (Keep.refl H w) R
        simp only [Bool.false_beq] at this
        exact this (.bl _)
      · cases e
    · cases e
theorem op_eqA {X : Cx} {n : Nat} (g : Good p c n X) : OpR X (compareOp .Eq) (r2or rEq (rEqD p.K)) := by
  rw [← g.K]
  exact op_or2 op_eq (op_eqD g.room.units)
theorem op_neA {X : Cx} {n : Nat} (g : Good p c n X) : OpR X (compareOp .NotEq) (r2or rNe (rNeD p.K)) := by
  rw [← g.K]
  exact op_or2 op_ne (op_neD g.room.units)
@[simp] def dEq (d1 d2 : Den) : Den := fun ρ s => dBin (fEq true) d1 d2 ρ s
theorem se_eq (h1 : SE p c n e1 d1) (h2 : SE p c n e2 d2) : SE p c n (.Compare e1 [.Eq] [e2] pos) (dEq d1 d2) := se_cmp (fun X g => op_eqA g) ok_eq h1 h2
@[simp] def dNe (d1 d2 : Den) : Den := fun ρ s => dBin (fEq false) d1 d2 ρ s
theorem se_ne (h1 : SE p c n e1 d1) (h2 : SE p c n e2 d2) : SE p c n (.Compare e1 [.NotEq] [e2] pos) (dNe d1 d2) := se_cmp (fun X g => op_neA g) ok_ne h1 h2
@[simp] def D.isNon : D → Bool
  | .non => true
  | _ => false
theorem Rp.isNon {K : PySem.W.Frag} {H : Hp} {w : Wd} {x : V} {d : D} (h : Rp K H w x d) : decide (x = V.non) = d.isNon := by
  cases h <;> simp [D.isNon]
@[simp] def fIs (k : Bool) : S → Rs → Rs → Option Rs := fun _ a b => match a, b with
  | .v (.bl x), .v (.bl y) => some (.v (.bl (k == decide (x = y))))
  | .v d, .v .non => some (.v (.bl (k == d.isNon)))
  | _, _ => none
theorem ok_is : Ok2 p (fIs true) (r2or rIsB fun x y H Q => y = .non ∧ Q (.bl (decide (x = .non))) H) := by
  intro H w σ ρ s x y r1 r2 r Q R h1 h2 e q
  unfold fIs at e
  split at e
  · cases e
    cases h1
    cases h2
    exact .inl ⟨_, _, rfl, rfl, by have := q (.bl _) H w (Keep.refl H w) R (.bl _); simpa only [Bool.true_beq] using this⟩
  · cases e
    cases h2
    refine .inr ⟨rfl, ?_⟩
    have h1' := Rp.isNon h1
    rw [h1']
    have := q (.bl _) H w (Keep.refl H w) R (.bl _)
    simpa only [Bool.true_beq] using this
  · cases e
theorem ok_isnot : Ok2 p (fIs false) (r2or rNotB fun x y H Q => y = .non ∧ Q (.bl (!decide (x = .non))) H) := by
  intro H w σ ρ s x y r1 r2 r Q R h1 h2 e q
  unfold fIs at e
  split at e
  · cases e
    cases h1
    cases h2
    exact .inl ⟨_, _, rfl, rfl, by have := q (.bl _) H w (Keep.refl H w) R (.bl _); simpa only [Bool.false_beq] using this⟩
  · cases e
    cases h2
    refine .inr ⟨rfl, ?_⟩
    have h1' := Rp.isNon h1
    rw [h1']
    have := q (.bl _) H w (Keep.refl H w) R (.bl _)
    simpa only [Bool.false_beq] using this
  · cases e
@[simp] def dIs (d1 d2 : Den) : Den := fun ρ s => dBin (fIs true) d1 d2 ρ s
theorem se_is (h1 : SE p c n e1 d1) (h2 : SE p c n e2 d2) : SE p c n (.Compare e1 [.Is] [e2] pos) (dIs d1 d2) := se_cmp (fun X g => op_or2 op_isBl op_isN) ok_is h1 h2
@[simp] def dIsNot (d1 d2 : Den) : Den := fun ρ s => dBin (fIs false) d1 d2 ρ s
theorem se_isnot (h1 : SE p c n e1 d1) (h2 : SE p c n e2 d2) : SE p c n (.Compare e1 [.IsNot] [e2] pos) (dIsNot d1 d2) := se_cmp (fun X g => op_or2 op_notBl op_notN) ok_isnot h1 h2

/-! ### subscripts -/
theorem RpAll.atI {K : PySem.W.Frag} {H : Hp} {w : Wd} {vs : List V} {xs : List D} {i : Int} {d : D} (r : RpAll K H w vs xs) (h : L2.atI xs i = some d) : ∃ v, L2.atI vs i = some v ∧ Rp K H w v d := by
  unfold L2.atI at h ⊢
  rw [r.length]
  cases e : ixN xs.length i with
  | none => rw [e] at h; cases h
  | some j =>
    rw [e] at h
    exact r.get h
@[simp] def fIx : S → Rs → Rs → Option Rs := fun s a b => match b with
  | .v (.int i) => match a with
    | .v (.str z) => if z.length ≤ bigLen then (L2.atI z.cps.toList i).map fun ch => .v (.str ⟨#[ch]⟩) else none
    | a => (a.seq s).bind fun q => (L2.atI q.2 i).map .v
  | _ => none
theorem ok_ix : Ok2 p fIx (rIx p.K) := by
  intro H w σ ρ s x y r1 r2 r Q R h1 h2 e q
  unfold fIx at e
  split at e
  · rename_i i
    cases h2
    split at e
    · rename_i z
      split at e
      · rename_i hz
        rw [Option.map_eq_some_iff] at e
        obtain ⟨ch, hc, e⟩ := e
        cases e
        cases h1
        exact .inr (.inr ⟨_, i, ch, rfl, rfl, big_line hz, hc, q _ H w (Keep.refl H w) R (.str _)⟩)
      · cases e
    · simp only [Option.bind_eq_some_iff, Option.map_eq_some_iff] at e
      obtain ⟨⟨b, xs⟩, hs, d, hd, e⟩ := e
      cases e
      obtain ⟨a, vs, rfl, ra, hq⟩ := R.seq h1 hs
      obtain ⟨v, hv, rv⟩ := ra.atI hd
      cases b with
      | true => exact .inl ⟨a, vs, i, v, rfl, rfl, hq, hv, q _ H w (Keep.refl H w) R rv⟩
      | false => exact .inr (.inl ⟨a, vs, i, v, rfl, rfl, hq, hv, q _ H w (Keep.refl H w) R rv⟩)
  · cases e
@[simp] def dIx (d1 d2 : Den) : Den := fun ρ s => dBin fIx d1 d2 ρ s
theorem se_sub1 (h1 : SE p c n e1 d1) (h2 : SE p c n e2 d2) (hs : PlainIx e2 := by exact fun _ _ => rfl) : SE p c n (.Subscript e1 e2 pos) (dIx d1 d2) := se_ix (fun X g => by rw [← g.K]; exact ix_seq) ok_ix h1 h2 hs

/-! ### slices -/
abbrev DenO := Env → S → Option (Option Int × S)
def wO (X : Cx) (e : Option Expr) : TO := fun σ H Q => ∃ t, PO X e t ∧ t σ H Q
theorem wO_ok {X : Cx} {e : Option Expr} : PO X e (wO X e) := ⟨fun pins s σ H Q I ⟨t, h, q⟩ => h.run pins s σ H Q I q⟩
def SO (p : Pr) (c : Cst) (n : Nat) (e : Option Expr) (d : DenO) : Prop :=
  ∀ X, Good p c n X → ∀ (ρ : Env) (s : S) (o : Option Int) (s' : S), d ρ s = some (o, s') → ∀ (σ : St) (H : Hp) (w : Wd) (Q : Option Int → Hp → Prop), SR p.K H w σ ρ s →
    (∀ H' w', Keep H w H' w' → SR p.K H' w' σ ρ s' → Q o H') → wO X e σ H Q
@[simp] def oNone : DenO := fun _ s => some (none, s)
@[simp] def oSome (d : Den) : DenO := fun ρ s => (d ρ s).bind fun a => match a.1 with
  | .v (.int i) => some (some i, a.2)
  | _ => none
theorem so_none : SO p c n none oNone := by
  intro X g ρ s o s' e σ H w Q R q
  cases e
  exact ⟨_, po_none, q H w (Keep.refl H w) R⟩
theorem so_some (h : SE p c n e d) : SO p c n (some e) (oSome d) := by
  intro X g ρ s o s' e' σ H w Q R q
  simp only [oSome, Option.bind_eq_some_iff] at e'
  obtain ⟨⟨r, s1⟩, h1, h2⟩ := e'
  split at h2
  · rename_i i hi
    cases h2
    refine ⟨_, po_some wE_ok, h.fz g h1 R fun x H1 w1 k1 R1 r1 => ?_⟩
    simp only at hi
    subst hi
    cases r1
    exact ⟨_, rfl, q H1 w1 k1 R1⟩
  · cases h2
def cutD (xs : List D) (lo hi : Option Int) : List D := (xs.drop (HT.sIx xs.length 0 lo)).take (HT.sIx xs.length xs.length hi - HT.sIx xs.length 0 lo)
theorem RpAll.cut {K : PySem.W.Frag} {H : Hp} {w : Wd} {vs : List V} {xs : List D} (lo hi : Option Int) (r : RpAll K H w vs xs) : RpAll K H w (cutV vs lo hi) (cutD xs lo hi) := by
  unfold cutV cutD
  rw [r.length]
  exact (r.drop _).take _
@[simp] def fSl (s : S) (a : Rs) (lo hi : Option Int) : Option Rs := match a.seq s with
  | some (true, xs) => some (.own (cutD xs lo hi))
  | some (false, xs) => some (.v (.tup (cutD xs lo hi)))
  | none => none
@[simp] def dSl (d : Den) (lo hi : DenO) : Den := fun ρ s => (d ρ s).bind fun a => (lo ρ a.2).bind fun l => (hi ρ l.2).bind fun h => (fSl h.2 a.1.fz l.1 h.1).bind fun r => some (r, h.2)
theorem cut_whole {xs : List D} {lo hi : Option Int} (h1 : HT.sIx xs.length 0 lo = 0) (h2 : HT.sIx xs.length xs.length hi = xs.length) : cutD xs lo hi = xs := by
  unfold cutD
  rw [h1, h2]
  simp
theorem se_slice {lo hi : Option Expr} {dl dh : DenO} {p2 : Pos} (h : SE p c n e d) (hl : SO p c n lo dl) (hh : SO p c n hi dh) : SE p c n (.Subscript e (.Slice lo hi none p2) pos) (dSl d dl dh) := by
  intro X g ρ s r s' e' σ H w Q R q
  simp only [dSl, Option.bind_eq_some_iff] at e'
  obtain ⟨⟨r1, s1⟩, a1, ⟨l, s2⟩, a2, ⟨u, s3⟩, a3, r2, a4, a5⟩ := e'
  cases a5
  refine ⟨_, pe_slice ((sl_list (X := X)).or sl_tupA) wE_ok wO_ok wO_ok, h.fz g a1 R fun x H1 w1 k1 R1 q1 => hl X g ρ s1 l s2 a2 σ H1 w1 _ R1 fun H2 w2 k2 R2 => hh X g ρ s2 u s3 a3 σ H2 w2 _ R2 fun H3 w3 k3 R3 => ?_⟩
  have k := (k1.trans k2).trans k3
  have q3 := (q1.keep k2 R1.wk).keep k3 R2.wk
  unfold fSl at a4
  rw [g.K]
  split at a4
  · rename_i xs hs
    cases a4
    obtain ⟨a, vs, rfl, ra, hq⟩ := R3.seq q3 hs
    refine .inl ⟨a, vs, rfl, hq, fun l hl => ?_⟩
    obtain ⟨k4, R4, r4⟩ := R3.own hl (ra.cut _ _)
    exact q _ _ _ (k.trans k4) R4 (r4.back k)
  · rename_i xs hs
    cases a4
    obtain ⟨a, vs, rfl, ra, hq⟩ := R3.seq q3 hs
    refine .inr ⟨a, vs, rfl, hq, fun z => ?_, fun _ l hl => ?_⟩
    · rw [ra.length] at z
      rw [cut_whole z.1 z.2] at q
      exact q _ _ _ k R3 (.tup hq ra)
    · obtain ⟨k4, R4, r4⟩ := R3.mkTup hl (ra.cut _ _)
      exact q _ _ _ (k.trans k4) R4 r4
  · cases a4

/-! ### displays -/
@[simp] def Rs.d? : Rs → Option D
  | .v d => some d
  | _ => none
@[simp] def ds? : List Rs → Option (List D)
  | [] => some []
  | r :: rs => match r, ds? rs with
    | .v d, some ds => some (d :: ds)
    | _, _ => none
theorem RsNs.all {K : PySem.W.Frag} {H : Hp} {w : Wd} : ∀ {xs : List V} {rs : List Rs} {ds : List D}, RsNs K H w xs rs → ds? rs = some ds → RpAll K H w xs ds
  | _, _, _, .nil, e => by cases e; exact .nil
  | _, _, _, .cons h t, e => by
    unfold ds? at e
    split at e
    · rename_i d ds e1 e2
      cases e
      exact .cons h (t.all (by assumption))
    · cases e
@[simp] def dTup (da : DenA) : Den := fun ρ s => (da ρ s).bind fun a => (ds? a.1).bind fun ds => if ds.length ≤ bigLen then some (.v (.tup ds), a.2) else none
@[simp] def dLst (da : DenA) : Den := fun ρ s => (da ρ s).bind fun a => (ds? a.1).bind fun ds => if ds.length ≤ bigLen then some (.own ds, a.2) else none
theorem se_tup {x1} (h : SA p c n es da) : SE p c n (.Tuple es x1 pos) (dTup da) := by
  intro X g ρ s r s' e' σ H w Q R q
  simp only [dTup, Option.bind_eq_some_iff] at e'
  obtain ⟨⟨rs, s1⟩, a1, ds, a2, a3⟩ := e'
  split at a3
  · rename_i hz
    cases a3
    refine ⟨_, pe_tup wA_ok, h X g ρ s rs s1 a1 σ H w _ R fun xs H1 w1 k1 R1 q1 => ?_⟩
    have ra := q1.all a2
    refine ⟨by rw [ra.length]; exact big_line hz, fun l hl => ?_⟩
    obtain ⟨k4, R4, r4⟩ := R1.mkTup hl ra
    exact q _ _ _ (k1.trans k4) R4 r4
  · cases a3
theorem se_lst (h : SA p c n es da) : SE p c n (.List es pos) (dLst da) := by
  intro X g ρ s r s' e' σ H w Q R q
  simp only [dLst, Option.bind_eq_some_iff] at e'
  obtain ⟨⟨rs, s1⟩, a1, ds, a2, a3⟩ := e'
  split at a3
  · rename_i hz
    cases a3
    refine ⟨_, pe_lst wA_ok, h X g ρ s rs s1 a1 σ H w _ R fun xs H1 w1 k1 R1 q1 => ?_⟩
    have ra := q1.all a2
    refine ⟨by rw [ra.length]; exact big_line hz, fun l hl => ?_⟩
    obtain ⟨k4, R4, r4⟩ := R1.own hl ra
    exact q _ _ _ (k1.trans k4) R4 (r4.back k1)
  · cases a3

/-! ### tests -/
@[simp] def dT (d : Den) : DenT := fun ρ s => (d ρ s).bind fun a => match a.1 with
  | .v (.bl b) => some (b, a.2)
  | _ => none
theorem dT_some {ρ : Env} {s s' : S} {b : Bool} (h : dT d ρ s = some (b, s')) : d ρ s = some (.v (.bl b), s') := by
  simp only [dT, Option.bind_eq_some_iff] at h
  obtain ⟨⟨r, s1⟩, h1, h2⟩ := h
  split at h2
  · rename_i b' hb
    cases h2
    simp only at hb
    rw [h1, hb]
  · cases h2
theorem st_val (h : SE p c n e d) (he : ∀ env whole, isTrue e env whole = (do let v ← whole; standAt e.pos; holding [v] (truthy v)) := by intro _ _; rfl) : ST p c n e (dT d) := by
  intro X g ρ s b s' e' σ H w Q R q
  refine ⟨_, pt_val wE_ok (he _), h X g ρ s _ s' (dT_some e') σ H w _ R fun x H1 w1 k1 R1 r1 => ?_⟩
  cases r1
  exact ⟨b, rfl, q H1 w1 k1 R1⟩
theorem st_cmp {op : CmpOp} {f : S → Rs → Rs → Option Rs} {rl : R2} (ho : ∀ X, Good p c n X → OpR X (compareOp op) rl) (hf : Ok2 p f rl) (h1 : SE p c n e1 d1) (h2 : SE p c n e2 d2)
    (hm : behindInMarks op e2 = false := by first | exact nobehind _ (by decide) (by decide) | rfl) : ST p c n (.Compare e1 [op] [e2] pos) (dT (dBin f d1 d2)) := by
  intro X g ρ s b s' e' σ H w Q R q
  refine ⟨_, pt_cmpR (ho X g) wE_ok wE_ok hm, bin_core hf h1 h2 g (dT_some e') R fun x H1 w1 k1 R1 r1 => ?_⟩
  cases r1
  exact ⟨b, rfl, q H1 w1 k1 R1⟩
theorem st_lt (h1 : SE p c n e1 d1) (h2 : SE p c n e2 d2) : ST p c n (.Compare e1 [.Lt] [e2] pos) (dT (dLt d1 d2)) := st_cmp (fun X _ => op_lt) (ok_I0 fun _ _ _ _ => .bl _) h1 h2
theorem st_le (h1 : SE p c n e1 d1) (h2 : SE p c n e2 d2) : ST p c n (.Compare e1 [.LtE] [e2] pos) (dT (dLe d1 d2)) := st_cmp (fun X _ => op_le) (ok_I0 fun _ _ _ _ => .bl _) h1 h2
theorem st_gt (h1 : SE p c n e1 d1) (h2 : SE p c n e2 d2) : ST p c n (.Compare e1 [.Gt] [e2] pos) (dT (dGt d1 d2)) := st_cmp (fun X _ => op_gt) (ok_I0 fun _ _ _ _ => .bl _) h1 h2
theorem st_ge (h1 : SE p c n e1 d1) (h2 : SE p c n e2 d2) : ST p c n (.Compare e1 [.GtE] [e2] pos) (dT (dGe d1 d2)) := st_cmp (fun X _ => op_ge) (ok_I0 fun _ _ _ _ => .bl _) h1 h2
theorem st_eq (h1 : SE p c n e1 d1) (h2 : SE p c n e2 d2) : ST p c n (.Compare e1 [.Eq] [e2] pos) (dT (dEq d1 d2)) := st_cmp (fun X g => op_eqA g) ok_eq h1 h2
theorem st_ne (h1 : SE p c n e1 d1) (h2 : SE p c n e2 d2) : ST p c n (.Compare e1 [.NotEq] [e2] pos) (dT (dNe d1 d2)) := st_cmp (fun X g => op_neA g) ok_ne h1 h2
theorem st_is (h1 : SE p c n e1 d1) (h2 : SE p c n e2 d2) : ST p c n (.Compare e1 [.Is] [e2] pos) (dT (dIs d1 d2)) := st_cmp (fun X g => op_or2 op_isBl op_isN) ok_is h1 h2
theorem st_isnot (h1 : SE p c n e1 d1) (h2 : SE p c n e2 d2) : ST p c n (.Compare e1 [.IsNot] [e2] pos) (dT (dIsNot d1 d2)) := st_cmp (fun X g => op_or2 op_notBl op_notN) ok_isnot h1 h2
/-- a op b op' c -/
@[simp] def dChain (f f' : S → Rs → Rs → Option Rs) (d1 d2 d3 : Den) : Den := fun ρ s => (d1 ρ s).bind fun a => (d2 ρ a.2).bind fun b => (f b.2 a.1.fz b.1.fz).bind fun r => match r with
  | .v (.bl true) => (d3 ρ b.2).bind fun cc => (f' cc.2 b.1.fz cc.1.fz).bind fun r' => some (r', cc.2)
  | .v (.bl false) => some (.v (.bl false), b.2)
  | _ => none
theorem chain_core {f f' : S → Rs → Rs → Option Rs} {rl rl' : R2} (hf : Ok2 p f rl) (hf' : Ok2 p f' rl') (h1 : SE p c n e1 d1) (h2 : SE p c n e2 d2) (h3 : SE p c n e3 d3) {X : Cx} (g : Good p c n X) {ρ : Env} {s s' : S} {r : Rs}
    (e' : dChain f f' d1 d2 d3 ρ s = some (r, s')) {σ : St} {H : Hp} {w : Wd} {Q : VK} (R : SR p.K H w σ ρ s) (q : ∀ x H' w', Keep H w H' w' → SR p.K H' w' σ ρ s' → RsE p.K H H' w' x r → Q x H') :
    tChain rl rl' (wE X e1) (wE X e2) (wE X e3) σ H Q := by
  simp only [dChain, Option.bind_eq_some_iff] at e'
  obtain ⟨⟨r1, s1⟩, a1, ⟨r2, s2⟩, a2, r3, a3, a4⟩ := e'
  refine h1.fz g a1 R fun x H1 w1 k1 R1 q1 => ?_
  refine h2.fz g a2 R1 fun y H2 w2 k2 R2 q2 => ?_
  refine hf R2 (q1.keep k2 R1.wk) q2 a3 fun z H3 w3 k3 R3 q3 => ?_
  split at a4
  · cases q3
    simp only [Option.bind_eq_some_iff] at a4
    obtain ⟨⟨r4, s4⟩, a4, r5, a5, a6⟩ := a4
    cases a6
    refine ⟨true, rfl, ?_⟩
    rw [if_pos rfl]
    refine h3.fz g a4 R3 fun v H4 w4 k4 R4 q4 => ?_
    exact hf' R4 ((q2.keep k3 R2.wk).keep k4 R3.wk) q4 a5 fun z H5 w5 k5 R5 q5 => q z H5 w5 ((((k1.trans k2).trans k3).trans k4).trans k5) R5 (q5.back (((k1.trans k2).trans k3).trans k4))
  · cases q3
    cases a4
    refine ⟨false, rfl, ?_⟩
    rw [if_neg Bool.false_ne_true]
    exact q _ H3 w3 ((k1.trans k2).trans k3) R3 (.bl false)
  · cases a4
theorem se_chain {op op' : CmpOp} {f f' : S → Rs → Rs → Option Rs} {rl rl' : R2} (ho : ∀ X, Good p c n X → OpR X (compareOp op) rl) (hf : Ok2 p f rl) (ho' : ∀ X, Good p c n X → OpR X (compareOp op') rl') (hf' : Ok2 p f' rl')
    (h1 : SE p c n e1 d1) (h2 : SE p c n e2 d2) (h3 : SE p c n e3 d3) (hm : lastMarks [op, op'] [e2, e3] = false := by with_unfolding_all rfl) : SE p c n (.Compare e1 [op, op'] [e2, e3] pos) (dChain f f' d1 d2 d3) := by
  intro X g ρ s r s' e' σ H w Q R q
  exact ⟨_, pe_chain (ho X g) (ho' X g) wE_ok wE_ok wE_ok hm, chain_core hf hf' h1 h2 h3 g e' R q⟩
theorem st_chain {op op' : CmpOp} {f f' : S → Rs → Rs → Option Rs} {rl rl' : R2} (ho : ∀ X, Good p c n X → OpR X (compareOp op) rl) (hf : Ok2 p f rl) (ho' : ∀ X, Good p c n X → OpR X (compareOp op') rl') (hf' : Ok2 p f' rl')
    (h1 : SE p c n e1 d1) (h2 : SE p c n e2 d2) (h3 : SE p c n e3 d3) (hm : lastMarks [op, op'] [e2, e3] = false := by with_unfolding_all rfl) : ST p c n (.Compare e1 [op, op'] [e2, e3] pos) (dT (dChain f f' d1 d2 d3)) := by
  intro X g ρ s b s' e' σ H w Q R q
  refine ⟨_, pt_chain (ho X g) (ho' X g) wE_ok wE_ok wE_ok hm, chain_core hf hf' h1 h2 h3 g (dT_some e') R fun x H1 w1 k1 R1 r1 => ?_⟩
  cases r1
  exact ⟨b, rfl, q H1 w1 k1 R1⟩
abbrev fLe := fI0 fun i j => D.bl (decide (i ≤ j))
abbrev fLt := fI0 fun i j => D.bl (decide (i < j))
theorem ok_le : Ok2 p fLe (rI0 fun i j => .bl (decide (i ≤ j))) := ok_I0 fun _ _ _ _ => .bl _
theorem ok_lt : Ok2 p fLt (rI0 fun i j => .bl (decide (i < j))) := ok_I0 fun _ _ _ _ => .bl _
@[simp] def dLeLe (d1 d2 d3 : Den) : Den := fun ρ s => dChain fLe fLe d1 d2 d3 ρ s
@[simp] def dLeLt (d1 d2 d3 : Den) : Den := fun ρ s => dChain fLe fLt d1 d2 d3 ρ s
@[simp] def dLtLe (d1 d2 d3 : Den) : Den := fun ρ s => dChain fLt fLe d1 d2 d3 ρ s
@[simp] def dLtLt (d1 d2 d3 : Den) : Den := fun ρ s => dChain fLt fLt d1 d2 d3 ρ s
theorem se_lele (h1 : SE p c n e1 d1) (h2 : SE p c n e2 d2) (h3 : SE p c n e3 d3) (hm : lastMarks [.LtE, .LtE] [e2, e3] = false := by with_unfolding_all rfl) : SE p c n (.Compare e1 [.LtE, .LtE] [e2, e3] pos) (dLeLe d1 d2 d3) := se_chain (fun _ _ => op_le) ok_le (fun _ _ => op_le) ok_le h1 h2 h3 hm
theorem se_lelt (h1 : SE p c n e1 d1) (h2 : SE p c n e2 d2) (h3 : SE p c n e3 d3) (hm : lastMarks [.LtE, .Lt] [e2, e3] = false := by with_unfolding_all rfl) : SE p c n (.Compare e1 [.LtE, .Lt] [e2, e3] pos) (dLeLt d1 d2 d3) := se_chain (fun _ _ => op_le) ok_le (fun _ _ => op_lt) ok_lt h1 h2 h3 hm
theorem st_lele (h1 : SE p c n e1 d1) (h2 : SE p c n e2 d2) (h3 : SE p c n e3 d3) (hm : lastMarks [.LtE, .LtE] [e2, e3] = false := by with_unfolding_all rfl) : ST p c n (.Compare e1 [.LtE, .LtE] [e2, e3] pos) (dT (dLeLe d1 d2 d3)) := st_chain (fun _ _ => op_le) ok_le (fun _ _ => op_le) ok_le h1 h2 h3 hm
theorem st_lelt (h1 : SE p c n e1 d1) (h2 : SE p c n e2 d2) (h3 : SE p c n e3 d3) (hm : lastMarks [.LtE, .Lt] [e2, e3] = false := by with_unfolding_all rfl) : ST p c n (.Compare e1 [.LtE, .Lt] [e2, e3] pos) (dT (dLeLt d1 d2 d3)) := st_chain (fun _ _ => op_le) ok_le (fun _ _ => op_lt) ok_lt h1 h2 h3 hm
end
end Ev1
/-! Core 4: and, or, not, if-else; calls of built-ins. -/
namespace Ev1
open PySem L2

section
variable {p : Pr} {c : Cst} {n : Nat} {e e1 e2 e3 : Expr} {es rest : List Expr} {d d1 d2 d3 : Den} {t t1 t2 : DenT} {da : DenA} {pos : Pos}
def wW (X : Cx) (e : Expr) : TT := fun σ H Q => ∃ t, PW X e t ∧ t σ H Q
theorem wW_ok {X : Cx} {e : Expr} : PW X e (wW X e) := ⟨fun wh pins s σ H Q I ⟨t, h, q⟩ => h.run wh pins s σ H Q I q⟩
def SW (p : Pr) (c : Cst) (n : Nat) (e : Expr) (d : DenT) : Prop :=
  ∀ X, Good p c n X → ∀ (ρ : Env) (s : S) (b : Bool) (s' : S), d ρ s = some (b, s') → ∀ (σ : St) (H : Hp) (w : Wd) (Q : Bool → Hp → Prop), SR p.K H w σ ρ s →
    (∀ H' w', Keep H w H' w' → SR p.K H' w' σ ρ s' → Q b H') → wW X e σ H Q
theorem st_of (h : SW p c n e t) : ST p c n e t := fun X g ρ s b s' e' σ H w Q R q =>
  let ⟨u, hu, hq⟩ := h X g ρ s b s' e' σ H w Q R q
  ⟨u, hu.pt, hq⟩
@[simp] def tAndD (t1 t2 : DenT) : DenT := fun ρ s => (t1 ρ s).bind fun a => if a.1 = true then t2 ρ a.2 else some (false, a.2)
@[simp] def tOrD (t1 t2 : DenT) : DenT := fun ρ s => (t1 ρ s).bind fun a => if a.1 = true then some (true, a.2) else t2 ρ a.2
@[simp] def tNotD (t : DenT) : DenT := fun ρ s => (t ρ s).bind fun a => some (!a.1, a.2)
theorem sw_and1 (h : ST p c n e t) : SW p c n (.BoolOp .And [e] pos) t := fun X g ρ s b s' e' σ H w Q R q => ⟨_, pw_and1 wT_ok, h X g ρ s b s' e' σ H w Q R q⟩
theorem sw_or1 (h : ST p c n e t) : SW p c n (.BoolOp .Or [e] pos) t := fun X g ρ s b s' e' σ H w Q R q => ⟨_, pw_or1 wT_ok, h X g ρ s b s' e' σ H w Q R q⟩
theorem sw_and (h1 : ST p c n e1 t1) (h2 : SW p c n (.BoolOp .And (e2 :: rest) pos) t2) : SW p c n (.BoolOp .And (e1 :: e2 :: rest) pos) (tAndD t1 t2) := by
  intro X g ρ s b s' e' σ H w Q R q
  simp only [tAndD, Option.bind_eq_some_iff] at e'
  obtain ⟨⟨b1, s1⟩, a1, a2⟩ := e'
  refine ⟨_, pw_and wT_ok wW_ok, h1 X g ρ s b1 s1 a1 σ H w _ R fun H1 w1 k1 R1 => ?_⟩
  split at a2
  · rename_i hb
    rw [if_pos hb]
    exact h2 X g ρ s1 b s' a2 σ H1 w1 _ R1 fun H2 w2 k2 R2 => q H2 w2 (k1.trans k2) R2
  · rename_i hb
    rw [if_neg hb]
    cases a2
    exact q H1 w1 k1 R1
theorem sw_or (h1 : ST p c n e1 t1) (h2 : SW p c n (.BoolOp .Or (e2 :: rest) pos) t2) : SW p c n (.BoolOp .Or (e1 :: e2 :: rest) pos) (tOrD t1 t2) := by
  intro X g ρ s b s' e' σ H w Q R q
  simp only [tOrD, Option.bind_eq_some_iff] at e'
  obtain ⟨⟨b1, s1⟩, a1, a2⟩ := e'
  refine ⟨_, pw_or wT_ok wW_ok, h1 X g ρ s b1 s1 a1 σ H w _ R fun H1 w1 k1 R1 => ?_⟩
  split at a2
  · rename_i hb
    rw [if_pos hb]
    cases a2
    exact q H1 w1 k1 R1
  · rename_i hb
    rw [if_neg hb]
    exact h2 X g ρ s1 b s' a2 σ H1 w1 _ R1 fun H2 w2 k2 R2 => q H2 w2 (k1.trans k2) R2
theorem st_not (h : ST p c n e t) : ST p c n (.UnaryOp .Not e pos) (tNotD t) := by
  intro X g ρ s b s' e' σ H w Q R q
  simp only [tNotD, Option.bind_eq_some_iff] at e'
  obtain ⟨⟨b1, s1⟩, a1, a2⟩ := e'
  cases a2
  exact ⟨_, pt_not wT_ok, h X g ρ s b1 s1 a1 σ H w _ R fun H1 w1 k1 R1 => q H1 w1 k1 R1⟩
/-- .. as values -/
@[simp] def dAndV (d1 d2 : Den) : Den := fun ρ s => (d1 ρ s).bind fun a => match a.1 with
  | .v (.bl true) => d2 ρ a.2
  | .v (.bl false) => some (.v (.bl false), a.2)
  | _ => none
@[simp] def dOrV (d1 d2 : Den) : Den := fun ρ s => (d1 ρ s).bind fun a => match a.1 with
  | .v (.bl true) => some (.v (.bl true), a.2)
  | .v (.bl false) => d2 ρ a.2
  | _ => none
@[simp] def dNotV (d1 : Den) : Den := fun ρ s => (d1 ρ s).bind fun a => match a.1 with
  | .v (.bl b) => some (.v (.bl (!b)), a.2)
  | _ => none
theorem se_one {op} (h : SE p c n e d) : SE p c n (.BoolOp op [e] pos) d := fun X g ρ s r s' e' σ H w Q R q => ⟨_, pe_one wE_ok, h X g ρ s r s' e' σ H w Q R q⟩
theorem se_and (h1 : SE p c n e1 d1) (h2 : SE p c n (.BoolOp .And (e2 :: rest) pos) d2) : SE p c n (.BoolOp .And (e1 :: e2 :: rest) pos) (dAndV d1 d2) := by
  intro X g ρ s r s' e' σ H w Q R q
  simp only [dAndV, Option.bind_eq_some_iff] at e'
  obtain ⟨⟨r1, s1⟩, a1, a2⟩ := e'
  refine ⟨_, pe_and wE_ok wE_ok, h1 X g ρ s r1 s1 a1 σ H w _ R fun x H1 w1 k1 R1 q1 => ?_⟩
  split at a2
  · rename_i hr
    simp only at hr
    subst hr
    cases q1
    refine ⟨true, rfl, ?_⟩
    rw [if_pos rfl]
    exact h2 X g ρ s1 r s' a2 σ H1 w1 _ R1 fun y H2 w2 k2 R2 q2 => q y H2 w2 (k1.trans k2) R2 (q2.back k1)
  · rename_i hr
    simp only at hr
    subst hr
    cases q1
    cases a2
    refine ⟨false, rfl, ?_⟩
    rw [if_neg Bool.false_ne_true]
    exact q _ H1 w1 k1 R1 (.bl false)
  · cases a2
theorem se_or (h1 : SE p c n e1 d1) (h2 : SE p c n (.BoolOp .Or (e2 :: rest) pos) d2) : SE p c n (.BoolOp .Or (e1 :: e2 :: rest) pos) (dOrV d1 d2) := by
  intro X g ρ s r s' e' σ H w Q R q
  simp only [dOrV, Option.bind_eq_some_iff] at e'
  obtain ⟨⟨r1, s1⟩, a1, a2⟩ := e'
  refine ⟨_, pe_or wE_ok wE_ok, h1 X g ρ s r1 s1 a1 σ H w _ R fun x H1 w1 k1 R1 q1 => ?_⟩
  split at a2
  · rename_i hr
    simp only at hr
    subst hr
    cases q1
    cases a2
    refine ⟨true, rfl, ?_⟩
    rw [if_pos rfl]
    exact q _ H1 w1 k1 R1 (.bl true)
  · rename_i hr
    simp only at hr
    subst hr
    cases q1
    refine ⟨false, rfl, ?_⟩
    rw [if_neg Bool.false_ne_true]
    exact h2 X g ρ s1 r s' a2 σ H1 w1 _ R1 fun y H2 w2 k2 R2 q2 => q y H2 w2 (k1.trans k2) R2 (q2.back k1)
  · cases a2
theorem se_not (h : SE p c n e d) : SE p c n (.UnaryOp .Not e pos) (dNotV d) := by
  intro X g ρ s r s' e' σ H w Q R q
  simp only [dNotV, Option.bind_eq_some_iff] at e'
  obtain ⟨⟨r1, s1⟩, a1, a2⟩ := e'
  refine ⟨_, pe_not wE_ok, h X g ρ s r1 s1 a1 σ H w _ R fun x H1 w1 k1 R1 q1 => ?_⟩
  split at a2
  · rename_i b hr
    simp only at hr
    subst hr
    cases q1
    cases a2
    exact ⟨b, rfl, q _ H1 w1 k1 R1 (.bl _)⟩
  · cases a2
@[simp] def dIf (t : DenT) (d1 d2 : Den) : Den := fun ρ s => (t ρ s).bind fun a => if a.1 = true then d1 ρ a.2 else d2 ρ a.2
theorem se_if (h : ST p c n e t) (h1 : SE p c n e1 d1) (h2 : SE p c n e2 d2) : SE p c n (.IfExp e e1 e2 pos) (dIf t d1 d2) := by
  intro X g ρ s r s' e' σ H w Q R q
  simp only [dIf, Option.bind_eq_some_iff] at e'
  obtain ⟨⟨b1, s1⟩, a1, a2⟩ := e'
  refine ⟨_, pe_ifExp wT_ok wE_ok wE_ok, h X g ρ s b1 s1 a1 σ H w _ R fun H1 w1 k1 R1 => ?_⟩
  split at a2
  · rename_i hb
    rw [if_pos hb]
    exact h1 X g ρ s1 r s' a2 σ H1 w1 _ R1 fun y H2 w2 k2 R2 q2 => q y H2 w2 (k1.trans k2) R2 (q2.back k1)
  · rename_i hb
    rw [if_neg hb]
    exact h2 X g ρ s1 r s' a2 σ H1 w1 _ R1 fun y H2 w2 k2 R2 q2 => q y H2 w2 (k1.trans k2) R2 (q2.back k1)

/-! ### calls of built-ins -/
def GlB (c : Cst) (x : Str) : Prop := c.sc.names.lookup x = some .globalImplicit
def OkC (p : Pr) (f : S → List Rs → Option Rs) (rl : List V → Hp → VK → Prop) : Prop :=
  ∀ {H : Hp} {w : Wd} {σ : St} {ρ : Env} {s : S} {xs : List V} {rs : List Rs} {r : Rs} {Q : VK}, SR p.K H w σ ρ s → RsNs p.K H w xs rs → f s rs = some r →
    (∀ z H' w', Keep H w H' w' → SR p.K H' w' σ ρ s → RsE p.K H H' w' z r → Q z H') → rl xs H Q
@[simp] def dCal (f : S → List Rs → Option Rs) (da : DenA) : Den := fun ρ s => (da ρ s).bind fun a => (f a.2 a.1).bind fun r => some (r, a.2)
theorem se_callB {x : Str} {id : String} {p1 : Pos} {f : S → List Rs → Option Rs} {rl : List V → Hp → VK → Prop} (hc : ∀ X, Good p c n X → CallR X (.builtin id) rl) (hf : OkC p f rl)
    (hg : GlB c x) (hm : p.mg x = none) (hv : bootBuiltins x = some (.builtin id)) (ha : SA p c n (e :: es) da) (hn : x ≠ "__name__" := by decide) (hdb : (x == ("__debug__" : Str)) = false := by decide)
    (he : ∀ env, starEach (e :: es) env = (false, eval e env) :: starEach es env := by intro _; rfl) (hpl : ∀ env, (backTo pos (starEach es env)).any (·.1) = false := by intro _; rfl) : SE p c n (.Call (.Name x p1) (e :: es) [] pos) (dCal f da) := by
  intro X g ρ s r s' e' σ H w Q R q
  simp only [dCal, Option.bind_eq_some_iff] at e'
  obtain ⟨⟨rs, s1⟩, a1, r2, a2, a3⟩ := e'
  cases a3
  refine ⟨_, pe_callB (hc X g) (by show X.env.scope.names.lookup x = _; rw [g.sc]; exact hg) (by rw [g.mg]; exact hm) hv wA_ok hn hdb (he _) (hpl _), ha X g ρ s rs s1 a1 σ H w _ R fun xs H1 w1 k1 R1 q1 => ?_⟩
  exact hf R1 q1 a2 fun z H2 w2 k2 R2 q2 => q z H2 w2 (k1.trans k2) R2 (q2.back k1)
theorem se_callT {x : Str} {T : String} {p1 : Pos} {f : S → List Rs → Option Rs} {rl : List V → Hp → VK → Prop} (hc : ∀ X, Good p c n X → CallR X (.type T) rl) (hf : OkC p f rl)
    (hg : GlB c x) (hm : p.mg x = none) (hv : bootBuiltins x = some (.type T)) (ha : SA p c n (e :: es) da) (hn : x ≠ "__name__" := by decide) (hdb : (x == ("__debug__" : Str)) = false := by decide)
    (he : ∀ env, starEach (e :: es) env = (false, eval e env) :: starEach es env := by intro _; rfl) (hpl : ∀ env, (backTo pos (starEach es env)).any (·.1) = false := by intro _; rfl) : SE p c n (.Call (.Name x p1) (e :: es) [] pos) (dCal f da) := by
  intro X g ρ s r s' e' σ H w Q R q
  simp only [dCal, Option.bind_eq_some_iff] at e'
  obtain ⟨⟨rs, s1⟩, a1, r2, a2, a3⟩ := e'
  cases a3
  refine ⟨_, pe_callTy (hc X g) (by show X.env.scope.names.lookup x = _; rw [g.sc]; exact hg) (by rw [g.mg]; exact hm) hv wA_ok hn hdb (he _) (hpl _), ha X g ρ s rs s1 a1 σ H w _ R fun xs H1 w1 k1 R1 q1 => ?_⟩
  exact hf R1 q1 a2 fun z H2 w2 k2 R2 q2 => q z H2 w2 (k1.trans k2) R2 (q2.back k1)
theorem one_of {K : PySem.W.Frag} {H : Hp} {w : Wd} {xs : List V} {r : Rs} (h : RsNs K H w xs [r]) : ∃ x, xs = [x] ∧ RsN K H w x r := by
  cases h with
  | cons a b => cases b; exact ⟨_, rfl, a⟩
theorem two_of {K : PySem.W.Frag} {H : Hp} {w : Wd} {xs : List V} {r1 r2 : Rs} (h : RsNs K H w xs [r1, r2]) : ∃ x y, xs = [x, y] ∧ RsN K H w x r1 ∧ RsN K H w y r2 := by
  cases h with
  | cons a b =>
    cases b with
    | cons b cc => cases cc; exact ⟨_, _, rfl, a, b⟩
/-- len -/
@[simp] def fLen : S → List Rs → Option Rs := fun s rs => match rs with
  | [.v (.str z)] => if z.length ≤ bigLen then some (.v (.int z.length)) else none
  | [a] => (a.seq s).map fun q => .v (.int q.2.length)
  | _ => none
theorem ok_len : OkC p fLen (fun xs H Q => ∃ x n, xs = [x] ∧ LenV p.K x H n ∧ Q (.int n) H) := by
  intro H w σ ρ s xs rs r Q R h e q
  unfold fLen at e
  split at e
  · rename_i z
    split at e
    · rename_i hz
      cases e
      obtain ⟨x, rfl, hx⟩ := one_of h
      cases hx
      exact ⟨_, _, rfl, ⟨big_line hz, rfl⟩, q _ H w (Keep.refl H w) R (.int _)⟩
    · cases e
  · rename_i a _
    obtain ⟨x, rfl, hx⟩ := one_of h
    rw [Option.map_eq_some_iff] at e
    obtain ⟨⟨b, ys⟩, h1, h2⟩ := e
    cases h2
    obtain ⟨l, vs, rfl, ra, hq⟩ := R.seq hx h1
    refine ⟨.ref l, ys.length, rfl, ?_, q _ H w (Keep.refl H w) R (.int _)⟩
    cases b with
    | true => exact .inl ⟨vs, hq, ra.length.symm⟩
    | false => exact .inr ⟨vs, hq, ra.length.symm⟩
  · cases e
@[simp] def dLen (da : DenA) : Den := fun ρ s => dCal fLen da ρ s
theorem se_len {p1 : Pos} (hg : GlB c "len") (hm : p.mg "len" = none) (ha : SA p c n [e] da) (he : ∀ env, starEach [e] env = (false, eval e env) :: starEach [] env := by intro _; rfl) : SE p c n (.Call (.Name "len" p1) [e] [] pos) (dLen da) :=
  se_callB (fun X g => by rw [← g.K]; exact call_len) ok_len hg hm PySem.boot_len ha (by decide) (by decide) he (by intro _; rfl)
/-- all, any of a list of truth values -/
@[simp] def bls? : List D → Option (List Bool)
  | [] => some []
  | d :: ds => match d, bls? ds with
    | .bl b, some bs => some (b :: bs)
    | _, _ => none
theorem bls_of : ∀ {ds : List D} {bs : List Bool}, bls? ds = some bs → ds = bs.map D.bl
  | [], bs, h => by cases h; rfl
  | d :: ds, bs, h => by
    unfold bls? at h
    split at h
    · rename_i b bs' e1
      cases h
      rw [bls_of e1]
      rfl
    · cases h
@[simp] def fBls (f : List Bool → Bool) : S → List Rs → Option Rs := fun s rs => match rs with
  | [a] => match a.seq s with
    | some (true, ds) => (bls? ds).map fun bs => .v (.bl (f bs))
    | _ => none
  | _ => none
theorem bls_core {f : List Bool → Bool} {H : Hp} {w : Wd} {σ : St} {ρ : Env} {s : S} {xs : List V} {rs : List Rs} {r : Rs} {Q : VK} (R : SR p.K H w σ ρ s) (h : RsNs p.K H w xs rs) (e : fBls f s rs = some r)
    (q : ∀ z H' w', Keep H w H' w' → SR p.K H' w' σ ρ s → RsE p.K H H' w' z r → Q z H') : ∃ (a : Addr) (bs : List Bool), xs = [V.ref a] ∧ SqL p.K H a (bs.map V.bl) ∧ Q (.bl (f bs)) H := by
  unfold fBls at e
  split at e
  · rename_i a
    obtain ⟨x, rfl, hx⟩ := one_of h
    split at e
    · rename_i ds hs
      rw [Option.map_eq_some_iff] at e
      obtain ⟨bs, h1, h2⟩ := e
      cases h2
      obtain ⟨l, vs, rfl, ra, hq⟩ := R.seq hx hs
      rw [bls_of h1] at ra
      rw [ra.bls] at hq
      exact ⟨l, bs, rfl, hq, q _ H w (Keep.refl H w) R (.bl _)⟩
    · cases e
  · cases e
@[simp] def dAll (da : DenA) : Den := fun ρ s => dCal (fBls fun bs => bs.all id) da ρ s
@[simp] def dAny (da : DenA) : Den := fun ρ s => dCal (fBls fun bs => bs.any id) da ρ s
theorem se_all {p1 : Pos} (hg : GlB c "all") (hm : p.mg "all" = none) (ha : SA p c n [e] da) (he : ∀ env, starEach [e] env = (false, eval e env) :: starEach [] env := by intro _; rfl) : SE p c n (.Call (.Name "all" p1) [e] [] pos) (dAll da) :=
  se_callB (rl := rAll p.K) (fun X g => by rw [← g.K]; exact cr_all g.calm) (fun R h e q => bls_core R h e q) hg hm (by decide +kernel) ha (by decide) (by decide) he (by intro _; rfl)
theorem se_any {p1 : Pos} (hg : GlB c "any") (hm : p.mg "any" = none) (ha : SA p c n [e] da) (he : ∀ env, starEach [e] env = (false, eval e env) :: starEach [] env := by intro _; rfl) : SE p c n (.Call (.Name "any" p1) [e] [] pos) (dAny da) :=
  se_callB (rl := rAny p.K) (fun X g => by rw [← g.K]; exact cr_any g.calm) (fun R h e q => bls_core R h e q) hg hm (by decide +kernel) ha (by decide) (by decide) he (by intro _; rfl)
/-- sum, of a list of ints -/
@[simp] def ints? : List D → Option (List Int)
  | [] => some []
  | d :: ds => match d, ints? ds with
    | .int b, some bs => some (b :: bs)
    | _, _ => none
theorem ints_of : ∀ {ds : List D} {bs : List Int}, ints? ds = some bs → ds = bs.map D.int
  | [], bs, h => by cases h; rfl
  | d :: ds, bs, h => by
    unfold ints? at h
    split at h
    · rename_i b bs' e1
      cases h
      rw [ints_of e1]
      rfl
    · cases h
theorem ints_map : ∀ ns : List Int, ints? (ns.map D.int) = some ns
  | [] => rfl
  | n :: ns => by rw [List.map_cons]; unfold ints?; rw [ints_map ns]
theorem bls_map : ∀ ns : List Bool, bls? (ns.map D.bl) = some ns
  | [] => rfl
  | n :: ns => by rw [List.map_cons]; unfold bls?; rw [bls_map ns]
@[simp] def fSum : S → List Rs → Option Rs := fun s rs => match rs with
  | [a] => match a.seq s with
    | some (true, ds) => (ints? ds).map fun ns => .v (.int ns.sum)
    | _ => none
  | _ => none
theorem ok_sum : OkC p fSum (rSum p.K) := by
  intro H w σ ρ s xs rs r Q R h e q
  unfold fSum at e
  split at e
  · rename_i a
    obtain ⟨x, rfl, hx⟩ := one_of h
    split at e
    · rename_i ds hs
      rw [Option.map_eq_some_iff] at e
      obtain ⟨bs, h1, h2⟩ := e
      cases h2
      obtain ⟨l, vs, rfl, ra, hq⟩ := R.seq hx hs
      rw [ints_of h1] at ra
      simp only [if_pos] at hq
      rw [ra.ints] at hq
      exact ⟨l, bs, rfl, hq, q _ H w (Keep.refl H w) R (.int _)⟩
    · cases e
  · cases e
@[simp] def dSum (da : DenA) : Den := fun ρ s => dCal fSum da ρ s
theorem se_sum {p1 : Pos} (hg : GlB c "sum") (hm : p.mg "sum" = none) (ha : SA p c n [e] da) (he : ∀ env, starEach [e] env = (false, eval e env) :: starEach [] env := by intro _; rfl) : SE p c n (.Call (.Name "sum" p1) [e] [] pos) (dSum da) :=
  se_callB (fun X g => by rw [← g.K]; exact cr_sum g.calm) ok_sum hg hm (by decide +kernel) ha (by decide) (by decide) he (by intro _; rfl)
/-- tuple(..), list(..) -/
@[simp] def fTup : S → List Rs → Option Rs := fun s rs => match rs with
  | [a] => (a.seq s).map fun q => .v (.tup q.2)
  | _ => none
theorem ok_tuple : OkC p fTup (fun xs H Q => ∃ l ys, xs = [.ref l] ∧ ((SqL p.K H l ys ∧ ∀ t, H t = none → Q (.ref t) (upd H t (.tup ys))) ∨ (SqT p.K H l ys ∧ Q (.ref l) H))) := by
  intro H w σ ρ s xs rs r Q R h e q
  unfold fTup at e
  split at e
  · rename_i a
    obtain ⟨x, rfl, hx⟩ := one_of h
    rw [Option.map_eq_some_iff] at e
    obtain ⟨⟨b, ys⟩, h1, h2⟩ := e
    cases h2
    obtain ⟨l, vs, rfl, ra, hq⟩ := R.seq hx h1
    refine ⟨l, vs, rfl, ?_⟩
    cases b with
    | true =>
      refine .inl ⟨hq, fun t ht => ?_⟩
      obtain ⟨k, R2, r2⟩ := R.mkTup ht ra
      exact q _ _ _ k R2 r2
    | false => exact .inr ⟨hq, q _ H w (Keep.refl H w) R (.tup hq ra)⟩
  · cases e
@[simp] def dTuple (da : DenA) : Den := fun ρ s => dCal fTup da ρ s
theorem se_tuple {p1 : Pos} (hg : GlB c "tuple") (hm : p.mg "tuple" = none) (ha : SA p c n [e] da) (he : ∀ env, starEach [e] env = (false, eval e env) :: starEach [] env := by intro _; rfl) : SE p c n (.Call (.Name "tuple" p1) [e] [] pos) (dTuple da) :=
  se_callT (fun X g => by rw [← g.K]; exact call_tuple_of) ok_tuple hg hm (by decide +kernel) ha (by decide) (by decide) he (by intro _; rfl)
@[simp] def fList : S → List Rs → Option Rs := fun s rs => match rs with
  | [a] => (a.seq s).map fun q => .own q.2
  | _ => none
theorem ok_list : OkC p fList (fun xs H Q => ∃ l ys, xs = [.ref l] ∧ (SqL p.K H l ys ∨ SqT p.K H l ys) ∧ ∀ t, H t = none → Q (.ref t) (upd H t (.lst ys))) := by
  intro H w σ ρ s xs rs r Q R h e q
  unfold fList at e
  split at e
  · rename_i a
    obtain ⟨x, rfl, hx⟩ := one_of h
    rw [Option.map_eq_some_iff] at e
    obtain ⟨⟨b, ys⟩, h1, h2⟩ := e
    cases h2
    obtain ⟨l, vs, rfl, ra, hq⟩ := R.seq hx h1
    refine ⟨l, vs, rfl, ?_, fun t ht => ?_⟩
    · cases b with
      | true => exact .inl hq
      | false => exact .inr hq
    · obtain ⟨k, R2, r2⟩ := R.own ht ra
      exact q _ _ _ k R2 r2
  · cases e
@[simp] def dList (da : DenA) : Den := fun ρ s => dCal fList da ρ s
theorem se_list {p1 : Pos} (hg : GlB c "list") (hm : p.mg "list" = none) (ha : SA p c n [e] da) (he : ∀ env, starEach [e] env = (false, eval e env) :: starEach [] env := by intro _; rfl) : SE p c n (.Call (.Name "list" p1) [e] [] pos) (dList da) :=
  se_callT (fun X g => by rw [← g.K]; exact call_list_of) ok_list hg hm (by decide +kernel) ha (by decide) (by decide) he (by intro _; rfl)
/-- int, abs, max, min, divmod -/
@[simp] def fInt : S → List Rs → Option Rs := fun _ rs => match rs with
  | [.v (.int i)] => some (.v (.int i))
  | [.v (.bl k)] => some (.v (.int (if k then 1 else 0)))
  | _ => none
theorem ok_int : OkC p fInt (fun xs H Q => (∃ i, xs = [.int i] ∧ Q (.int i) H) ∨ ∃ k, xs = [.bl k] ∧ Q (.int (if k then 1 else 0)) H) := by
  intro H w σ ρ s xs rs r Q R h e q
  unfold fInt at e
  split at e
  · cases e
    obtain ⟨x, rfl, hx⟩ := one_of h
    cases hx
    exact .inl ⟨_, rfl, q _ H w (Keep.refl H w) R (.int _)⟩
  · cases e
    obtain ⟨x, rfl, hx⟩ := one_of h
    cases hx
    exact .inr ⟨_, rfl, q _ H w (Keep.refl H w) R (.int _)⟩
  · cases e
@[simp] def dInt (da : DenA) : Den := fun ρ s => dCal fInt da ρ s
theorem se_intc {p1 : Pos} (hg : GlB c "int") (hm : p.mg "int" = none) (ha : SA p c n [e] da) (he : ∀ env, starEach [e] env = (false, eval e env) :: starEach [] env := by intro _; rfl) : SE p c n (.Call (.Name "int" p1) [e] [] pos) (dInt da) :=
  se_callT (fun X g => call_int1) ok_int hg hm (by decide +kernel) ha (by decide) (by decide) he (by intro _; rfl)
@[simp] def fAbs : S → List Rs → Option Rs := fun _ rs => match rs with
  | [.v (.int i)] => some (.v (.int (if i < 0 then -i else i)))
  | _ => none
theorem ok_abs : OkC p fAbs (fun xs H Q => ∃ i, xs = [.int i] ∧ Q (.int (if i < 0 then -i else i)) H) := by
  intro H w σ ρ s xs rs r Q R h e q
  unfold fAbs at e
  split at e
  · cases e
    obtain ⟨x, rfl, hx⟩ := one_of h
    cases hx
    exact ⟨_, rfl, q _ H w (Keep.refl H w) R (.int _)⟩
  · cases e
@[simp] def dAbs (da : DenA) : Den := fun ρ s => dCal fAbs da ρ s
theorem se_abs {p1 : Pos} (hg : GlB c "abs") (hm : p.mg "abs" = none) (ha : SA p c n [e] da) (he : ∀ env, starEach [e] env = (false, eval e env) :: starEach [] env := by intro _; rfl) : SE p c n (.Call (.Name "abs" p1) [e] [] pos) (dAbs da) :=
  se_callB (fun X g => call_abs) ok_abs hg hm (by decide +kernel) ha (by decide) (by decide) he (by intro _; rfl)
@[simp] def fI2 (C : Int → Int → Bool) (g : Int → Int → D) : S → List Rs → Option Rs := fun _ rs => match rs with
  | [.v (.int i), .v (.int j)] => if C i j = true then some (.v (g i j)) else none
  | _ => none
theorem ok_max2 : OkC p (fI2 (fun _ _ => true) fun i j => .int (if j > i then j else i)) (fun xs H Q => ∃ i j, xs = [.int i, .int j] ∧ Q (.int (if j > i then j else i)) H) := by
  intro H w σ ρ s xs rs r Q R h e q
  unfold fI2 at e
  split at e
  · rw [if_pos rfl] at e
    cases e
    obtain ⟨x, y, rfl, hx, hy⟩ := two_of h
    cases hx
    cases hy
    exact ⟨_, _, rfl, q _ H w (Keep.refl H w) R (.int _)⟩
  · cases e
theorem ok_min2 : OkC p (fI2 (fun _ _ => true) fun i j => .int (if j < i then j else i)) (fun xs H Q => ∃ i j, xs = [.int i, .int j] ∧ Q (.int (if j < i then j else i)) H) := by
  intro H w σ ρ s xs rs r Q R h e q
  unfold fI2 at e
  split at e
  · rw [if_pos rfl] at e
    cases e
    obtain ⟨x, y, rfl, hx, hy⟩ := two_of h
    cases hx
    cases hy
    exact ⟨_, _, rfl, q _ H w (Keep.refl H w) R (.int _)⟩
  · cases e
@[simp] def dMax2 (da : DenA) : Den := fun ρ s => dCal (fI2 (fun _ _ => true) fun i j => .int (if j > i then j else i)) da ρ s
@[simp] def dMin2 (da : DenA) : Den := fun ρ s => dCal (fI2 (fun _ _ => true) fun i j => .int (if j < i then j else i)) da ρ s
theorem se_max2 {p1 : Pos} (hg : GlB c "max") (hm : p.mg "max" = none) (ha : SA p c n [e1, e2] da) (he : ∀ env, starEach [e1, e2] env = (false, eval e1 env) :: starEach [e2] env := by intro _; rfl) (hpl : ∀ env, (backTo pos (starEach [e2] env)).any (·.1) = false := by intro _; rfl) :
    SE p c n (.Call (.Name "max" p1) [e1, e2] [] pos) (dMax2 da) := se_callB (fun X g => call_max2 g.calm) ok_max2 hg hm (by decide +kernel) ha (by decide) (by decide) he hpl
theorem se_min2 {p1 : Pos} (hg : GlB c "min") (hm : p.mg "min" = none) (ha : SA p c n [e1, e2] da) (he : ∀ env, starEach [e1, e2] env = (false, eval e1 env) :: starEach [e2] env := by intro _; rfl) (hpl : ∀ env, (backTo pos (starEach [e2] env)).any (·.1) = false := by intro _; rfl) :
    SE p c n (.Call (.Name "min" p1) [e1, e2] [] pos) (dMin2 da) := se_callB (fun X g => call_min2 g.calm) ok_min2 hg hm (by decide +kernel) ha (by decide) (by decide) he hpl
theorem ok_divmod : OkC p (fI2 (fun _ j => decide (0 < j) && decide (j.natAbs < 1073741824)) fun i j => .tup [.int (i / j), .int (i % j)])
    (fun xs H Q => ∃ i j, xs = [.int i, .int j] ∧ CDiv i j ∧ ∀ t, H t = none → Q (.ref t) (upd H t (.tup [.int (i / j), .int (i % j)]))) := by
  intro H w σ ρ s xs rs r Q R h e q
  unfold fI2 at e
  split at e
  · split at e
    · rename_i hz
      cases e
      obtain ⟨x, y, rfl, hx, hy⟩ := two_of h
      cases hx
      cases hy
      simp only [Bool.and_eq_true, decide_eq_true_eq] at hz
      refine ⟨_, _, rfl, ⟨hz.1, by omega⟩, fun t ht => ?_⟩
      obtain ⟨k, R2, r2⟩ := R.mkTup ht (.cons (.int _) (.cons (.int _) .nil))
      exact q _ _ _ k R2 r2
    · cases e
  · cases e
@[simp] def dDivmod (da : DenA) : Den := fun ρ s => dCal (fI2 (fun _ j => decide (0 < j) && decide (j.natAbs < 1073741824)) fun i j => .tup [.int (i / j), .int (i % j)]) da ρ s
theorem se_divmod {p1 : Pos} (hg : GlB c "divmod") (hm : p.mg "divmod" = none) (ha : SA p c n [e1, e2] da) (he : ∀ env, starEach [e1, e2] env = (false, eval e1 env) :: starEach [e2] env := by intro _; rfl) (hpl : ∀ env, (backTo pos (starEach [e2] env)).any (·.1) = false := by intro _; rfl) :
    SE p c n (.Call (.Name "divmod" p1) [e1, e2] [] pos) (dDivmod da) := se_callB (fun X g => call_divmod) ok_divmod hg hm (by decide +kernel) ha (by decide) (by decide) he hpl

/-! ### isinstance(x, T), T a built-in class -/
@[simp] def D.tyN : D → Option String
  | .non => some "NoneType"
  | .bl _ => some "bool"
  | .int _ => some "int"
  | .str _ => some "str"
  | .lst _ => some "list"
  | .tup _ => some "tuple"
  | _ => none
theorem Rp.ty {K : PySem.W.Frag} {H : Hp} {w : Wd} {x : V} {d : D} {T : String} (h : Rp K H w x d) (e : d.tyN = some T) : TyX K H x (.type T) := by
  cases h with
  | non => cases e; exact .base .non
  | bl b => cases e; exact .base (.bl b)
  | int i => cases e; exact .base (.int i)
  | str z => cases e; exact .base (.str z)
  | lst h1 h2 h3 => cases e; exact .base (.lst h1)
  | tup h1 h2 =>
    cases e
    rcases h1 with (h1 | ⟨o, h1⟩) | ⟨o, its, m, h1, h3, _⟩
    · exact .base (.tup h1)
    · exact .fTuple h1
    · exact .kTuple h1 h3
  | ref h1 => cases e
  | scr h1 => cases e
@[simp] def isT (T : String) (d : D) : Option Bool := d.tyN.bind fun t => kitB t T
@[simp] def dIsi (T : String) (d : Den) : Den := fun ρ s => (d ρ s).bind fun a => match a.1 with
  | .v x => (isT T x).map fun b => (.v (.bl b), a.2)
  | .own xs => (isT T (.lst xs)).map fun b => (.v (.bl b), a.2)
  | _ => none
theorem se_isi {x T : Str} {Tn : String} {p1 p2 : Pos} (hg : GlB c "isinstance") (hm : p.mg "isinstance" = none) (hgT : GlB c T) (hmT : p.mg T = none) (hvT : bootBuiltins T = some (.type Tn)) (h : SE p c n e d)
    (hnT : T ≠ "__name__" := by decide) (hdT : (T == ("__debug__" : Str)) = false := by decide)
    (he : ∀ env, starEach [e, .Name T p2] env = (false, eval e env) :: starEach [.Name T p2] env := by intro _; rfl) : SE p c n (.Call (.Name "isinstance" p1) [e, .Name T p2] [] pos) (dIsi Tn d) := by
  intro X g ρ s r s' e' σ H w Q R q
  simp only [dIsi, Option.bind_eq_some_iff] at e'
  obtain ⟨⟨r1, s1⟩, a1, a2⟩ := e'
  have gl : ∀ {y : Str}, GlB c y → Gl X y := fun {y} hy => by show X.env.scope.names.lookup y = _; rw [g.sc]; exact hy
  refine ⟨_, pe_callB call_isi (gl hg) (by rw [g.mg]; exact hm) (by decide +kernel) (pa_cons wE_ok (pa_cons (pe_bltn (v := .ty Tn) (gl hgT) (by rw [g.mg]; exact hmT) hvT rfl hnT hdT) pa_nil rfl) (he _)) (by decide) (by decide) (he _) rfl, h.fz g a1 R fun v H1 w1 k1 R1 q1 => ?_⟩
  have fin : ∀ {dd : D} {b : Bool}, isT Tn dd = some b → Rp p.K H1 w1 v dd → r = .v (.bl b) → s' = s1 → rIsi X.K [v, .ty Tn] H1 Q := by
    intro dd b hb hr e1 e2
    subst e1 e2
    unfold isT at hb
    rw [Option.bind_eq_some_iff] at hb
    obtain ⟨t, ht, hb⟩ := hb
    exact ⟨v, .ty Tn, .type t, .type Tn, b, rfl, .ty Tn, by rw [g.K]; exact hr.ty ht, kit_ty hb, q _ H1 w1 k1 R1 (.bl b)⟩
  split at a2
  · rename_i dd hr
    simp only at hr
    subst hr
    rw [Option.map_eq_some_iff] at a2
    obtain ⟨b, hb, e2⟩ := a2
    cases e2
    exact fin hb q1 rfl rfl
  · rename_i xs hr
    simp only at hr
    subst hr
    rw [Option.map_eq_some_iff] at a2
    obtain ⟨b, hb, e2⟩ := a2
    cases e2
    exact fin hb q1 rfl rfl
  · cases a2
end
end Ev1
/-! Core 5: cells changed, targets, statements, while. -/
namespace Ev1
open PySem L2

section
variable {K : PySem.W.Frag} {H0 H H' : Hp} {w0 w w' : Wd} {σ σ' : St} {ρ : Env} {s : S}
theorem SR.setEnv (R : SR K H w σ ρ s) {i : Nat} {x : V} {r : Rs} (h : RsN K H w x r) : SR K H w (σ.set i (some x)) (ρ.set i (some r)) s := by
  refine ⟨by simp [R.len], fun j q e => ?_, R.loc, R.glb, R.wk⟩
  have hl := R.len
  by_cases hj : i = j
  · subst hj
    rw [List.getElem?_set] at e
    simp only [if_pos] at e
    split at e
    · cases e
      exact ⟨x, by rw [List.getElem?_set_self (by omega)], h⟩
    · cases e
  · rw [List.getElem?_set_ne hj] at e
    obtain ⟨y, h1, h2⟩ := R.env j q e
    exact ⟨y, by rw [List.getElem?_set_ne hj]; exact h1, h2⟩
/-- a cell holds something else from now on -/
theorem Wk.put (L : Wk H w) {a : Addr} (ha : a ∈ w.la ++ w.ga) {vs : List V} : Keep H w (upd H a (.lst vs)) w ∧ Wk (upd H a (.lst vs)) w := by
  obtain ⟨us, e⟩ := L.isL a (L.inM a ha)
  have is : ∀ b o, H b = some o → ∃ o', (upd H a (.lst vs)) b = some o' := fun b o h => by
    by_cases hb : b = a
    · subst hb; exact ⟨_, upd_same⟩
    · exact ⟨o, by rw [upd_ne hb]; exact h⟩
  refine ⟨⟨is, fun b o h m => ?_, fun _ _ _ h => h, fun _ _ _ h => h, fun _ _ _ h => h, fun _ _ h => h, fun _ _ h => h, rfl⟩, L.nd, L.inM, fun b m => ?_, L.fr, fun b h => ?_⟩
  · rw [upd_ne (show b ≠ a from fun z => m (z ▸ ha))]; exact h
  · obtain ⟨vs', e'⟩ := L.isL b m
    by_cases hb : b = a
    · subst hb; exact ⟨_, upd_same⟩
    · exact ⟨vs', by rw [upd_ne hb]; exact e'⟩
  · by_cases hb : b = a
    · subst hb; rw [upd_same] at h; cases h
    · rw [upd_ne hb] at h; exact L.back b h
theorem nodup_at : ∀ {as : List Addr}, as.Nodup → ∀ {i j : Nat} {a : Addr}, as[i]? = some a → as[j]? = some a → i = j
  | [], _, _, _, _, h, _ => by simp at h
  | b :: as, nd, 0, 0, _, _, _ => rfl
  | b :: as, nd, 0, j + 1, a, h1, h2 => by
    simp at h1 h2
    subst h1
    exact ((List.nodup_cons.mp nd).1 (List.mem_of_getElem? h2)).elim
  | b :: as, nd, i + 1, 0, a, h1, h2 => by
    simp at h1 h2
    subst h2
    exact ((List.nodup_cons.mp nd).1 (List.mem_of_getElem? h1)).elim
  | b :: as, nd, i + 1, j + 1, a, h1, h2 => by
    have := nodup_at (List.nodup_cons.mp nd).2 (i := i) (j := j) (a := a) (by simpa using h1) (by simpa using h2)
    omega
theorem Cells.put (k : Keep H w H' w) (L : Wk H w) {as : List Addr} {cs : List Cell} (h : Cells K H w as cs) (nd : as.Nodup) {n : Nat} {a : Addr} (ha : as[n]? = some a) {vs : List V} {c' : Cell} (e' : H' a = some (.lst vs)) (r : RpAll K H' w vs c')
    (ne : ∀ b, b ≠ a → H' b = H b) : Cells K H' w as (cs.set n c') := by
  refine ⟨by rw [List.length_set]; exact h.1, fun m c e => ?_⟩
  by_cases hm : n = m
  · subst hm
    rw [List.getElem?_set] at e
    simp only [if_pos] at e
    split at e
    · cases e
      exact ⟨a, vs, ha, e', r⟩
    · cases e
  · rw [List.getElem?_set_ne hm] at e
    obtain ⟨b, us, h1, h2, h3⟩ := h.2 m c e
    refine ⟨b, us, h1, ?_, h3.keep k L⟩
    rw [ne b (fun z => hm (nodup_at nd ha (z ▸ h1)))]
    exact h2
theorem Cells.other (k : Keep H w H' w) (L : Wk H w) {as : List Addr} {cs : List Cell} (h : Cells K H w as cs) {a : Addr} (na : a ∉ as) (ne : ∀ b, b ≠ a → H' b = H b) : Cells K H' w as cs :=
  h.keep k L fun b hb => ne b fun z => na (z ▸ hb)
/-- the cell that a result is, with something else in it -/
@[simp] def S.put (s : S) (r : Rs) (c' : Cell) : Option S := match r with
  | .loc n => if n < s.l.length then some { s with l := s.l.set n c' } else none
  | .v (.ref n) => if n < s.g.length then some { s with g := s.g.set n c' } else none
  | _ => none
/-- what a cell holds -/
@[simp] def Rs.cell (s : S) : Rs → Option Cell
  | .loc n => s.l[n]?
  | .v (.ref n) => s.g[n]?
  | _ => none
theorem SR.put (R : SR K H w σ ρ s) {x : V} {r : Rs} (h : RsN K H w x r) {c' : Cell} {s' : S} (e : s.put r c' = some s') :
    ∃ a vs c, x = .ref a ∧ H a = some (.lst vs) ∧ r.cell s = some c ∧ RpAll K H w vs c ∧ ∀ vs', RpAll K H w vs' c' → Keep H w (upd H a (.lst vs')) w ∧ SR K (upd H a (.lst vs')) w σ ρ s' := by
  have nd := List.nodup_append.mp R.wk.nd
  have core : ∀ {a : Addr}, a ∈ w.la ++ w.ga → ∀ {s' : S}, (∀ vs', RpAll K H w vs' c' → Keep H w (upd H a (.lst vs')) w → Cells K (upd H a (.lst vs')) w w.la s'.l ∧ Cells K (upd H a (.lst vs')) w w.ga s'.g) →
      ∀ vs', RpAll K H w vs' c' → Keep H w (upd H a (.lst vs')) w ∧ SR K (upd H a (.lst vs')) w σ ρ s' := by
    intro a ha s' hc vs' rv
    obtain ⟨k, L⟩ := R.wk.put (vs := vs') ha
    obtain ⟨c1, c2⟩ := hc vs' rv k
    refine ⟨k, R.len, fun i q e => ?_, c1, c2, L⟩
    obtain ⟨y, h1, h2⟩ := R.env i q e
    exact ⟨y, h1, h2.keep k R.wk⟩
  unfold S.put at e
  split at e
  · rename_i n
    split at e
    · rename_i hn
      cases e
      obtain ⟨a, rfl, ha⟩ := h
      obtain ⟨a', vs, h1, h2, h3⟩ := R.loc.2 n s.l[n] (by simp [hn])
      rw [ha] at h1; cases h1
      have ma : a ∈ w.la := List.mem_of_getElem? ha
      refine ⟨a, vs, s.l[n], rfl, h2, by simp [Rs.cell, hn], h3, core (List.mem_append_left _ ma) fun vs' rv k => ⟨R.loc.put k R.wk nd.1 ha upd_same (rv.keep k R.wk) fun b hb => upd_ne hb, R.glb.other k R.wk (fun z => nd.2.2 a ma a z rfl) fun b hb => upd_ne hb⟩⟩
    · cases e
  · rename_i n
    split at e
    · rename_i hn
      cases e
      cases h with
      | ref ha =>
        rename_i a
        obtain ⟨a', vs, h1, h2, h3⟩ := R.glb.2 n s.g[n] (by simp [hn])
        rw [ha] at h1; cases h1
        have ma : a ∈ w.ga := List.mem_of_getElem? ha
        refine ⟨a, vs, s.g[n], rfl, h2, by simp [Rs.cell, hn], h3, core (List.mem_append_right _ ma) fun vs' rv k => ⟨R.loc.other k R.wk (fun z => nd.2.2 a z a ma rfl) fun b hb => upd_ne hb, R.glb.put k R.wk nd.2.1 ha upd_same (rv.keep k R.wk) fun b hb => upd_ne hb⟩⟩
    · cases e
  · cases e
/-- a new list becomes a cell of the def's own -/
theorem SR.promote (R : SR K H w σ ρ s) (L0 : Wk H0 w0) (k : Keep H0 w0 H w) {x : V} {xs : List D} (h : RsE K H0 H w x (.own xs)) :
    ∃ w2, Keep H0 w0 H w2 ∧ SR K H w2 σ ρ { s with l := s.l ++ [xs] } ∧ RsN K H w2 x (.loc s.l.length) := by
  obtain ⟨a, vs, rfl, h0, h1, h2, h3, h4⟩ := h
  have hla : w.la.length = s.l.length := R.loc.1
  have na : a ∉ w.la := fun z => h4 (List.mem_append_left _ z)
  have ng : a ∉ w.ga := fun z => h4 (List.mem_append_right _ z)
  have memc : ∀ b, b ∈ (w.la ++ [a]) ++ w.ga → b ∈ w.la ++ w.ga ∨ b = a := fun b hb => by
    simp only [List.mem_append, List.mem_singleton] at hb ⊢
    rcases hb with (hb | hb) | hb
    · exact .inl (.inl hb)
    · exact .inr hb
    · exact .inl (.inr hb)
  have same : ∀ {v : V} {d : D}, Rp K H w v d → Rp K H { w with la := w.la ++ [a] } v d := fun {v d} hh => by
    exact @Rp.rec K H w (fun v d _ => Rp K H { w with la := w.la ++ [a] } v d) (fun vs ds _ => RpAll K H { w with la := w.la ++ [a] } vs ds) .non .bl .int .str (fun h m _ r => .lst h m r) (fun h _ r => .tup h r) (fun h => .ref h) (fun h => .scr h) .nil (fun _ _ a b => .cons a b) _ _ hh
  have sameA : ∀ {vs : List V} {ds : List D}, RpAll K H w vs ds → RpAll K H { w with la := w.la ++ [a] } vs ds := fun {vs ds} hh => by
    exact @RpAll.rec K H w (fun v d _ => Rp K H { w with la := w.la ++ [a] } v d) (fun vs ds _ => RpAll K H { w with la := w.la ++ [a] } vs ds) .non .bl .int .str (fun h m _ r => .lst h m r) (fun h _ r => .tup h r) (fun h => .ref h) (fun h => .scr h) .nil (fun _ _ a b => .cons a b) _ _ hh
  have getl : ∀ (n : Nat) (b : Addr), w.la[n]? = some b → (w.la ++ [a])[n]? = some b := fun n b e => by
    rw [List.getElem?_append_left (List.getElem?_eq_some_iff.mp e).1]; exact e
  refine ⟨{ w with la := w.la ++ [a] }, ⟨k.is, k.obj, fun b o hb m z => ?_, k.nm, k.mm, fun n b e => getl n b (k.la n b e), k.ga, k.h0⟩, ⟨R.len, fun i r e => ?_, ⟨by simp [hla], fun n c e => ?_⟩, ⟨R.glb.1, fun n c e => ?_⟩, ⟨?_, fun b hb => ?_, R.wk.isL, fun b hb => ?_, R.wk.back⟩⟩, a, rfl, ?_⟩
  · rcases memc b z with z | z
    · exact k.nc b o hb m z
    · exact ne_of_none hb h0 z
  · obtain ⟨y, e1, e2⟩ := R.env i r e
    refine ⟨y, e1, ?_⟩
    cases r with
    | v d => exact same e2
    | loc n => obtain ⟨b, e3, e4⟩ := e2; exact ⟨b, e3, getl n b e4⟩
    | own _ => exact e2.elim
  · by_cases hn : n < s.l.length
    · rw [List.getElem?_append_left hn] at e
      obtain ⟨b, us, e1, e2, e3⟩ := R.loc.2 n c e
      exact ⟨b, us, getl n b e1, e2, sameA e3⟩
    · rw [List.getElem?_append_right (by omega)] at e
      have hz : n - s.l.length = 0 := by
        have := (List.getElem?_eq_some_iff.mp e).1
        simp at this
        omega
      rw [hz] at e
      cases e
      refine ⟨a, vs, ?_, h1, sameA h2⟩
      rw [List.getElem?_append_right (by omega), show n - w.la.length = 0 by omega]
      rfl
  · obtain ⟨b, us, e1, e2, e3⟩ := R.glb.2 n c e
    exact ⟨b, us, e1, e2, sameA e3⟩
  · have nd := List.nodup_append.mp R.wk.nd
    refine List.nodup_append.mpr ⟨List.nodup_append.mpr ⟨nd.1, by simp, fun b hb c hc z => ?_⟩, nd.2.1, fun b hb c hc z => ?_⟩
    · have hc' : c = a := by simpa using hc
      exact na (by rw [← hc', ← z]; exact hb)
    · subst z
      rcases List.mem_append.mp hb with hb | hb
      · exact nd.2.2 b hb b hc rfl
      · have hb' : b = a := by simpa using hb
        exact ng (hb' ▸ hc)
  · rcases memc b hb with z | z
    · exact R.wk.inM b z
    · subst z; exact h3
  · rcases List.mem_append.mp hb with z | z
    · exact R.wk.fr b z
    · have e : b = a := by simpa using z
      subst e
      show w.H0 b = none
      rw [k.h0]
      exact L0.back b h0
  · rw [List.getElem?_append_right (by omega), show s.l.length - w.la.length = 0 by omega]
    rfl
end
end Ev1
/-! Core 6: statements, targets, while. -/
namespace Ev1
open PySem L2

inductive Out where
  | nx (ρ : Env) (s : S)
  | bk (ρ : Env) (s : S)
  | ct (ρ : Env) (s : S)
  | rt (r : Rs) (g : List Cell)
structure KeepR (H : Hp) (w : Wd) (H' : Hp) (w' : Wd) : Prop where
  is : ∀ a o, H a = some o → ∃ o', H' a = some o'
  obj : ∀ a o, H a = some o → a ∉ w.la ++ w.ga → H' a = some o
  nc : ∀ a o, H a = some o → a ∉ w.la ++ w.ga → a ∉ w'.ga
  nm : ∀ a o, H a = some o → ¬ w.M a → ¬ w'.M a
  mm : ∀ a o, H a = some o → w.M a → w'.M a
  ga : ∀ (n : Nat) (a : Addr), w.ga[n]? = some a → w'.ga[n]? = some a
  h0 : w'.H0 = w.H0
structure GR (K : PySem.W.Frag) (H : Hp) (w : Wd) (g : List Cell) : Prop where
  cells : Cells K H w w.ga g
  wk : Wk H w
  la : w.la = []
def Wd.out (w : Wd) : Wd := { w with la := [] }
section
variable {K : PySem.W.Frag} {H0 H H' H'' : Hp} {w0 w w' w'' : Wd} {σ σ' : St} {ρ : Env} {s : S}
theorem Keep.toR (k : Keep H w H' w') : KeepR H w H' w'.out :=
  ⟨k.is, k.obj, fun a o h m z => k.nc a o h m (List.mem_append_right _ z), k.nm, k.mm, k.ga, k.h0⟩
theorem Keep.transR (k : Keep H w H' w') (r : KeepR H' w' H'' w'') : KeepR H w H'' w'' where
  is := fun x o h => let ⟨o', h'⟩ := k.is x o h; r.is x o' h'
  obj := fun x o h m => r.obj x o (k.obj x o h m) (k.nc x o h m)
  nc := fun x o h m => r.nc x o (k.obj x o h m) (k.nc x o h m)
  nm := fun x o h m => let ⟨o', h'⟩ := k.is x o h; r.nm x o' h' (k.nm x o h m)
  mm := fun x o h m => let ⟨o', h'⟩ := k.is x o h; r.mm x o' h' (k.mm x o h m)
  ga := fun n x h => r.ga n x (k.ga n x h)
  h0 := r.h0.trans k.h0
theorem Rp.out {v : V} {d : D} (h : Rp K H w v d) : Rp K H w.out v d :=
  @Rp.rec K H w (fun v d _ => Rp K H w.out v d) (fun vs ds _ => RpAll K H w.out vs ds) .non .bl .int .str (fun h m _ r => .lst h m r) (fun h _ r => .tup h r) (fun h => .ref h) (fun h => .scr h) .nil (fun _ _ a b => .cons a b) _ _ h
theorem RpAll.out {vs : List V} {ds : List D} (h : RpAll K H w vs ds) : RpAll K H w.out vs ds :=
  @RpAll.rec K H w (fun v d _ => Rp K H w.out v d) (fun vs ds _ => RpAll K H w.out vs ds) .non .bl .int .str (fun h m _ r => .lst h m r) (fun h _ r => .tup h r) (fun h => .ref h) (fun h => .scr h) .nil (fun _ _ a b => .cons a b) _ _ h
theorem SR.out (R : SR K H w σ ρ s) : GR K H w.out s.g := by
  have nd := List.nodup_append.mp R.wk.nd
  refine ⟨⟨R.glb.1, fun n c e => ?_⟩, ⟨nd.2.1, fun a ha => R.wk.inM a (List.mem_append_right _ ha), R.wk.isL, fun a ha => (nomatch (show a ∈ ([] : List Addr) from ha)), R.wk.back⟩, rfl⟩
  obtain ⟨a, vs, h1, h2, h3⟩ := R.glb.2 n c e
  exact ⟨a, vs, h1, h2, h3.out⟩
end

def EndOk (p : Pr) (D : Ends) (H : Hp) (w : Wd) : Out → Prop
  | .nx ρ' s' => ∀ σ' H' w', Keep H w H' w' → SR p.K H' w' σ' ρ' s' → D.nx σ' H'
  | .bk ρ' s' => ∀ σ' H' w', Keep H w H' w' → SR p.K H' w' σ' ρ' s' → D.bk σ' H'
  | .ct ρ' s' => ∀ σ' H' w', Keep H w H' w' → SR p.K H' w' σ' ρ' s' → D.ct σ' H'
  | .rt r g' => ∀ x H' w', KeepR H w H' w' → GR p.K H' w' g' → RsE p.K w.H0 H' w' x r → D.rt x H'
theorem EndOk.mono {p : Pr} {D : Ends} {H H' : Hp} {w w' : Wd} {o : Out} (h : EndOk p D H w o) (k : Keep H w H' w') : EndOk p D H' w' o := by
  cases o with
  | nx ρ' s' => exact fun σ' H2 w2 k2 R => h σ' H2 w2 (k.trans k2) R
  | bk ρ' s' => exact fun σ' H2 w2 k2 R => h σ' H2 w2 (k.trans k2) R
  | ct ρ' s' => exact fun σ' H2 w2 k2 R => h σ' H2 w2 (k.trans k2) R
  | rt r g' => exact fun x H2 w2 k2 R r2 => h x H2 w2 (k.transR k2) R (by rw [← k.h0]; exact r2)
abbrev DenS := Env → S → Option Out
def SS (p : Pr) (c : Cst) (n : Nat) (st : Stmt) (d : DenS) : Prop :=
  ∀ X, Good p c n X → ∀ (ρ : Env) (s : S) (o : Out), d ρ s = some o → ∀ (σ : St) (H : Hp) (w : Wd) (D : Ends), SR p.K H w σ ρ s → EndOk p D H w o → wS X st D σ H
def SSs (p : Pr) (c : Cst) (n : Nat) (st : List Stmt) (d : DenS) : Prop :=
  ∀ X, Good p c n X → ∀ (ρ : Env) (s : S) (o : Out), d ρ s = some o → ∀ (σ : St) (H : Hp) (w : Wd) (D : Ends), SR p.K H w σ ρ s → EndOk p D H w o → wSs X st D σ H

section
variable {p : Pr} {c : Cst} {n : Nat} {e e1 e2 e3 : Expr} {es : List Expr} {d d1 d2 d3 : Den} {t : DenT} {da : DenA} {pos : Pos} {st : Stmt} {sts sts2 : List Stmt} {ds ds1 ds2 : DenS}
@[simp] def dNil : DenS := fun ρ s => some (.nx ρ s)
@[simp] def dSeq (d1 d2 : DenS) : DenS := fun ρ s => (d1 ρ s).bind fun o => match o with
  | .nx ρ' s' => d2 ρ' s'
  | .bk ρ' s' => some (.bk ρ' s')
  | .ct ρ' s' => some (.ct ρ' s')
  | .rt r g => some (.rt r g)
theorem ss_nil : SSs p c n [] dNil := fun X g ρ s o e' σ H w D R q => by
  cases e'
  exact ⟨_, pss_nil, q σ H w (Keep.refl H w) R⟩
theorem ss_one (h : SS p c n st ds) : SSs p c n [st] ds := fun X g ρ s o e' σ H w D R q => ⟨_, pss_one wS_ok, h X g ρ s o e' σ H w D R q⟩
theorem ss_cons (h1 : SS p c n st ds1) (h2 : SSs p c n sts ds2) : SSs p c n (st :: sts) (dSeq ds1 ds2) := by
  intro X g ρ s o e' σ H w D R q
  simp only [dSeq, Option.bind_eq_some_iff] at e'
  obtain ⟨o1, a1, a2⟩ := e'
  refine ⟨_, pss_cons wS_ok wSs_ok, ?_⟩
  show wS X st { D with nx := wSs X sts D } σ H
  refine h1 X g ρ s o1 a1 σ H w _ R ?_
  split at a2
  · intro σ1 H1 w1 k1 R1
    exact h2 X g _ _ o a2 σ1 H1 w1 D R1 (q.mono k1)
  · cases a2; exact q
  · cases a2; exact q
  · cases a2; exact q
theorem ss_pass : SS p c n (.Pass pos) dNil := fun X g ρ s o e' σ H w D R q => by
  cases e'
  exact ⟨_, ps_pass, q σ H w (Keep.refl H w) R⟩
def dBreak : DenS := fun ρ s => some (.bk ρ s)
def dCont : DenS := fun ρ s => some (.ct ρ s)
theorem ss_break : SS p c n (.Break pos) dBreak := fun X g ρ s o e' σ H w D R q => by
  cases e'
  exact ⟨_, ps_break, q σ H w (Keep.refl H w) R⟩
theorem ss_continue : SS p c n (.Continue pos) dCont := fun X g ρ s o e' σ H w D R q => by
  cases e'
  exact ⟨_, ps_continue, q σ H w (Keep.refl H w) R⟩
/-- a statement that is never reached -/
@[simp] def dNo : DenS := fun _ _ => none
theorem ss_no : SS p c n st dNo := fun X g ρ s o e' σ H w D R q => nomatch e'
@[simp] def dIfS (t : DenT) (d1 d2 : DenS) : DenS := fun ρ s => (t ρ s).bind fun a => if a.1 = true then d1 ρ a.2 else d2 ρ a.2
theorem ss_if (ht : ST p c n e t) (h1 : SSs p c n sts ds1) (h2 : SSs p c n sts2 ds2) : SS p c n (.If e sts sts2 pos) (dIfS t ds1 ds2) := by
  intro X g ρ s o e' σ H w D R q
  simp only [dIfS, Option.bind_eq_some_iff] at e'
  obtain ⟨⟨b, s1⟩, a1, a2⟩ := e'
  refine ⟨_, ps_if wT_ok wSs_ok wSs_ok, ht X g ρ s b s1 a1 σ H w _ R fun H1 w1 k1 R1 => ?_⟩
  split at a2
  · rename_i hb
    rw [if_pos hb]
    exact h1 X g ρ s1 o a2 σ H1 w1 D R1 (q.mono k1)
  · rename_i hb
    rw [if_neg hb]
    exact h2 X g ρ s1 o a2 σ H1 w1 D R1 (q.mono k1)
@[simp] def retOf (r : Rs) (s : S) : Option Out := match r with
  | .loc n => s.l[n]?.map fun cc => .rt (.own cc) s.g
  | r => some (.rt r s.g)
@[simp] def dRet (d : Den) : DenS := fun ρ s => (d ρ s).bind fun a => retOf a.1 a.2
theorem ss_ret (h : SE p c n e d) : SS p c n (.Return (some e) pos) (dRet d) := by
  intro X g ρ s o e' σ H w D R q
  simp only [dRet, Option.bind_eq_some_iff] at e'
  obtain ⟨⟨r, s1⟩, a1, a2⟩ := e'
  refine ⟨_, ps_ret wE_ok, h X g ρ s r s1 a1 σ H w _ R fun x H1 w1 k1 R1 r1 => ?_⟩
  unfold retOf at a2
  simp only at a2
  split at a2
  · rename_i m
    rw [Option.map_eq_some_iff] at a2
    obtain ⟨cc, hc, e2⟩ := a2
    cases e2
    obtain ⟨a, rfl, ha⟩ := r1
    obtain ⟨a', vs, h1, h2, h3⟩ := R1.loc.2 m cc hc
    rw [ha] at h1; cases h1
    have ma : a ∈ w1.la := List.mem_of_getElem? ha
    have nd := List.nodup_append.mp R1.wk.nd
    refine q _ H1 w1.out k1.toR R1.out ⟨a, vs, rfl, by rw [← k1.h0]; exact R1.wk.fr a ma, h2, h3.out, R1.wk.inM a (List.mem_append_left _ ma), fun z => ?_⟩
    rcases List.mem_append.mp z with z | z
    · exact nomatch (show a ∈ ([] : List Addr) from z)
    · exact nd.2.2 a ma a z rfl
  · cases a2
    refine q x H1 w1.out k1.toR R1.out ?_
    cases r with
    | v d => exact Rp.out r1
    | loc m => rename_i hh; exact (hh m rfl).elim
    | own xs =>
      obtain ⟨a, vs, e1, h0, h1, h2, h3, h4⟩ := r1
      refine ⟨a, vs, e1, R.wk.back a h0, h1, h2.out, h3, fun z => h4 ?_⟩
      rcases List.mem_append.mp z with z | z
      · exact nomatch (show a ∈ ([] : List Addr) from z)
      · exact List.mem_append_right _ z
@[simp] def dRetN : DenS := fun _ s => some (.rt (.v .non) s.g)
theorem ss_retN : SS p c n (.Return none pos) dRetN := fun X g ρ s o e' σ H w D R q => by
  cases e'
  exact ⟨_, ps_retN, q _ H w.out (Keep.refl H w).toR R.out .non⟩
/-- a value dropped -/
@[simp] def dEx (d : Den) : DenS := fun ρ s => (d ρ s).bind fun a => some (.nx ρ a.2)
theorem ss_expr (h : SE p c n e d) (hs : ∀ X, Good p c n X → swapsWith e none pos.line X.env = pure false := by intro _ _; rfl) : SS p c n (.Expr e pos) (dEx d) := by
  intro X g ρ s o e' σ H w D R q
  simp only [dEx, Option.bind_eq_some_iff] at e'
  obtain ⟨⟨r, s1⟩, a1, a2⟩ := e'
  cases a2
  refine ⟨_, ps_expr wE_ok (hs X g), h.fz g a1 R fun x H1 w1 k1 R1 r1 => q σ H1 w1 k1 R1⟩

/-! ### name = e -/
/-- what a name is given: plain data, or (own true) a new list as a cell of the def's own -/
@[simp] def stoD (own : Bool) (i : Nat) (r : Rs) (ρ : Env) (s : S) : Option Out := match own with
  | false => some (.nx (ρ.set i (some r.fz)) s)
  | true => match r with
    | .own xs => some (.nx (ρ.set i (some (.loc s.l.length))) { s with l := s.l ++ [xs] })
    | _ => none
@[simp] def dSet (own : Bool) (i : Nat) (d : Den) : DenS := fun ρ s => (d ρ s).bind fun a => stoD own i a.1 ρ a.2
theorem sto_core {own : Bool} {i : Nat} {H0 H : Hp} {w0 w : Wd} {σ : St} {ρ : Env} {s : S} {x : V} {r : Rs} {o : Out} {D : Ends} (L0 : Wk H0 w0) (k : Keep H0 w0 H w) (R : SR p.K H w σ ρ s) (h : RsE p.K H0 H w x r)
    (e : stoD own i r ρ s = some o) (q : EndOk p D H0 w0 o) : D.nx (σ.set i (some x)) H := by
  cases own with
  | false =>
    cases e
    obtain ⟨w2, k2, R2, r2⟩ := R.freeze k h
    exact q _ H w2 k2 (R2.setEnv r2)
  | true =>
    unfold stoD at e
    simp only at e
    split at e
    · cases e
      obtain ⟨w2, k2, R2, r2⟩ := R.promote L0 k h
      exact q _ H w2 k2 (R2.setEnv r2)
    · cases e
structure Nm (c : Cst) (i : Nat) (x : Str) : Prop where
  ix : c.N[i]? = some x
  loc : Loc c.sc x
  fn : c.fn x = true ∨ c.sc.names.lookup x = some .local
theorem Nm.fnX {X : Cx} {i : Nat} {x : Str} (h : Nm c i x) (g : Good p c n X) : X.fn x = true ∨ X.env.scope.names.lookup x = some .local := by
  rw [g.fn, g.sc]; exact h.fn
theorem ss_set (own : Bool) {i : Nat} {x : Str} {p1 : Pos} (hx : Nm c i x) (h : SE p c n e d) (hs : ∀ X, Good p c n X → swapsWith e (some (.Name x p1)) pos.line X.env = pure false := by intro _ _; rfl) :
    SS p c n (.Assign [.Name x p1] e pos) (dSet own i d) := by
  intro X g ρ s o e' σ H w D R q
  simp only [dSet, Option.bind_eq_some_iff] at e'
  obtain ⟨⟨r, s1⟩, a1, a2⟩ := e'
  refine ⟨_, ps_set (i := i) (by rw [g.N]; exact g.nd) (by rw [g.N]; exact hx.ix) (by rw [g.sc]; exact hx.loc) wE_ok (hs X g) (hx.fnX g), h X g ρ s r s1 a1 σ H w _ R fun y H1 w1 k1 R1 r1 => ?_⟩
  exact sto_core R.wk k1 R1 r1 a2 q
/-- name += e, name -= e: ints -/
@[simp] def dAug (i : Nat) (f : Int → Int → Int) (d : Den) : DenS := fun ρ s => (d ρ s).bind fun a => match ρ[i]?, a.1 with
  | some (some (.v (.int x))), .v (.int y) => some (.nx (ρ.set i (some (.v (.int (f x y))))) a.2)
  | _, _ => none
theorem ss_aug {op : Operator} {f : Int → Int → Int} {i : Nat} {x : Str} {p1 : Pos} (hx : Nm c i x) (h : SE p c n e d) (ho : ∀ X, Good p c n X → PIp X op (ipI f)) : SS p c n (.AugAssign (.Name x p1) op e pos) (dAug i f d) := by
  intro X g ρ s o e' σ H w D R q
  simp only [dAug, Option.bind_eq_some_iff] at e'
  obtain ⟨⟨r, s1⟩, a1, a2⟩ := e'
  split at a2
  · rename_i u v hu hv
    cases a2
    simp only at hv
    subst hv
    obtain ⟨z, hz1, hz2⟩ := R.env i _ hu
    cases hz2
    refine ⟨_, ps_aug (i := i) (by rw [g.N]; exact g.nd) (by rw [g.N]; exact hx.ix) (by rw [g.sc]; exact hx.loc) wE_ok (ho X g) (hx.fnX g), .int u, hz1, h X g ρ s _ s1 a1 σ H w _ R fun y H1 w1 k1 R1 r1 => ?_⟩
    cases r1
    exact ⟨u, v, rfl, rfl, q _ H1 w1 k1 (R1.setEnv (r := .v (.int (f u v))) (.int _))⟩
  · cases a2
theorem ss_augAdd {i : Nat} {x : Str} {p1 : Pos} (hx : Nm c i x) (h : SE p c n e d) : SS p c n (.AugAssign (.Name x p1) .Add e pos) (dAug i (fun a b => a + b) d) := ss_aug hx h fun X g => ip_add
theorem ss_augSub {i : Nat} {x : Str} {p1 : Pos} (hx : Nm c i x) (h : SE p c n e d) : SS p c n (.AugAssign (.Name x p1) .Sub e pos) (dAug i (fun a b => a - b) d) := ss_aug hx h fun X g => ip_sub
/-- a, b = e, e' -/
@[simp] def dPar (i j : Nat) (d1 d2 : Den) : DenS := fun ρ s => (aCons d1 (aCons d2 aNil) ρ s).bind fun a => match a.1 with
  | [r1, r2] => some (.nx ((ρ.set i (some r1)).set j (some r2)) a.2)
  | _ => none
theorem ss_par {i j : Nat} {x y : Str} {px py pt p2 : Pos} {kt k2} (hx : Nm c i x) (hy : Nm c j y) (hij : i ≠ j) (lx : c.sc.names.lookup x = some .local) (ly : c.sc.names.lookup y = some .local) (h1 : SE p c n e1 d1) (h2 : SE p c n e2 d2)
    (hw : ∀ X, Good p c n X → swappedStores [.Tuple [.Name x px, .Name y py] kt pt] (.Tuple [e1, e2] k2 p2) X.env = pure (some [x, y]))
    (hs : ∀ X, Good p c n X → swapsWithSole [.Tuple [.Name x px, .Name y py] kt pt] (.Tuple [e1, e2] k2 p2) pos.line X.env = pure false := by intro _ _; rfl)
    (s1 : ∀ env, starEach [e1, e2] env = (false, eval e1 env) :: starEach [e2] env := by intro _; rfl) (s2 : ∀ env, starEach [e2] env = (false, eval e2 env) :: starEach [] env := by intro _; rfl) :
    SS p c n (.Assign [.Tuple [.Name x px, .Name y py] kt pt] (.Tuple [e1, e2] k2 p2) pos) (dPar i j d1 d2) := by
  intro X g ρ s o e' σ H w D R q
  simp only [dPar, Option.bind_eq_some_iff] at e'
  obtain ⟨⟨rs, s3⟩, a1, a2⟩ := e'
  split at a2
  · rename_i r1 r2 hr
    cases a2
    simp only at hr
    subst hr
    refine ⟨_, ps_par (i := i) (j := j) g.calm (by rw [g.N]; exact g.nd) (by rw [g.N]; exact hx.ix) (by rw [g.N]; exact hy.ix) hij (by rw [g.sc]; exact lx) (by rw [g.sc]; exact ly) wA_ok (hw X g) (hs X g), ?_⟩
    refine (sa_cons h1 (sa_cons h2 sa_nil s2) s1) X g ρ s _ s3 a1 σ H w _ R fun xs H1 w1 k1 R1 q1 => ?_
    obtain ⟨u, v, rfl, hu, hv⟩ := two_of q1
    exact ⟨u, v, rfl, q _ H1 w1 k1 ((R1.setEnv hu).setEnv hv)⟩
  · cases a2

/-! ### targets -/
def Only (sl : List Nat) (σ σ' : St) : Prop := σ'.length = σ.length ∧ ∀ i, i ∉ sl → σ'[i]? = σ[i]?
abbrev DenG := D → Env → S → Option (Env × S)
abbrev DenGs := List D → Env → S → Option (Env × S)
def wG (X : Cx) (tg : Expr) : TG := fun v σ H Q => ∃ t, PG X tg t ∧ t v σ H Q
theorem wG_ok {X : Cx} {tg : Expr} : PG X tg (wG X tg) := ⟨fun pins s σ H v u Q I r ⟨t, h, q⟩ => h.run pins s σ H v u Q I r q⟩
def wGs (X : Cx) (ts : List Expr) : TGs := fun vs σ H Q => ∃ t, PGs X ts t ∧ t vs σ H Q
theorem wGs_ok {X : Cx} {ts : List Expr} : PGs X ts (wGs X ts) := ⟨fun pins s σ H vs us Q I r ⟨t, h, q⟩ => h.run pins s σ H vs us Q I r q⟩
def SG (p : Pr) (c : Cst) (n : Nat) (tg : Expr) (gd : DenG) (sl : List Nat) : Prop :=
  ∀ X, Good p c n X → ∀ (ρ : Env) (s : S) (dd : D) (ρ' : Env) (s' : S), gd dd ρ s = some (ρ', s') → ∀ (σ : St) (H : Hp) (w : Wd) (x : V) (Q : St → Hp → Prop), SR p.K H w σ ρ s → Rp p.K H w x dd →
    (∀ σ' H' w', Keep H w H' w' → SR p.K H' w' σ' ρ' s' → Only sl σ σ' → Q σ' H') → wG X tg x σ H Q
def SGs (p : Pr) (c : Cst) (n : Nat) (ts : List Expr) (gd : DenGs) (sl : List Nat) : Prop :=
  ∀ X, Good p c n X → ∀ (ρ : Env) (s : S) (dd : List D) (ρ' : Env) (s' : S), gd dd ρ s = some (ρ', s') → ∀ (σ : St) (H : Hp) (w : Wd) (xs : List V) (Q : St → Hp → Prop), SR p.K H w σ ρ s → RpAll p.K H w xs dd →
    (∀ σ' H' w', Keep H w H' w' → SR p.K H' w' σ' ρ' s' → Only sl σ σ' → Q σ' H') → wGs X ts xs σ H Q
@[simp] def gdName (i : Nat) : DenG := fun dd ρ s => some (ρ.set i (some (.v dd)), s)
theorem sg_name {i : Nat} {x : Str} (hx : Nm c i x) : SG p c n (.Name x pos) (gdName i) [i] := by
  intro X g ρ s dd ρ' s' e' σ H w v Q R r q
  cases e'
  refine ⟨_, pg_name (i := i) (by rw [g.N]; exact g.nd) (by rw [g.N]; exact hx.ix) (by rw [g.sc]; exact hx.loc) (hx.fnX g), q _ H w (Keep.refl H w) (R.setEnv (r := .v dd) r) ⟨by simp, fun j hj => ?_⟩⟩
  exact List.getElem?_set_ne (fun z => hj (by simp [z]))
@[simp] def gdNil : DenGs := fun dd ρ s => match dd with
  | [] => some (ρ, s)
  | _ => none
@[simp] def gdCons (g1 : DenG) (g2 : DenGs) : DenGs := fun dd ρ s => match dd with
  | [] => none
  | x :: xs => (g1 x ρ s).bind fun a => g2 xs a.1 a.2
theorem sgs_nil : SGs p c n [] gdNil [] := by
  intro X g ρ s dd ρ' s' e' σ H w xs Q R r q
  unfold gdNil at e'
  split at e'
  · cases e'
    cases r
    exact ⟨_, pgs_nil, rfl, q _ H w (Keep.refl H w) R ⟨rfl, fun _ _ => rfl⟩⟩
  · cases e'
theorem sgs_cons {g1 : DenG} {g2 : DenGs} {l1 l2 : List Nat} (h1 : SG p c n e g1 l1) (h2 : SGs p c n es g2 l2)
    (hs : ∀ env, (assignEach (e :: es) env).map (·.2) = assign e env :: (assignEach es env).map (·.2) := by intro _; rfl) : SGs p c n (e :: es) (gdCons g1 g2) (l1 ++ l2) := by
  intro X g ρ s dd ρ' s' e' σ H w xs Q R r q
  unfold gdCons at e'
  split at e'
  · cases e'
  · rename_i y ys
    rw [Option.bind_eq_some_iff] at e'
    obtain ⟨⟨ρ1, s1⟩, a1, a2⟩ := e'
    cases r with
    | cons ry rs =>
      refine ⟨_, pgs_cons wG_ok wGs_ok (hs _), _, _, rfl, h1 X g ρ s y ρ1 s1 a1 σ H w _ _ R ry fun σ1 H1 w1 k1 R1 o1 => ?_⟩
      refine h2 X g ρ1 s1 ys ρ' s' a2 σ1 H1 w1 _ _ R1 (rs.keep k1 R.wk) fun σ2 H2 w2 k2 R2 o2 => q σ2 H2 w2 (k1.trans k2) R2 ⟨o2.1.trans o1.1, fun i hi => ?_⟩
      simp only [List.mem_append, not_or] at hi
      rw [o2.2 i hi.2, o1.2 i hi.1]
@[simp] def gdTup (gs : DenGs) : DenG := fun dd ρ s => match dd with
  | .tup xs => gs xs ρ s
  | _ => none
theorem gdLen {X : Cx} {ts : List Expr} {t : TGs} : True := trivial
theorem sg_tup {gs : DenGs} {l : List Nat} {k : Nat} {m : Nat} (h : SGs p c n es gs l) (hl : ∀ dd ρ s a, gs dd ρ s = some a → dd.length = m)
    (hn : ∀ env, (assignEach es env).length = m := by intro _; rfl) (hst : ∀ env, (assignEach es env).findIdx? (·.1) = none := by intro _; rfl) : SG p c n (.Tuple es k pos) (gdTup gs) l := by
  intro X g ρ s dd ρ' s' e' σ H w x Q R r q
  unfold gdTup at e'
  split at e'
  · rename_i ys
    cases r with
    | tup ht ra =>
      rename_i a vs
      refine ⟨_, pg_tup (n := m) g.calm wGs_ok (hn _) (hst _), a, vs, rfl, by rw [g.K]; exact ht, by rw [ra.length]; exact hl ys ρ s _ e', ?_⟩
      exact h X g ρ s ys ρ' s' e' σ H w vs Q R ra q
  · cases e'
theorem gdl_nil {dd : List D} {ρ : Env} {s : S} {a : Env × S} (h : gdNil dd ρ s = some a) : dd.length = 0 := by
  unfold gdNil at h
  split at h
  · rfl
  · cases h
theorem gdl_cons {g1 : DenG} {g2 : DenGs} {m : Nat} (h2 : ∀ dd ρ s a, g2 dd ρ s = some a → dd.length = m) : ∀ dd ρ s a, gdCons g1 g2 dd ρ s = some a → dd.length = m + 1 := by
  intro dd ρ s a h
  unfold gdCons at h
  split at h
  · cases h
  · rw [Option.bind_eq_some_iff] at h
    obtain ⟨b, _, h⟩ := h
    rw [List.length_cons, h2 _ _ _ _ h]
/-- xs[i], xs a cell -/
@[simp] def gdSub (d1 d2 : Den) : DenG := fun dd ρ s => (d1 ρ s).bind fun a => (d2 ρ a.2).bind fun b => match b.1 with
  | .v (.int k) => (a.1.cell b.2).bind fun cc => (ixN cc.length k).bind fun j => (b.2.put a.1 (cc.set j dd)).bind fun s' => some (ρ, s')
  | _ => none
theorem sg_sub (h1 : SE p c n e1 d1) (h2 : SE p c n e2 d2) (ha : ∀ env v, assign (.Subscript e1 e2 pos) env v = (do
      let ov ← holding [v] (eval e1 env)
      let iv ← holding [v, ov] (eval e2 env)
      standAt pos
      holding [v, ov, iv] (setItem ov iv v)
      release [v, ov, iv] []) := by intro _ _; rfl) : SG p c n (.Subscript e1 e2 pos) (gdSub d1 d2) [] := by
  intro X g ρ s dd ρ' s' e' σ H w x Q R r q
  simp only [gdSub, Option.bind_eq_some_iff] at e'
  obtain ⟨⟨r1, s1⟩, a1, ⟨r2, s2⟩, a2, a3⟩ := e'
  split at a3
  · rename_i k hk
    simp only at hk
    subst hk
    simp only [Option.bind_eq_some_iff] at a3
    obtain ⟨cc, hc, j, hj, s3, hp, e3⟩ := a3
    cases e3
    refine ⟨_, pg_sub wE_ok wE_ok set_list (ha _), ?_⟩
    refine h1.fz g a1 R fun o H1 w1 k1 R1 q1 => ?_
    refine h2.fz g a2 R1 fun i H2 w2 k2 R2 q2 => ?_
    cases q2
    have q1' := q1.keep k2 R1.wk
    have k := k1.trans k2
    have er : r1.fz = r1 := by
      cases r1 with
      | own xs => exact (nomatch hc)
      | v _ => rfl
      | loc _ => rfl
    rw [er] at q1'
    obtain ⟨a, vs, c', rfl, hH, hcell, rc, up⟩ := R2.put q1' hp
    rw [hc] at hcell
    cases hcell
    refine ⟨a, vs, _, j, rfl, rfl, hH, by rw [rc.length]; exact hj, ?_⟩
    obtain ⟨k3, R3⟩ := up _ (RpAll.set (r.keep k R.wk) j rc)
    exact q σ _ w2 (k.trans k3) R3 ⟨rfl, fun _ _ => rfl⟩
  · cases a3
/-- target = e -/
@[simp] def dAsg (d : Den) (gd : DenG) : DenS := fun ρ s => (d ρ s).bind fun a => match a.1.fz with
  | .v dd => (gd dd ρ a.2).bind fun b => some (.nx b.1 b.2)
  | _ => none
theorem ss_asg {tg : Expr} {gd : DenG} {sl : List Nat} (h : SE p c n e d) (hg : SG p c n tg gd sl) (hs : ∀ X, Good p c n X → swapsWithSole [tg] e pos.line X.env = pure false := by intro _ _; rfl)
    (hw : ∀ X, Good p c n X → swappedStores [tg] e X.env = pure none := by intro _ _; rfl) (h1 : ∀ env, (assignEach [tg] env).map (·.2) = [assign tg env] := by intro _; rfl) : SS p c n (.Assign [tg] e pos) (dAsg d gd) := by
  intro X g ρ s o e' σ H w D R q
  simp only [dAsg, Option.bind_eq_some_iff] at e'
  obtain ⟨⟨r, s1⟩, a1, a2⟩ := e'
  split at a2
  · rename_i dd hd
    rw [Option.bind_eq_some_iff] at a2
    obtain ⟨⟨ρ2, s2⟩, a2, a3⟩ := a2
    cases a3
    refine ⟨_, ps_asg wE_ok wG_ok (hs X g) (hw X g) (h1 _), h.fz g a1 R fun x H1 w1 k1 R1 q1 => ?_⟩
    simp only at hd
    rw [hd] at q1
    exact hg X g ρ s1 dd ρ2 s2 a2 σ H1 w1 x _ R1 q1 fun σ2 H2 w2 k2 R2 _ => q σ2 H2 w2 (k1.trans k2) R2
  · cases a2

/-! ### xs.append(e), xs.extend(e), xs.pop() -/
abbrev FM := S → Rs → List Rs → Option (Rs × S)
def OkM (p : Pr) (f : FM) (rl : V → List V → Hp → VK → Prop) : Prop :=
  ∀ {H : Hp} {w : Wd} {σ : St} {ρ : Env} {s s' : S} {x : V} {xs : List V} {r1 r : Rs} {rs : List Rs} {Q : VK}, SR p.K H w σ ρ s → RsN p.K H w x r1 → RsNs p.K H w xs rs → f s r1 rs = some (r, s') →
    (∀ z H' w', Keep H w H' w' → SR p.K H' w' σ ρ s' → RsE p.K H H' w' z r → Q z H') → rl x xs H Q
/-- a method of a list -/
@[simp] def dMet (f : FM) (d : Den) (da : DenA) : Den := fun ρ s => (d ρ s).bind fun a => (a.1.fz.lstc a.2).bind fun _ => (da ρ a.2).bind fun b => f b.2 a.1.fz b.1
theorem tyL {K : PySem.W.Frag} {H : Hp} {a : Addr} {vs : List V} (h : H a = some (.lst vs)) : tyV K "list" (.ref a) H := .inl ⟨rfl, _, .inl (.inl h)⟩
theorem se_met {name : Str} {id : String} {p1 : Pos} {f : FM} {rl : V → List V → Hp → VK → Prop} (slot : Slot "list" name id) (hty : typeOf (.builtin id) = pure (.type "method_descriptor")) (hm : ∀ X, Good p c n X → MtR X id rl) (hf : OkM p f rl)
    (h1 : SE p c n e1 d1) (ha : SA p c n (e2 :: es) da) (hb : ∀ env, attributeBase e1 name env (eval e1 env) = eval e1 env)
    (hfew : ∀ env, ((backTo pos (starEach (e2 :: es) env)).all (fun x => !x.1) && (backToKw pos (keywordEach [] env)).all (fun x => x.1.isSome) && decide ((e2 :: es).length + ([] : List Keyword).length + (if ([] : List Keyword).isEmpty then 0 else 1) < 30)) = true)
    (hline : (p1.endLine == pos.line) = true) (he : ∀ env, starEach (e2 :: es) env = (false, eval e2 env) :: starEach es env) (hp : ∀ env, (backTo pos (starEach es env)).any (·.1) = false) :
    SE p c n (.Call (.Attribute e1 name p1) (e2 :: es) [] pos) (dMet f d1 da) := by
  intro X g ρ s r s' e' σ H w Q R q
  simp only [dMet, Option.bind_eq_some_iff] at e'
  obtain ⟨⟨r1, s1⟩, a1, cc, hc, ⟨rs, s2⟩, a2, a3⟩ := e'
  refine ⟨_, pe_bm PySem.F.plainAttrs_list slot hty (hm X g) wE_ok wA_ok (hb _) (hfew _) hline (he _) (hp _), ?_⟩
  refine h1.fz g a1 R fun x H1 w1 k1 R1 q1 => ?_
  obtain ⟨a, vs, rfl, hH, _⟩ := R1.lstc q1 hc
  refine ⟨tyL hH, ha X g ρ s1 rs s2 a2 σ H1 w1 _ R1 fun xs H2 w2 k2 R2 q2 => ?_⟩
  exact hf R2 (q1.keep k2 R1.wk) q2 a3 fun z H3 w3 k3 R3 q3 => q z H3 w3 ((k1.trans k2).trans k3) R3 (q3.back (k1.trans k2))
theorem se_met0 {name : Str} {id : String} {p1 : Pos} {f : FM} {rl : V → List V → Hp → VK → Prop} (slot : Slot "list" name id) (hty : typeOf (.builtin id) = pure (.type "method_descriptor")) (hm : ∀ X, Good p c n X → MtR X id rl) (hf : OkM p f rl)
    (h1 : SE p c n e1 d1) (hb : ∀ env, attributeBase e1 name env (eval e1 env) = eval e1 env) (hline : (p1.endLine == pos.line) = true) : SE p c n (.Call (.Attribute e1 name p1) [] [] pos) (dMet f d1 aNil) := by
  intro X g ρ s r s' e' σ H w Q R q
  simp only [dMet, Option.bind_eq_some_iff] at e'
  obtain ⟨⟨r1, s1⟩, a1, cc, hc, ⟨rs, s2⟩, a2, a3⟩ := e'
  cases a2
  refine ⟨_, pe_bm0 PySem.F.plainAttrs_list slot hty (hm X g) wE_ok (hb _) hline, ?_⟩
  refine h1.fz g a1 R fun x H1 w1 k1 R1 q1 => ?_
  obtain ⟨a, vs, rfl, hH, _⟩ := R1.lstc q1 hc
  exact ⟨tyL hH, hf R1 q1 .nil a3 fun z H3 w3 k3 R3 q3 => q z H3 w3 (k1.trans k3) R3 (q3.back k1)⟩
@[simp] def fApp : FM := fun s r rs => match rs with
  | [.v dd] => (r.cell s).bind fun cc => if cc.length < bigLen then (s.put r (cc ++ [dd])).map fun s' => (.v .non, s') else none
  | _ => none
theorem ok_app : OkM p fApp rAppend := by
  intro H w σ ρ s s' x xs r1 r rs Q R h hs e q
  unfold fApp at e
  split at e
  · rename_i dd
    rw [Option.bind_eq_some_iff] at e
    obtain ⟨cc, hc, e⟩ := e
    split at e
    · rename_i hz
      rw [Option.map_eq_some_iff] at e
      obtain ⟨s3, hp, e⟩ := e
      cases e
      obtain ⟨y, rfl, hy⟩ := one_of hs
      obtain ⟨a, vs, c', rfl, hH, hcell, rc, up⟩ := R.put h hp
      rw [hc] at hcell
      cases hcell
      obtain ⟨k3, R3⟩ := up _ (rc.append (.cons hy .nil))
      exact ⟨a, vs, y, rfl, rfl, hH, by rw [rc.length]; exact big_lt hz, q _ _ w k3 R3 .non⟩
    · cases e
  · cases e
@[simp] def dApp (d : Den) (da : DenA) : Den := fun ρ s => dMet fApp d da ρ s
theorem se_append {p1 : Pos} (h1 : SE p c n e1 d1) (ha : SA p c n [e2] da) (hb : ∀ env, attributeBase e1 "append" env (eval e1 env) = eval e1 env := by intro _; rfl)
    (hfew : ∀ env, ((backTo pos (starEach [e2] env)).all (fun x => !x.1) && (backToKw pos (keywordEach [] env)).all (fun x => x.1.isSome) && decide ([e2].length + ([] : List Keyword).length + (if ([] : List Keyword).isEmpty then 0 else 1) < 30)) = true := by intro _; rfl)
    (he : ∀ env, starEach [e2] env = (false, eval e2 env) :: starEach [] env := by intro _; rfl) (hline : (p1.endLine == pos.line) = true := by rfl) : SE p c n (.Call (.Attribute e1 "append" p1) [e2] [] pos) (dApp d1 da) :=
  se_met PySem.F.slot_list_append PySem.F.type_list_append (fun X g => mt_append) ok_app h1 ha hb hfew hline he (by intro _; rfl)
@[simp] def fExt : FM := fun s r rs => match rs with
  | [r2] => (r.cell s).bind fun cc => (r2.lstc s).bind fun ys => if cc.length + ys.length ≤ bigLen then (s.put r (cc ++ ys)).map fun s' => (.v .non, s') else none
  | _ => none
theorem ok_ext : OkM p fExt rExtend := by
  intro H w σ ρ s s' x xs r1 r rs Q R h hs e q
  unfold fExt at e
  split at e
  · rename_i r2
    simp only [Option.bind_eq_some_iff] at e
    obtain ⟨cc, hc, ys, hy, e⟩ := e
    split at e
    · rename_i hz
      rw [Option.map_eq_some_iff] at e
      obtain ⟨s3, hp, e⟩ := e
      cases e
      obtain ⟨y, rfl, hy2⟩ := one_of hs
      obtain ⟨b, us, rfl, hB, rb⟩ := R.lstc hy2 hy
      obtain ⟨a, vs, c', rfl, hH, hcell, rc, up⟩ := R.put h hp
      rw [hc] at hcell
      cases hcell
      obtain ⟨k3, R3⟩ := up _ (rc.append rb)
      exact ⟨a, b, vs, us, rfl, rfl, hH, hB, by rw [rc.length, rb.length]; exact big_line hz, q _ _ w k3 R3 .non⟩
    · cases e
  · cases e
@[simp] def dExt (d : Den) (da : DenA) : Den := fun ρ s => dMet fExt d da ρ s
theorem se_extend {p1 : Pos} (h1 : SE p c n e1 d1) (ha : SA p c n [e2] da) (hb : ∀ env, attributeBase e1 "extend" env (eval e1 env) = eval e1 env := by intro _; rfl)
    (hfew : ∀ env, ((backTo pos (starEach [e2] env)).all (fun x => !x.1) && (backToKw pos (keywordEach [] env)).all (fun x => x.1.isSome) && decide ([e2].length + ([] : List Keyword).length + (if ([] : List Keyword).isEmpty then 0 else 1) < 30)) = true := by intro _; rfl)
    (he : ∀ env, starEach [e2] env = (false, eval e2 env) :: starEach [] env := by intro _; rfl) (hline : (p1.endLine == pos.line) = true := by rfl) : SE p c n (.Call (.Attribute e1 "extend" p1) [e2] [] pos) (dExt d1 da) :=
  se_met PySem.F.slot_list_extend PySem.F.type_list_extend (fun X g => mt_extend) ok_ext h1 ha hb hfew hline he (by intro _; rfl)
@[simp] def fPop : FM := fun s r rs => match rs with
  | [] => (r.cell s).bind fun cc => (cc[cc.length - 1]?).bind fun dd => (s.put r cc.dropLast).map fun s' => (.v dd, s')
  | _ => none
theorem ok_pop : OkM p fPop rPop := by
  intro H w σ ρ s s' x xs r1 r rs Q R h hs e q
  unfold fPop at e
  split at e
  · simp only [Option.bind_eq_some_iff] at e
    obtain ⟨cc, hc, dd, hd, e⟩ := e
    rw [Option.map_eq_some_iff] at e
    obtain ⟨s3, hp, e⟩ := e
    cases e
    cases hs
    obtain ⟨a, vs, c', rfl, hH, hcell, rc, up⟩ := R.put h hp
    rw [hc] at hcell
    cases hcell
    obtain ⟨k3, R3⟩ := up _ rc.dropLast
    obtain ⟨v, hv, rv⟩ := rc.get hd
    exact ⟨a, vs, v, rfl, rfl, hH, by rw [rc.length]; exact hv, q _ _ w k3 R3 (Rp.keep k3 R.wk rv)⟩
  · cases e
@[simp] def dPop (d : Den) : Den := fun ρ s => dMet fPop d aNil ρ s
theorem se_pop {p1 : Pos} (h1 : SE p c n e1 d1) (hb : ∀ env, attributeBase e1 "pop" env (eval e1 env) = eval e1 env := by intro _; rfl) (hline : (p1.endLine == pos.line) = true := by rfl) : SE p c n (.Call (.Attribute e1 "pop" p1) [] [] pos) (dPop d1) :=
  se_met0 PySem.F.slot_list_pop PySem.F.type_list_pop (fun X g => mt_pop) ok_pop h1 hb hline

/-! ### while -/
def whD (t : DenT) (b : DenS) : Nat → DenS
  | 0 => fun _ _ => none
  | k + 1 => fun ρ s => (t ρ s).bind fun a => if a.1 = true then (b ρ a.2).bind fun o => match o with
      | .nx ρ' s' => whD t b k ρ' s'
      | .ct ρ' s' => whD t b k ρ' s'
      | .bk ρ' s' => some (.nx ρ' s')
      | .rt r g => some (.rt r g)
    else some (.nx ρ a.2)
/-- no more turns than this -/
def fuel : Nat := 1000000
@[simp] def dWh (t : DenT) (b : DenS) : DenS := fun ρ s => whD t b fuel ρ s
theorem ss_while (ht : ST p c n e t) (hb : SSs p c n sts ds) : SS p c n (.While e sts [] pos) (dWh t ds) := by
  intro X g ρ s o e' σ H w D R q
  refine ⟨_, ps_while (by rw [g.xe]; exact PassesOwn.never) wT_ok wSs_ok, ?_⟩
  refine ⟨fun m σ' H' => ∃ ρ' s' w', Keep H w H' w' ∧ SR p.K H' w' σ' ρ' s' ∧ whD t ds m ρ' s' = some o, ⟨fuel, ρ, s, w, Keep.refl H w, R, e'⟩, ?_⟩
  rintro m σ1 H1 ⟨ρ1, s1, w1, k1, R1, e1⟩
  cases m with
  | zero => exact nomatch e1
  | succ m =>
    unfold whD at e1
    rw [Option.bind_eq_some_iff] at e1
    obtain ⟨⟨b, s2⟩, a1, a2⟩ := e1
    refine ht X g ρ1 s1 b s2 a1 σ1 H1 w1 _ R1 fun H2 w2 k2 R2 => ?_
    split at a2
    · rename_i hb2
      rw [if_pos hb2]
      rw [Option.bind_eq_some_iff] at a2
      obtain ⟨o1, a3, a4⟩ := a2
      have k := k1.trans k2
      refine ⟨fun σ' H' => ∃ ρ' s' w', Keep H w H' w' ∧ SR p.K H' w' σ' ρ' s' ∧ whD t ds m ρ' s' = some o, fun σ' H' h => ⟨m, Nat.lt_succ_self m, h⟩, ?_⟩
      refine hb X g ρ1 s2 o1 a3 σ1 H2 w2 _ R2 ?_
      split at a4
      · exact fun σ3 H3 w3 k3 R3 => ⟨_, _, w3, k.trans k3, R3, a4⟩
      · exact fun σ3 H3 w3 k3 R3 => ⟨_, _, w3, k.trans k3, R3, a4⟩
      · cases a4
        exact fun σ3 H3 w3 k3 R3 => q σ3 H3 w3 (k.trans k3) R3
      · cases a4
        exact (q.mono k)
    · rename_i hb2
      rw [if_neg hb2]
      cases a2
      exact q σ1 H2 w2 (k1.trans k2) R2
end
end Ev1
/-! Core 7: what is walked, for, list comprehensions. -/
namespace Ev1
open PySem L2 RZ

section
variable {K : PySem.W.Frag} {H0 H H' H'' : Hp} {w0 w w' w'' : Wd} {σ σ' : St} {ρ ρ' : Env} {s s' : S}
/-- behind a block: the outer names as they were -/
theorem SR.rejoin (R : SR K H w σ ρ s) (k : Keep H w H' w') (R' : SR K H' w' σ' ρ' s') : SR K H' w' σ ρ s' := by
  refine ⟨R.len, fun i r e => ?_, R'.loc, R'.glb, R'.wk⟩
  obtain ⟨x, h1, h2⟩ := R.env i r e
  exact ⟨x, h1, h2.keep k R.wk⟩
@[simp] def wipeE (ρ : Env) : List Nat → Env
  | [] => ρ
  | v :: vs => (wipeE ρ vs).set v none
theorem SR.wipe (R : SR K H w σ ρ s) : ∀ vs : List Nat, SR K H w (L2.wipe σ vs) (wipeE ρ vs) s
  | [] => R
  | v :: vs => by
    have R1 := SR.wipe R vs
    unfold L2.wipe wipeE
    refine ⟨by simp [R1.len], fun i r e => ?_, R.loc, R.glb, R.wk⟩
    by_cases hv : v = i
    · subst hv
      rw [List.getElem?_set] at e
      simp only [if_pos] at e
      split at e <;> cases e
    · rw [List.getElem?_set_ne hv] at e
      obtain ⟨x, h1, h2⟩ := R1.env i r e
      exact ⟨x, by rw [List.getElem?_set_ne hv]; exact h1, h2⟩
theorem wipe_in {σ : St} {i : Nat} : ∀ {vs : List Nat}, i ∈ vs → i < σ.length → (L2.wipe σ vs)[i]? = some none
  | v :: vs, h, hl => by
    unfold L2.wipe
    by_cases hv : v = i
    · subst hv
      rw [List.getElem?_set_self (by rw [wipe_length]; exact hl)]
    · rw [List.getElem?_set_ne hv]
      rcases List.mem_cons.mp h with h | h
      · exact (hv h.symm).elim
      · exact wipe_in h hl
theorem wipe_only {sl vs : List Nat} (o : Only sl (L2.wipe σ vs) σ') (hs : ∀ i ∈ sl, i ∈ vs) : L2.wipe σ' vs = L2.wipe σ vs := by
  have hl : σ'.length = σ.length := by rw [o.1, wipe_length]
  apply List.ext_getElem?
  intro i
  by_cases hi : i ∈ vs
  · by_cases h2 : i < σ.length
    · rw [wipe_in hi h2, wipe_in hi (by omega)]
    · rw [List.getElem?_eq_none (by rw [wipe_length]; omega), List.getElem?_eq_none (by rw [wipe_length]; omega)]
  · rw [wipe_out hi, o.2 i (fun z => hi (hs i z))]
/-- a list that is nobody's holds something else from now on -/
theorem Rp.tmp {a : Addr} (L : Wk H w) (m : w.M a) (ne : ∀ b, b ≠ a → H' b = H b) {v : V} {d : D} (h : Rp K H w v d) : Rp K H' w v d :=
  @Rp.rec K H w (fun v d _ => Rp K H' w v d) (fun vs ds _ => RpAll K H' w vs ds) .non .bl .int .str (fun {b _ _} h hm _ r => .lst (by rw [ne b (fun z => hm (z ▸ m))]; exact h) hm r)
    (fun {b _ _} h _ r => .tup (by
      rcases h with (h | ⟨o, h⟩) | h
      · exact .inl (.inl (by rw [ne b (fun z => L.tup h (z ▸ m))]; exact h))
      · exact .inl (.inr ⟨o, by rw [ne b (fun z => L.frz h (z ▸ m))]; exact h⟩)
      · exact .inr h) r) (fun h => .ref h) (fun {b _} h => .scr (h.elim (fun ⟨o, q⟩ => .inl ⟨o, by rw [ne b (fun z => L.frz q (z ▸ m))]; exact q⟩) .inr)) .nil (fun _ _ a b => .cons a b) _ _ h
theorem RpAll.tmp {a : Addr} (L : Wk H w) (m : w.M a) (ne : ∀ b, b ≠ a → H' b = H b) : ∀ {vs : List V} {ds : List D}, RpAll K H w vs ds → RpAll K H' w vs ds
  | _, _, .nil => .nil
  | _, _, .cons h t => .cons (Rp.tmp L m ne h) (RpAll.tmp L m ne t)
theorem SR.tmp (R : SR K H w σ ρ s) {a : Addr} (m : w.M a) (na : a ∉ w.la ++ w.ga) {vs : List V} : SR K (upd H a (.lst vs)) w σ ρ s := by
  have ne : ∀ b, b ≠ a → (upd H a (.lst vs)) b = H b := fun b hb => upd_ne hb
  have cc : ∀ {as : List Addr} {cs : List Cell}, (∀ b ∈ as, b ≠ a) → Cells K H w as cs → Cells K (upd H a (.lst vs)) w as cs := fun hn h => ⟨h.1, fun n c e => by
    obtain ⟨b, us, h1, h2, h3⟩ := h.2 n c e
    exact ⟨b, us, h1, by rw [ne b (hn b (List.mem_of_getElem? h1))]; exact h2, h3.tmp R.wk m ne⟩⟩
  refine ⟨R.len, fun i r e => ?_, cc (fun b hb z => na (z ▸ List.mem_append_left _ hb)) R.loc, cc (fun b hb z => na (z ▸ List.mem_append_right _ hb)) R.glb, R.wk.nd, R.wk.inM, fun b hb => ?_, R.wk.fr, fun b hb => ?_⟩
  · obtain ⟨x, h1, h2⟩ := R.env i r e
    refine ⟨x, h1, ?_⟩
    cases r with
    | v d => exact Rp.tmp R.wk m ne h2
    | loc n => exact h2
    | own _ => exact h2.elim
  · by_cases z : b = a
    · subst z; exact ⟨_, upd_same⟩
    · obtain ⟨us, e⟩ := R.wk.isL b hb
      exact ⟨us, by rw [ne b z]; exact e⟩
  · by_cases z : b = a
    · subst z; rw [upd_same] at hb; cases hb
    · rw [ne b z] at hb; exact R.wk.back b hb
theorem Keep.tmp (k : Keep H0 w0 H w) {a : Addr} (h0 : H0 a = none) {o : HO} : Keep H0 w0 (upd H a o) w :=
  ⟨fun b u h => by rw [upd_ne (ne_of_none h h0)]; exact k.is b u h, fun b u h m => by rw [upd_ne (ne_of_none h h0)]; exact k.obj b u h m, k.nc, k.nm, k.mm, k.la, k.ga, k.h0⟩
end

/-! ### what is walked -/
/-- J gives these items, one behind another, whatever else happens meanwhile -/
def Goes (p : Pr) (J : It) (H0 : Hp) (w0 : Wd) (items : List D) : Prop :=
  ∀ H w, Keep H0 w0 H w → Wk H w → J.stop items.length H ∧ ∀ i, i < items.length → J.go i H ∧ ∀ x H', J.yld i H x H' → ∃ d, items[i]? = some d ∧
    ((H' = H ∧ Rp p.K H w x d) ∨ ∃ T vs ds, H T = none ∧ H' = upd H T (.tup vs) ∧ x = .ref T ∧ d = .tup ds ∧ RpAll p.K H w vs ds)
theorem Goes.yld {p : Pr} {H : Hp} {w : Wd} {σ : St} {ρ : Env} {s : S} (R : SR p.K H w σ ρ s) {x : V} {H' : Hp} {d : D}
    (h : (H' = H ∧ Rp p.K H w x d) ∨ ∃ T vs ds, H T = none ∧ H' = upd H T (.tup vs) ∧ x = .ref T ∧ d = .tup ds ∧ RpAll p.K H w vs ds) : Keep H w H' w ∧ SR p.K H' w σ ρ s ∧ Rp p.K H' w x d := by
  rcases h with ⟨rfl, h⟩ | ⟨T, vs, ds, hT, rfl, rfl, rfl, ra⟩
  · exact ⟨Keep.refl _ w, R, h⟩
  · exact R.mkTup hT ra
abbrev DenI := Env → S → Option (List D × S)
def wI (X : Cx) (tg iter : Expr) : TI := fun σ H R => ∃ wi, PI X tg iter wi ∧ wi σ H R
theorem wI_ok {X : Cx} {tg iter : Expr} : PI X tg iter (wI X tg iter) := ⟨fun pins s σ H R I ⟨t, h, q⟩ => h.run pins s σ H R I q⟩
def SI (p : Pr) (c : Cst) (n : Nat) (tg iter : Expr) (di : DenI) : Prop :=
  ∀ X, Good p c n X → ∀ (ρ : Env) (s : S) (items : List D) (s' : S), di ρ s = some (items, s') → ∀ (σ : St) (H : Hp) (w : Wd) (R : It → Hp → Prop), SR p.K H w σ ρ s →
    (∀ J H' w', Keep H w H' w' → SR p.K H' w' σ ρ s' → Goes p J H' w' items → R J H') → wI X tg iter σ H R

section
variable {p : Pr} {c : Cst} {n : Nat} {e e1 e2 e3 tg iter : Expr} {es : List Expr} {d d1 d2 d3 : Den} {t : DenT} {da : DenA} {di : DenI} {pos : Pos} {sts : List Stmt} {ds : DenS} {gd : DenG} {sl : List Nat}
@[simp] def dSrc (d : Den) : DenI := fun ρ s => (d ρ s).bind fun a => match a.1.fz with
  | .v (.lst xs) => some (xs, a.2)
  | .v (.tup xs) => some (xs, a.2)
  | .v (.scr ns) => some (ns.map D.int, a.2)
  | _ => none
theorem goes_list {H : Hp} {w : Wd} {a : Addr} {vs : List V} {xs : List D} (L : Wk H w) (h : ∀ H' w', Keep H w H' w' → SqL p.K H' a vs) (ra : RpAll p.K H w vs xs) : Goes p (Itl p.K a) H w xs := by
  intro H' w' k L'
  have ra' := ra.keep k L
  have hs := h H' w' k
  refine ⟨⟨vs, hs, by rw [ra.length]; exact Nat.le_refl _⟩, fun i hi => ⟨⟨vs, vs[i]'(by rw [ra.length]; exact hi), hs, by simp [ra.length, hi]⟩, fun x H2 y => ?_⟩⟩
  obtain ⟨e1, e2⟩ := y
  obtain ⟨d, h1, h2⟩ := ra'.getV (e2 vs hs)
  exact ⟨d, h1, .inl ⟨e1, h2⟩⟩
theorem goes_tup {H : Hp} {w : Wd} {a : Addr} {vs : List V} {xs : List D} (L : Wk H w) (h : SqT p.K H a vs) (ra : RpAll p.K H w vs xs) : Goes p (Itt p.K a) H w xs := by
  intro H' w' k L'
  have ra' := ra.keep k L
  have hs := k.sqT L h
  refine ⟨⟨vs, hs, by rw [ra.length]; exact Nat.le_refl _⟩, fun i hi => ⟨⟨vs, vs[i]'(by rw [ra.length]; exact hi), hs, by simp [ra.length, hi]⟩, fun x H2 y => ?_⟩⟩
  obtain ⟨e1, e2⟩ := y
  obtain ⟨d, h1, h2⟩ := ra'.getV (e2 vs hs)
  exact ⟨d, h1, .inl ⟨e1, h2⟩⟩
theorem si_seq (h : SE p c n iter d) : SI p c n tg iter (dSrc d) := by
  intro X g ρ s items s' e' σ H w R RR q
  simp only [dSrc, Option.bind_eq_some_iff] at e'
  obtain ⟨⟨r, s1⟩, a1, a2⟩ := e'
  split at a2
  · rename_i xs hr
    cases a2
    refine ⟨_, pi_list wE_ok, h.fz g a1 RR fun x H1 w1 k1 R1 q1 => ?_⟩
    simp only at hr
    rw [hr] at q1
    cases q1 with
    | lst h1 h2 h3 => rename_i a vs; rw [g.K]; exact ⟨a, rfl, ⟨vs, SqL.of h1⟩, q _ H1 w1 k1 R1 (goes_list R1.wk (fun H' w' k => SqL.of (k.plain R1.wk h1 h2)) h3)⟩
  · rename_i xs hr
    cases a2
    refine ⟨_, pi_tup wE_ok, h.fz g a1 RR fun x H1 w1 k1 R1 q1 => ?_⟩
    simp only at hr
    rw [hr] at q1
    cases q1 with
    | tup h1 h2 => rename_i a vs; rw [g.K]; exact ⟨a, rfl, ⟨vs, h1⟩, q _ H1 w1 k1 R1 (goes_tup R1.wk h1 h2)⟩
  · rename_i ns hr
    cases a2
    refine ⟨_, pi_list wE_ok, h.fz g a1 RR fun x H1 w1 k1 R1 q1 => ?_⟩
    simp only at hr
    rw [hr] at q1
    cases q1 with
    | scr h1 =>
      rename_i a
      rw [g.K]
      exact ⟨a, rfl, ⟨_, sqL_scr h1⟩, q _ H1 w1 k1 R1 (goes_list R1.wk (fun H' w' k => sqL_scr (h1.elim (fun ⟨o, q⟩ => .inl ⟨o, k.plain R1.wk q (R1.wk.frz q)⟩) .inr)) (RpAll.of_ints ns))⟩
  · cases a2
theorem GlB.gl {X : Cx} {x : Str} (h : GlB c x) (g : Good p c n X) : Gl X x := by
  show X.env.scope.names.lookup x = _
  rw [g.sc]; exact h
/-- range -/
def rngD (lo : Int) (n : Nat) : List D := (List.range n).map fun i => D.int (lo + (i : Nat))
theorem goes_rng {H : Hp} {w : Wd} {lo : Int} {m : Nat} : Goes p (Itr lo m) H w (rngD lo m) := by
  intro H' w' k L'
  have hl : (rngD lo m).length = m := by simp [rngD]
  refine ⟨by rw [hl]; exact Nat.le_refl m, fun i hi => ⟨by rw [hl] at hi; exact hi, fun x H2 y => ?_⟩⟩
  obtain ⟨e1, e2⟩ := y
  rw [hl] at hi
  refine ⟨.int (lo + i), by simp [rngD, hi], .inl ⟨e1, ?_⟩⟩
  rw [e2]
  exact .int _
def inRng (i : Int) : Bool := decide (i.natAbs < 4611686018427387904)
@[simp] def dRng1 (da : DenA) : DenI := fun ρ s => (da ρ s).bind fun a => match a.1 with
  | [.v (.int j)] => if inRng j = true then some (rngD 0 j.toNat, a.2) else none
  | _ => none
@[simp] def dRng2 (da : DenA) : DenI := fun ρ s => (da ρ s).bind fun a => match a.1 with
  | [.v (.int i), .v (.int j)] => if (inRng i && inRng j) = true then some (rngD i (j - i).toNat, a.2) else none
  | _ => none
theorem si_rng1 {p1 : Pos} (hg : GlB c "range") (hm : p.mg "range" = none) (ha : SA p c n [e] da) (hs : ∀ env, starEach [e] env = [(false, eval e env)] := by intro _; rfl) : SI p c n tg (.Call (.Name "range" p1) [e] [] pos) (dRng1 da) := by
  intro X g ρ s items s' e' σ H w R RR q
  simp only [dRng1, Option.bind_eq_some_iff] at e'
  obtain ⟨⟨rs, s1⟩, a1, a2⟩ := e'
  split at a2
  · rename_i j hr
    split at a2
    · rename_i hz
      cases a2
      simp only at hr
      subst hr
      simp only [inRng, Bool.and_eq_true, decide_eq_true_eq] at hz
      refine ⟨_, pi_range1 (hg.gl g) (by rw [g.mg]; exact hm) wA_ok (hs _), ha X g ρ s _ s1 a1 σ H w _ RR fun xs H1 w1 k1 R1 q1 => ?_⟩
      obtain ⟨x, rfl, hx⟩ := one_of q1
      cases hx
      exact ⟨j, rfl, by omega, by omega, q _ H1 w1 k1 R1 goes_rng⟩
    · cases a2
  · cases a2
theorem si_rng2 {p1 : Pos} (hg : GlB c "range") (hm : p.mg "range" = none) (ha : SA p c n [e1, e2] da) (hs : ∀ env, starEach [e1, e2] env = [(false, eval e1 env), (false, eval e2 env)] := by intro _; rfl) (hs2 : ∀ env, starEach [e2] env = [(false, eval e2 env)] := by intro _; rfl) :
    SI p c n tg (.Call (.Name "range" p1) [e1, e2] [] pos) (dRng2 da) := by
  intro X g ρ s items s' e' σ H w R RR q
  simp only [dRng2, Option.bind_eq_some_iff] at e'
  obtain ⟨⟨rs, s1⟩, a1, a2⟩ := e'
  split at a2
  · rename_i i j hr
    split at a2
    · rename_i hz
      cases a2
      simp only at hr
      subst hr
      simp only [inRng, Bool.and_eq_true, decide_eq_true_eq] at hz
      refine ⟨_, pi_range2 (hg.gl g) (by rw [g.mg]; exact hm) wA_ok (hs _) (hs2 _), ha X g ρ s _ s1 a1 σ H w _ RR fun xs H1 w1 k1 R1 q1 => ?_⟩
      obtain ⟨x, y, rfl, hx, hy⟩ := two_of q1
      cases hx
      cases hy
      exact ⟨i, j, rfl, ⟨by omega, by omega, by omega, by omega⟩, q _ H1 w1 k1 R1 goes_rng⟩
    · cases a2
  · cases a2
/-- zip of two lists, of two tuples -/
def zipD (xs ys : List D) : List D := List.zipWith (fun x y => D.tup [x, y]) xs ys
@[simp] def dZip (da : DenA) : DenI := fun ρ s => (da ρ s).bind fun a => match a.1 with
  | [.v (.lst xs), .v (.lst ys)] => some (zipD xs ys, a.2)
  | [.v (.tup xs), .v (.tup ys)] => some (zipD xs ys, a.2)
  | _ => none
theorem zip_get {xs ys : List D} {i : Nat} {x y : D} (h1 : xs[i]? = some x) (h2 : ys[i]? = some y) : (zipD xs ys)[i]? = some (.tup [x, y]) := by
  unfold zipD
  rw [List.getElem?_zipWith, h1, h2]
theorem si_zip {p1 tpos : Pos} {elts : List Expr} {kk : Nat} (hg : GlB c "zip") (hm : p.mg "zip" = none) (ha : SA p c n [e1, e2] da) (hs : ∀ env, starEach [e1, e2] env = (false, eval e1 env) :: starEach [e2] env := by intro _; rfl)
    (hpl : ∀ env, (backTo pos (starEach [e2] env)).any (·.1) = false := by intro _; rfl) : SI p c n (.Tuple elts kk tpos) (.Call (.Name "zip" p1) [e1, e2] [] pos) (dZip da) := by
  intro X g ρ s items s' e' σ H w R RR q
  simp only [dZip, Option.bind_eq_some_iff] at e'
  obtain ⟨⟨rs, s1⟩, a1, a2⟩ := e'
  refine ⟨_, pi_zipA (hg.gl g) (by rw [g.mg]; exact hm) wA_ok (hs _) (hpl _), ha X g ρ s rs s1 a1 σ H w _ RR fun vs H1 w1 k1 R1 q1 => ?_⟩
  have pair : ∀ {H2 : Hp} {w2 : Wd} {va vb : List V} {xs ys : List D}, RpAll p.K H2 w2 va xs → RpAll p.K H2 w2 vb ys → ∀ {i : Nat} {T : Addr} {x y : V} {H3 : Hp}, va[i]? = some x → vb[i]? = some y → H2 T = none → H3 = upd H2 T (.tup [x, y]) →
      ∃ d, (zipD xs ys)[i]? = some d ∧ ((H3 = H2 ∧ Rp p.K H2 w2 (.ref T) d) ∨ ∃ T' vs ds, H2 T' = none ∧ H3 = upd H2 T' (.tup vs) ∧ V.ref T = .ref T' ∧ d = .tup ds ∧ RpAll p.K H2 w2 vs ds) := by
    intro H2 w2 va vb xs ys ra rb i T x y H3 hx hy hT hH
    obtain ⟨dx, hx1, hx2⟩ := ra.getV hx
    obtain ⟨dy, hy1, hy2⟩ := rb.getV hy
    exact ⟨_, zip_get hx1 hy1, .inr ⟨T, _, _, hT, hH, rfl, rfl, .cons hx2 (.cons hy2 .nil)⟩⟩
  have len : ∀ {va vb : List V} {xs ys : List D} {H2 : Hp} {w2 : Wd}, RpAll p.K H2 w2 va xs → RpAll p.K H2 w2 vb ys → (zipD xs ys).length = min va.length vb.length := by
    intro va vb xs ys H2 w2 ra rb
    unfold zipD
    rw [List.length_zipWith, ra.length, rb.length]
  split at a2
  · rename_i xs ys hr
    cases a2
    simp only at hr
    subst hr
    obtain ⟨x, y, rfl, hx, hy⟩ := two_of q1
    cases hx with
    | lst ha1 ha2 ha3 =>
    cases hy with
    | lst hb1 hb2 hb3 =>
    rename_i a va b vb
    rw [g.K]
    refine ⟨a, b, va, vb, rfl, .inl ⟨SqL.of ha1, SqL.of hb1, q _ H1 w1 k1 R1 fun H2 w2 k2 L2 => ?_⟩⟩
    have s1 : SqL p.K H2 a va := SqL.of (k2.plain R1.wk ha1 ha2)
    have s2 : SqL p.K H2 b vb := SqL.of (k2.plain R1.wk hb1 hb2)
    have ra := ha3.keep k2 R1.wk
    have rb := hb3.keep k2 R1.wk
    rw [len ra rb]
    refine ⟨⟨va, vb, s1, s2, by omega⟩, fun i hi => ⟨⟨va, vb, va[i]'(by omega), vb[i]'(by omega), s1, s2, by simp, by simp⟩, fun v H3 yl => ?_⟩⟩
    obtain ⟨T, x, y, rfl, hT, hH, e1, e2⟩ := yl
    exact pair ra rb (e1 va s1) (e2 vb s2) hT hH
  · rename_i xs ys hr
    cases a2
    simp only at hr
    subst hr
    obtain ⟨x, y, rfl, hx, hy⟩ := two_of q1
    cases hx with
    | tup ha1 ha3 =>
    cases hy with
    | tup hb1 hb3 =>
    rename_i a va b vb
    rw [g.K]
    refine ⟨a, b, va, vb, rfl, .inr ⟨ha1, hb1, q _ H1 w1 k1 R1 fun H2 w2 k2 L2 => ?_⟩⟩
    have s1 := k2.sqT R1.wk ha1
    have s2 := k2.sqT R1.wk hb1
    have ra := ha3.keep k2 R1.wk
    have rb := hb3.keep k2 R1.wk
    rw [len ra rb]
    refine ⟨⟨va, vb, s1, s2, by omega⟩, fun i hi => ⟨⟨va, vb, va[i]'(by omega), vb[i]'(by omega), s1, s2, by simp, by simp⟩, fun v H3 yl => ?_⟩⟩
    obtain ⟨T, x, y, rfl, hT, hH, e1, e2⟩ := yl
    exact pair ra rb (e1 va s1) (e2 vb s2) hT hH
  · cases a2

/-! ### for -/
@[simp] def forD (gd : DenG) (b : DenS) : List D → DenS
  | [] => fun ρ s => some (.nx ρ s)
  | x :: xs => fun ρ s => (gd x ρ s).bind fun a => (b a.1 a.2).bind fun o => match o with
    | .nx ρ' s' => forD gd b xs ρ' s'
    | .ct ρ' s' => forD gd b xs ρ' s'
    | .bk ρ' s' => some (.nx ρ' s')
    | .rt r g => some (.rt r g)
@[simp] def dFor (di : DenI) (gd : DenG) (b : DenS) : DenS := fun ρ s => (di ρ s).bind fun a => forD gd b a.1 ρ a.2
theorem ss_for (hi : SI p c n tg iter di) (hg : SG p c n tg gd sl) (hb : SSs p c n sts ds) (hs : ∀ env x, foldedSetIterable iter env x = pure x := by intro _ _; rfl) : SS p c n (.For tg iter sts [] pos) (dFor di gd ds) := by
  intro X g ρ s o e' σ H w D R q
  simp only [dFor, Option.bind_eq_some_iff] at e'
  obtain ⟨⟨items, s1⟩, a1, a2⟩ := e'
  refine ⟨_, ps_for (by rw [g.xe]; exact PassesOwn.never) g.calm wI_ok wG_ok wSs_ok (hs _), hi X g ρ s items s1 a1 σ H w _ R fun J H1 w1 k1 R1 go => ?_⟩
  refine ⟨fun i m σ' H' => m = items.length - i ∧ i ≤ items.length ∧ ∃ ρ' s' w', Keep H1 w1 H' w' ∧ SR p.K H' w' σ' ρ' s' ∧ forD gd ds (items.drop i) ρ' s' = some o, ⟨items.length, rfl, Nat.zero_le _, ρ, s1, w1, Keep.refl H1 w1, R1, by simpa using a2⟩, ?_⟩
  rintro i m σ2 H2 ⟨rfl, hil, ρ2, s2, w2, k2, R2, e2⟩
  obtain ⟨hstop, hgo⟩ := go H2 w2 k2 R2.wk
  by_cases hlt : i < items.length
  · obtain ⟨g1, g2⟩ := hgo i hlt
    refine .inr ⟨g1, fun σ' H' => ∃ ρ' s' w', Keep H1 w1 H' w' ∧ SR p.K H' w' σ' ρ' s' ∧ forD gd ds (items.drop (i + 1)) ρ' s' = some o, fun σ' H' h => ⟨_, by omega, rfl, hlt, h⟩, fun x H3 yl => ?_⟩
    obtain ⟨dd, hd, hy⟩ := g2 x H3 yl
    obtain ⟨k3, R3, rx⟩ := Goes.yld R2 hy
    have hdrop : items.drop i = dd :: items.drop (i + 1) := by
      rw [List.getElem?_eq_some_iff] at hd
      obtain ⟨h1, h2⟩ := hd
      rw [List.drop_eq_getElem_cons h1, h2]
    rw [hdrop] at e2
    unfold forD at e2
    simp only [Option.bind_eq_some_iff] at e2
    obtain ⟨⟨ρ4, s4⟩, b1, o5, b2, b3⟩ := e2
    refine hg X g ρ2 s2 dd ρ4 s4 b1 σ2 H3 w2 x _ R3 rx fun σ4 H4 w4 k4 R4 _ => ?_
    have k24 := (k2.trans k3).trans k4
    refine hb X g ρ4 s4 o5 b2 σ4 H4 w4 _ R4 ?_
    split at b3
    · exact fun σ5 H5 w5 k5 R5 => ⟨_, _, w5, k24.trans k5, R5, b3⟩
    · exact fun σ5 H5 w5 k5 R5 => ⟨_, _, w5, k24.trans k5, R5, b3⟩
    · cases b3
      exact fun σ5 H5 w5 k5 R5 => q σ5 H5 w5 (k1.trans (k24.trans k5)) R5
    · cases b3
      exact q.mono (k1.trans k24)
  · have hi2 : i = items.length := by omega
    subst hi2
    rw [List.drop_length] at e2
    cases e2
    exact .inl ⟨hstop, q σ2 H2 w2 (k1.trans k2) R2⟩

/-! ### [e for target in iter if test] -/
@[simp] def lcD (gd : DenG) (t : DenT) (d : Den) (ρ0 : Env) : List D → S → Option (List D × S)
  | [], s => some ([], s)
  | x :: xs, s => (gd x ρ0 s).bind fun a => (t a.1 a.2).bind fun b => if b.1 = true then (d a.1 b.2).bind fun r => match r.1.fz with
      | .v y => (lcD gd t d ρ0 xs r.2).bind fun q => some (y :: q.1, q.2)
      | _ => none
    else lcD gd t d ρ0 xs b.2
@[simp] def dLc (di : DenI) (gd : DenG) (t : DenT) (d : Den) (vs : List Nat) : Den := fun ρ s => (di ρ s).bind fun a => if a.1.length < bigLen then (lcD gd t d (wipeE ρ vs) a.1 a.2).bind fun q => some (.own q.1, q.2) else none
def tWE (X : Cx) (e : Expr) : TE := fun σ H Q => ∀ pins s, Inv X pins σ H s → wpAny (model X.prog X.w) X.A (eval e X.env) (EP X pins σ Q) X.xe s
theorem wE_tWE {X : Cx} {e : Expr} {σ : St} {H : Hp} {Q : VK} (h : wE X e σ H Q) : tWE X e σ H Q := fun pins s I => let ⟨_, h1, q⟩ := h; h1.run pins s σ H Q I q
def tWG (X : Cx) (tg : Expr) : TG := fun v σ H Q => ∀ pins s u, Inv X pins σ H s → RelV v u → wpAny (model X.prog X.w) X.A (assign tg X.env u) (fun _ s' => ∃ σ' H', Inv X pins σ' H' s' ∧ Q σ' H') X.xe s
theorem wG_tWG {X : Cx} {tg : Expr} {v : V} {σ : St} {H : Hp} {Q : St → Hp → Prop} (h : wG X tg v σ H Q) : tWG X tg v σ H Q := fun pins s u I r => let ⟨_, h1, q⟩ := h; h1.run pins s σ H v u Q I r q
def wTs (X : Cx) (ifs : List Expr) : TT := fun σ H Q => ∃ t, PTs X ifs t ∧ t σ H Q
def STs (p : Pr) (c : Cst) (n : Nat) (es : List Expr) (d : DenT) : Prop :=
  ∀ X, Good p c n X → ∀ (ρ : Env) (s : S) (b : Bool) (s' : S), d ρ s = some (b, s') → ∀ (σ : St) (H : Hp) (w : Wd) (Q : Bool → Hp → Prop), SR p.K H w σ ρ s →
    (∀ H' w', Keep H w H' w' → SR p.K H' w' σ ρ s' → Q b H') → wTs X es σ H Q
@[simp] def dYes : DenT := fun _ s => some (true, s)
theorem sts_nil : STs p c n [] dYes := fun X g ρ s b s' e' σ H w Q R q => by
  cases e'
  exact ⟨_, pts_nil, q H w (Keep.refl H w) R⟩
theorem sts_one (h : ST p c n e t) : STs p c n [e] t := fun X g ρ s b s' e' σ H w Q R q => ⟨_, pts_one wT_ok, h X g ρ s b s' e' σ H w Q R q⟩
def tWTs (X : Cx) (ifs : List Expr) : TT := fun σ H Q => ∀ pins s, Inv X pins σ H s →
  wpAny (model X.prog X.w) X.A (forIn ifs true fun cc r => if r = true then do let ok ← isTrue cc X.env (eval cc X.env); pure (ForInStep.yield ok) else pure (ForInStep.yield r)) (TP X pins σ Q) X.xe s
theorem wTs_tWTs {X : Cx} {ifs : List Expr} {σ : St} {H : Hp} {Q : Bool → Hp → Prop} (h : wTs X ifs σ H Q) : tWTs X ifs σ H Q := fun pins s I => let ⟨_, h1, q⟩ := h; h1.run pins s σ H Q I q
/-- the block's names -/
def Cst.blk (c : Cst) (scope : Scope) : Cst := ⟨c.N, relS scope c.sc, fun x => scope.names.lookup x == some .cell⟩
theorem Good.blk {X : Cx} (g : Good p c n X) (s : Shared) (H : Hp) (scope : Scope) (cl : List (Str × Addr)) (C : Addr) (fp : List Addr) : Good p (c.blk scope) n (X.blk s H scope (compEnvC scope cl C X.env) fp) := by
  refine ⟨g.prog, g.wd, g.K, g.mg, g.base, g.N, ?_, rfl, g.calm, g.room, g.gd, rfl, g.nd⟩
  show relabel scope X.env = relS scope c.sc
  rw [← g.sc]
  rfl
/-- a comprehension's parts read in every block that it may get -/
abbrev Blk (X : Cx) (scope : Scope) (P : Cx → Prop) : Prop := ∀ (s : Shared) (H : Hp) (C : Addr) (cl : List (Str × Addr)) (fp : List Addr), P (X.blk s H scope (compEnvC scope cl C X.env) fp)
def bE (X : Cx) (scope : Scope) (e : Expr) : TE := fun σ H Q => Blk X scope fun Y => tWE Y e σ H Q
def bG (X : Cx) (scope : Scope) (tg : Expr) : TG := fun v σ H Q => Blk X scope fun Y => tWG Y tg v σ H Q
def bTs (X : Cx) (scope : Scope) (ifs : List Expr) : TT := fun σ H Q => Blk X scope fun Y => tWTs Y ifs σ H Q
theorem lcD_len {t : DenT} {ρ0 : Env} : ∀ {xs : List D} {s s' : S} {ys : List D}, lcD gd t d ρ0 xs s = some (ys, s') → ys.length ≤ xs.length
  | [], s, s', ys, h => by cases h; exact Nat.le_refl _
  | x :: xs, s, s', ys, h => by
    unfold lcD at h
    simp only [Option.bind_eq_some_iff] at h
    obtain ⟨a, _, b, _, h⟩ := h
    split at h
    · rw [Option.bind_eq_some_iff] at h
      obtain ⟨r, _, h⟩ := h
      split at h
      · rw [Option.bind_eq_some_iff] at h
        obtain ⟨q, h1, h2⟩ := h
        cases h2
        have := lcD_len h1
        simp only [List.length_cons]
        omega
      · cases h
    · have := lcD_len h
      simp only [List.length_cons]
      omega
theorem lc_core1 {scope : Scope} {own : List (Str × Nat)} {t : DenT} {ifs : List Expr} {elt : Expr} (hi : SI p c n tg iter di) (hg : SG p (c.blk scope) n tg gd sl) (ht : STs p (c.blk scope) n ifs t) (he : SE p (c.blk scope) n elt d)
    (hsl : ∀ i ∈ sl, i ∈ own.map (·.2)) {X : Cx} (g : Good p c n X) {ρ : Env} {s s' : S} {r : Rs} (e' : dLc di gd t d (own.map (·.2)) ρ s = some (r, s')) {σ : St} {H : Hp} {w : Wd} {Q : VK} (R : SR p.K H w σ ρ s)
    (q : ∀ x H' w', Keep H w H' w' → SR p.K H' w' σ ρ s' → RsE p.K H H' w' x r → Q x H') : tLc (wI X tg iter) (bG X scope tg) (bTs X scope ifs) (bE X scope elt) (own.map (·.2)) σ H Q := by
  simp only [dLc, Option.bind_eq_some_iff] at e'
  obtain ⟨⟨items, s1⟩, a1, a2⟩ := e'
  split at a2
  · rename_i hz
    have hz : items.length < bigLen := hz
    rw [Option.bind_eq_some_iff] at a2
    obtain ⟨⟨ys, s2⟩, a2, a3⟩ := a2
    cases a3
    refine hi X g ρ s items s1 a1 σ H w _ R fun J H1 w1 k1 R1 go => fun D hD => ?_
    refine ⟨fun i m H' => m = items.length - i ∧ i ≤ items.length ∧ ∃ s' w' vacc acc rest, Keep H1 w1 H' w' ∧ SR p.K H' w' σ ρ s' ∧ H' D = some (.lst vacc) ∧ RpAll p.K H' w' vacc acc ∧ w'.M D ∧ D ∉ w'.la ++ w'.ga ∧
      lcD gd t d (wipeE ρ (own.map (·.2))) (items.drop i) s' = some (rest, s2) ∧ acc ++ rest = ys ∧ acc.length ≤ i, ⟨items.length, rfl, Nat.zero_le _, ?_⟩, ?_⟩
    · obtain ⟨k2, R2, hn⟩ := R1.newL (vs := []) hD
      exact ⟨s1, w1.add D, [], [], ys, k2, R2, upd_same, .nil, .inr rfl, hn, by simpa using a2, rfl, Nat.le_refl _⟩
    · rintro i m H2 ⟨rfl, hil, s3, w2, vacc, acc, rest, k2, R2, hH2, racc, mD, nD, e2, eacc, hacc⟩
      obtain ⟨hstop, hgo⟩ := go H2 w2 k2 R2.wk
      by_cases hlt : i < items.length
      · obtain ⟨g1, g2⟩ := hgo i hlt
        refine .inr ⟨g1, fun H' => ∃ s' w' vacc acc rest, Keep H1 w1 H' w' ∧ SR p.K H' w' σ ρ s' ∧ H' D = some (.lst vacc) ∧ RpAll p.K H' w' vacc acc ∧ w'.M D ∧ D ∉ w'.la ++ w'.ga ∧
          lcD gd t d (wipeE ρ (own.map (·.2))) (items.drop (i + 1)) s' = some (rest, s2) ∧ acc ++ rest = ys ∧ acc.length ≤ i + 1, fun H' h => ⟨_, by omega, rfl, hlt, h⟩, fun x H3 yl => ?_⟩
        obtain ⟨dd, hd, hy⟩ := g2 x H3 yl
        obtain ⟨k3, R3, rx⟩ := Goes.yld R2 hy
        have hdrop : items.drop i = dd :: items.drop (i + 1) := by
          rw [List.getElem?_eq_some_iff] at hd
          obtain ⟨h1, h2⟩ := hd
          rw [List.drop_eq_getElem_cons h1, h2]
        rw [hdrop] at e2
        unfold lcD at e2
        simp only [Option.bind_eq_some_iff] at e2
        obtain ⟨⟨ρ4, s4⟩, b1, ⟨b, s5⟩, b2, b3⟩ := e2
        have hH3 : H3 D = some (.lst vacc) := k3.obj D _ hH2 nD
        intro sB HB CB clB fpB
        refine wG_tWG (hg _ (g.blk sB HB scope clB CB fpB) _ s3 dd ρ4 s4 b1 _ H3 w2 x _ (R3.wipe _) rx fun σ4 H4 w4 k4 R4 o4 => ?_)
        refine ⟨wipe_only o4 hsl, fun sC HC CC clC fpC => ?_⟩
        refine wTs_tWTs (ht _ (g.blk sC HC scope clC CC fpC) ρ4 s4 b s5 b2 σ4 H4 w4 _ R4 fun H5 w5 k5 R5 => ?_)
        have k25 := (k3.trans k4).trans k5
        have hH5 : H5 D = some (.lst vacc) := k25.obj D _ hH2 nD
        split at b3
        · rename_i hb
          rw [if_pos hb]
          rw [Option.bind_eq_some_iff] at b3
          obtain ⟨⟨r6, s6⟩, b4, b5⟩ := b3
          split at b5
          · rename_i y hyr
            rw [Option.bind_eq_some_iff] at b5
            obtain ⟨⟨zs, s7⟩, b6, b7⟩ := b5
            cases b7
            intro sE HE CE clE fpE
            refine wE_tWE ((he.fz (g.blk sE HE scope clE CE fpE) b4 R5 fun yv H6 w6 k6 R6 r6' => ?_))
            simp only at hyr
            rw [hyr] at r6'
            have k26 := k25.trans k6
            have hH6 : H6 D = some (.lst vacc) := k26.obj D _ hH2 nD
            have mD6 : w6.M D := k26.mm D _ hH2 mD
            have nD6 : D ∉ w6.la ++ w6.ga := k26.nc D _ hH2 nD
            have RR6 : SR p.K H6 w6 σ ρ s6 := R2.rejoin k26 R6
            have racc6 := racc.keep k26 R2.wk
            have ne : ∀ b, b ≠ D → (upd H6 D (.lst (vacc ++ [yv]))) b = H6 b := fun b hb => upd_ne hb
            refine ⟨vacc, hH6, ?_, s6, w6, vacc ++ [yv], acc ++ [y], zs, (k2.trans k26).tmp hD, RR6.tmp mD6 nD6, upd_same, (racc6.append (.cons r6' .nil)).tmp RR6.wk mD6 ne, mD6, nD6, b6, ?_, ?_⟩
            · rw [racc.length]
              exact big_lt (by omega)
            · rw [List.append_assoc]
              exact eacc
            · rw [List.length_append]
              simp only [List.length_cons, List.length_nil]
              omega
          · cases b5
        · rename_i hb
          rw [if_neg hb]
          have RR5 : SR p.K H5 w5 σ ρ s5 := R2.rejoin k25 R5
          exact ⟨s5, w5, vacc, acc, rest, k2.trans k25, RR5, hH5, racc.keep k25 R2.wk, k25.mm D _ hH2 mD, k25.nc D _ hH2 nD, b3, eacc, by omega⟩
      · have hi2 : i = items.length := by omega
        subst hi2
        rw [List.drop_length] at e2
        cases e2
        rw [List.append_nil] at eacc
        subst eacc
        exact .inl ⟨hstop, q _ H2 w2 (k1.trans k2) R2 ⟨D, vacc, rfl, k1.back hD, hH2, racc, mD, nD⟩⟩
  · cases a2
theorem se_lc {scope : Scope} {own : List (Str × Nat)} {t : DenT} {ifs : List Expr} {elt : Expr} (hi : SI p c n tg iter di) (ok : blkC c.N c.sc scope own = true) (hg : SG p (c.blk scope) n tg gd sl) (ht : STs p (c.blk scope) n ifs t) (he : SE p (c.blk scope) n elt d)
    (hsl : ∀ i ∈ sl, i ∈ own.map (·.2)) (hs : ∀ env x, foldedSetIterable iter env x = pure x := by intro _ _; rfl) : SE p c n (.ListComp elt [⟨tg, iter, ifs, 0⟩] scope pos) (dLc di gd t d (own.map (·.2))) := by
  intro X g ρ s r s' e' σ H w Q R q
  exact ⟨_, pe_lc (own := own) (g := bG X scope tg) (tt := bTs X scope ifs) (te := bE X scope elt) g.calm (by rw [g.N]; exact g.nd) wI_ok (blkOk_by (by rw [g.N, g.sc]; exact ok)) (fun s H C cl fp => ⟨fun pins s2 σ2 H2 v u Q2 I r h => h s H C cl fp pins s2 u I r⟩)
    (fun s H C cl fp => ⟨fun pins s2 σ2 H2 Q2 I h => h s H C cl fp pins s2 I⟩) (fun s H C cl fp => ⟨fun pins s2 σ2 H2 Q2 I h => h s H C cl fp pins s2 I⟩) (hs _), lc_core1 hi hg ht he hsl g e' R q⟩
theorem ss_setLc (st : Bool) {i : Nat} {x : Str} {p1 spos : Pos} {scope : Scope} {own : List (Str × Nat)} {t : DenT} {ifs : List Expr} {elt : Expr} (hx : Nm c i x) (lx : c.sc.names.lookup x = some .local) (hk : c.sc.kind = .function)
    (hl : (p1.line == pos.line) = true) (hany : (scope.names.any fun (n, k) => n == x && (k == .local || k == .cell)) = false) (hi : SI p c n tg iter di) (ok : blkC c.N c.sc scope own = true) (hg : SG p (c.blk scope) n tg gd sl) (ht : STs p (c.blk scope) n ifs t) (he : SE p (c.blk scope) n elt d)
    (hsl : ∀ i ∈ sl, i ∈ own.map (·.2)) (hs : ∀ env x, foldedSetIterable iter env x = pure x := by intro _ _; rfl) : SS p c n (.Assign [.Name x p1] (.ListComp elt [⟨tg, iter, ifs, 0⟩] scope pos) spos) (dSet st i (dLc di gd t d (own.map (·.2)))) := by
  intro X g ρ s o e' σ H w D R q
  simp only [dSet, Option.bind_eq_some_iff] at e'
  obtain ⟨⟨r, s1⟩, a1, a2⟩ := e'
  refine ⟨_, ps_setLc (i := i) (own := own) (g := bG X scope tg) (tt := bTs X scope ifs) (te := bE X scope elt) g.calm (by rw [g.N]; exact g.nd) (by rw [g.N]; exact hx.ix) (by rw [g.sc]; exact lx) (sw_true (by rw [g.sc]; exact hk) (by rw [g.sc]; exact lx) hl hany) wI_ok (blkOk_by (by rw [g.N, g.sc]; exact ok)) (fun s H C cl fp => ⟨fun pins s2 σ2 H2 v u Q2 I r h => h s H C cl fp pins s2 u I r⟩)
    (fun s H C cl fp => ⟨fun pins s2 σ2 H2 Q2 I h => h s H C cl fp pins s2 I⟩) (fun s H C cl fp => ⟨fun pins s2 σ2 H2 Q2 I h => h s H C cl fp pins s2 I⟩) (hs _), ?_⟩
  exact lc_core1 hi hg ht he hsl g a1 R fun y H1 w1 k1 R1 r1 => sto_core R.wk k1 R1 r1 a2 q
end
end Ev1
/-! Core 8: defs: promises by denotations, calls, bodies. -/
namespace Ev1
open PySem L2 PySem.Spec PyProof.Rows

abbrev Fd := List D → List Cell → Option (Rs × List Cell)
/-- by number: what a def makes of plain data and the shared cells -/
abbrev FT := Nat → Fd
/-- a promise of a def, where no text is being made of anything around it -/
structure FnG (p : Pr) (n : Nat) (f : Addr) (fd : FuncData) (ps : List Str) (sp : Sp) : Prop where
  len : ∀ vs H Q E, sp vs H Q E → vs.length = ps.length
  run : ∀ (B : Around) (callers : List PySem.Env) (s : Shared) (H : Hp) (args : Args) (us : List Value) (vs : List V) (Q : VK) (E : XK), B.guards = some [] → Room n B → Env0 p.P p.w p.K p.mg p.base B callers s H →
    BindsTo s fd args (ps.zip us) → Vals vs us → sp vs H Q E → codeAny (model p.P p.w) B (.call (.ref f) args) (CR CX0 callers p.P p.w H s Q E) s
def spF (p : Pr) (np : Nat) (F : Fd) : Sp := fun vs H Q _ => vs.length = np ∧ ∃ w0 ds g r g', w0.la = [] ∧ w0.H0 = H ∧ GR p.K H w0 g ∧ RpAll p.K H w0 vs ds ∧ F ds g = some (r, g') ∧
  ∀ x H' w', KeepR H w0 H' w' → GR p.K H' w' g' → RsE p.K H H' w' x r → Q x H'
/-- a def's name, its parameters' number: where it stands, and its promise -/
@[simp] def pick {α : Type} (perm : List Nat) (z : α) (xs : List α) : List α := perm.map fun i => xs.getD i z
/-- called by these names alone, in this sequence: the parameters get the values at these places -/
def KB (K : PySem.W.Frag) (fd : FuncData) (ps : List Str) (kw : List Str × List Nat) : Prop := kw.2.length = ps.length ∧ (∀ i ∈ kw.2, i < kw.1.length) ∧
  ∀ (s : Shared) (us : List Value), K.In s.heap → us.length = kw.1.length → BindsTo s fd ⟨[], kw.1.zip us⟩ (ps.zip (pick kw.2 .none us))
structure FnAt (p : Pr) (n : Nat) (x : Str) (ps : List Str) (kws : List (List Str × List Nat)) (F : Fd) : Prop where
  ex : ∃ (a : Addr) (fd : FuncData), p.mg x = some (.ref a) ∧ PySem.W.keepIn p.K (.ref a) = true ∧ Binds p.K fd ps [] ∧ (∀ kw ∈ kws, KB p.K fd ps kw) ∧ FnG p n a fd ps (spF p ps.length F)

section
variable {p : Pr} {c : Cst} {n : Nat} {e : Expr} {es : List Expr} {da : DenA} {pos : Pos}
section
variable {X : Cx} {pins : List (Addr × Obj)} {σ : L2.St} {H : Hp} {s : Shared} {Q : VK} {us : List Value} {vs : List V}
theorem call_G {f : Addr} {fd : FuncData} {ps : List Str} {sp : Sp} {args : Args} (g : Good p c n X) (F : FnG p n f fd ps sp) (I : Inv X pins σ H s) (hb : BindsTo s fd args (ps.zip us)) (r : Vals vs us) (h : sp vs H Q E0) :
    codeAny (model X.prog X.w) X.A (.call (.ref f) args) (fun res s' => ∃ u, res = .ok (.ret u) ∧ EP X pins σ Q u s') s := by
  have e0 := I.env0
  rw [g.prog, g.wd, g.K, g.mg, g.base] at e0
  have q := F.run X.A X.stack s H args us vs Q E0 g.gd g.room e0 hb r h
  rw [← g.prog, ← g.wd] at q
  refine codeAny_mono q fun res s' z => ?_
  match res, z with
  | .error _, z => exact z.elim
  | .ok .next, z => exact z.elim
  | .ok .brk, z => exact z.elim
  | .ok .cont, z => exact z.elim
  | .ok (.ret u), z => exact ⟨u, rfl, I.after z⟩
end
theorem Rp.same {K : PySem.W.Frag} {H : Hp} {w w' : Wd} (hM : w'.M = w.M) (hg : w'.ga = w.ga) {v : V} {d : D} (h : Rp K H w v d) : Rp K H w' v d :=
  @Rp.rec K H w (fun v d _ => Rp K H w' v d) (fun vs ds _ => RpAll K H w' vs ds) .non .bl .int .str (fun h m _ r => .lst h (by rw [hM]; exact m) r) (fun h _ r => .tup h r) (fun h => .ref (by rw [hg]; exact h)) (fun h => .scr h) .nil (fun _ _ a b => .cons a b) _ _ h
theorem RpAll.same {K : PySem.W.Frag} {H : Hp} {w w' : Wd} (hM : w'.M = w.M) (hg : w'.ga = w.ga) : ∀ {vs : List V} {ds : List D}, RpAll K H w vs ds → RpAll K H w' vs ds
  | _, _, .nil => .nil
  | _, _, .cons h t => .cons (Rp.same hM hg h) (RpAll.same hM hg t)
/-- from the caller's side: ahead of the call and behind it -/
theorem SR.call {H H' : Hp} {w w' : Wd} {σ : L2.St} {ρ : Env} {s : S} {g' : List Cell} (R : SR p.K H w σ ρ s) (k : KeepR H { w with la := [], H0 := H } H' w') (G : GR p.K H' w' g') :
    Keep H w H' { w' with la := w.la, H0 := w.H0 } ∧ SR p.K H' { w' with la := w.la, H0 := w.H0 } σ ρ { s with g := g' } ∧ ∀ {x : V} {r : Rs}, RsE p.K H H' w' x r → RsE p.K H H' { w' with la := w.la, H0 := w.H0 } x r := by
  have nd := List.nodup_append.mp R.wk.nd
  have lag : ∀ a, a ∈ w.la → a ∉ w'.ga ∧ (∃ o, H a = some o) ∧ w'.M a ∧ H' a = H a := fun a ha => by
    obtain ⟨vs, e⟩ := R.wk.isL a (R.wk.inM a (List.mem_append_left _ ha))
    have hn : a ∉ ([] : List Addr) ++ w.ga := fun z => nd.2.2 a ha a (by simpa using z) rfl
    exact ⟨k.nc a _ e hn, ⟨_, e⟩, k.mm a _ e (R.wk.inM a (List.mem_append_left _ ha)), (k.obj a _ e hn).trans e.symm⟩
  have K2 : Keep H w H' { w' with la := w.la, H0 := w.H0 } := by
    refine ⟨k.is, fun a o h m => k.obj a o h fun z => m (List.mem_append_right _ (by simpa using z)), fun a o h m z => ?_, k.nm, k.mm, fun _ _ h => h, k.ga, rfl⟩
    rcases List.mem_append.mp z with z | z
    · exact m (List.mem_append_left _ z)
    · exact k.nc a o h (fun z => m (List.mem_append_right _ (by simpa using z))) z
  have cM : ({ w' with la := w.la, H0 := w.H0 } : Wd).M = w'.M := rfl
  refine ⟨K2, ⟨R.len, fun i r e => ?_, R.loc.keep K2 R.wk fun a ha => (lag a ha).2.2.2, ⟨G.cells.1, fun m cc e => ?_⟩, ⟨?_, fun a ha => ?_, G.wk.isL, R.wk.fr, fun a h => R.wk.back a (K2.back h)⟩⟩, fun {x r} h => ?_⟩
  · obtain ⟨x, h1, h2⟩ := R.env i r e
    exact ⟨x, h1, h2.keep K2 R.wk⟩
  · obtain ⟨a, vs, h1, h2, h3⟩ := G.cells.2 m cc e
    exact ⟨a, vs, h1, h2, h3.same (by rfl) (by rfl)⟩
  · have ndg := (List.nodup_append.mp G.wk.nd).2.1
    exact List.nodup_append.mpr ⟨nd.1, ndg, fun a ha b hb z => (lag a ha).1 (z ▸ hb)⟩
  · rcases List.mem_append.mp ha with z | z
    · exact (lag a z).2.2.1
    · exact G.wk.inM a (List.mem_append_right _ z)
  · cases r with
    | v d => exact Rp.same (by rfl) (by rfl) h
    | loc m =>
      obtain ⟨a, e1, e2⟩ := h
      rw [G.la] at e2
      simp at e2
    | own xs =>
      obtain ⟨a, vs, e1, h0, h1, h2, h3, h4⟩ := h
      refine ⟨a, vs, e1, h0, h1, h2.same (by rfl) (by rfl), h3, fun z => ?_⟩
      rcases List.mem_append.mp z with z | z
      · obtain ⟨o, ho⟩ := (lag a z).2.1
        rw [h0] at ho; cases ho
      · exact h4 (List.mem_append_right _ z)
theorem SR.args {H : Hp} {w : Wd} {σ : L2.St} {ρ : Env} {s : S} (R : SR p.K H w σ ρ s) : GR p.K H { w with la := [], H0 := H } s.g := by
  have G := R.out
  refine ⟨⟨G.cells.1, fun m cc e => ?_⟩, ⟨G.wk.nd, G.wk.inM, G.wk.isL, fun a ha => (nomatch ha), fun _ h => h⟩, rfl⟩
  obtain ⟨a, vs, h1, h2, h3⟩ := G.cells.2 m cc e
  exact ⟨a, vs, h1, h2, h3.same (by rfl) (by rfl)⟩
theorem ds_len : ∀ {rs : List Rs} {ds : List D}, ds? rs = some ds → ds.length = rs.length
  | [], _, h => by cases h; rfl
  | r :: rs, _, h => by
    unfold ds? at h
    split at h
    · rename_i d ds e1
      cases h
      rw [List.length_cons, List.length_cons, ds_len e1]
    · cases h
@[simp] def dCall (F : Fd) (da : DenA) : Den := fun ρ s => (da ρ s).bind fun a => (ds? a.1).bind fun ds => (F ds a.2.g).bind fun q => some (q.1, { a.2 with g := q.2 })
theorem se_call {x : Str} {ps : List Str} {kws : List (List Str × List Nat)} {F : Fd} {p1 : Pos} (hF : FnAt p n x ps kws F) (hg : GlB c x) (ha : SA p c n (e :: es) da) (hl : (e :: es).length = ps.length) (hla : ∀ ρ s a, da ρ s = some a → a.1.length = ps.length)
    (hdb : (x == ("__debug__" : Str)) = false := by decide) (he : ∀ env, starEach (e :: es) env = (false, eval e env) :: starEach es env := by intro _; rfl) (hpl : ∀ env, (backTo pos (starEach es env)).any (·.1) = false := by intro _; rfl) :
    SE p c n (.Call (.Name x p1) (e :: es) [] pos) (dCall F da) := by
  intro X g ρ s r s' e' σ H w Q R q
  simp only [dCall, Option.bind_eq_some_iff] at e'
  obtain ⟨⟨rs, s1⟩, a1, ds, a2, ⟨r2, g2⟩, a3, a4⟩ := e'
  cases a4
  obtain ⟨fa, fd, hm, hk, hb, _, FF⟩ := hF.ex
  have hlen := hla ρ s _ a1
  refine ⟨fun σ H Q => wA X (e :: es) σ H fun vs H1 => spF p ps.length F vs H1 Q E0, ⟨fun pins s2 σ2 H2 Q2 I h => ?_⟩, ha X g ρ s rs s1 a1 σ H w _ R fun xs H1 w1 k1 R1 q1 => ?_⟩
  · refine wpAny_Call_Name_kw (ld_glob I (hg.gl g) (by rw [g.mg]; exact hm) ?_ hdb)
    refine PySem.W.callWith_K (h₀ := X.base) I.ok.mod.kin (by rw [g.K]; exact hk) (thn (wA_ok.run pos pins s2 σ2 H2 _ I h) fun us s3 ⟨vs, H3, I3, rv, hq⟩ => ⟨I3.kIn, ?_⟩) (he _) (hpl _)
    have hus : (us ++ ([] : List Value)).length = ps.length := by
      rw [List.append_nil, ← rv.length]
      exact FF.len _ _ _ _ hq
    have bb := hb s3 us (by rw [← g.K]; exact I3.kIn) hus
    rw [List.append_nil] at bb
    refine wpAny_call (codeAny_mono (call_G g FF I3 bb rv hq) fun res s4 z => ?_)
    obtain ⟨u, rfl, z⟩ := z
    exact z
  · have ra := q1.all a2
    refine ⟨by rw [ra.length, ds_len a2]; exact hlen, { w1 with la := [], H0 := H1 }, ds, s1.g, r2, g2, rfl, rfl, R1.args, ra.same (by rfl) (by rfl), a3, fun x H' w' k2 G2 r3 => ?_⟩
    obtain ⟨k3, R3, tr⟩ := R1.call k2 G2
    exact q x H' _ (k1.trans k3) R3 ((tr r3).back k1)
end
end Ev1
/-! Core 9: calls by names, bodies, the end of a law. -/
namespace Ev1
open PySem L2 PySem.Spec PyProof.Rows

section
variable {p : Pr} {c : Cst} {n : Nat} {e : Expr} {es : List Expr} {d : Den} {da : DenA} {pos : Pos}
/-! ### by names alone -/
def wK (X : Cx) (kws : List Keyword) : TA := fun σ H Q => ∃ t, PK X kws t ∧ t σ H Q
theorem wK_ok {X : Cx} {kws : List Keyword} : PK X kws (wK X kws) := ⟨fun pos pins s σ H Q I ⟨t, h, q⟩ => h.run pos pins s σ H Q I q⟩
def SK (p : Pr) (c : Cst) (n : Nat) (kws : List Keyword) (d : DenA) : Prop :=
  ∀ X, Good p c n X → ∀ (ρ : Env) (s : S) (rs : List Rs) (s' : S), d ρ s = some (rs, s') → ∀ (σ : L2.St) (H : Hp) (w : Wd) (Q : List V → Hp → Prop), SR p.K H w σ ρ s →
    (∀ xs H' w', Keep H w H' w' → SR p.K H' w' σ ρ s' → RsNs p.K H' w' xs rs → Q xs H') → wK X kws σ H Q
theorem sk_nil : SK p c n [] aNil := by
  intro X g ρ s rs s' e σ H w Q R q
  cases e
  exact ⟨_, pk_nil, q [] H w (Keep.refl H w) R .nil⟩
theorem sk_cons {kws : List Keyword} {nm : Option Str} {kpos : Pos} (h : SE p c n e d) (ha : SK p c n kws da) : SK p c n (⟨nm, e, kpos⟩ :: kws) (aCons d da) := by
  intro X g ρ s rs s' e' σ H w Q R q
  simp only [aCons, Option.bind_eq_some_iff] at e'
  obtain ⟨⟨r1, s1⟩, e1, ⟨rs2, s2⟩, e2, e3⟩ := e'
  cases e3
  refine ⟨_, pk_cons wE_ok wK_ok, ?_⟩
  refine h.fz g e1 R fun x H1 w1 k1 R1 r1 => ?_
  exact ha X g ρ s1 rs2 s2 e2 σ H1 w1 _ R1 fun xs H2 w2 k2 R2 r2 => q _ _ _ (k1.trans k2) R2 (.cons (r1.keep k2 R1.wk) r2)
theorem pick_vals {vs : List V} {us : List Value} (r : Vals vs us) : ∀ {perm : List Nat}, (∀ i ∈ perm, i < vs.length) → Vals (pick perm .non vs) (pick perm .none us)
  | [], _ => .nil
  | i :: perm, h => by
    have hi := h i (List.mem_cons_self ..)
    have hl := r.length
    obtain ⟨u, h1, h2⟩ := r.get (i := i) (x := vs[i]) (by simp [hi])
    refine .cons ?_ (pick_vals r fun j hj => h j (List.mem_cons_of_mem _ hj))
    have e1 : vs.getD i .non = vs[i] := by simp [hi]
    have e2 : us.getD i .none = u := by rw [List.getD_eq_getElem?_getD, h1]; rfl
    show L2.RelV (vs.getD i .non) (us.getD i .none)
    rw [e1, e2]
    exact h2
theorem pick_rp {K : PySem.W.Frag} {H : Hp} {w : Wd} {vs : List V} {ds : List D} (r : RpAll K H w vs ds) : ∀ {perm : List Nat}, (∀ i ∈ perm, i < ds.length) → RpAll K H w (pick perm .non vs) (pick perm .non ds)
  | [], _ => .nil
  | i :: perm, h => by
    have hi := h i (List.mem_cons_self ..)
    have hl := r.length
    obtain ⟨u, h1, h2⟩ := r.get (i := i) (d := ds[i]) (by simp [hi])
    refine .cons ?_ (pick_rp r fun j hj => h j (List.mem_cons_of_mem _ hj))
    have e1 : ds.getD i .non = ds[i] := by simp [hi]
    have e2 : vs.getD i .non = u := by rw [List.getD_eq_getElem?_getD, h1]; rfl
    show Rp K H w (vs.getD i .non) (ds.getD i .non)
    rw [e1, e2]
    exact h2
@[simp] def dCallK (F : Fd) (perm : List Nat) (da : DenA) : Den := fun ρ s => (da ρ s).bind fun a => (ds? a.1).bind fun ds => (F (pick perm .non ds) a.2.g).bind fun q => some (q.1, { a.2 with g := q.2 })
theorem se_callK {x : Str} {ps : List Str} {kws : List Keyword} {kbs : List (List Str × List Nat)} {F : Fd} {p1 : Pos} (hF : FnAt p n x ps kbs F) (hg : GlB c x) (ks : List Str) (perm : List Nat) (hk : (ks, perm) ∈ kbs) (ha : SK p c n kws da) (hla : ∀ ρ s a, da ρ s = some a → a.1.length = ks.length)
    (hall : ∀ env, (backToKw pos (keywordEach kws env)).all (·.1.isSome) = true := by intro _; rfl) (hks : ∀ env, (backToKw pos (keywordEach kws env)).filterMap (·.1) = ks := by intro _; rfl)
    (hplain : ∀ env, ((backTo pos (starEach [] env)).any (·.1) || (backToKw pos (keywordEach kws env)).any (·.1.isNone)) = false := by intro _; rfl) (hdb : (x == ("__debug__" : Str)) = false := by decide) :
    SE p c n (.Call (.Name x p1) [] kws pos) (dCallK F perm da) := by
  intro X g ρ s r s' e' σ H w Q R q
  simp only [dCallK, Option.bind_eq_some_iff] at e'
  obtain ⟨⟨rs, s1⟩, a1, ds, a2, ⟨r2, g2⟩, a3, a4⟩ := e'
  cases a4
  obtain ⟨fa, fd, hm, hkp, _, hkb, FF⟩ := hF.ex
  obtain ⟨kl, kin, kbi⟩ := hkb _ hk
  have hlen := hla ρ s _ a1
  refine ⟨fun σ H Q => wK X kws σ H fun vs H1 => vs.length = ks.length ∧ spF p ps.length F (pick perm .non vs) H1 Q E0, ⟨fun pins s2 σ2 H2 Q2 I h => ?_⟩, ha X g ρ s rs s1 a1 σ H w _ R fun xs H1 w1 k1 R1 q1 => ?_⟩
  · refine wpAny_Call_Name_kw (ld_glob I (hg.gl g) (by rw [g.mg]; exact hm) ?_ hdb)
    refine PySem.W.callWith_KW0 (h₀ := X.base) I.ok.mod.kin (by rw [g.K]; exact hkp) (hall _) (thn (wK_ok.run pos pins s2 σ2 H2 _ I h) fun us s3 ⟨vs, H3, I3, rv, hvl, hq⟩ => ⟨I3.kIn, ?_⟩) (hplain _)
    rw [hks]
    have bb := kbi s3 us (by rw [← g.K]; exact I3.kIn) (by rw [← rv.length]; exact hvl)
    refine wpAny_call (codeAny_mono (call_G g FF I3 bb (pick_vals rv fun i hi => by rw [hvl]; exact kin i hi) hq) fun res s4 z => ?_)
    obtain ⟨u, rfl, z⟩ := z
    exact z
  · have ra := q1.all a2
    have hl1 : ds.length = ks.length := (ds_len a2).trans hlen
    refine ⟨ra.length.trans hl1, by simp only [pick, List.length_map]; exact kl, { w1 with la := [], H0 := H1 }, pick perm .non ds, s1.g, r2, g2, rfl, rfl, R1.args, (pick_rp ra fun i hi => by rw [hl1]; exact kin i hi).same (by rfl) (by rfl), a3, fun x H' w' k2 G2 r3 => ?_⟩
    obtain ⟨k3, R3, tr⟩ := R1.call k2 G2
    exact q x H' _ (k1.trans k3) R3 ((tr r3).back k1)
end

/-! ### a def's body -/
@[simp] def startE (N : Nat) (ds : List D) : Env := ds.map (fun d => some (Rs.v d)) ++ List.replicate (N - ds.length) none
@[simp] def endOut : Out → Option (Rs × List Cell)
  | .rt r g => some (r, g)
  | .nx _ s => some (.v .non, s.g)
  | _ => none
@[simp] def bodyF (N np : Nat) (d : DenS) : Fd := fun ds g => if ds.length = np then (d (startE N ds) ⟨[], g⟩).bind endOut else none
theorem start_rel {K : PySem.W.Frag} {H : Hp} {w : Wd} {N : List Str} {vs : List V} {ds : List D} {g : List Cell} (r : RpAll K H w vs ds) (G : GR K H w g) : SR K H w (start N vs) (startE N.length ds) ⟨[], g⟩ := by
  have hl := r.length
  have hc0 : Cells K H w w.la [] := by
    rw [G.la]
    exact ⟨rfl, fun m cc e => by simp at e⟩
  refine ⟨by simp [L2.start, startE, hl], fun i q e => ?_, hc0, G.cells, G.wk⟩
  unfold startE at e
  by_cases hi : i < ds.length
  · rw [List.getElem?_append_left (by simpa using hi)] at e
    simp only [List.getElem?_map, Option.map_eq_some_iff] at e
    obtain ⟨dd, h1, h2⟩ := e
    cases h2
    obtain ⟨v, h3, h4⟩ := r.get h1
    refine ⟨v, ?_, h4⟩
    unfold L2.start
    rw [List.getElem?_append_left (by simp; omega), List.getElem?_map, h3]
    rfl
  · rw [List.getElem?_append_right (by simp; omega)] at e
    rw [List.getElem?_replicate] at e
    split at e <;> cases e
def fnCst (N : List Str) (sc : Scope) : Cst := ⟨N, sc, fun _ => true⟩
/-- THE RULE of a def: its body read by a denotation -/
theorem fn_G {p : Pr} {n : Nat} {x qual : Str} {st : Stmt} {f : Addr} {fd : FuncData} {N ps : List Str} {d : DenS} (FF : Fun p.K x qual st f fd) (sc : FnScope N ps (defScope st)) (hbody : SSs p (fnCst N (defScope st)) n (defBody st) d) :
    FnG p (n + 1) f fd ps (spF p ps.length (bodyF N.length ps.length d)) := by
  obtain ⟨oc, od, kV, doc, pm, an, cdv, ct, osl, rfl, lk, hcd⟩ := FF.ex
  refine ⟨fun _ _ _ _ h => h.1, fun B callers s H args us vs Q E gd rm e0 hb rv hsp => ?_⟩
  obtain ⟨hvl, w0, ds, g, r, g', hla, hH0, G, ra, ev, post⟩ := hsp
  have inK : p.K.In s.heap := e0.mod.kin.keeps fun b o h => (e0.bs b o h).1
  have free : s.heap.NoLimit := e0.mod.nolimit.keeps fun b o h => (e0.bs b o h).1
  have kinds : ∀ y ∈ ps.zip us, (defScope st).names.lookup y.1 = some .local ∨ ((defScope st).names.lookup y.1 = some .cell ∧ ((cellsFrom (s.heap.objs.size + 1) (defScope st).names []).lookup y.1).isSome = true) := by
    rintro ⟨a, b⟩ hy
    have ha := sc.par a (List.of_mem_zip hy).1
    exact ha.imp id fun q => ⟨q, PySem.W.cellsFrom_some _ _ _ (.inl q)⟩
  refine codeAny_call_function rm.depth (inK _ _ lk) rfl sc.co sc.gen rfl (PySem.W.codeRec_of inK hcd) (hb _ _ _ _ ?_)
  refine wpAny_newFunctionEnv_cells sc.kind kinds fun env henv s1 inc => ?_
  subst henv
  refine ⟨free.keeps inc.toInCall.keep, codeAny_func ?_⟩
  have Ist : Inv (cxOf CX0 p.P p.w p.K p.mg p.base N qual (defScope st) f cdv B callers s H E) [] (start N vs) H s1 := inv_start sc rm.hd e0 hvl rv inc
  have good : Good p (fnCst N (defScope st)) n (cxOf CX0 p.P p.w p.K p.mg p.base N qual (defScope st) f cdv B callers s H E).nox := ⟨rfl, rfl, rfl, rfl, rfl, rfl, rfl, rfl, rfl, rm.deeper _, gd, rfl, sc.nd⟩
  unfold bodyF at ev
  split at ev
  · rename_i hdl
    rw [Option.bind_eq_some_iff] at ev
    obtain ⟨o, ev1, ev2⟩ := ev
    have ends : EndOk p { nx := fun _ H' => Q .non H', rt := Q } H w0 o := by
      cases o with
      | nx ρ' s' =>
        cases ev2
        intro σ' H' w' k R
        exact post .non H' w'.out k.toR R.out .non
      | rt r2 g2 =>
        cases ev2
        intro x' H' w' k G2 r3
        exact post x' H' w' k G2 (by rw [← hH0]; exact r3)
      | bk _ _ => cases ev2
      | ct _ _ => cases ev2
    obtain ⟨t, ht, hq⟩ := hbody _ good _ _ o ev1 (start N vs) H w0 _ (start_rel ra G) ends
    refine wpAny_mono (ht.nox.run [] s1 (start N vs) H _ Ist hq) (fun fl s' hs => ?_) fun e' s' z => z
    have done : ∀ {σ' : L2.St} {H' : Hp} {v : V} {u : Value}, Inv (cxOf CX0 p.P p.w p.K p.mg p.base N qual (defScope st) f cdv B callers s H E) [] σ' H' s' → RelV v u → Q v H' → CE callers p.P p.w H s Q u s' :=
      fun {σ' H' v u} J r1 q1 => ⟨v, H', J.os, J.bare, J.base, J.hok, r1, q1⟩
    match fl, hs with
    | .ret u, ⟨v, σ', H', J, r1, q1⟩ => exact done J r1 q1
    | .next, ⟨σ', H', J, q1⟩ => exact done (v := V.non) (u := Value.none) J rfl q1
    | .brk, ⟨_, _, _, z⟩ => exact z.elim
    | .cont, ⟨_, _, _, z⟩ => exact z.elim
  · cases ev
theorem fn_0 {p : Pr} {f : Addr} {fd : FuncData} {ps : List Str} : FnG p 0 f fd ps (spF p ps.length fun _ _ => none) :=
  ⟨fun _ _ _ _ h => h.1, fun B callers s H args us vs Q E gd rm e0 hb rv hsp => by
    obtain ⟨_, _, _, _, _, _, _, _, _, _, z, _⟩ := hsp
    cases z⟩

/-! ### the end of a law -/
/-- the law hands back True for every script that may be passed -/
def LawOk (F : Fd) (most : Nat) : Prop := ∀ ns : List Int, ns.length ≤ most → (∀ z ∈ ns, Builtin.Int.intBits z ≤ 1048576) → ∃ g', F [.scr ns] [] = some (.v (.bl true), g')
theorem script_vals : ∀ {us : List Value} {ns : List Int}, IntsAre us ns → Vals (ns.map V.int) us
  | _, _, .nil => .nil
  | _, _, .cons _ t h => .cons ⟨t, rfl⟩ (script_vals h)
theorem law_G {p0 : Pr} {fa a : Addr} {fd : FuncData} {x : Str} {n : Nat} {F : Fd} {mb : Str → Option Value} {s₁ : Shared} {us : List Value} {ns : List Int}
    (KX : p0.K.In s₁.heap) (hns : s₁.heap.Ns mainGlobals p0.mg) (hb : s₁.heap.Ns builtinsNs mb) (hbb : ∀ y : Str, y ≠ "__name__" → mb y = bootBuiltins y) (free : s₁.heap.NoLimit) (hg : s₁.gens = #[])
    (ho : s₁.heap.get? a = some { cls := .type "list", data := .seq us.toArray }) (hi : IntsAre us ns) (hl : ns.length ≤ sizeLine) (rm : Room n callerA)
    (GG : ∀ base : Heap, p0.K.In base → base.Ns mainGlobals p0.mg → FnG ⟨p0.P, p0.w, p0.K, p0.mg, base⟩ n fa fd [x] (spF ⟨p0.P, p0.w, p0.K, p0.mg, base⟩ 1 F)) (bind : ∀ (s : Shared) (u : Value), BindsTo s fd ⟨[u], []⟩ [(x, u)])
    (law : ∃ g', F [.scr ns] [] = some (.v (.bl true), g')) :
    codeAny (model p0.P p0.w) callerA (.call (.ref fa) ⟨[.ref a], []⟩) (fun r s' => r = .ok (.ret (.bool true)) ∧ OldK s₁.heap s'.heap ∧ s'.os = s₁.os ∧ AllBare s'.gens) s₁ := by
  obtain ⟨gE, law⟩ := law
  have rv := script_vals hi
  have main : ∀ H : Hp, (∀ b, H b = none ∨ (b = a ∧ p0.K.lookup a = none ∧ H b = some (.frz { cls := .type "list", data := .seq us.toArray } (.lst (ns.map V.int))))) →
      ((∃ o, H a = some (.frz o (.lst (ns.map V.int)))) ∨ SqL p0.K (fun _ => none) a (ns.map V.int)) → HOk p0.P p0.w H s₁.heap →
      codeAny (model p0.P p0.w) callerA (.call (.ref fa) ⟨[.ref a], []⟩) (fun r s' => r = .ok (.ret (.bool true)) ∧ OldK s₁.heap s'.heap ∧ s'.os = s₁.os ∧ AllBare s'.gens) s₁ := by
    intro H only scr hok
    have there : ∀ {b : Addr} {o : Obj}, s₁.heap.get? b = some o → H b = none → (hidT s₁.heap H).get? b = some o := fun h1 h2 => hidT_get h1 h2
    have dictN : ∀ {b : Addr} {o : Obj} {es : Array DictEntry} {ep : Nat}, s₁.heap.get? b = some o → o.data = .dict es ep → H b = none := by
      intro b o es ep h1 h2
      rcases only b with z | ⟨rfl, _, _⟩
      · exact z
      · rw [ho] at h1
        cases h1
        exact nomatch (show Data.seq us.toArray _ = Data.dict es ep from h2)
    have nsN : ∀ {b : Addr} {m : Str → Option Value}, s₁.heap.Ns b m → (hidT s₁.heap H).Ns b m := by
      rintro b m ⟨o, es, ep, h1, h2, h3⟩
      exact ⟨o, es, ep, there h1 (dictN h1 h2), h2, h3⟩
    have inB : p0.K.In (hidT s₁.heap H) := by
      intro b o h
      refine there (KX b o h) ?_
      rcases only b with z | ⟨rfl, z, _⟩
      · exact z
      · rw [z] at h; cases h
    have modB : Mod p0.K p0.mg (hidT s₁.heap H) := ⟨inB, nsN hns, ⟨mb, nsN hb, hbb⟩, free.elim fun mc h => ⟨mc, nsN h.1, h.2⟩⟩
    have e0 : Env0 p0.P p0.w p0.K p0.mg (hidT s₁.heap H) callerA [] s₁ H := ⟨rfl, modB, fun b o h => of_hidT h, Nat.le_of_eq (hidT_size _ _), trivial, fun b hb => (nomatch (show b ∈ ([] : List Addr) from hb)), hok, .of_eq hg⟩
    have w0 : Wd := ⟨fun _ => False, [], [], H⟩
    have gr : GR p0.K H ⟨fun _ => False, [], [], H⟩ [] := ⟨⟨rfl, fun m cc h => by simp at h⟩, ⟨List.nodup_nil, fun b hb => (nomatch hb), fun _ z => z.elim, fun b hb => (nomatch hb), fun _ h => h⟩, rfl⟩
    have q := (GG _ inB (nsN hns)).run callerA [] s₁ H ⟨[.ref a], []⟩ [.ref a] [.ref a] (fun v _ => v = .bl true) E0 rfl rm e0 (bind s₁ (.ref a)) (.cons rfl .nil)
      ⟨rfl, ⟨fun _ => False, [], [], H⟩, [.scr ns], [], .v (.bl true), gE, rfl, rfl, gr, .cons (.scr scr) .nil, law, fun x' H' w' _ _ r3 => by cases r3; rfl⟩
    refine codeAny_mono q fun res s' z => ?_
    match res, z with
    | .error _, z => exact z.elim
    | .ok .next, z => exact z.elim
    | .ok .brk, z => exact z.elim
    | .ok .cont, z => exact z.elim
    | .ok (.ret u), ⟨v, H', os, bare, un, hok', r1, q1⟩ =>
      subst q1
      cases (show u = Value.bool true from r1)
      refine ⟨rfl, OldK.of_keep fun b o h => ?_, os, bare⟩
      rcases only b with z | ⟨rfl, _, z⟩
      · exact un.keep b o h z (fun z => nomatch (show b ∈ ([] : List Addr) from z)) (fun z => nomatch z)
      · have old := (hok b _ z).1
        have new := (hok' b _ (un.frzs b _ _ z)).1
        rw [h] at old
        cases old
        exact new
  cases hk : p0.K.lookup a with
  | some o =>
    have h1 := KX a o hk
    rw [ho] at h1
    cases h1
    refine main (fun _ => none) (fun _ => .inl rfl) (.inr (.inr ⟨_, us.toArray, _, hk, rfl, rfl, rfl, ?_, by simpa using rv⟩)) fun b u z => nomatch z
    rw [List.size_toArray, hi.length]
    exact hl
  | none =>
    refine main (fun b => if b = a then some (.frz { cls := .type "list", data := .seq us.toArray } (.lst (ns.map V.int))) else none) (fun b => ?_) (.inl ⟨_, if_pos rfl⟩) fun b u z => ?_
    · by_cases h : b = a
      · exact .inr ⟨h, hk, if_pos h⟩
      · exact .inl (if_neg h)
    · by_cases h : b = a
      · subst h
        cases (if_pos rfl).symm.trans z
        exact ⟨ho, by rw [List.length_map]; exact hl, us, _, rv, ho⟩
      · cases (if_neg h).symm.trans z
theorem walk_G {l : PySem.W.OpenLaw} {most n : Nat} {q : Program} {loose : List Str} {XP : (Str → Option Value) → Heap → Prop} {YP : World → Heap → Prop} {dr : DefRec} {K : Params → PySem.W.Frag} {x : Str} {F : Fd}
    (hn : l.most = some most) (hm : most ≤ sizeLine) (hdf : dr.params.defaults = []) (rm : Room n callerA) (hY : ∀ (w : World) (h : Heap), YP w h → (K w.params).In h)
    (hF : ∀ (w : World) (mg : Str → Option Value) (fa : Addr) (h : Heap), (K w.params).In h → h.Ns mainGlobals mg → mg dr.name = some (.ref fa) →
      ∃ fd : FuncData, (∀ (s : Shared) (u : Value), BindsTo s fd ⟨[u], []⟩ [(x, u)]) ∧ ∀ base : Heap, (K w.params).In base → base.Ns mainGlobals mg → FnG ⟨l.prog, w, K w.params, mg, base⟩ n fa fd [x] (spF ⟨l.prog, w, K w.params, mg, base⟩ 1 F))
    (law : LawOk F most) : PySem.W.WalkO q loose XP YP l.row.toRowW dr [] (fun f vs => PySem.call f vs) := by
  refine Att.attach_callB hn hdf fun w s₀ s₁ mg mb fa o pm cd doc a us ns G Y h1 h2 h3 hmg h4 h5 h6 h7 h8 => ?_
  have KX := hY w _ Y
  obtain ⟨fd, hb, hG⟩ := hF w mg fa _ KX G.T.g hmg
  exact law_G (p0 := ⟨l.prog, w, K w.params, mg, s₁.heap⟩) KX G.T.g G.T.b G.T.builtins G.T.nolimit h8 h4 h5 (Nat.le_trans h6 hm) rm hG hb (law ns h6 h7)
end Ev1
/-! Core 10: repr; lists as shared cells; a call with a new list as a shared cell. -/
namespace Ev1
open PySem L2 PySem.Spec PyProof.Rows

/-! ### repr -/
mutual
/-- no less than the length of what repr shows -/
def D.sz : D → Nat
  | .non => 4
  | .bl _ => 5
  | .int i => if i.natAbs < 10 ^ 18 then 20 else 100000000
  | .str x => 10 * x.length + 2
  | .lst xs => D.szs xs + 2
  | .tup xs => D.szs xs + 3
  | .ref _ => 100000000
  | .scr _ => 100000000
def D.szs : List D → Nat
  | [] => 0
  | x :: xs => D.sz x + 2 + D.szs xs
end
theorem listText_le (ts : List Str) : (listText ts).length ≤ piled ts + 2 := by
  cases ts with
  | nil => rw [show listText [] = ("[]" : Str) from by decide +kernel]; decide
  | cons t r =>
    have h := textFrom_length_pos r 1 (("[" : Str) ++ (if (0 : Nat) > 0 then ", " else "" : String) ++ t) (Nat.succ_pos 0)
    have e : ((("[" : Str) ++ (if (0 : Nat) > 0 then ", " else "" : String) ++ t)).length = 1 + t.length := by
      rw [strLen_append, strLen_append]
      rfl
    show (textFrom 1 (("[" : Str) ++ (if (0 : Nat) > 0 then ", " else "" : String) ++ t) r ++ ("]" : Str)).length ≤ _
    rw [strLen_append, h, e, piled_cons]
    have e2 : (("]" : String) : Str).length = 1 := rfl
    rw [e2]
    omega
theorem tupleText_le (ts : List Str) : (tupleText ts).length ≤ piled ts + 3 := by
  unfold tupleText
  rw [strLen_append, strLen_append]
  have e1 : (("(" : String) : Str).length = 1 := rfl
  have e2 : ((if ts.length == 1 then ",)" else ")" : String) : Str).length ≤ 2 := by split <;> decide
  cases ts with
  | nil =>
    have e3 : (Str.join ((", " : String) : Str) []).length = 0 := rfl
    rw [e3, e1]
    omega
  | cons t r =>
    have h := join_length_add (t :: r) (by simp)
    rw [e1]
    omega
theorem int_len {i : Int} (h : i.natAbs < 10 ^ 18) : (Str.ofString (toString i)).length ≤ 20 := by
  have e := int_text_length_le10 (k := 18) (by decide) h
  rw [PySem.ofString_length]
  omega
theorem int_log {i : Int} (h : i.natAbs < 10 ^ 18) : i.natAbs.log2 < 1920 := by
  by_cases hz : i.natAbs = 0
  · rw [hz]; decide
  · have h1 : i.natAbs < 2 ^ 1920 := Nat.lt_of_lt_of_le h (by decide +kernel)
    exact (Nat.log2_lt hz).mpr h1
/-- of plain data, not too large -/
def D.okR (d : D) : Bool := D.ok 12 d && decide (D.sz d ≤ 1000000)
structure Shows (d : D) : Prop where
  ok : d.py.showable = true
  nd : d.py.hasDict = false
  len : d.py.shown.length ≤ D.sz d
theorem shows_all {k : Nat} (ih : ∀ d : D, D.ok k d = true → D.sz d ≤ 1000000 → Shows d) : ∀ ds : List D, ds.all (D.ok k) = true → D.szs ds ≤ 1000000 →
    PyData.showableAll (D.pys ds) = true ∧ PyData.hasDictAll (D.pys ds) = false ∧ piled (PyData.shownAll (D.pys ds)) ≤ D.szs ds
  | [], _, _ => by simp [D.pys, PyData.showableAll, PyData.hasDictAll, PyData.shownAll, piled, D.szs]
  | d :: ds, h, hz => by
    simp only [List.all_cons, Bool.and_eq_true] at h
    simp only [D.szs] at hz
    have h1 := ih d h.1 (by omega)
    have h2 := shows_all ih ds h.2 (by omega)
    simp only [D.pys, PyData.showableAll, PyData.hasDictAll, PyData.shownAll, piled_cons, D.szs, h1.ok, h1.nd, h2.1, h2.2.1, Bool.and_self, Bool.or_self, true_and]
    have := h1.len
    have := h2.2.2
    omega
theorem shows : ∀ (k : Nat) (d : D), D.ok k d = true → D.sz d ≤ 1000000 → Shows d
  | k, .non, _, _ => ⟨by simp [D.py, PyData.showable], by simp [D.py, PyData.hasDict], by simp only [D.py, PyData.shown, D.sz]; decide⟩
  | k, .bl b, _, _ => ⟨by simp [D.py, PyData.showable], by simp [D.py, PyData.hasDict], by cases b <;> (simp only [D.py, PyData.shown, D.sz]; decide)⟩
  | k, .int i, _, hz => by
    simp only [D.sz] at hz
    split at hz
    · rename_i h
      refine ⟨by simp only [D.py, PyData.showable]; exact decide_eq_true (int_log h), by simp [D.py, PyData.hasDict], ?_⟩
      simp only [D.py, PyData.shown, D.sz, if_pos h]
      exact int_len h
    · omega
  | k, .str x, h, hz => by
    have h' : PyData.strOk x = true := by cases k <;> simpa [D.ok] using h
    refine ⟨by simp [D.py, PyData.showable], by simp [D.py, PyData.hasDict], ?_⟩
    simp only [D.py, PyData.shown, D.sz]
    refine StrLaws.reprText_len x fun cc hc => ?_
    unfold PyData.strOk at h'
    rw [← Array.all_toList] at h'
    have := List.all_eq_true.mp h' cc hc
    have h3 : cc < 0x110000 := of_decide_eq_true this
    exact Nat.lt_trans h3 (by decide)
  | 0, .lst _, h, _ => by simp [D.ok] at h
  | 0, .tup _, h, _ => by simp [D.ok] at h
  | k, .ref _, h, _ => by cases k <;> simp [D.ok] at h
  | k, .scr _, h, _ => by cases k <;> simp [D.ok] at h
  | k + 1, .lst xs, h, hz => by
    simp only [D.sz] at hz
    have q := shows_all (shows k) xs (by simpa only [D.ok] using h) (by omega)
    refine ⟨by simpa only [D.py, PyData.showable] using q.1, by simpa only [D.py, PyData.hasDict] using q.2.1, ?_⟩
    simp only [D.py, PyData.shown, D.sz]
    have := listText_le (PyData.shownAll (D.pys xs))
    have := q.2.2
    omega
  | k + 1, .tup xs, h, hz => by
    simp only [D.sz] at hz
    have q := shows_all (shows k) xs (by simpa only [D.ok] using h) (by omega)
    refine ⟨by simpa only [D.py, PyData.showable] using q.1, by simpa only [D.py, PyData.hasDict] using q.2.1, ?_⟩
    simp only [D.py, PyData.shown, D.sz]
    have := tupleText_le (PyData.shownAll (D.pys xs))
    have := q.2.2
    omega
def rRepr (K : PySem.W.Frag) : List V → Hp → VK → Prop := fun xs H Q => ∃ x d, xs = [x] ∧ Dp K H x d ∧ d.showable = true ∧ d.hasDict = false ∧ d.shown.length ≤ sizeLine ∧ d.depth ≤ 64 ∧ Q (.str d.shown) H
theorem call_repr {X : Cx} {n : Nat} (rm : Room n X.A) (gd : X.A.guards = some []) : CallR X (.builtin "repr") (rRepr X.K) := by
  intro pins s σ H xs us Q I r h
  obtain ⟨x, d, rfl, hd, hs, hn, hz, hdp, q⟩ := h
  obtain ⟨u, rfl, rx⟩ := vals1 r
  obtain ⟨as, rr⟩ := Dp.reads I d x u hd rx
  have ru := rm.un
  have cl : cLine = 9900 := rfl
  cases hd with
  | non =>
    cases rx
    exact P.repr_of_none ⟨.str _, H, I.tok _, ⟨_, rfl⟩, q⟩
  | bl b =>
    cases rx
    refine P.repr_of_bool ⟨.str _, H, I.tok _, ⟨_, rfl⟩, ?_⟩
    exact q
  | int i =>
    obtain ⟨t, rfl⟩ := rx
    refine P.repr_of_int ?_ ⟨.str _, H, I.tok _, ⟨_, rfl⟩, q⟩
    simp only [PyData.showable, decide_eq_true_eq] at hs
    exact hs
  | str z =>
    obtain ⟨t, rfl⟩ := rx
    exact P.repr_of_str ⟨.str _, H, I.tok _, ⟨_, rfl⟩, q⟩ hz
  | lst h1 h2 =>
    cases rx
    exact repr_of_reads' rr hs (PyData.noDict_hsm hn) gd (by omega) (fun _ _ e => e) (fun h' u tk k => ⟨.str _, H, I.kept k, ⟨_, rfl⟩, q⟩) hz
  | tup h1 h2 =>
    cases rx
    exact repr_of_reads' rr hs (PyData.noDict_hsm hn) gd (by omega) (fun _ _ e => e) (fun h' u tk k => ⟨.str _, H, I.kept k, ⟨_, rfl⟩, q⟩) hz
section
variable {p : Pr} {c : Cst} {n : Nat} {e e1 e2 : Expr} {es : List Expr} {d d1 d2 : Den} {da : DenA} {pos : Pos}
/-- shared cells right under a list are read -/
def D.rs (s : S) : D → D
  | .ref m => match s.g[m]? with
    | some cc => .lst cc
    | none => .ref m
  | d => d
def D.deep (s : S) : D → D
  | .lst xs => .lst (xs.map (D.rs s))
  | d => d
@[simp] def fRepr : S → List Rs → Option Rs := fun s rs => match rs with
  | [a] => (a.dat s).bind fun d => if (D.deep s d).okR = true then some (.v (.str (D.deep s d).py.shown)) else none
  | _ => none
theorem SR.datDeep {H : Hp} {w : Wd} {σ : L2.St} {ρ : Env} {s : S} (R : SR p.K H w σ ρ s) {x : V} {r : Rs} (h : RsN p.K H w x r) {d : D} (e : r.dat s = some d) (o : D.ok 12 (D.deep s d) = true) : Dp p.K H x (D.deep s d).py := by
  cases hd : D.ok 12 d with
  | true =>
    have q := R.dat h e hd
    have same : D.deep s d = d := by
      cases d with
      | lst xs =>
        simp only [D.deep]
        congr 1
        simp only [D.ok] at hd
        refine (List.map_congr_left fun y hy => ?_).trans (List.map_id' xs)
        have hy2 := List.all_eq_true.mp hd y hy
        cases y <;> first | rfl | (simp [D.ok] at hy2)
      | _ => rfl
    rw [same]
    exact q
  | false =>
    cases d with
    | lst xs =>
      have hx : ∃ a vs, x = .ref a ∧ RpAll p.K H w vs xs ∧ SqL p.K H a vs := by
        cases r with
        | own _ => exact h.elim
        | loc m =>
          simp only [Rs.dat, Option.map_eq_some_iff] at e
          obtain ⟨cc, hc, e⟩ := e
          cases e
          obtain ⟨a, vs, e1, e2, e3⟩ := R.lstc (r := .loc m) h hc
          exact ⟨a, vs, e1, e3, SqL.of e2⟩
        | v dd =>
          cases dd with
          | lst ys =>
            cases e
            obtain ⟨a, vs, e1, e2, e3⟩ := R.lstc (r := .v (.lst xs)) h rfl
            exact ⟨a, vs, e1, e3, SqL.of e2⟩
          | ref m =>
            simp only [Rs.dat, Option.map_eq_some_iff] at e
            obtain ⟨cc, hc, e⟩ := e
            cases e
            obtain ⟨a, vs, e1, e2, e3⟩ := R.lstc (r := .v (.ref m)) h hc
            exact ⟨a, vs, e1, e3, SqL.of e2⟩
          | non => cases e
          | bl _ => cases e
          | int _ => cases e
          | str _ => cases e
          | tup _ => cases e
          | scr _ => cases e
      obtain ⟨a, vs, rfl, ra, hq⟩ := hx
      simp only [D.deep, D.ok] at o
      refine .lst hq ?_
      clear e hd hq h
      induction xs generalizing vs with
      | nil => cases ra; exact .nil
      | cons y ys ih =>
        cases ra with
        | cons ry rs =>
          simp only [List.map_cons, List.all_cons, Bool.and_eq_true] at o
          refine .cons ?_ (ih _ rs o.2)
          have plain : D.rs s y = y → Dp p.K H _ (D.rs s y).py := fun q => by
            rw [q]
            rw [q] at o
            exact ok_dp 11 ry o.1
          cases y with
          | ref m =>
            cases ry with
            | ref hm =>
              simp only [D.rs]
              cases hc : s.g[m]? with
              | none =>
                simp only [D.rs, hc] at o
                simp [D.ok] at o
              | some cc =>
                simp only [D.rs, hc, D.ok] at o
                obtain ⟨b, us, h1, h2, h3⟩ := R.glb.2 m cc hc
                rw [hm] at h1
                cases h1
                exact .lst (SqL.of h2) (ok_dps h3 o.1)
          | non => exact plain rfl
          | bl _ => exact plain rfl
          | int _ => exact plain rfl
          | str _ => exact plain rfl
          | lst _ => exact plain rfl
          | tup _ => exact plain rfl
          | scr _ => exact plain rfl
    | non => simp only [D.deep] at o; rw [hd] at o; cases o
    | bl _ => simp only [D.deep] at o; rw [hd] at o; cases o
    | int _ => simp only [D.deep] at o; rw [hd] at o; cases o
    | str _ => simp only [D.deep] at o; rw [hd] at o; cases o
    | tup _ => simp only [D.deep] at o; rw [hd] at o; cases o
    | ref _ => simp only [D.deep] at o; rw [hd] at o; cases o
    | scr _ => simp only [D.deep] at o; rw [hd] at o; cases o
theorem ok_repr : OkC p fRepr (rRepr p.K) := by
  intro H w σ ρ s xs rs r Q R h e q
  unfold fRepr at e
  split at e
  · rename_i a
    rw [Option.bind_eq_some_iff] at e
    obtain ⟨dd, h1, h2⟩ := e
    split at h2
    · rename_i hz
      cases h2
      obtain ⟨x, rfl, hx⟩ := one_of h
      unfold D.okR at hz
      rw [Bool.and_eq_true] at hz
      have sz := of_decide_eq_true hz.2
      have sh := shows 12 _ hz.1 sz
      have lay := ok_lay 12 _ hz.1
      exact ⟨x, _, rfl, R.datDeep hx h1 hz.1, sh.ok, sh.nd, Nat.le_trans sh.len (Nat.le_trans sz (by rw [sizeLine_eq]; decide)), by omega, q _ H w (Keep.refl H w) R (.str _)⟩
    · cases h2
  · cases e
@[simp] def dRepr (da : DenA) : Den := fun ρ s => dCal fRepr da ρ s
theorem se_repr {p1 : Pos} (hg : GlB c "repr") (hm : p.mg "repr" = none) (ha : SA p c n [e] da) (he : ∀ env, starEach [e] env = (false, eval e env) :: starEach [] env := by intro _; rfl) : SE p c n (.Call (.Name "repr" p1) [e] [] pos) (dRepr da) :=
  se_callB (fun X g => by rw [← g.K]; exact call_repr g.room g.gd) ok_repr hg hm (by decide +kernel) ha (by decide) (by decide) he (by intro _; rfl)

/-! ### a new list as a shared cell -/
theorem SR.share {H0 H : Hp} {w0 w : Wd} {σ : L2.St} {ρ : Env} {s : S} (R : SR p.K H w σ ρ s) (k : Keep H0 w0 H w) {x : V} {xs : List D} (h : RsE p.K H0 H w x (.own xs)) :
    ∃ w2, Keep H0 w0 H w2 ∧ SR p.K H w2 σ ρ { s with g := s.g ++ [xs] } ∧ Rp p.K H w2 x (.ref s.g.length) ∧ w2.la = w.la := by
  obtain ⟨a, vs, rfl, h0, h1, h2, h3, h4⟩ := h
  have hga : w.ga.length = s.g.length := R.glb.1
  have na : a ∉ w.la := fun z => h4 (List.mem_append_left _ z)
  have ng : a ∉ w.ga := fun z => h4 (List.mem_append_right _ z)
  have getg : ∀ (n : Nat) (b : Addr), w.ga[n]? = some b → (w.ga ++ [a])[n]? = some b := fun n b e => by
    rw [List.getElem?_append_left (List.getElem?_eq_some_iff.mp e).1]; exact e
  have same : ∀ {v : V} {d : D}, Rp p.K H w v d → Rp p.K H { w with ga := w.ga ++ [a] } v d := fun {v d} hh =>
    @Rp.rec p.K H w (fun v d _ => Rp p.K H { w with ga := w.ga ++ [a] } v d) (fun vs ds _ => RpAll p.K H { w with ga := w.ga ++ [a] } vs ds) .non .bl .int .str (fun h m _ r => .lst h m r) (fun h _ r => .tup h r) (fun h => .ref (getg _ _ h)) (fun h => .scr h) .nil (fun _ _ a b => .cons a b) _ _ hh
  have sameA : ∀ {vs : List V} {ds : List D}, RpAll p.K H w vs ds → RpAll p.K H { w with ga := w.ga ++ [a] } vs ds := fun {vs ds} hh =>
    @RpAll.rec p.K H w (fun v d _ => Rp p.K H { w with ga := w.ga ++ [a] } v d) (fun vs ds _ => RpAll p.K H { w with ga := w.ga ++ [a] } vs ds) .non .bl .int .str (fun h m _ r => .lst h m r) (fun h _ r => .tup h r) (fun h => .ref (getg _ _ h)) (fun h => .scr h) .nil (fun _ _ a b => .cons a b) _ _ hh
  have memc : ∀ b, b ∈ w.la ++ (w.ga ++ [a]) → b ∈ w.la ++ w.ga ∨ b = a := fun b hb => by
    simp only [List.mem_append, List.mem_singleton] at hb ⊢
    rcases hb with hb | hb | hb
    · exact .inl (.inl hb)
    · exact .inl (.inr hb)
    · exact .inr hb
  refine ⟨{ w with ga := w.ga ++ [a] }, ⟨k.is, k.obj, fun b o hb m z => ?_, k.nm, k.mm, k.la, fun n b e => getg n b (k.ga n b e), k.h0⟩, ⟨R.len, fun i r e => ?_, ⟨R.loc.1, fun n cc e => ?_⟩, ⟨by simp [hga], fun n cc e => ?_⟩, ⟨?_, fun b hb => ?_, R.wk.isL, R.wk.fr, R.wk.back⟩⟩, ?_, rfl⟩
  · rcases memc b z with z | z
    · exact k.nc b o hb m z
    · exact ne_of_none hb h0 z
  · obtain ⟨y, e1, e2⟩ := R.env i r e
    refine ⟨y, e1, ?_⟩
    cases r with
    | v d => exact same e2
    | loc n => exact e2
    | own _ => exact e2.elim
  · obtain ⟨b, us, e1, e2, e3⟩ := R.loc.2 n cc e
    exact ⟨b, us, e1, e2, sameA e3⟩
  · by_cases hn : n < s.g.length
    · rw [List.getElem?_append_left hn] at e
      obtain ⟨b, us, e1, e2, e3⟩ := R.glb.2 n cc e
      exact ⟨b, us, getg n b e1, e2, sameA e3⟩
    · rw [List.getElem?_append_right (by omega)] at e
      have hz : n - s.g.length = 0 := by
        have := (List.getElem?_eq_some_iff.mp e).1
        simp at this
        omega
      rw [hz] at e
      cases e
      refine ⟨a, vs, ?_, h1, sameA h2⟩
      rw [List.getElem?_append_right (by omega), show n - w.ga.length = 0 by omega]
      rfl
  · have nd := List.nodup_append.mp R.wk.nd
    refine List.nodup_append.mpr ⟨nd.1, List.nodup_append.mpr ⟨nd.2.1, by simp, fun b hb cc hc z => ?_⟩, fun b hb cc hc z => ?_⟩
    · have hc' : cc = a := by simpa using hc
      exact ng (by rw [← hc', ← z]; exact hb)
    · subst z
      rcases List.mem_append.mp hc with hc | hc
      · exact nd.2.2 b hb b hc rfl
      · have hb' : b = a := by simpa using hc
        exact na (hb' ▸ hb)
  · rcases memc b hb with z | z
    · exact R.wk.inM b z
    · subst z; exact h3
  · refine .ref ?_
    rw [List.getElem?_append_right (by omega), show s.g.length - w.ga.length = 0 by omega]
    rfl
/-- an item that is a new list becomes a shared cell -/
@[simp] def dShare (d : Den) : Den := fun ρ s => (d ρ s).bind fun a => match a.1 with
  | .own xs => some (.v (.ref a.2.g.length), { a.2 with g := a.2.g ++ [xs] })
  | _ => none
theorem se_share (h : SE p c n e d) : SE p c n e (dShare d) := by
  intro X g ρ s r s' e' σ H w Q R q
  simp only [dShare, Option.bind_eq_some_iff] at e'
  obtain ⟨⟨r1, s1⟩, a1, a2⟩ := e'
  split at a2
  · rename_i xs hr
    cases a2
    simp only at hr
    subst hr
    refine h X g ρ s _ s1 a1 σ H w Q R fun x H1 w1 k1 R1 r1 => ?_
    obtain ⟨w2, k2, R2, r2, _⟩ := R1.share k1 r1
    exact q x H1 w2 k2 R2 r2
  · cases a2
/-- f(e), e a new list that is shared within the call and forgotten behind it; no other cells stand -/
def dCallP (F : Fd) (d : Den) : Den := fun ρ s => match s.l, s.g with
  | [], [] => (d ρ s).bind fun a => match a.1, a.2.l, a.2.g with
    | .own xs, [], [] => (F [.ref 0] [xs]).bind fun q => match q.1 with
      | .v dd => if D.ok 12 dd = true then some (.v dd, ⟨[], []⟩) else none
      | _ => none
    | _, _, _ => none
  | _, _ => none
theorem ok_noref {K : PySem.W.Frag} {H : Hp} {w w' : Wd} (hM : w'.M = w.M) : ∀ (k : Nat) {v : V} {d : D}, Rp K H w v d → D.ok k d = true → Rp K H w' v d := by
  intro k
  induction k with
  | zero =>
    intro v d h o
    cases h with
    | non => exact .non
    | bl b => exact .bl b
    | int i => exact .int i
    | str x => exact .str x
    | lst _ _ _ => simp [D.ok] at o
    | tup _ _ => simp [D.ok] at o
    | ref _ => simp [D.ok] at o
    | scr _ => simp [D.ok] at o
  | succ k ih =>
    have all : ∀ {vs : List V} {ds : List D}, RpAll K H w vs ds → ds.all (D.ok k) = true → RpAll K H w' vs ds := by
      intro vs ds h o
      induction ds generalizing vs with
      | nil => cases h; exact .nil
      | cons d ds ih2 =>
        cases h with
        | cons a b =>
          simp only [List.all_cons, Bool.and_eq_true] at o
          exact .cons (ih a o.1) (ih2 b o.2)
    intro v d h o
    cases h with
    | non => exact .non
    | bl b => exact .bl b
    | int i => exact .int i
    | str x => exact .str x
    | lst h1 h2 h3 =>
      simp only [D.ok] at o
      exact .lst h1 (by rw [hM]; exact h2) (all h3 o)
    | tup h1 h2 =>
      simp only [D.ok] at o
      exact .tup h1 (all h2 o)
    | ref _ => simp [D.ok] at o
    | scr _ => simp [D.ok] at o
theorem se_callP {x y : Str} {kws : List (List Str × List Nat)} {F : Fd} {p1 : Pos} (hF : FnAt p n x [y] kws F) (hg : GlB c x) (h : SE p c n e d)
    (hdb : (x == ("__debug__" : Str)) = false := by decide) (he : ∀ env, starEach [e] env = (false, eval e env) :: starEach [] env := by intro _; rfl) : SE p c n (.Call (.Name x p1) [e] [] pos) (dCallP F d) := by
  intro X g ρ s r s' e' σ H w Q R q
  obtain ⟨sl, sg⟩ := s
  simp only [dCallP] at e'
  split at e'
  · rw [Option.bind_eq_some_iff] at e'
    obtain ⟨⟨r1, l1, g1⟩, a1, a2⟩ := e'
    split at a2
    · rename_i xs hr hl1 hg1
      simp only at hr hg1 hl1
      subst hr hg1 hl1
      rw [Option.bind_eq_some_iff] at a2
      obtain ⟨⟨r2, g2⟩, a3, a4⟩ := a2
      split at a4
      · rename_i dd hdd
        split at a4
        · rename_i hok
          cases a4
          simp only at hdd
          subst hdd
          obtain ⟨fa, fd, hm, hk, hb, _, FF⟩ := hF.ex
          have wga : w.ga = [] := List.length_eq_zero_iff.mp R.glb.1
          refine ⟨fun σ H Q => wE X e σ H fun v H1 => spF p 1 F [v] H1 Q E0, ⟨fun pins s2 σ2 H2 Q2 I h => ?_⟩, h X g ρ _ _ _ a1 σ H w _ R fun v H1 w1 k1 R1 q1 => ?_⟩
          · refine wpAny_Call_Name_kw (ld_glob I (hg.gl g) (by rw [g.mg]; exact hm) ?_ hdb)
            refine PySem.W.callWith_K (h₀ := X.base) I.ok.mod.kin (by rw [g.K]; exact hk) (thn ((pa_cons wE_ok pa_nil (he _)).run pos pins s2 σ2 H2 (fun vs H1 => spF p 1 F vs H1 Q2 E0) I h) fun us s3 ⟨vs, H3, I3, rv, hq⟩ => ⟨I3.kIn, ?_⟩) (he _) rfl
            have hus : (us ++ ([] : List Value)).length = [y].length := by
              rw [List.append_nil, ← rv.length]
              exact hq.1
            have bb := hb s3 us (by rw [← g.K]; exact I3.kIn) hus
            rw [List.append_nil] at bb
            refine wpAny_call (codeAny_mono (call_G g FF I3 bb rv hq) fun res s4 z => ?_)
            obtain ⟨u, rfl, z⟩ := z
            exact z
          · obtain ⟨w2, k2, R2, r2, hla2⟩ := R1.share k1 q1
            refine ⟨rfl, { w2 with la := [], H0 := H1 }, [.ref 0], [xs], .v dd, g2, rfl, rfl, R2.args, .cons (Rp.same (by rfl) (by rfl) r2) .nil, a3, fun x' H' w' k3 G3 r3 => ?_⟩
            obtain ⟨k4, R4, tr⟩ := R2.call k3 G3
            have k5 := k2.trans k4
            have hla : w2.la = [] := hla2.trans (List.length_eq_zero_iff.mp R1.loc.1)
            have k6 : Keep H w H' { ({ w' with la := w2.la, H0 := w2.H0 } : Wd) with ga := [] } :=
              ⟨k5.is, k5.obj, fun a o ha m z => k5.nc a o ha m (List.mem_append_left _ (by simpa using z)), k5.nm, k5.mm, k5.la, fun m a e => by rw [wga] at e; simp at e, k5.h0⟩
            refine q x' H' _ k6 ⟨R.len, fun i r e => ?_, ⟨by show w2.la.length = 0; rw [hla]; rfl, fun m cc e => by simp at e⟩, ⟨rfl, fun m cc e => by simp at e⟩, ⟨by show (w2.la ++ []).Nodup; rw [hla]; exact List.nodup_nil, fun a ha => ?_, R4.wk.isL, R4.wk.fr, R4.wk.back⟩⟩ ?_
            · obtain ⟨z, e1, e2⟩ := R.env i r e
              exact ⟨z, e1, e2.keep k6 R.wk⟩
            · have ha' : a ∈ w2.la ++ [] := ha
              rw [hla] at ha'
              simp at ha'
            · exact ok_noref (by rfl) 12 (tr r3) hok
        · cases a4
      · cases a4
    · cases a2
  · cases e'
end
end Ev1
/-! Core 11: enumerate of lists and tuples; tuples turned about. -/
namespace Ev1
open PySem L2 PySem.Spec PyProof.Rows

theorem meets_enum1 {v : Value} {o : Obj} {Hh : Heap → Prop} (B : Begins v o Hh) :
    Meets (Builtin.«enumerate.__new__» ⟨[.type "enumerate", v], []⟩) (fun _ R s => Hh s.heap ∧
      R (.ok (.ret (.ref (s.heap.push o).objs.size))) { s with heap := (s.heap.push o).push { cls := .type "enumerate", data := .fields #[.none, .bool false, .ref s.heap.objs.size, rawInt 0, .none, .none] } }) := by
  refine .of_wp fun prog w A R s hyp => ?_
  obtain ⟨hp, gg, dd, tk, os⟩ := s
  obtain ⟨h1, hyp⟩ := hyp
  have su := sub_enumerate
  have q1 : ∀ {A' : Around} {E : Value → Shared → Prop} {Q : Value → Shared → Prop}, Q (.ref hp.objs.size) ⟨hp.push o, gg, dd, tk, os⟩ → wpAny (model prog w) A' (pyIter v) Q E ⟨hp, gg, dd, tk, os⟩ :=
    fun q => B.iter prog w _ _ ⟨hp, gg, dd, tk, os⟩ _ h1 q
  wp_walk using q1
  refine wpAny_stack_any fun st => wpAny_pure ?_
  split
  · rename_i cc _ _ _ _ _
    cases (cc == Value.type "enumerate") <;> (wp_walk using q1; exact ⟨_, rfl, hyp⟩)
  · wp_walk using q1
    exact ⟨_, rfl, hyp⟩
theorem enum_made {prog : Program} {w : World} {A : Around} {E : Value → Shared → Prop} {s : Shared} {v : Value} {o : Obj} {Hh : Heap → Prop} {Q : Value → Shared → Prop} (B : Begins v o Hh) (h1 : Hh s.heap)
    (fin : ∀ h', IsEnum h' (s.heap.objs.size + 1) s.heap.objs.size 0 .none → h'.get? s.heap.objs.size = some o → (∀ b u, s.heap.get? b = some u → h'.get? b = some u) → Q (.ref (s.heap.objs.size + 1)) { s with heap := h' }) :
    wpAny (model prog w) A (call (.type "enumerate") [v]) Q E s := by
  refine callType_new F.called_enumerate (by decide) (F.typeCall_enumerate_1 _) (F.newCall_enumerate_1 _) (fun ob => F.args_object_init_2 ob _) F.entry_enumerate_new (meets_enum1 B) ⟨h1, ?_⟩
  have hz : (s.heap.push o).objs.size = s.heap.objs.size + 1 := Heap.size_push ..
  show _ ∧ _
  rw [hz]
  have he : IsEnum ((s.heap.push o).push { cls := .type "enumerate", data := .fields #[.none, .bool false, .ref s.heap.objs.size, rawInt 0, .none, .none] }) (s.heap.objs.size + 1) s.heap.objs.size 0 .none := by
    have hh := Heap.get?_push_size (s.heap.push o) (o := { cls := .type "enumerate", data := .fields #[.none, .bool false, .ref s.heap.objs.size, rawInt 0, .none, .none] }) rfl
    rw [hz] at hh
    exact hh
  exact ⟨⟨_, he, rfl⟩, fin _ he (Heap.get?_push_of_some _ (Heap.get?_push_size _ B.free)) fun b u x => Heap.get?_push_of_some _ (Heap.get?_push_of_some _ x)⟩
/-- the tuple at a, each item in a new pair -/
def ItN (K : PySem.W.Frag) (a : Addr) : It where
  go := fun i H => ∃ (xs : List V) (x : V), SqT K H a xs ∧ xs[i]? = some x
  yld := fun i H v H' => ∃ T x, v = .ref T ∧ H T = none ∧ H' = upd H T (.tup [.int (i : Nat), x]) ∧ ∀ xs, SqT K H a xs → xs[i]? = some x
  stop := fun i H => ∃ xs : List V, SqT K H a xs ∧ xs.length = i
theorem turn_enumN {P : Program} {w : World} {K : PySem.W.Frag} {elts : List Expr} {kk : Nat} {tpos : Pos} (a e it : Addr) :
    Turn P w K (.Tuple elts kk tpos) (ItN K a) [e, it] e (fun i h => (∃ old, IsEnum h e it ((i : Nat) : Int) old) ∧ h.IsTupleIter it a i ∧ e ≠ it) := by
  have two : ∀ {b : Addr}, b ∈ [e, it] → b = e ∨ b = it := fun {b} hb => by simpa using hb
  constructor
  · simp
  · rintro i h ⟨⟨old, he⟩, ⟨o, ho, hc, hd⟩, _⟩ b hb
    rcases two hb with rfl | rfl
    · exact ⟨_, he, fun v q => nomatch q⟩
    · exact ⟨o, ho, fun v q => by rw [hd] at q; cases q⟩
  · rintro i h h' ⟨⟨old, he⟩, hi, hne⟩ k
    exact ⟨⟨old, k e (by simp) _ he⟩, hi.at fun o q => k it (by simp) o q, hne⟩
  · intro X hP hw hK hc i pins s σ H E I hf st hg
    subst hP hw hK
    obtain ⟨⟨old, he⟩, hit, hne⟩ := st
    obtain ⟨xs, x, hq, hx⟩ := hg
    obtain ⟨its, rv, tt, hz⟩ := I.tuple hq
    obtain ⟨u, hu, ru⟩ := rv.get hx
    have hel : e < s.heap.objs.size := Heap.lt_size he
    have hil : it < s.heap.objs.size := hit.elim fun _ q => Heap.lt_size q.1
    have nea : e ≠ a := fun z => by
      obtain ⟨o, ho, hcl, _⟩ := tt
      rw [← z, he] at ho
      cases ho
      exact absurd (show Value.type "enumerate" = Value.type "tuple" from hcl) (by decide)
    have nia : a ≠ it := fun z => by
      obtain ⟨o, ho, hcl, _⟩ := tt
      obtain ⟨o2, ho2, hcl2, _⟩ := hit
      rw [z, ho2] at ho
      cases ho
      rw [hcl2] at hcl
      exact absurd hcl (by decide)
    have DD := Draws.tuple (prog := X.prog) (w := X.w) (A := X.A.in1) (I.ok.hd hc) it a nia its.toArray
    have hlt : i < its.toArray.size := by
      have := (List.getElem?_eq_some_iff.mp hu).1
      simpa using this
    refine wpAny_pyNext_enum_itemD DD he ⟨hit, tt⟩ hlt hne (by simp [hne, nea]) fun y h' tk hy ho hst hT hsz hk => ?_
    have ey : y = u := by
      have hy' : its[i]? = some y := by simpa using hy
      rw [hu] at hy'
      exact (Option.some.inj hy').symm
    subst ey
    refine ⟨_, rfl, wpAny_letOwnedTupleGo_enum (s := { s with heap := h', toks := tk + 1 }) ho fun h'' he' sb => ?_⟩
    have hT2 : h''.get? s.heap.objs.size = some { cls := .type "tuple", data := .seq #[.int i tk, y] } := (sb.2 _ (Nat.ne_of_gt hel)).trans hT
    have new : ObjOk X.prog X.w (upd H s.heap.objs.size (.tup [.int (i : Nat), x])) h'' s.heap.objs.size (.tup [.int (i : Nat), x]) :=
      ⟨by show 2 ≤ sizeLine; rw [sizeLine_eq]; decide, [.int i tk, y], .cons ⟨_, rfl⟩ (.cons ru .nil), ⟨_, hT2, rfl, _, rfl⟩⟩
    have I1 : Inv X pins σ (upd H s.heap.objs.size (.tup [.int (i : Nat), x])) { s with heap := h'', toks := tk + 1 } :=
      I.turnedNew (ch := [e, it]) (fun b ob hb q => (sb.2 b (fun z => hb (by simp [z]))).trans (hk b ob (fun z => hb (by simp [z])) (fun z => hb (by simp [z])) q)) hf (Nat.le_refl _) new
    refine ⟨.ref s.heap.objs.size, _, I1, rfl, ⟨_, x, rfl, I.hok.fresh (Nat.le_refl _), rfl, fun ys hy => by rw [I.tuple_inj hy hq]; exact hx⟩, ⟨⟨y, ?_⟩, hst.1.at fun o q => (sb.2 it (Ne.symm hne)).trans q, hne⟩, fun b hb => ?_⟩
    · rw [show ((i + 1 : Nat) : Int) = (i : Int) + 1 by omega]
      exact he'
    · have hb' : b < s.heap.objs.size := by
        rcases two hb with rfl | rfl
        · exact hel
        · exact hil
      rw [upd_ne (Nat.ne_of_lt hb')]
      exact (hf b hb).1
  · intro X hP hw hK hc i pins s σ H E I hf st hg
    subst hP hw hK
    obtain ⟨⟨old, he⟩, hit, hne⟩ := st
    obtain ⟨xs, hq, hx⟩ := hg
    obtain ⟨its, rv, tt, hz⟩ := I.tuple hq
    have nia : a ≠ it := fun z => by
      obtain ⟨o, ho, hcl, _⟩ := tt
      obtain ⟨o2, ho2, hcl2, _⟩ := hit
      rw [z, ho2] at ho
      cases ho
      rw [hcl2] at hcl
      exact absurd hcl (by decide)
    have DD := Draws.tuple (prog := X.prog) (w := X.w) (A := X.A.in1) (I.ok.hd hc) it a nia its.toArray
    have hl := rv.length
    have ei : i = its.toArray.size := by
      simp only [List.size_toArray]
      omega
    subst ei
    exact wpAny_pyNext_enum_endD DD he ⟨hit, tt⟩ fun h' eb => ⟨rfl, I.turnedL (t' := s.toks) (ch := [e, it]) (fun b o hb q => eb b o (fun z => hb (by simp [z])) q) hf⟩
  · rintro A i s Q E ⟨⟨_, he⟩, _⟩ hq
    exact wpAny_pyIter_enum he hq
section
variable {p : Pr} {c : Cst} {n : Nat} {e : Expr} {d : Den} {da : DenA} {pos : Pos}
def iEnumN (K : PySem.W.Frag) (ta : TA) : TI := fun σ H R => ta σ H fun vs H1 => ∃ a xs, vs = [.ref a] ∧ SqT K H1 a xs ∧ R (ItN K a) H1
theorem pi_enumN {X : Cx} {ta : TA} {p1 tpos : Pos} {elts : List Expr} {kk : Nat} (hg : Gl X "enumerate") (hm : X.mg "enumerate" = none) (ha : PA X [e] ta) (hs : starEach [e] X.env = [(false, eval e X.env)]) :
    PI X (.Tuple elts kk tpos) (.Call (.Name "enumerate" p1) [e] [] pos) (iEnumN X.K ta) := by
  refine ⟨fun pins s σ H R I h => ?_⟩
  refine Call_ (ld_blt I hg hm boot_enumerate (PyProof.Rows.callWith_type1 (thn (ha.run pos pins s σ H _ I h) fun us s1 ⟨vs, H1, I1, r1, q1⟩ => ?_) hs rfl))
  obtain ⟨a, xs, ex, hq, q⟩ := q1
  subst ex
  obtain ⟨u, rfl, ru⟩ := vals1 r1
  cases ru
  obtain ⟨its, rv, tt, hz⟩ := I1.tuple hq
  refine enum_made (begins_tuple a its.toArray) (show s1.heap.IsTuple a its.toArray from tt) fun h' he hit hk => wpAny_pyIter_enum he ?_
  have I2 : Inv X pins σ H1 { s1 with heap := h' } := I1.kept (t' := s1.toks) hk
  refine ⟨s1.heap.objs.size + 1, [s1.heap.objs.size + 1, s1.heap.objs.size], _, _, H1, rfl, I2, turn_enumN a (s1.heap.objs.size + 1) s1.heap.objs.size, ⟨⟨.none, he⟩, ⟨_, hit, rfl, rfl⟩, Nat.succ_ne_self _⟩, fun b hb => ?_, q⟩
  have hle : s1.heap.objs.size ≤ b := by
    have e2 : b = s1.heap.objs.size + 1 ∨ b = s1.heap.objs.size := by simpa using hb
    rcases e2 with z | z
    · rw [z]; exact Nat.le_succ _
    · rw [z]; exact Nat.le_refl _
  exact I1.fpOk hle (I1.hok.fresh hle)
def enumD : Nat → List D → List D
  | _, [] => []
  | k, x :: xs => .tup [.int (k : Nat), x] :: enumD (k + 1) xs
theorem enum_get : ∀ {xs : List D} {k i : Nat} {x : D}, xs[i]? = some x → (enumD k xs)[i]? = some (.tup [.int ((k + i : Nat) : Int), x])
  | [], _, _, _, h => by simp at h
  | y :: ys, k, 0, x, h => by simp at h; subst h; simp [enumD]
  | y :: ys, k, i + 1, x, h => by
    simp only [enumD, List.getElem?_cons_succ] at h ⊢
    rw [enum_get (k := k + 1) h]
    congr 5
    omega
theorem enum_len : ∀ {xs : List D} {k : Nat}, (enumD k xs).length = xs.length
  | [], _ => rfl
  | _ :: _, _ => by simp [enumD, enum_len]
@[simp] def dEnum (da : DenA) : DenI := fun ρ s => (da ρ s).bind fun a => match a.1 with
  | [.v (.lst xs)] => some (enumD 0 xs, a.2)
  | [.v (.tup xs)] => some (enumD 0 xs, a.2)
  | _ => none
theorem si_enum {p1 tpos : Pos} {elts : List Expr} {kk : Nat} (hg : GlB c "enumerate") (hm : p.mg "enumerate" = none) (ha : SA p c n [e] da) (hs : ∀ env, starEach [e] env = [(false, eval e env)] := by intro _; rfl) :
    SI p c n (.Tuple elts kk tpos) (.Call (.Name "enumerate" p1) [e] [] pos) (dEnum da) := by
  intro X g ρ s items s' e' σ H w R RR q
  simp only [dEnum, Option.bind_eq_some_iff] at e'
  obtain ⟨⟨rs, s1⟩, a1, a2⟩ := e'
  have pair : ∀ {H2 : Hp} {w2 : Wd} {va : List V} {xs : List D}, RpAll p.K H2 w2 va xs → ∀ {i : Nat} {T : Addr} {x : V} {H3 : Hp}, va[i]? = some x → H2 T = none → H3 = upd H2 T (.tup [.int (i : Nat), x]) →
      ∃ d, (enumD 0 xs)[i]? = some d ∧ ((H3 = H2 ∧ Rp p.K H2 w2 (.ref T) d) ∨ ∃ T' vs ds, H2 T' = none ∧ H3 = upd H2 T' (.tup vs) ∧ V.ref T = .ref T' ∧ d = .tup ds ∧ RpAll p.K H2 w2 vs ds) := by
    intro H2 w2 va xs ra i T x H3 hx hT hH
    obtain ⟨dx, hx1, hx2⟩ := ra.getV hx
    have e1 := enum_get (k := 0) hx1
    rw [Nat.zero_add] at e1
    exact ⟨_, e1, .inr ⟨T, _, _, hT, hH, rfl, rfl, .cons (.int _) (.cons hx2 .nil)⟩⟩
  split at a2
  · rename_i xs hr
    cases a2
    refine ⟨_, pi_enum (hg.gl g) (by rw [g.mg]; exact hm) wA_ok (hs _), ha X g ρ s rs s1 a1 σ H w _ RR fun vs H1 w1 k1 R1 q1 => ?_⟩
    simp only at hr
    subst hr
    obtain ⟨x, rfl, hx⟩ := one_of q1
    cases hx with
    | lst ha1 ha2 ha3 =>
    rename_i a va
    rw [g.K]
    refine ⟨a, va, rfl, SqL.of ha1, q _ H1 w1 k1 R1 fun H2 w2 k2 L2 => ?_⟩
    have s1 : SqL p.K H2 a va := SqL.of (k2.plain R1.wk ha1 ha2)
    have ra := ha3.keep k2 R1.wk
    rw [enum_len, ← ra.length]
    refine ⟨⟨va, s1, Nat.le_refl _⟩, fun i hi => ⟨⟨va, va[i], s1, by simp [hi]⟩, fun v H3 yl => ?_⟩⟩
    obtain ⟨T, x, rfl, hT, hH, e1⟩ := yl
    exact pair ra (e1 va s1) hT hH
  · rename_i xs hr
    cases a2
    refine ⟨_, pi_enumN (hg.gl g) (by rw [g.mg]; exact hm) wA_ok (hs _), ha X g ρ s rs s1 a1 σ H w _ RR fun vs H1 w1 k1 R1 q1 => ?_⟩
    simp only at hr
    subst hr
    obtain ⟨x, rfl, hx⟩ := one_of q1
    cases hx with
    | tup ha1 ha3 =>
    rename_i a va
    rw [g.K]
    refine ⟨a, va, rfl, ha1, q _ H1 w1 k1 R1 fun H2 w2 k2 L2 => ?_⟩
    have s1 := k2.sqT R1.wk ha1
    have ra := ha3.keep k2 R1.wk
    rw [enum_len, ← ra.length]
    refine ⟨⟨va, s1, rfl⟩, fun i hi => ⟨⟨va, va[i], s1, by simp [hi]⟩, fun v H3 yl => ?_⟩⟩
    obtain ⟨T, x, rfl, hT, hH, e1⟩ := yl
    exact pair ra (e1 va s1) hT hH
  · cases a2
end
end Ev1
/-! Core 12: xs[::-1] of lists and tuples. -/
namespace Ev1
open PySem L2 PySem.Spec PyProof.Rows HT

section
variable {prog : Program} {w : World} {A : Around} {E : Value → Shared → Prop} {s : Shared}
theorem fm_congr {α β : Type} {f g : α → Option β} : ∀ {l : List α}, (∀ a ∈ l, f a = g a) → l.filterMap f = l.filterMap g
  | [], _ => rfl
  | a :: l, h => by
    rw [List.filterMap_cons, List.filterMap_cons, h a (List.mem_cons_self ..), fm_congr fun b hb => h b (List.mem_cons_of_mem _ hb)]
theorem rev_pick (xs : Array Value) : ((List.range xs.size).filterMap fun (k : Nat) => xs[(((xs.size : Int) - 1) + (k : Int) * (-1)).toNat]?).toArray = xs.toList.reverse.toArray := by
  have e : (List.range xs.size).filterMap (fun (k : Nat) => xs[(((xs.size : Int) - 1) + (k : Int) * (-1)).toNat]?) = (List.range xs.size).filterMap fun k => xs[xs.size - 1 - k]? := by
    apply fm_congr
    intro k hk
    have := List.mem_range.mp hk
    have e2 : (((xs.size : Int) - 1) + (k : Int) * (-1)).toNat = xs.size - 1 - k := by omega
    rw [e2]
  rw [e]
  have e3 : (fun k => xs[xs.size - 1 - k]?) = (fun j => xs[j]?) ∘ (fun k => xs.size - 1 - k) := rfl
  rw [e3, ← List.filterMap_map, PySem.W.krv_range, List.filterMap_reverse, PySem.W.krv_all]
theorem slice_back {sl : Addr} {t : Tok} {n : Nat} {Q : Int × Int × Nat → Shared → Prop} {os : Obj} (hos : s.heap.get? sl = some os) (hds : os.data = .fields #[.none, .none, .int (-1) t]) (h : Q ((n : Int) - 1, -1, n) s) :
    wpAny (model prog w) A (Builtin.Slice.sliceApplied (.ref sl) (pure (n : Int))) Q E s := by
  unfold Builtin.Slice.sliceApplied Builtin.Slice.sliceFields
  refine wpAny_bind (wpAny_bind (wpAny_field hos hds (x := .none) rfl (wpAny_bind (wpAny_field hos hds (x := .none) rfl (wpAny_bind (wpAny_field hos hds (x := .int (-1) t) rfl (wpAny_pure ?_)))))))
  refine wpAny_bind (slicePart_int ?_)
  show wpAny _ _ (if ((-1 : Int) == 0) = true then _ else _) _ _ s
  rw [if_neg (by decide)]
  refine wpAny_bind (slicePart_none (wpAny_bind (slicePart_none (wpAny_bind (wpAny_pure ?_)))))
  have ea : Builtin.Slice.sliceAdjust none none (-1) (n : Int) = ((n : Int) - 1, -1) := rfl
  have ep : Builtin.Slice.slicePlaces ((n : Int) - 1) (-1) (-1) = n := by
    unfold Builtin.Slice.slicePlaces
    rw [if_neg (by decide)]
    split
    · rw [show (-(-1 : Int)) = 1 by decide, Int.ediv_one]
      omega
    · omega
  show wpAny _ _ (pure ((n : Int) - 1, (-1 : Int), Builtin.Slice.slicePlaces ((n : Int) - 1) (-1) (-1))) _ _ s
  rw [ep]
  exact wpAny_pure h
theorem getItem_tuple_back {t sl : Addr} {tk : Tok} {items : Array Value} {os : Obj} {Q : Value → Shared → Prop} (ht : IsTup s.heap t items) (hos : s.heap.get? sl = some os) (hcs : os.cls = .type "slice") (hds : os.data = .fields #[.none, .none, .int (-1) tk])
    (h : Q (.ref s.heap.objs.size) { s with heap := s.heap.push { cls := .type "tuple", data := .seq items.toList.reverse.toArray } }) (hsz : items.size ≤ sizeLine) : wpAny (model prog w) A (getItem (.ref t) (.ref sl)) Q E s := by
  have hTs : s.TypeIs (.ref sl) "slice" := ⟨os, hos, hcs⟩
  have hok : sizeOk (.seq items.toList.reverse.toArray) := by
    show items.toList.reverse.toArray.size ≤ sizeLine
    simpa using hsz
  unfold getItem
  try with_reducible refine wpAny_holding ?_
  first | refine wpAny_bind (wpAny_pure ?_) | skip
  refine wpAny_bind (wpAny_sequenceKey ht.typeIs (by decide) ?_)
  refine wpAny_bind (wpAny_callSpecial?_slot (name := Str.ofString "__getitem__") ht.typeIs PyProof.Rows.slot_tuple_getitem
    (wpAny_call_entry PyProof.Rows.slot_tuple_getitem ht.typeIs entry_tuple_getitem ?_ (args_tuple_getitem _ _)))
  show wpAny _ _ (Builtin.Tuple.tupleItemsOf (.ref t) >>= _) _ _ s
  refine wpAny_bind (tupleItemsOf_ ht (wpAny_bind (wpAny_typeOf hTs ?_)))
  rw [if_pos (by decide)]
  refine wpAny_bind (slice_back hos hds ?_)
  have hno : ¬ ((((items.size : Int) - 1) == 0 && (-1 : Int) == 1 && items.size == items.size) = true) := by
    intro q
    rw [Bool.and_eq_true, Bool.and_eq_true] at q
    exact absurd q.1.2 (by decide)
  show wpAny _ _ (if (((items.size : Int) - 1) == 0 && (-1 : Int) == 1 && items.size == items.size) = true then _ else _) _ _ s
  rw [if_neg hno, rev_pick]
  first
    | exact wpAny_bind (m := Builtin.Tuple.tupleExact _) (wpAny_newObj_type (wpAny_pure ⟨_, rfl, wpAny_pure h⟩) hok)
    | exact wpAny_bind (wpAny_bind (m := Builtin.Tuple.tupleExact _) (wpAny_newObj_type (wpAny_pure (wpAny_pure ⟨_, rfl, wpAny_pure h⟩)) hok))
    | exact wpAny_bind (wpAny_bind (m := Builtin.Tuple.tupleExact _) (wpAny_newObj_type (wpAny_pure ⟨_, rfl, wpAny_pure h⟩) hok))
end
def tRevT (K : PySem.W.Frag) (te : TE) : TE := fun σ H Q => te σ H fun x H1 => ∃ a xs, x = .ref a ∧ SqT K H1 a xs ∧ ∀ t, H1 t = none → Q (.ref t) (upd H1 t (.tup xs.reverse))
theorem pe_revT {X : Cx} {e : Expr} {te : TE} {k : Nat} {p1 p2 p3 pos : Pos} (he : PE X e te) : PE X (.Subscript e (.Slice none none (some (.UnaryOp .USub (.Constant (.int 1) k p1) p2)) p3) pos) (tRevT X.K te) := by
  refine ⟨fun pins s σ H Q I h => ?_⟩
  refine Subscript_ (thn (he.run pins s σ H _ I h) fun v s1 ⟨x, H1, I1, r1, q1⟩ => ?_)
  obtain ⟨a, xs, ex, hx, q⟩ := q1
  subst ex
  cases r1
  have none_ : PO X none tNoPart := po_none
  have step : PE X (.UnaryOp .USub (.Constant (.int 1) k p1) p2) (tUn (rU fun i => .int (-i)) (tC (.int 1))) := pe_un un_neg pe_int
  refine wpAny_Slice (thn (none_.run pins s1 σ H1 (fun o H2 => o = none ∧ H2 = H1) I1 ⟨rfl, rfl⟩) fun vl s2 ⟨l, H2, I2, pl, el, e2⟩ => ?_)
  subst el e2
  refine thn (none_.run pins s2 σ H2 (fun o H3 => o = none ∧ H3 = H2) I2 ⟨rfl, rfl⟩) fun vu s3 ⟨u, H3, I3, pu, eu, e3⟩ => ?_
  subst eu e3
  refine thn ((po_some step).run pins s3 σ H3 (fun o H4 => o = some (-1) ∧ H4 = H3) I3 ⟨1, rfl, -1, rfl, rfl, rfl⟩) fun vs s4 ⟨o, H4, I4, ps, eo, e4⟩ => ?_
  subst eo e4
  cases pl
  cases pu
  cases ps with
  | int i tk =>
  have I5 : Inv X pins σ H4 { s4 with heap := s4.heap.push { cls := .type "slice", data := .fields #[.none, .none, .int (-1) tk] } } := I4.kept (t' := s4.toks) fun b ob q => Heap.get?_push_of_some _ q
  obtain ⟨its, r, tt, hz⟩ := I5.tuple hx
  have hl := r.length
  show wpAny (model X.prog X.w) X.A (subscriptTail e (.Slice none none (some (.UnaryOp .USub (.Constant (.int 1) k p1) p2)) p3) (.ref a) (.ref s4.heap.objs.size)) (EP X pins σ Q) X.xe { s4 with heap := s4.heap.push { cls := .type "slice", data := .fields #[.none, .none, .int (-1) tk] } }
  refine tail_any (ops := [.ref a, .ref s4.heap.objs.size]) tt.typeIs PyProof.Rows.slot_tuple_getitem.lookup ?_ (by with_unfolding_all rfl)
  refine getItem_tuple_back tt (Heap.get?_push_size _ rfl) rfl rfl ?_ (by rw [List.size_toArray]; omega)
  refine ⟨.ref _, _, I5.laid (t' := s4.toks) (o := .tup xs.reverse) (fun b ob q => Heap.get?_push_of_some _ q) (Nat.le_refl _) ?_, rfl, q _ (I5.hok.fresh (Nat.le_refl _))⟩
  exact ⟨by rw [List.length_reverse]; exact hz, its.reverse, r.reverse, ⟨_, Heap.get?_push_size _ rfl, rfl, _, rfl⟩⟩
section
variable {p : Pr} {c : Cst} {n : Nat} {e : Expr} {d : Den} {pos : Pos}
@[simp] def fRev (s : S) (a : Rs) : Option Rs := match a.seq s with
  | some (true, xs) => some (.own xs.reverse)
  | some (false, xs) => some (.v (.tup xs.reverse))
  | none => none
@[simp] def dRev (d : Den) : Den := fun ρ s => (d ρ s).bind fun a => (fRev a.2 a.1.fz).bind fun r => some (r, a.2)
theorem se_rev {k : Nat} {p1 p2 p3 : Pos} (h : SE p c n e d) : SE p c n (.Subscript e (.Slice none none (some (.UnaryOp .USub (.Constant (.int 1) k p1) p2)) p3) pos) (dRev d) := by
  intro X g ρ s r s' e' σ H w Q R q
  simp only [dRev, Option.bind_eq_some_iff] at e'
  obtain ⟨⟨r1, s1⟩, a1, r2, a2, a3⟩ := e'
  cases a3
  unfold fRev at a2
  simp only at a2
  split at a2
  · rename_i xs hs
    cases a2
    refine ⟨_, pe_revL wE_ok, h.fz g a1 R fun x H1 w1 k1 R1 q1 => ?_⟩
    obtain ⟨a, vs, rfl, ra, hq⟩ := R1.seq q1 hs
    rw [g.K]
    refine ⟨a, vs, rfl, hq, fun l hl => ?_⟩
    obtain ⟨k4, R4, r4⟩ := R1.own hl ra.rev
    exact q _ _ _ (k1.trans k4) R4 (r4.back k1)
  · rename_i xs hs
    cases a2
    refine ⟨_, pe_revT wE_ok, h.fz g a1 R fun x H1 w1 k1 R1 q1 => ?_⟩
    obtain ⟨a, vs, rfl, ra, hq⟩ := R1.seq q1 hs
    rw [g.K]
    refine ⟨a, vs, rfl, hq, fun l hl => ?_⟩
    obtain ⟨k4, R4, r4⟩ := R1.mkTup hl ra.rev
    exact q _ _ _ (k1.trans k4) R4 r4
  · cases a2
end
end Ev1
/-! Core 13: short forms for the derivations that a program of mine prints. -/
namespace Ev1
open PySem L2 PySem.Spec PyProof.Rows

section
variable {p : Pr} {c : Cst} {n : Nat} {e e1 e2 : Expr} {d d1 d2 : Den} {da : DenA} {pos : Pos}
theorem env_sc {X : Cx} (g : Good p c n X) : X.env = { X.env with scope := c.sc } := by
  rw [← g.sc]
theorem vv (i : Nat) {x : Str} (hN : c.N[i]? = some x := by rfl) (hv : Vis c.sc x := by first | exact Or.inl rfl | exact Or.inr (Or.inl rfl) | exact Or.inr (Or.inr rfl)) (hd : (x == ("__debug__" : Str)) = false := by decide) (hcd : (x == ("__classdict__" : Str)) = false := by decide) :
    SE p c n (.Name x pos) (dVar i) := se_var i hN hv hd hcd
/-- a constant of the module -/
def CK (p : Pr) (x : Str) (v : V) : Prop := ∃ u, p.mg x = some u ∧ RelV v u
theorem gk_int {x : Str} {i : Int} (h : CK p x (.int i)) (hg : GlB c x := by rfl) (hd : (x == ("__debug__" : Str)) = false := by decide) : SE p c n (.Name x pos) (dC (.int i)) := by
  obtain ⟨u, h1, h2⟩ := h
  exact se_glob hg h1 h2 (fun _ _ => .int i) hd
theorem gk_str {x : Str} {i : Str} (h : CK p x (.str i)) (hg : GlB c x := by rfl) (hd : (x == ("__debug__" : Str)) = false := by decide) : SE p c n (.Name x pos) (dC (.str i)) := by
  obtain ⟨u, h1, h2⟩ := h
  exact se_glob hg h1 h2 (fun _ _ => .str i) hd
theorem nm (i : Nat) {x : Str} (h1 : c.N[i]? = some x := by rfl) (h2 : Loc c.sc x := by first | exact Or.inl rfl | exact Or.inr rfl) (h3 : c.fn x = true ∨ c.sc.names.lookup x = some .local := by first | exact Or.inl rfl | exact Or.inr rfl) : Nm c i x := ⟨h1, h2, h3⟩
def AL (da : DenA) (m : Nat) : Prop := ∀ ρ s a, da ρ s = some a → a.1.length = m
theorem al_nil : AL aNil 0 := fun ρ s a h => by cases h; rfl
theorem al_cons {m : Nat} (h : AL da m) : AL (aCons d da) (m + 1) := fun ρ s a h2 => by
  simp only [aCons, Option.bind_eq_some_iff] at h2
  obtain ⟨r1, _, r2, h3, h4⟩ := h2
  cases h4
  rw [List.length_cons, h _ _ _ h3]
@[simp] def dNeg : Den → Den := fun d ρ s => (d ρ s).bind fun a => match a.1 with
  | .v (.int i) => some (.v (.int (-i)), a.2)
  | _ => none
theorem se_neg (h : SE p c n e d) : SE p c n (.UnaryOp .USub e pos) (dNeg d) := by
  intro X g ρ s r s' e' σ H w Q R q
  simp only [dNeg, Option.bind_eq_some_iff] at e'
  obtain ⟨⟨r1, s1⟩, a1, a2⟩ := e'
  split at a2
  · rename_i i hi
    cases a2
    simp only at hi
    subst hi
    refine ⟨_, pe_un un_neg wE_ok, h X g ρ s _ _ a1 σ H w _ R fun x H1 w1 k1 R1 r1 => ?_⟩
    cases r1
    exact ⟨i, rfl, q _ H1 w1 k1 R1 (.int _)⟩
  · cases a2
theorem ss_parS {i j : Nat} {x y : Str} {px py pt p2 : Pos} {kt k2} (hx : Nm c i x) (hy : Nm c j y) (hij : i ≠ j) (h1 : SE p c n e1 d1) (h2 : SE p c n e2 d2) (lx : c.sc.names.lookup x = some .local := by rfl) (ly : c.sc.names.lookup y = some .local := by rfl)
    (hw : ∀ env : PySem.Env, swappedStores [.Tuple [.Name x px, .Name y py] kt pt] (.Tuple [e1, e2] k2 p2) { env with scope := c.sc } = pure (some [x, y]) := by intro _; rfl)
    (hs : ∀ env, swapsWithSole [.Tuple [.Name x px, .Name y py] kt pt] (.Tuple [e1, e2] k2 p2) pos.line env = pure false := by intro _; rfl)
    (s1 : ∀ env, starEach [e1, e2] env = (false, eval e1 env) :: starEach [e2] env := by intro _; rfl) (s2 : ∀ env, starEach [e2] env = (false, eval e2 env) :: starEach [] env := by intro _; rfl) :
    SS p c n (.Assign [.Tuple [.Name x px, .Name y py] kt pt] (.Tuple [e1, e2] k2 p2) pos) (dPar i j d1 d2) :=
  ss_par hx hy hij lx ly h1 h2 (fun X g => by rw [env_sc g]; exact hw _) (fun X g => hs _) s1 s2
/-- name = [..], the name a cell -/
theorem ss_setC (own : Bool) {i : Nat} {x : Str} {p1 : Pos} (hx : Nm c i x) (h : SE p c n e d) (hs : ∀ env : PySem.Env, swapsWith e (some (.Name x p1)) pos.line { env with scope := c.sc } = pure false := by intro _; rfl) :
    SS p c n (.Assign [.Name x p1] e pos) (dSet own i d) := ss_set own hx h fun X g => by rw [env_sc g]; exact hs _
/-- where a def stands, apart from what it promises -/
structure Fa (p : Pr) (x qual : Str) (st : Stmt) (ps : List Str) (kws : List (List Str × List Nat)) : Prop where
  ex : ∃ (a : Addr) (fd : FuncData), p.mg x = some (.ref a) ∧ Fun p.K x qual st a fd ∧ Binds p.K fd ps [] ∧ ∀ kw ∈ kws, KB p.K fd ps kw
theorem Fa.zero {x qual : Str} {st : Stmt} {ps : List Str} {kws : List (List Str × List Nat)} (h : Fa p x qual st ps kws) : FnAt p 0 x ps kws fun _ _ => none := by
  obtain ⟨a, fd, h1, h2, h3, h4⟩ := h.ex
  exact ⟨a, fd, h1, h2.kp, h3, h4, fn_0⟩
theorem Fa.succ {x qual : Str} {st : Stmt} {N ps : List Str} {kws : List (List Str × List Nat)} {ds : DenS} (h : Fa p x qual st ps kws) (sc : FnScope N ps (defScope st)) (hb : SSs p (fnCst N (defScope st)) n (defBody st) ds) : FnAt p (n + 1) x ps kws (bodyF N.length ps.length ds) := by
  obtain ⟨a, fd, h1, h2, h3, h4⟩ := h.ex
  exact ⟨a, fd, h1, h2.kp, h3, h4, fn_G h2 sc hb⟩
theorem fa_mk {x qual : Str} {st : Stmt} {ps : List Str} {kws : List (List Str × List Nat)} {a : Addr} {oc : Value} {od an : Option Addr} {osl : Array (Option Value)} {kV doc pm cdv ct : Value} (hm : p.mg x = some (.ref a))
    (l : p.K.lookup a = some ⟨oc, od, .func (PySem.W.fnOf x qual (defArgs st) (defBody st) (defScope st) .none kV doc pm an cdv ct), osl⟩) (cc : PySem.W.codeIn p.K cdv qual = true) (k : PySem.W.keepIn p.K (.ref a) = true)
    (b : ∀ us : List Value, us.length = ps.length → bindArgs (PySem.W.fnOf x qual (defArgs st) (defBody st) (defScope st) .none kV doc pm an cdv ct) ⟨us, []⟩ = pure (ps.zip us))
    (kb : ∀ kw ∈ kws, KB p.K (PySem.W.fnOf x qual (defArgs st) (defBody st) (defScope st) .none kV doc pm an cdv ct) ps kw) : Fa p x qual st ps kws :=
  ⟨a, _, hm, fun_mk l cc k, .all b, kb⟩
theorem kb_nil {fd : FuncData} {ps : List Str} : ∀ kw ∈ ([] : List (List Str × List Nat)), KB p.K fd ps kw := fun _ h => nomatch h
theorem kb_cons {fd : FuncData} {ps : List Str} {kw : List Str × List Nat} {kws : List (List Str × List Nat)} (h1 : kw.2.length = ps.length) (h2 : ∀ i ∈ kw.2, i < kw.1.length)
    (h3 : ∀ us : List Value, us.length = kw.1.length → bindArgs fd ⟨[], kw.1.zip us⟩ = pure (ps.zip (pick kw.2 .none us))) (h : ∀ k ∈ kws, KB p.K fd ps k) : ∀ k ∈ kw :: kws, KB p.K fd ps k := fun k hk => by
  rcases List.mem_cons.mp hk with rfl | hk
  · exact ⟨h1, h2, fun s us _ hl => .of_eq (h3 us hl)⟩
  · exact h k hk
end
end Ev1
/-! Core 14: from the head's facts to a law's end. -/
namespace Ev1
open PySem L2 PySem.Spec PyProof.Rows

theorem fa_D {p : Pr} {x qual : Str} {st : Stmt} {ps : List Str} {kws : List (List Str × List Nat)} {f : Addr} {fd : FuncData} (hm : p.mg x = some (.ref f)) (F : FunD p.K x qual (defArgs st) (defBody st) (defScope st) [] [] f fd)
    (b : ∀ (kV doc pm : Value) (an : Option Addr) (cdv ct : Value) (us : List Value), us.length = ps.length → bindArgs (PySem.W.fnOf x qual (defArgs st) (defBody st) (defScope st) .none kV doc pm an cdv ct) ⟨us, []⟩ = pure (ps.zip us))
    (kb : ∀ (kV doc pm : Value) (an : Option Addr) (cdv ct : Value), ∀ kw ∈ kws, KB p.K (PySem.W.fnOf x qual (defArgs st) (defBody st) (defScope st) .none kV doc pm an cdv ct) ps kw) : Fa p x qual st ps kws := by
  obtain ⟨oc, od, dV, kV, doc, pm, an, cdv, ct, osl, e1, lk, hcd, hD, _⟩ := F.ex
  rcases hD with ⟨_, rfl⟩ | ⟨e, _⟩
  · subst e1
    exact ⟨f, _, hm, ⟨⟨oc, od, kV, doc, pm, an, cdv, ct, osl, rfl, lk, hcd⟩, F.kp⟩, .all (b kV doc pm an cdv ct), kb kV doc pm an cdv ct⟩
  · exact absurd rfl e
/-- a def as a datum of the head -/
abbrev dD (x : Str) (st : Stmt) : He.DefD := ⟨(x, none), x, x, defArgs st, defBody st, defScope st, [], []⟩
section
variable {p : Pr} {h : Heap}
theorem ck_int {x : Str} {i : Int} (X : p.K.In h) (G : h.Ns mainGlobals p.mg) (c : (He.Fa.int x i).ok p.K = true) : CK p x (.int i) := by
  obtain ⟨t, e⟩ := He.int_ok X G c
  exact ⟨_, e, t, rfl⟩
theorem ck_str {x z : Str} (X : p.K.In h) (G : h.Ns mainGlobals p.mg) (c : (He.Fa.str x z).ok p.K = true) : CK p x (.str z) := by
  obtain ⟨t, e⟩ := He.str_ok X G c
  exact ⟨_, e, t, rfl⟩
end
theorem walk_GE {l : PySem.W.OpenLaw} {most n : Nat} {q : Program} {loose : List Str} {XP : (Str → Option Value) → Heap → Prop} {YP : World → Heap → Prop} {dr : DefRec} {x : Str} {F : Fd}
    (hn : l.most = some most) (hm : most ≤ sizeLine) (hdf : dr.params.defaults = []) (rm : Room n callerA)
    (hF : ∀ (w : World) (mg : Str → Option Value) (fa : Addr) (h : Heap), YP w h → h.Ns mainGlobals mg → mg dr.name = some (.ref fa) →
      ∃ (K : PySem.W.Frag) (fd : FuncData), K.In h ∧ (∀ (s : Shared) (u : Value), BindsTo s fd ⟨[u], []⟩ [(x, u)]) ∧ ∀ base : Heap, K.In base → base.Ns mainGlobals mg → FnG ⟨l.prog, w, K, mg, base⟩ n fa fd [x] (spF ⟨l.prog, w, K, mg, base⟩ 1 F))
    (law : LawOk F most) : PySem.W.WalkO q loose XP YP l.row.toRowW dr [] (fun f vs => PySem.call f vs) := by
  refine Att.attach_callB hn hdf fun w s₀ s₁ mg mb fa o pm cd doc a us ns G Y h1 h2 h3 hmg h4 h5 h6 h7 h8 => ?_
  obtain ⟨K, fd, KX, hb, hG⟩ := hF w mg fa _ Y G.T.g hmg
  exact law_G (p0 := ⟨l.prog, w, K, mg, s₁.heap⟩) KX G.T.g G.T.b G.T.builtins G.T.nolimit h8 h4 h5 (Nat.le_trans h6 hm) rm hG hb (law ns h6 h7)
theorem funD_fun {K : PySem.W.Frag} {x qual : Str} {st : Stmt} {f : Addr} {fd : FuncData} (F : FunD K x qual (defArgs st) (defBody st) (defScope st) [] [] f fd) : Fun K x qual st f fd := by
  obtain ⟨oc, od, dV, kV, doc, pm, an, cdv, ct, osl, e1, lk, hcd, hD, _⟩ := F.ex
  rcases hD with ⟨_, rfl⟩ | ⟨e, _⟩
  · exact ⟨⟨oc, od, kV, doc, pm, an, cdv, ct, osl, e1, lk, hcd⟩, F.kp⟩
  · exact absurd rfl e
/-- the law's def, by its datum and its body -/
theorem law_end {P : Program} {w : World} {K : PySem.W.Frag} {mg : Str → Option Value} {h : Heap} {fa : Addr} {x y : Str} {st : Stmt} {fd : FuncData} {n : Nat} {N : List Str} {ds : DenS} (hmg : mg x = some (.ref fa)) (X : K.In h) (G : h.Ns mainGlobals mg)
    (c : (He.Fa.glo x).ok K = true) (D : FunD K x x (defArgs st) (defBody st) (defScope st) [] [] (He.ga K x) fd) (sc : FnScope N [y] (defScope st))
    (b : ∀ (kV doc pm : Value) (an : Option Addr) (cdv ct : Value) (us : List Value), us.length = [y].length → bindArgs (PySem.W.fnOf x x (defArgs st) (defBody st) (defScope st) .none kV doc pm an cdv ct) ⟨us, []⟩ = pure ([y].zip us))
    (hb : ∀ base : Heap, K.In base → base.Ns mainGlobals mg → SSs ⟨P, w, K, mg, base⟩ (fnCst N (defScope st)) n (defBody st) ds) :
    ∃ (K : PySem.W.Frag) (fd : FuncData), K.In h ∧ (∀ (s : Shared) (u : Value), BindsTo s fd ⟨[u], []⟩ [(y, u)]) ∧ ∀ base : Heap, K.In base → base.Ns mainGlobals mg → FnG ⟨P, w, K, mg, base⟩ (n + 1) fa fd [y] (spF ⟨P, w, K, mg, base⟩ 1 (bodyF N.length 1 ds)) := by
  have e := hmg.symm.trans (He.glo_ok X G c)
  cases e
  exact ⟨K, fd, X, fun s u => FunD.bindsA (ps := [y]) D b s [u] rfl, fun base h1 h2 => fn_G (p := ⟨P, w, K, mg, base⟩) (ps := [y]) (funD_fun D) sc (hb base h1 h2)⟩
end Ev1
/-! Core 15: rules for reading denotations. -/
namespace Ev1
open PySem L2
@[simp] theorem kit1 : kitB "int" "int" = some true := by decide +kernel
@[simp] theorem kit2 : kitB "int" "bool" = some false := by decide +kernel
@[simp] theorem kit3 : kitB "tuple" "tuple" = some true := by decide +kernel
@[simp] theorem kit4 : kitB "str" "str" = some true := by decide +kernel
@[simp] theorem kit5 : kitB "list" "list" = some true := by decide +kernel
@[simp] theorem kit6 : kitB "bool" "int" = some true := by decide +kernel
@[simp] theorem kit7 : kitB "bool" "bool" = some true := by decide +kernel
section
variable {α : Type} {a b c d e : α} {xs : List α}
@[simp] theorem at0 : L2.atI (a :: xs) 0 = some a := by
  unfold L2.atI L2.ixN
  simp
@[simp] theorem at1 : L2.atI (a :: b :: xs) 1 = some b := by
  unfold L2.atI L2.ixN
  rw [if_pos (by decide), if_pos (by simp only [List.length_cons]; omega)]
  rfl
@[simp] theorem at2 : L2.atI (a :: b :: c :: xs) 2 = some c := by
  unfold L2.atI L2.ixN
  rw [if_pos (by decide), if_pos (by simp only [List.length_cons]; omega)]
  rfl
@[simp] theorem at3 : L2.atI (a :: b :: c :: d :: xs) 3 = some d := by
  unfold L2.atI L2.ixN
  rw [if_pos (by decide), if_pos (by simp only [List.length_cons]; omega)]
  rfl
@[simp] theorem at4 : L2.atI (a :: b :: c :: d :: e :: xs) 4 = some e := by
  unfold L2.atI L2.ixN
  rw [if_pos (by decide), if_pos (by simp only [List.length_cons]; omega)]
  rfl
@[simp] theorem ix0 {n : Nat} : L2.ixN (n + 1) 0 = some 0 := by
  unfold L2.ixN
  simp
@[simp] theorem ix1 {n : Nat} : L2.ixN (n + 1 + 1) 1 = some 1 := by
  unfold L2.ixN
  rw [if_pos (by decide), if_pos (by omega)]
  rfl
end
@[simp] theorem fLe_is : fLe = fI0 fun i j => D.bl (decide (i ≤ j)) := rfl
@[simp] theorem fLt_is : fLt = fI0 fun i j => D.bl (decide (i < j)) := rfl
@[simp] theorem big0 {n : Nat} (h : n ≤ 1000) : n ≤ bigLen := Nat.le_trans h (by decide)
@[simp] theorem big1 {n : Nat} (h : n ≤ 1000) : n < bigLen := Nat.lt_of_le_of_lt h (by decide)
end Ev1
/-! Core 16: comprehensions and loops read as maps and invariants. -/
namespace Ev1
open PySem L2
section
variable {gd : DenG} {t : DenT} {d : Den} {ρ0 : Env} {s : S} {α : Type}
theorem lc_filter (b : α → Bool) (fx fy : α → D) (xs : List α) (h : ∀ a ∈ xs, ∃ ρ', gd (fx a) ρ0 s = some (ρ', s) ∧ t ρ' s = some (b a, s) ∧ (b a = true → ∃ r, d ρ' s = some (r, s) ∧ r.fz = .v (fy a))) :
    lcD gd t d ρ0 (xs.map fx) s = some ((xs.filter b).map fy, s) := by
  induction xs with
  | nil => rfl
  | cons x xs ih =>
    have ih := ih fun a ha => h a (List.mem_cons_of_mem _ ha)
    obtain ⟨ρ', h1, h2, h3⟩ := h x (List.mem_cons_self ..)
    rw [List.map_cons, lcD, h1]
    simp only [Option.bind_some]
    rw [h2]
    simp only [Option.bind_some]
    cases hb : b x with
    | false =>
      rw [List.filter_cons, hb]
      simp only [Bool.false_eq_true, if_false]
      exact ih
    | true =>
      obtain ⟨r, h4, h5⟩ := h3 hb
      rw [List.filter_cons, hb, if_pos rfl, h4]
      simp only [Option.bind_some, if_true, h5, ih, List.map_cons]
theorem lc_map (fx fy : α → D) (xs : List α) (h : ∀ a ∈ xs, ∃ ρ', gd (fx a) ρ0 s = some (ρ', s) ∧ t ρ' s = some (true, s) ∧ ∃ r, d ρ' s = some (r, s) ∧ r.fz = .v (fy a)) :
    lcD gd t d ρ0 (xs.map fx) s = some (xs.map fy, s) := by
  have := lc_filter (b := fun _ => true) (gd := gd) (t := t) (d := d) (ρ0 := ρ0) (s := s) fx fy xs fun a ha => by
    obtain ⟨ρ', h1, h2, h3⟩ := h a ha
    exact ⟨ρ', h1, h2, fun _ => h3⟩
  rwa [show xs.filter (fun _ => true) = xs from List.filter_eq_self.mpr fun _ _ => rfl] at this
/-- each item may change the state, that keeps to I -/
theorem lc_inv (I : S → Prop) (Q : D → Prop) (xs : List D) (h : ∀ x ∈ xs, ∀ s, I s → ∃ ρ' r s', gd x ρ0 s = some (ρ', s) ∧ t ρ' s = some (true, s) ∧ d ρ' s = some (r, s') ∧ I s' ∧ ∃ y, r.fz = .v y ∧ Q y) : ∀ s, I s →
    ∃ ys s', lcD gd t d ρ0 xs s = some (ys, s') ∧ I s' ∧ ys.length = xs.length ∧ ∀ y ∈ ys, Q y := by
  induction xs with
  | nil => exact fun s hs => ⟨[], s, rfl, hs, rfl, fun y hy => (nomatch hy)⟩
  | cons x xs ih =>
    intro s hs
    obtain ⟨ρ', r, s1, h1, h2, h3, h4, y, h5, h6⟩ := h x (List.mem_cons_self ..) s hs
    obtain ⟨ys, s2, e, h7, h8, h9⟩ := ih (fun a ha => h a (List.mem_cons_of_mem _ ha)) s1 h4
    refine ⟨y :: ys, s2, ?_, h7, by rw [List.length_cons, List.length_cons, h8], fun z hz => ?_⟩
    · rw [lcD, h1]
      simp only [Option.bind_some]
      rw [h2]
      simp only [Option.bind_some, if_true]
      rw [h3]
      simp only [Option.bind_some, h5, e]
    · rcases List.mem_cons.mp hz with rfl | hz
      · exact h6
      · exact h9 z hz
end
@[simp] theorem bls_mapf {α : Type} (f : α → Bool) : ∀ xs : List α, bls? (xs.map fun x => D.bl (f x)) = some (xs.map f)
  | [] => rfl
  | x :: xs => by
    simp [bls_mapf f xs]
theorem forD_nil {gd : DenG} {b : DenS} {ρ : Env} {s : S} : forD gd b [] ρ s = some (.nx ρ s) := rfl
/-- a loop that comes through: an invariant by the number of items that are left -/
theorem for_inv {gd : DenG} {b : DenS} (I : List D → Env → S → Prop) (h : ∀ x xs ρ s, I (x :: xs) ρ s → ∃ ρ1 s1 ρ2 s2, gd x ρ s = some (ρ1, s1) ∧ b ρ1 s1 = some (.nx ρ2 s2) ∧ I xs ρ2 s2) : ∀ (xs : List D) (ρ : Env) (s : S), I xs ρ s →
    ∃ ρ' s', forD gd b xs ρ s = some (.nx ρ' s') ∧ I [] ρ' s'
  | [], ρ, s, hI => ⟨ρ, s, rfl, hI⟩
  | x :: xs, ρ, s, hI => by
    obtain ⟨ρ1, s1, ρ2, s2, h1, h2, h3⟩ := h x xs ρ s hI
    obtain ⟨ρ3, s3, h4, h5⟩ := for_inv I h xs ρ2 s2 h3
    refine ⟨ρ3, s3, ?_, h5⟩
    simp only [forD, h1, Option.bind_some, h2, h4]
/-- pairs of ints -/
def zipII : List Int → List Int → List D
  | x :: xs, y :: ys => .tup [.int x, .int y] :: zipII xs ys
  | _, _ => []
@[simp] theorem zipII_cons {x y : Int} {xs ys : List Int} : zipII (x :: xs) (y :: ys) = .tup [.int x, .int y] :: zipII xs ys := rfl
@[simp] theorem zipII_nil {ys : List Int} : zipII [] ys = [] := by cases ys <;> rfl
@[simp] theorem zipII_nil2 {xs : List Int} : zipII xs [] = [] := by cases xs <;> rfl
@[simp] theorem zipD_ii : ∀ xs ys : List Int, zipD (xs.map D.int) (ys.map D.int) = zipII xs ys
  | [], ys => by cases ys <;> rfl
  | x :: xs, [] => rfl
  | x :: xs, y :: ys => by
    show D.tup [.int x, .int y] :: zipD (xs.map D.int) (ys.map D.int) = _
    rw [zipD_ii xs ys]
    rfl
end Ev1
namespace K68
open PySem L2 PySem.Spec PyProof.Rows Ev1
def top (i : Nat) : Stmt := PySem.Challenge.pw_showneither_k68_whole_checks_and_faults.main.body.getD i (.Pass ⟨0, 0, 0, 0⟩)
abbrev sis_integer : Stmt := top 7
abbrev sis_count : Stmt := top 8
abbrev sis_below : Stmt := top 9
abbrev sis_row : Stmt := top 10
abbrev sis_prime : Stmt := top 15
abbrev spowered : Stmt := top 16
abbrev sis_group_of : Stmt := top 17
abbrev sis_element_of : Stmt := top 18
abbrev stimes_of : Stmt := top 19
abbrev spower_of : Stmt := top 20
abbrev sunder_of : Stmt := top 21
abbrev swant_group : Stmt := top 22
abbrev swant_element : Stmt := top 23
abbrev stimes : Stmt := top 24
abbrev sunder : Stmt := top 25
abbrev sare_numbers : Stmt := top 27
abbrev sare_elements : Stmt := top 29
abbrev sproduct_of : Stmt := top 30
abbrev sis_check_of : Stmt := top 35
abbrev sis_lot_of : Stmt := top 36
abbrev sfault_of : Stmt := top 37
abbrev sfaults_of : Stmt := top 38
abbrev swant_check : Stmt := top 39
abbrev swant_lot : Stmt := top 40
abbrev sis_check : Stmt := top 41
abbrev sfault : Stmt := top 42
abbrev sdoes_hold : Stmt := top 43
abbrev sfalse_ones : Stmt := top 44
abbrev s_law_pot : Stmt := top 46
abbrev s_law_draw : Stmt := top 47
abbrev s_law_pick : Stmt := top 48
abbrev s_law_group : Stmt := top 49
abbrev s_law_power : Stmt := top 50
abbrev s_law_element : Stmt := top 51
abbrev s_law_log : Stmt := top 52
abbrev s_law_product : Stmt := top 53
abbrev s_law_check : Stmt := top 54
abbrev s_law_lot : Stmt := top 55
abbrev s_law_fault : Stmt := top 56
abbrev s_law_check_right : Stmt := top 57
abbrev s_law_right : Stmt := top 58
abbrev slaw : Stmt := top 59
abbrev i_is_integer : Nat := 0
abbrev i_is_count : Nat := 1
abbrev i_is_below : Nat := 2
abbrev i_is_row : Nat := 3
abbrev i_is_prime : Nat := 4
abbrev i_powered : Nat := 5
abbrev i_is_group_of : Nat := 6
abbrev i_is_element_of : Nat := 7
abbrev i_times_of : Nat := 8
abbrev i_power_of : Nat := 9
abbrev i_under_of : Nat := 10
abbrev i_want_group : Nat := 11
abbrev i_want_element : Nat := 12
abbrev i_times : Nat := 13
abbrev i_under : Nat := 14
abbrev i_are_numbers : Nat := 15
abbrev i_are_elements : Nat := 16
abbrev i_product_of : Nat := 17
abbrev i_is_check_of : Nat := 18
abbrev i_is_lot_of : Nat := 19
abbrev i_fault_of : Nat := 20
abbrev i_faults_of : Nat := 21
abbrev i_want_check : Nat := 22
abbrev i_want_lot : Nat := 23
abbrev i_is_check : Nat := 24
abbrev i_fault : Nat := 25
abbrev i_does_hold : Nat := 26
abbrev i_false_ones : Nat := 27
abbrev i__law_pot : Nat := 28
abbrev i__law_draw : Nat := 29
abbrev i__law_pick : Nat := 30
abbrev i__law_group : Nat := 31
abbrev i__law_power : Nat := 32
abbrev i__law_element : Nat := 33
abbrev i__law_log : Nat := 34
abbrev i__law_product : Nat := 35
abbrev i__law_check : Nat := 36
abbrev i__law_lot : Nat := 37
abbrev i__law_fault : Nat := 38
abbrev i__law_check_right : Nat := 39
abbrev i__law_right : Nat := 40
abbrev i_law : Nat := 41
abbrev nis_integer : List Str := [("value" : Str)]
abbrev pis_integer : List Str := [("value" : Str)]
abbrev kwis_integer : List (List Str × List Nat) := []
abbrev nis_count : List Str := [("value" : Str)]
abbrev pis_count : List Str := [("value" : Str)]
abbrev kwis_count : List (List Str × List Nat) := []
abbrev nis_below : List Str := [("value" : Str), ("many" : Str)]
abbrev pis_below : List Str := [("value" : Str), ("many" : Str)]
abbrev kwis_below : List (List Str × List Nat) := []
abbrev nis_row : List Str := [("value" : Str), ("many" : Str)]
abbrev pis_row : List Str := [("value" : Str), ("many" : Str)]
abbrev kwis_row : List (List Str × List Nat) := []
abbrev nis_prime : List Str := [("number" : Str), ("divisor" : Str)]
abbrev pis_prime : List Str := [("number" : Str)]
abbrev kwis_prime : List (List Str × List Nat) := []
abbrev npowered : List Str := [("base" : Str), ("number" : Str), ("modulus" : Str), ("found" : Str)]
abbrev ppowered : List Str := [("base" : Str), ("number" : Str), ("modulus" : Str)]
abbrev kwpowered : List (List Str × List Nat) := []
abbrev nis_group_of : List Str := [("value" : Str), ("p" : Str), ("q" : Str), ("g" : Str), ("one" : Str)]
abbrev pis_group_of : List Str := [("value" : Str)]
abbrev kwis_group_of : List (List Str × List Nat) := []
abbrev nis_element_of : List Str := [("group" : Str), ("value" : Str)]
abbrev pis_element_of : List Str := [("group" : Str), ("value" : Str)]
abbrev kwis_element_of : List (List Str × List Nat) := []
abbrev ntimes_of : List Str := [("group" : Str), ("element" : Str), ("other" : Str)]
abbrev ptimes_of : List Str := [("group" : Str), ("element" : Str), ("other" : Str)]
abbrev kwtimes_of : List (List Str × List Nat) := []
abbrev npower_of : List Str := [("group" : Str), ("element" : Str), ("number" : Str)]
abbrev ppower_of : List Str := [("group" : Str), ("element" : Str), ("number" : Str)]
abbrev kwpower_of : List (List Str × List Nat) := []
abbrev nunder_of : List Str := [("group" : Str), ("element" : Str)]
abbrev punder_of : List Str := [("group" : Str), ("element" : Str)]
abbrev kwunder_of : List (List Str × List Nat) := []
abbrev nwant_group : List Str := [("value" : Str)]
abbrev pwant_group : List Str := [("value" : Str)]
abbrev kwwant_group : List (List Str × List Nat) := []
abbrev nwant_element : List Str := [("group" : Str), ("value" : Str)]
abbrev pwant_element : List Str := [("group" : Str), ("value" : Str)]
abbrev kwwant_element : List (List Str × List Nat) := []
abbrev ntimes : List Str := [("group" : Str), ("element" : Str), ("other_element" : Str)]
abbrev ptimes : List Str := [("group" : Str), ("element" : Str), ("other_element" : Str)]
abbrev kwtimes : List (List Str × List Nat) := []
abbrev nunder : List Str := [("group" : Str), ("element" : Str)]
abbrev punder : List Str := [("group" : Str), ("element" : Str)]
abbrev kwunder : List (List Str × List Nat) := []
abbrev nare_numbers : List Str := [("value" : Str), ("many" : Str), ("q" : Str), ("number" : Str)]
abbrev pare_numbers : List Str := [("value" : Str), ("many" : Str), ("q" : Str)]
abbrev kware_numbers : List (List Str × List Nat) := []
abbrev nare_elements : List Str := [("group" : Str), ("value" : Str), ("many" : Str), ("one" : Str)]
abbrev pare_elements : List Str := [("group" : Str), ("value" : Str), ("many" : Str)]
abbrev kware_elements : List (List Str × List Nat) := []
abbrev nproduct_of : List Str := [("group" : Str), ("bases" : Str), ("numbers" : Str), ("found" : Str), ("base" : Str), ("number" : Str)]
abbrev pproduct_of : List Str := [("group" : Str), ("bases" : Str), ("numbers" : Str)]
abbrev kwproduct_of : List (List Str × List Nat) := []
abbrev nis_check_of : List Str := [("group" : Str), ("value" : Str), ("many" : Str)]
abbrev pis_check_of : List Str := [("group" : Str), ("value" : Str)]
abbrev kwis_check_of : List (List Str × List Nat) := []
abbrev nis_lot_of : List Str := [("group" : Str), ("value" : Str), ("one" : Str)]
abbrev pis_lot_of : List Str := [("group" : Str), ("value" : Str)]
abbrev kwis_lot_of : List (List Str × List Nat) := []
abbrev nfault_of : List Str := [("group" : Str), ("check" : Str)]
abbrev pfault_of : List Str := [("group" : Str), ("check" : Str)]
abbrev kwfault_of : List (List Str × List Nat) := []
abbrev nfaults_of : List Str := [("group" : Str), ("lot" : Str), ("check" : Str)]
abbrev pfaults_of : List Str := [("group" : Str), ("lot" : Str)]
abbrev kwfaults_of : List (List Str × List Nat) := []
abbrev nwant_check : List Str := [("group" : Str), ("value" : Str)]
abbrev pwant_check : List Str := [("group" : Str), ("value" : Str)]
abbrev kwwant_check : List (List Str × List Nat) := []
abbrev nwant_lot : List Str := [("group" : Str), ("value" : Str)]
abbrev pwant_lot : List Str := [("group" : Str), ("value" : Str)]
abbrev kwwant_lot : List (List Str × List Nat) := []
abbrev nis_check : List Str := [("group" : Str), ("value" : Str)]
abbrev pis_check : List Str := [("group" : Str), ("value" : Str)]
abbrev kwis_check : List (List Str × List Nat) := []
abbrev nfault : List Str := [("group" : Str), ("check" : Str)]
abbrev pfault : List Str := [("group" : Str), ("check" : Str)]
abbrev kwfault : List (List Str × List Nat) := [([("check" : Str), ("group" : Str)], [1, 0])]
abbrev ndoes_hold : List Str := [("group" : Str), ("check" : Str)]
abbrev pdoes_hold : List Str := [("group" : Str), ("check" : Str)]
abbrev kwdoes_hold : List (List Str × List Nat) := [([("check" : Str), ("group" : Str)], [1, 0])]
abbrev nfalse_ones : List Str := [("group" : Str), ("lot" : Str), ("found" : Str), ("at" : Str), ("element" : Str)]
abbrev pfalse_ones : List Str := [("group" : Str), ("lot" : Str)]
abbrev kwfalse_ones : List (List Str × List Nat) := [([("lot" : Str), ("group" : Str)], [1, 0])]
abbrev n_law_pot : List Str := [("script" : Str), ("k" : Str), ("cell" : Str)]
abbrev p_law_pot : List Str := [("script" : Str), ("k" : Str)]
abbrev kw_law_pot : List (List Str × List Nat) := []
abbrev n_law_draw : List Str := [("pot" : Str), ("many" : Str), ("digit" : Str)]
abbrev p_law_draw : List Str := [("pot" : Str), ("many" : Str)]
abbrev kw_law_draw : List (List Str × List Nat) := []
abbrev n_law_pick : List Str := [("pot" : Str), ("some" : Str)]
abbrev p_law_pick : List Str := [("pot" : Str), ("some" : Str)]
abbrev kw_law_pick : List (List Str × List Nat) := []
abbrev n_law_group : List Str := [("pot" : Str)]
abbrev p_law_group : List Str := [("pot" : Str)]
abbrev kw_law_group : List (List Str × List Nat) := []
abbrev n_law_power : List Str := [("group" : Str), ("base" : Str), ("number" : Str), ("found" : Str), ("turn" : Str)]
abbrev p_law_power : List Str := [("group" : Str), ("base" : Str), ("number" : Str)]
abbrev kw_law_power : List (List Str × List Nat) := []
abbrev n_law_element : List Str := [("pot" : Str), ("group" : Str)]
abbrev p_law_element : List Str := [("pot" : Str), ("group" : Str)]
abbrev kw_law_element : List (List Str × List Nat) := []
abbrev n_law_log : List Str := [("group" : Str), ("element" : Str), ("here" : Str), ("found" : Str)]
abbrev p_law_log : List Str := [("group" : Str), ("element" : Str)]
abbrev kw_law_log : List (List Str × List Nat) := []
abbrev n_law_product : List Str := [("group" : Str), ("bases" : Str), ("numbers" : Str), ("found" : Str), ("base" : Str), ("number" : Str)]
abbrev p_law_product : List Str := [("group" : Str), ("bases" : Str), ("numbers" : Str)]
abbrev kw_law_product : List (List Str × List Nat) := []
abbrev n_law_check : List Str := [("pot" : Str), ("group" : Str), ("bases" : Str), ("numbers" : Str), ("target" : Str), ("base" : Str)]
abbrev p_law_check : List Str := [("pot" : Str), ("group" : Str)]
abbrev kw_law_check : List (List Str × List Nat) := []
abbrev n_law_lot : List Str := [("pot" : Str), ("group" : Str), ("most" : Str), ("turn" : Str)]
abbrev p_law_lot : List Str := [("pot" : Str), ("group" : Str), ("most" : Str)]
abbrev kw_law_lot : List (List Str × List Nat) := []
abbrev n_law_fault : List Str := [("group" : Str), ("check" : Str)]
abbrev p_law_fault : List Str := [("group" : Str), ("check" : Str)]
abbrev kw_law_fault : List (List Str × List Nat) := []
abbrev n_law_check_right : List Str := [("pot" : Str), ("group" : Str), ("check" : Str), ("due" : Str), ("element" : Str), ("late" : Str), ("more" : Str), ("turned" : Str)]
abbrev p_law_check_right : List Str := [("pot" : Str), ("group" : Str), ("check" : Str)]
abbrev kw_law_check_right : List (List Str × List Nat) := []
abbrev n_law_right : List Str := [("pot" : Str), ("group" : Str), ("lot" : Str), ("shown" : Str), ("due" : Str), ("told" : Str), ("check" : Str), ("at" : Str)]
abbrev p_law_right : List Str := [("pot" : Str)]
abbrev kw_law_right : List (List Str × List Nat) := []
abbrev nlaw : List Str := [("script" : Str), ("k" : Str)]
abbrev plaw : List Str := [("script" : Str)]
abbrev kwlaw : List (List Str × List Nat) := []
theorem scis_integer : FnScope nis_integer pis_integer (defScope sis_integer) := ⟨rfl, rfl, rfl, by decide +kernel, rfl, by decide +kernel, by decide +kernel⟩
theorem scis_count : FnScope nis_count pis_count (defScope sis_count) := ⟨rfl, rfl, rfl, by decide +kernel, rfl, by decide +kernel, by decide +kernel⟩
theorem scis_below : FnScope nis_below pis_below (defScope sis_below) := ⟨rfl, rfl, rfl, by decide +kernel, rfl, by decide +kernel, by decide +kernel⟩
theorem scis_row : FnScope nis_row pis_row (defScope sis_row) := ⟨rfl, rfl, rfl, by decide +kernel, rfl, by decide +kernel, by decide +kernel⟩
theorem scis_prime : FnScope nis_prime pis_prime (defScope sis_prime) := ⟨rfl, rfl, rfl, by decide +kernel, rfl, by decide +kernel, by decide +kernel⟩
theorem scpowered : FnScope npowered ppowered (defScope spowered) := ⟨rfl, rfl, rfl, by decide +kernel, rfl, by decide +kernel, by decide +kernel⟩
theorem scis_group_of : FnScope nis_group_of pis_group_of (defScope sis_group_of) := ⟨rfl, rfl, rfl, by decide +kernel, rfl, by decide +kernel, by decide +kernel⟩
theorem scis_element_of : FnScope nis_element_of pis_element_of (defScope sis_element_of) := ⟨rfl, rfl, rfl, by decide +kernel, rfl, by decide +kernel, by decide +kernel⟩
theorem sctimes_of : FnScope ntimes_of ptimes_of (defScope stimes_of) := ⟨rfl, rfl, rfl, by decide +kernel, rfl, by decide +kernel, by decide +kernel⟩
theorem scpower_of : FnScope npower_of ppower_of (defScope spower_of) := ⟨rfl, rfl, rfl, by decide +kernel, rfl, by decide +kernel, by decide +kernel⟩
theorem scunder_of : FnScope nunder_of punder_of (defScope sunder_of) := ⟨rfl, rfl, rfl, by decide +kernel, rfl, by decide +kernel, by decide +kernel⟩
theorem scwant_group : FnScope nwant_group pwant_group (defScope swant_group) := ⟨rfl, rfl, rfl, by decide +kernel, rfl, by decide +kernel, by decide +kernel⟩
theorem scwant_element : FnScope nwant_element pwant_element (defScope swant_element) := ⟨rfl, rfl, rfl, by decide +kernel, rfl, by decide +kernel, by decide +kernel⟩
theorem sctimes : FnScope ntimes ptimes (defScope stimes) := ⟨rfl, rfl, rfl, by decide +kernel, rfl, by decide +kernel, by decide +kernel⟩
theorem scunder : FnScope nunder punder (defScope sunder) := ⟨rfl, rfl, rfl, by decide +kernel, rfl, by decide +kernel, by decide +kernel⟩
theorem scare_numbers : FnScope nare_numbers pare_numbers (defScope sare_numbers) := ⟨rfl, rfl, rfl, by decide +kernel, rfl, by decide +kernel, by decide +kernel⟩
theorem scare_elements : FnScope nare_elements pare_elements (defScope sare_elements) := ⟨rfl, rfl, rfl, by decide +kernel, rfl, by decide +kernel, by decide +kernel⟩
theorem scproduct_of : FnScope nproduct_of pproduct_of (defScope sproduct_of) := ⟨rfl, rfl, rfl, by decide +kernel, rfl, by decide +kernel, by decide +kernel⟩
theorem scis_check_of : FnScope nis_check_of pis_check_of (defScope sis_check_of) := ⟨rfl, rfl, rfl, by decide +kernel, rfl, by decide +kernel, by decide +kernel⟩
theorem scis_lot_of : FnScope nis_lot_of pis_lot_of (defScope sis_lot_of) := ⟨rfl, rfl, rfl, by decide +kernel, rfl, by decide +kernel, by decide +kernel⟩
theorem scfault_of : FnScope nfault_of pfault_of (defScope sfault_of) := ⟨rfl, rfl, rfl, by decide +kernel, rfl, by decide +kernel, by decide +kernel⟩
theorem scfaults_of : FnScope nfaults_of pfaults_of (defScope sfaults_of) := ⟨rfl, rfl, rfl, by decide +kernel, rfl, by decide +kernel, by decide +kernel⟩
theorem scwant_check : FnScope nwant_check pwant_check (defScope swant_check) := ⟨rfl, rfl, rfl, by decide +kernel, rfl, by decide +kernel, by decide +kernel⟩
theorem scwant_lot : FnScope nwant_lot pwant_lot (defScope swant_lot) := ⟨rfl, rfl, rfl, by decide +kernel, rfl, by decide +kernel, by decide +kernel⟩
theorem scis_check : FnScope nis_check pis_check (defScope sis_check) := ⟨rfl, rfl, rfl, by decide +kernel, rfl, by decide +kernel, by decide +kernel⟩
theorem scfault : FnScope nfault pfault (defScope sfault) := ⟨rfl, rfl, rfl, by decide +kernel, rfl, by decide +kernel, by decide +kernel⟩
theorem scdoes_hold : FnScope ndoes_hold pdoes_hold (defScope sdoes_hold) := ⟨rfl, rfl, rfl, by decide +kernel, rfl, by decide +kernel, by decide +kernel⟩
theorem scfalse_ones : FnScope nfalse_ones pfalse_ones (defScope sfalse_ones) := ⟨rfl, rfl, rfl, by decide +kernel, rfl, by decide +kernel, by decide +kernel⟩
theorem sc_law_pot : FnScope n_law_pot p_law_pot (defScope s_law_pot) := ⟨rfl, rfl, rfl, by decide +kernel, rfl, by decide +kernel, by decide +kernel⟩
theorem sc_law_draw : FnScope n_law_draw p_law_draw (defScope s_law_draw) := ⟨rfl, rfl, rfl, by decide +kernel, rfl, by decide +kernel, by decide +kernel⟩
theorem sc_law_pick : FnScope n_law_pick p_law_pick (defScope s_law_pick) := ⟨rfl, rfl, rfl, by decide +kernel, rfl, by decide +kernel, by decide +kernel⟩
theorem sc_law_group : FnScope n_law_group p_law_group (defScope s_law_group) := ⟨rfl, rfl, rfl, by decide +kernel, rfl, by decide +kernel, by decide +kernel⟩
theorem sc_law_power : FnScope n_law_power p_law_power (defScope s_law_power) := ⟨rfl, rfl, rfl, by decide +kernel, rfl, by decide +kernel, by decide +kernel⟩
theorem sc_law_element : FnScope n_law_element p_law_element (defScope s_law_element) := ⟨rfl, rfl, rfl, by decide +kernel, rfl, by decide +kernel, by decide +kernel⟩
theorem sc_law_log : FnScope n_law_log p_law_log (defScope s_law_log) := ⟨rfl, rfl, rfl, by decide +kernel, rfl, by decide +kernel, by decide +kernel⟩
theorem sc_law_product : FnScope n_law_product p_law_product (defScope s_law_product) := ⟨rfl, rfl, rfl, by decide +kernel, rfl, by decide +kernel, by decide +kernel⟩
theorem sc_law_check : FnScope n_law_check p_law_check (defScope s_law_check) := ⟨rfl, rfl, rfl, by decide +kernel, rfl, by decide +kernel, by decide +kernel⟩
theorem sc_law_lot : FnScope n_law_lot p_law_lot (defScope s_law_lot) := ⟨rfl, rfl, rfl, by decide +kernel, rfl, by decide +kernel, by decide +kernel⟩
theorem sc_law_fault : FnScope n_law_fault p_law_fault (defScope s_law_fault) := ⟨rfl, rfl, rfl, by decide +kernel, rfl, by decide +kernel, by decide +kernel⟩
theorem sc_law_check_right : FnScope n_law_check_right p_law_check_right (defScope s_law_check_right) := ⟨rfl, rfl, rfl, by decide +kernel, rfl, by decide +kernel, by decide +kernel⟩
theorem sc_law_right : FnScope n_law_right p_law_right (defScope s_law_right) := ⟨rfl, rfl, rfl, by decide +kernel, rfl, by decide +kernel, by decide +kernel⟩
theorem sclaw : FnScope nlaw plaw (defScope slaw) := ⟨rfl, rfl, rfl, by decide +kernel, rfl, by decide +kernel, by decide +kernel⟩
/-- the names of the module that are not defs -/
structure Kn (p : Pr) : Prop where
  m_abs : p.mg ("abs" : Str) = none
  m_all : p.mg ("all" : Str) = none
  m_bool : p.mg ("bool" : Str) = none
  m_divmod : p.mg ("divmod" : Str) = none
  m_enumerate : p.mg ("enumerate" : Str) = none
  m_int : p.mg ("int" : Str) = none
  m_isinstance : p.mg ("isinstance" : Str) = none
  m_len : p.mg ("len" : Str) = none
  m_max : p.mg ("max" : Str) = none
  m_min : p.mg ("min" : Str) = none
  m_range : p.mg ("range" : Str) = none
  m_repr : p.mg ("repr" : Str) = none
  m_str : p.mg ("str" : Str) = none
  m_tuple : p.mg ("tuple" : Str) = none
  m_zip : p.mg ("zip" : Str) = none
  k_CHECK : CK p ("CHECK" : Str) (.str ("check" : Str))
  k_GROUP : CK p ("GROUP" : Str) (.str ("group" : Str))
  k_MOST_BASES : CK p ("MOST_BASES" : Str) (.int 5)
  k_MOST_CHECKS : CK p ("MOST_CHECKS" : Str) (.int 16)
  k_MOST_P : CK p ("MOST_P" : Str) (.int 999983)
  k_MOST_Q : CK p ("MOST_Q" : Str) (.int 9973)
structure Al (p : Pr) (n : Nat) (F : FT) : Prop where
  his_integer : FnAt p n ("is_integer" : Str) pis_integer kwis_integer (F i_is_integer)
  his_count : FnAt p n ("is_count" : Str) pis_count kwis_count (F i_is_count)
  his_below : FnAt p n ("is_below" : Str) pis_below kwis_below (F i_is_below)
  his_row : FnAt p n ("is_row" : Str) pis_row kwis_row (F i_is_row)
  his_prime : FnAt p n ("is_prime" : Str) pis_prime kwis_prime (F i_is_prime)
  hpowered : FnAt p n ("powered" : Str) ppowered kwpowered (F i_powered)
  his_group_of : FnAt p n ("is_group_of" : Str) pis_group_of kwis_group_of (F i_is_group_of)
  his_element_of : FnAt p n ("is_element_of" : Str) pis_element_of kwis_element_of (F i_is_element_of)
  htimes_of : FnAt p n ("times_of" : Str) ptimes_of kwtimes_of (F i_times_of)
  hpower_of : FnAt p n ("power_of" : Str) ppower_of kwpower_of (F i_power_of)
  hunder_of : FnAt p n ("under_of" : Str) punder_of kwunder_of (F i_under_of)
  hwant_group : FnAt p n ("want_group" : Str) pwant_group kwwant_group (F i_want_group)
  hwant_element : FnAt p n ("want_element" : Str) pwant_element kwwant_element (F i_want_element)
  htimes : FnAt p n ("times" : Str) ptimes kwtimes (F i_times)
  hunder : FnAt p n ("under" : Str) punder kwunder (F i_under)
  hare_numbers : FnAt p n ("are_numbers" : Str) pare_numbers kware_numbers (F i_are_numbers)
  hare_elements : FnAt p n ("are_elements" : Str) pare_elements kware_elements (F i_are_elements)
  hproduct_of : FnAt p n ("product_of" : Str) pproduct_of kwproduct_of (F i_product_of)
  his_check_of : FnAt p n ("is_check_of" : Str) pis_check_of kwis_check_of (F i_is_check_of)
  his_lot_of : FnAt p n ("is_lot_of" : Str) pis_lot_of kwis_lot_of (F i_is_lot_of)
  hfault_of : FnAt p n ("fault_of" : Str) pfault_of kwfault_of (F i_fault_of)
  hfaults_of : FnAt p n ("faults_of" : Str) pfaults_of kwfaults_of (F i_faults_of)
  hwant_check : FnAt p n ("want_check" : Str) pwant_check kwwant_check (F i_want_check)
  hwant_lot : FnAt p n ("want_lot" : Str) pwant_lot kwwant_lot (F i_want_lot)
  his_check : FnAt p n ("is_check" : Str) pis_check kwis_check (F i_is_check)
  hfault : FnAt p n ("fault" : Str) pfault kwfault (F i_fault)
  hdoes_hold : FnAt p n ("does_hold" : Str) pdoes_hold kwdoes_hold (F i_does_hold)
  hfalse_ones : FnAt p n ("false_ones" : Str) pfalse_ones kwfalse_ones (F i_false_ones)
  h_law_pot : FnAt p n ("_law_pot" : Str) p_law_pot kw_law_pot (F i__law_pot)
  h_law_draw : FnAt p n ("_law_draw" : Str) p_law_draw kw_law_draw (F i__law_draw)
  h_law_pick : FnAt p n ("_law_pick" : Str) p_law_pick kw_law_pick (F i__law_pick)
  h_law_group : FnAt p n ("_law_group" : Str) p_law_group kw_law_group (F i__law_group)
  h_law_power : FnAt p n ("_law_power" : Str) p_law_power kw_law_power (F i__law_power)
  h_law_element : FnAt p n ("_law_element" : Str) p_law_element kw_law_element (F i__law_element)
  h_law_log : FnAt p n ("_law_log" : Str) p_law_log kw_law_log (F i__law_log)
  h_law_product : FnAt p n ("_law_product" : Str) p_law_product kw_law_product (F i__law_product)
  h_law_check : FnAt p n ("_law_check" : Str) p_law_check kw_law_check (F i__law_check)
  h_law_lot : FnAt p n ("_law_lot" : Str) p_law_lot kw_law_lot (F i__law_lot)
  h_law_fault : FnAt p n ("_law_fault" : Str) p_law_fault kw_law_fault (F i__law_fault)
  h_law_check_right : FnAt p n ("_law_check_right" : Str) p_law_check_right kw_law_check_right (F i__law_check_right)
  h_law_right : FnAt p n ("_law_right" : Str) p_law_right kw_law_right (F i__law_right)
  hlaw : FnAt p n ("law" : Str) plaw kwlaw (F i_law)
def bis_integer (F : FT) : DenS :=
    (dRet (dAndV (dIsi "int" (dVar 0)) (dNotV (dIsi "bool" (dVar 0)))))
def bis_count (F : FT) : DenS :=
    (dRet (dAndV (dCall (F i_is_integer) (aCons (dVar 0) aNil)) (dGe (dVar 0) (dC (.int 0)))))
def bis_below (F : FT) : DenS :=
    (dRet (dAndV (dCall (F i_is_count) (aCons (dVar 0) aNil)) (dLt (dVar 0) (dVar 1))))
def bis_row (F : FT) : DenS :=
    (dRet (dAndV (dIsi "tuple" (dVar 0)) (dEq (dLen (aCons (dVar 0) aNil)) (dVar 1))))
def bis_prime (F : FT) : DenS :=
    (dSeq (dIfS (dT (dLt (dVar 0) (dC (.int 2)))) (dRet (dC (.bl false))) dNil)
    (dSeq (dSet false 1 (dC (.int 2)))
    (dSeq (dWh (dT (dLe (dMul (dVar 1) (dVar 1)) (dVar 0))) (dSeq (dIfS (dT (dEq (dMod (dVar 0) (dVar 1)) (dC (.int 0)))) (dRet (dC (.bl false))) dNil)
    (dAug 1 (fun a b => a + b) (dC (.int 1)))))
    (dRet (dC (.bl true))))))
def bpowered (F : FT) : DenS :=
    (dSeq (dSet false 3 (dC (.int 1)))
    (dSeq (dWh (dT (dGt (dVar 1) (dC (.int 0)))) (dSeq (dIfS (dT (dEq (dMod (dVar 1) (dC (.int 2))) (dC (.int 1)))) (dSet false 3 (dMod (dMul (dVar 3) (dVar 0)) (dVar 2))) dNil)
    (dPar 0 1 (dMod (dMul (dVar 0) (dVar 0)) (dVar 2)) (dDiv (dVar 1) (dC (.int 2))))))
    (dRet (dVar 3))))
def bis_group_of (F : FT) : DenS :=
    (dSeq (dIfS (tOrD (tNotD (dT (dCall (F i_is_row) (aCons (dVar 0) (aCons (dC (.int 4)) aNil))))) (tOrD (tNotD (dT (dIsi "str" (dIx (dVar 0) (dC (.int 0)))))) (dT (dNe (dIx (dVar 0) (dC (.int 0))) (dC (.str ("group" : Str))))))) (dRet (dC (.bl false))) dNil)
    (dSeq (dAsg (dSl (dVar 0) (oSome (dC (.int 1))) oNone) (gdTup (gdCons (gdName 1) (gdCons (gdName 2) (gdCons (gdName 3) gdNil)))))
    (dSeq (dIfS (tOrD (tNotD (dT (dAll (aCons (dLc (dSrc (dTup (aCons (dVar 1) (aCons (dVar 2) (aCons (dVar 3) aNil))))) (gdName 4) dYes (dCall (F i_is_integer) (aCons (dVar 4) aNil)) [4]) aNil)))) (tOrD (dT (dGt (dVar 1) (dC (.int 999983)))) (tOrD (dT (dGt (dVar 2) (dC (.int 9973)))) (tNotD (dT (dLeLt (dC (.int 2)) (dVar 3) (dVar 1))))))) (dRet (dC (.bl false))) dNil)
    (dSeq (dIfS (tOrD (tNotD (dT (dCall (F i_is_prime) (aCons (dVar 1) aNil)))) (tOrD (tNotD (dT (dCall (F i_is_prime) (aCons (dVar 2) aNil)))) (dT (dNe (dMod (dSub (dVar 1) (dC (.int 1))) (dVar 2)) (dC (.int 0)))))) (dRet (dC (.bl false))) dNil)
    (dRet (dEq (dCall (F i_powered) (aCons (dVar 3) (aCons (dVar 2) (aCons (dVar 1) aNil)))) (dC (.int 1))))))))
def bis_element_of (F : FT) : DenS :=
    (dRet (dAndV (dCall (F i_is_integer) (aCons (dVar 1) aNil)) (dAndV (dLeLt (dC (.int 1)) (dVar 1) (dIx (dVar 0) (dC (.int 1)))) (dEq (dCall (F i_powered) (aCons (dVar 1) (aCons (dIx (dVar 0) (dC (.int 2))) (aCons (dIx (dVar 0) (dC (.int 1))) aNil)))) (dC (.int 1))))))
def btimes_of (F : FT) : DenS :=
    (dRet (dMod (dMul (dVar 1) (dVar 2)) (dIx (dVar 0) (dC (.int 1)))))
def bpower_of (F : FT) : DenS :=
    (dRet (dCall (F i_powered) (aCons (dVar 1) (aCons (dVar 2) (aCons (dIx (dVar 0) (dC (.int 1))) aNil)))))
def bunder_of (F : FT) : DenS :=
    (dRet (dCall (F i_powered) (aCons (dVar 1) (aCons (dSub (dIx (dVar 0) (dC (.int 2))) (dC (.int 1))) (aCons (dIx (dVar 0) (dC (.int 1))) aNil)))))
def bwant_group (F : FT) : DenS :=
    (dSeq (dIfS (tNotD (dT (dCall (F i_is_group_of) (aCons (dVar 0) aNil)))) dNo dNil)
    (dRet (dVar 0)))
def bwant_element (F : FT) : DenS :=
    (dSeq (dIfS (tNotD (dT (dCall (F i_is_element_of) (aCons (dVar 0) (aCons (dVar 1) aNil))))) dNo dNil)
    (dRet (dVar 1)))
def btimes (F : FT) : DenS :=
    (dSeq (dEx (dCall (F i_want_element) (aCons (dCall (F i_want_group) (aCons (dVar 0) aNil)) (aCons (dVar 1) aNil))))
    (dRet (dCall (F i_times_of) (aCons (dVar 0) (aCons (dVar 1) (aCons (dCall (F i_want_element) (aCons (dVar 0) (aCons (dVar 2) aNil))) aNil))))))
def bunder (F : FT) : DenS :=
    (dRet (dCall (F i_under_of) (aCons (dCall (F i_want_group) (aCons (dVar 0) aNil)) (aCons (dCall (F i_want_element) (aCons (dVar 0) (aCons (dVar 1) aNil))) aNil))))
def bare_numbers (F : FT) : DenS :=
    (dRet (dAndV (dCall (F i_is_row) (aCons (dVar 0) (aCons (dVar 1) aNil))) (dAll (aCons (dLc (dSrc (dVar 0)) (gdName 3) dYes (dCall (F i_is_below) (aCons (dVar 3) (aCons (dVar 2) aNil))) [3]) aNil))))
def bare_elements (F : FT) : DenS :=
    (dRet (dAndV (dCall (F i_is_row) (aCons (dVar 1) (aCons (dVar 2) aNil))) (dAll (aCons (dLc (dSrc (dVar 1)) (gdName 3) dYes (dCall (F i_is_element_of) (aCons (dVar 0) (aCons (dVar 3) aNil))) [3]) aNil))))
def bproduct_of (F : FT) : DenS :=
    (dSeq (dSet false 3 (dC (.int 1)))
    (dSeq (dFor (dZip (aCons (dVar 1) (aCons (dVar 2) aNil))) (gdTup (gdCons (gdName 4) (gdCons (gdName 5) gdNil))) (dSet false 3 (dCall (F i_times_of) (aCons (dVar 0) (aCons (dVar 3) (aCons (dCall (F i_power_of) (aCons (dVar 0) (aCons (dVar 4) (aCons (dVar 5) aNil)))) aNil))))))
    (dRet (dVar 3))))
def bis_check_of (F : FT) : DenS :=
    (dSeq (dIfS (tOrD (tNotD (dT (dCall (F i_is_row) (aCons (dVar 1) (aCons (dC (.int 4)) aNil))))) (tOrD (tNotD (dT (dIsi "str" (dIx (dVar 1) (dC (.int 0)))))) (tOrD (dT (dNe (dIx (dVar 1) (dC (.int 0))) (dC (.str ("check" : Str))))) (tNotD (dT (dIsi "tuple" (dIx (dVar 1) (dC (.int 1))))))))) (dRet (dC (.bl false))) dNil)
    (dSeq (dSet false 2 (dLen (aCons (dIx (dVar 1) (dC (.int 1))) aNil)))
    (dSeq (dIfS (tOrD (tNotD (dT (dLeLe (dC (.int 1)) (dVar 2) (dC (.int 5))))) (tOrD (tNotD (dT (dCall (F i_are_elements) (aCons (dVar 0) (aCons (dIx (dVar 1) (dC (.int 1))) (aCons (dVar 2) aNil)))))) (tNotD (dT (dCall (F i_is_element_of) (aCons (dVar 0) (aCons (dIx (dVar 1) (dC (.int 3))) aNil))))))) (dRet (dC (.bl false))) dNil)
    (dRet (dCall (F i_are_numbers) (aCons (dIx (dVar 1) (dC (.int 2))) (aCons (dVar 2) (aCons (dIx (dVar 0) (dC (.int 2))) aNil))))))))
def bis_lot_of (F : FT) : DenS :=
    (dSeq (dIfS (tOrD (tNotD (dT (dIsi "tuple" (dVar 1)))) (tNotD (dT (dLeLe (dC (.int 1)) (dLen (aCons (dVar 1) aNil)) (dC (.int 16)))))) (dRet (dC (.bl false))) dNil)
    (dRet (dAll (aCons (dLc (dSrc (dVar 1)) (gdName 2) dYes (dCall (F i_is_check_of) (aCons (dVar 0) (aCons (dVar 2) aNil))) [2]) aNil))))
def bfault_of (F : FT) : DenS :=
    (dRet (dCall (F i_times_of) (aCons (dVar 0) (aCons (dCall (F i_product_of) (aCons (dVar 0) (aCons (dIx (dVar 1) (dC (.int 1))) (aCons (dIx (dVar 1) (dC (.int 2))) aNil)))) (aCons (dCall (F i_under_of) (aCons (dVar 0) (aCons (dIx (dVar 1) (dC (.int 3))) aNil))) aNil)))))
def bfaults_of (F : FT) : DenS :=
    (dRet (dLc (dSrc (dVar 1)) (gdName 2) dYes (dCall (F i_fault_of) (aCons (dVar 0) (aCons (dVar 2) aNil))) [2]))
def bwant_check (F : FT) : DenS :=
    (dSeq (dIfS (tNotD (dT (dCall (F i_is_check_of) (aCons (dVar 0) (aCons (dVar 1) aNil))))) dNo dNil)
    (dRet (dVar 1)))
def bwant_lot (F : FT) : DenS :=
    (dSeq (dIfS (tNotD (dT (dCall (F i_is_lot_of) (aCons (dVar 0) (aCons (dVar 1) aNil))))) dNo dNil)
    (dRet (dVar 1)))
def bis_check (F : FT) : DenS :=
    (dRet (dCall (F i_is_check_of) (aCons (dCall (F i_want_group) (aCons (dVar 0) aNil)) (aCons (dVar 1) aNil))))
def bfault (F : FT) : DenS :=
    (dRet (dCall (F i_fault_of) (aCons (dCall (F i_want_group) (aCons (dVar 0) aNil)) (aCons (dCall (F i_want_check) (aCons (dVar 0) (aCons (dVar 1) aNil))) aNil))))
def bdoes_hold (F : FT) : DenS :=
    (dRet (dEq (dCall (F i_fault_of) (aCons (dCall (F i_want_group) (aCons (dVar 0) aNil)) (aCons (dCall (F i_want_check) (aCons (dVar 0) (aCons (dVar 1) aNil))) aNil))) (dC (.int 1))))
def bfalse_ones (F : FT) : DenS :=
    (dSeq (dSet false 2 (dCall (F i_faults_of) (aCons (dCall (F i_want_group) (aCons (dVar 0) aNil)) (aCons (dCall (F i_want_lot) (aCons (dVar 0) (aCons (dVar 1) aNil))) aNil))))
    (dRet (dLc (dEnum (aCons (dVar 2) aNil)) (gdTup (gdCons (gdName 3) (gdCons (gdName 4) gdNil))) (dT (dNe (dVar 4) (dC (.int 1)))) (dVar 3) [3, 4])))
def b_law_pot (F : FT) : DenS :=
    (dSeq (dSet false 2 (dIf (dT (dLt (dVar 1) (dLen (aCons (dVar 0) aNil)))) (dAbs (aCons (dIx (dVar 0) (dVar 1)) aNil)) (dAdd (dMul (dC (.int 2339)) (dVar 1)) (dC (.int 1217)))))
    (dRet (dLst (aCons (dMax2 (aCons (dC (.int 0)) (aCons (dSub (dVar 2) (dPow (dC (.int 10)) (dC (.int 18)))) aNil))) (aCons (dAdd (dMod (dInt (aCons (dAdd (dAdd (dMul (dMod (dInt (aCons (dVar 2) aNil)) (dC (.int 2147483549))) (dC (.int 40014))) (dMul (dC (.int 3581)) (dVar 1))) (dC (.int 1951))) aNil)) (dC (.int 2147483563))) (dC (.int 1))) aNil)))))
def b_law_draw (F : FT) : DenS :=
    (dSeq (dIfS (dT (dGt (dIx (dVar 0) (dC (.int 0))) (dC (.int 0)))) (dSeq (dAsg (dDivmod (aCons (dIx (dVar 0) (dC (.int 0))) (aCons (dVar 1) aNil))) (gdTup (gdCons (gdSub (dVar 0) (dC (.int 0))) (gdCons (gdName 2) gdNil))))
    (dRet (dVar 2))) dNil)
    (dSeq (dAsg (dMod (dInt (aCons (dAdd (dMul (dIx (dVar 0) (dC (.int 1))) (dC (.int 40692))) (dC (.int 7481))) aNil)) (dC (.int 2147483587))) (gdSub (dVar 0) (dC (.int 1))))
    (dRet (dMod (dInt (aCons (dDiv (dMod (dInt (aCons (dMul (dIx (dVar 0) (dC (.int 1))) (dIx (dVar 0) (dC (.int 1)))) aNil)) (dC (.int 2147483549))) (dC (.int 17))) aNil)) (dVar 1)))))
def b_law_pick (F : FT) : DenS :=
    (dRet (dIx (dVar 1) (dCall (F i__law_draw) (aCons (dVar 0) (aCons (dLen (aCons (dVar 1) aNil)) aNil)))))
def b_law_group (F : FT) : DenS :=
    (dRet (dAdd (dTup (aCons (dC (.str ("group" : Str))) aNil)) (dCall (F i__law_pick) (aCons (dVar 0) (aCons (dLst (aCons (dTup (aCons (dC (.int 23)) (aCons (dC (.int 11)) (aCons (dC (.int 2)) aNil)))) (aCons (dTup (aCons (dC (.int 47)) (aCons (dC (.int 23)) (aCons (dC (.int 2)) aNil)))) (aCons (dTup (aCons (dC (.int 11)) (aCons (dC (.int 5)) (aCons (dC (.int 3)) aNil)))) (aCons (dTup (aCons (dC (.int 7)) (aCons (dC (.int 3)) (aCons (dC (.int 2)) aNil)))) (aCons (dTup (aCons (dC (.int 607)) (aCons (dC (.int 101)) (aCons (dC (.int 64)) aNil)))) (aCons (dTup (aCons (dC (.int 23)) (aCons (dC (.int 11)) (aCons (dC (.int 3)) aNil)))) (aCons (dTup (aCons (dC (.int 3)) (aCons (dC (.int 2)) (aCons (dC (.int 2)) aNil)))) aNil)))))))) aNil)))))
def b_law_power (F : FT) : DenS :=
    (dSeq (dSet false 3 (dC (.int 1)))
    (dSeq (dFor (dRng1 (aCons (dVar 2) aNil)) (gdName 4) (dSet false 3 (dMod (dInt (aCons (dMul (dVar 3) (dVar 1)) aNil)) (dIx (dVar 0) (dC (.int 1))))))
    (dRet (dVar 3))))
def b_law_element (F : FT) : DenS :=
    (dRet (dCall (F i__law_power) (aCons (dVar 1) (aCons (dIx (dVar 1) (dC (.int 3))) (aCons (dCall (F i__law_draw) (aCons (dVar 0) (aCons (dIx (dVar 1) (dC (.int 2))) aNil))) aNil)))))
def b_law_log (F : FT) : DenS :=
    (dSeq (dSet false 2 (dC (.int 1)))
    (dSeq (dFor (dRng1 (aCons (dIx (dVar 0) (dC (.int 2))) aNil)) (gdName 3) (dSeq (dIfS (dT (dEq (dVar 2) (dVar 1))) (dRet (dVar 3)) dNil)
    (dSet false 2 (dMod (dInt (aCons (dMul (dVar 2) (dIx (dVar 0) (dC (.int 3)))) aNil)) (dIx (dVar 0) (dC (.int 1)))))))
    (dRet (dC (.int 0)))))
def b_law_product (F : FT) : DenS :=
    (dSeq (dSet false 3 (dC (.int 1)))
    (dSeq (dFor (dZip (aCons (dVar 1) (aCons (dVar 2) aNil))) (gdTup (gdCons (gdName 4) (gdCons (gdName 5) gdNil))) (dSet false 3 (dMod (dInt (aCons (dMul (dVar 3) (dCall (F i__law_power) (aCons (dVar 0) (aCons (dVar 4) (aCons (dVar 5) aNil))))) aNil)) (dIx (dVar 0) (dC (.int 1))))))
    (dRet (dVar 3))))
def b_law_check (F : FT) : DenS :=
    (dSeq (dSet false 2 (dTuple (aCons (dLc (dRng1 (aCons (dAdd (dC (.int 1)) (dCall (F i__law_draw) (aCons (dVar 0) (aCons (dC (.int 4)) aNil)))) aNil)) (gdName 5) dYes (dCall (F i__law_element) (aCons (dVar 0) (aCons (dVar 1) aNil))) [5]) aNil)))
    (dSeq (dSet false 3 (dTuple (aCons (dLc (dSrc (dVar 2)) (gdName 5) dYes (dCall (F i__law_draw) (aCons (dVar 0) (aCons (dIx (dVar 1) (dC (.int 2))) aNil))) [5]) aNil)))
    (dSeq (dSet false 4 (dCall (F i__law_product) (aCons (dVar 1) (aCons (dVar 2) (aCons (dVar 3) aNil)))))
    (dSeq (dIfS (dT (dEq (dCall (F i__law_draw) (aCons (dVar 0) (aCons (dC (.int 3)) aNil))) (dC (.int 0)))) (dSet false 4 (dMod (dInt (aCons (dMul (dVar 4) (dCall (F i__law_element) (aCons (dVar 0) (aCons (dVar 1) aNil)))) aNil)) (dIx (dVar 1) (dC (.int 1))))) dNil)
    (dRet (dTup (aCons (dC (.str ("check" : Str))) (aCons (dVar 2) (aCons (dVar 3) (aCons (dVar 4) aNil))))))))))
def b_law_lot (F : FT) : DenS :=
    (dRet (dTuple (aCons (dLc (dRng1 (aCons (dAdd (dC (.int 1)) (dCall (F i__law_draw) (aCons (dVar 0) (aCons (dVar 2) aNil)))) aNil)) (gdName 3) dYes (dCall (F i__law_check) (aCons (dVar 0) (aCons (dVar 1) aNil))) [3]) aNil)))
def b_law_fault (F : FT) : DenS :=
    (dRet (dMod (dInt (aCons (dSub (dCall (F i__law_log) (aCons (dVar 0) (aCons (dCall (F i__law_product) (aCons (dVar 0) (aCons (dIx (dVar 1) (dC (.int 1))) (aCons (dIx (dVar 1) (dC (.int 2))) aNil)))) aNil))) (dCall (F i__law_log) (aCons (dVar 0) (aCons (dIx (dVar 1) (dC (.int 3))) aNil)))) aNil)) (dIx (dVar 0) (dC (.int 2)))))
def b_law_check_right (F : FT) : DenS :=
    (dSeq (dSet false 3 (dCall (F i__law_power) (aCons (dVar 1) (aCons (dIx (dVar 1) (dC (.int 3))) (aCons (dCall (F i__law_fault) (aCons (dVar 1) (aCons (dVar 2) aNil))) aNil)))))
    (dSeq (dIfS (dT (dNe (dRepr (aCons (dLst (aCons (dCall (F i_fault) (aCons (dVar 1) (aCons (dVar 2) aNil))) (aCons (dCallK (F i_fault) [1, 0] (aCons (dVar 2) (aCons (dVar 1) aNil))) aNil))) aNil)) (dRepr (aCons (dLst (aCons (dVar 3) (aCons (dVar 3) aNil))) aNil)))) (dRet (dC (.bl false))) dNil)
    (dSeq (dIfS (tOrD (dT (dNe (dRepr (aCons (dLst (aCons (dCall (F i_does_hold) (aCons (dVar 1) (aCons (dVar 2) aNil))) (aCons (dCallK (F i_does_hold) [1, 0] (aCons (dVar 2) (aCons (dVar 1) aNil))) aNil))) aNil)) (dRepr (aCons (dLst (aCons (dEq (dVar 3) (dC (.int 1))) (aCons (dEq (dVar 3) (dC (.int 1))) aNil))) aNil)))) (dT (dIsNot (dCall (F i_is_check) (aCons (dVar 1) (aCons (dVar 2) aNil))) (dC (.bl true))))) (dRet (dC (.bl false))) dNil)
    (dSeq (dSet false 4 (dCall (F i__law_element) (aCons (dVar 0) (aCons (dVar 1) aNil))))
    (dSeq (dSet false 5 (dTup (aCons (dC (.str ("check" : Str))) (aCons (dIx (dVar 2) (dC (.int 1))) (aCons (dIx (dVar 2) (dC (.int 2))) (aCons (dCall (F i_times) (aCons (dVar 1) (aCons (dIx (dVar 2) (dC (.int 3))) (aCons (dVar 4) aNil)))) aNil))))))
    (dSeq (dIfS (dT (dNe (dCall (F i_fault) (aCons (dVar 1) (aCons (dVar 5) aNil))) (dCall (F i_times) (aCons (dVar 1) (aCons (dVar 3) (aCons (dCall (F i_under) (aCons (dVar 1) (aCons (dVar 4) aNil))) aNil)))))) (dRet (dC (.bl false))) dNil)
    (dSeq (dIfS (dT (dLt (dLen (aCons (dIx (dVar 2) (dC (.int 1))) aNil)) (dC (.int 5)))) (dSeq (dSet false 6 (dTup (aCons (dC (.str ("check" : Str))) (aCons (dAdd (dIx (dVar 2) (dC (.int 1))) (dTup (aCons (dVar 4) aNil))) (aCons (dAdd (dIx (dVar 2) (dC (.int 2))) (dTup (aCons (dC (.int 1)) aNil))) (aCons (dIx (dVar 2) (dC (.int 3))) aNil))))))
    (dIfS (dT (dNe (dCall (F i_fault) (aCons (dVar 1) (aCons (dVar 6) aNil))) (dCall (F i_times) (aCons (dVar 1) (aCons (dVar 3) (aCons (dVar 4) aNil)))))) (dRet (dC (.bl false))) dNil)) dNil)
    (dSeq (dSet false 7 (dTup (aCons (dC (.str ("check" : Str))) (aCons (dRev (dIx (dVar 2) (dC (.int 1)))) (aCons (dRev (dIx (dVar 2) (dC (.int 2)))) (aCons (dIx (dVar 2) (dC (.int 3))) aNil))))))
    (dRet (dEq (dCall (F i_fault) (aCons (dVar 1) (aCons (dVar 7) aNil))) (dVar 3)))))))))))
def b_law_right (F : FT) : DenS :=
    (dSeq (dSet false 1 (dCall (F i__law_group) (aCons (dVar 0) aNil)))
    (dSeq (dSet false 2 (dCall (F i__law_lot) (aCons (dVar 0) (aCons (dVar 1) (aCons (dC (.int 8)) aNil)))))
    (dSeq (dSet false 3 (dRepr (aCons (dVar 2) aNil)))
    (dSeq (dIfS (tNotD (dT (dAll (aCons (dLc (dSrc (dVar 2)) (gdName 6) dYes (dCall (F i__law_check_right) (aCons (dVar 0) (aCons (dVar 1) (aCons (dVar 6) aNil)))) [6]) aNil)))) (dRet (dC (.bl false))) dNil)
    (dSeq (dSet false 4 (dLc (dEnum (aCons (dVar 2) aNil)) (gdTup (gdCons (gdName 7) (gdCons (gdName 6) gdNil))) (dT (dNe (dCall (F i__law_fault) (aCons (dVar 1) (aCons (dVar 6) aNil))) (dC (.int 0)))) (dVar 7) [7, 6]))
    (dSeq (dSet false 5 (dLst (aCons (dShare (dCall (F i_false_ones) (aCons (dVar 1) (aCons (dVar 2) aNil)))) (aCons (dShare (dCallK (F i_false_ones) [1, 0] (aCons (dVar 2) (aCons (dVar 1) aNil)))) aNil))))
    (dSeq (dIfS (dT (dNe (dRepr (aCons (dVar 5) aNil)) (dRepr (aCons (dLst (aCons (dVar 4) (aCons (dVar 4) aNil))) aNil)))) (dRet (dC (.bl false))) dNil)
    (dSeq (dEx (dApp (dIx (dVar 5) (dC (.int 0))) (aCons (dC .non) aNil)))
    (dRet (dAndV (dEq (dRepr (aCons (dCall (F i_false_ones) (aCons (dVar 1) (aCons (dVar 2) aNil))) aNil)) (dRepr (aCons (dVar 4) aNil))) (dEq (dRepr (aCons (dVar 2) aNil)) (dVar 3))))))))))))
def blaw (F : FT) : DenS :=
    (dRet (dAll (aCons (dLc (dRng1 (aCons (dMax2 (aCons (dC (.int 1)) (aCons (dMin2 (aCons (dC (.int 2)) (aCons (dLen (aCons (dVar 0) aNil)) aNil))) aNil))) aNil)) (gdName 1) dYes (dCallP (F i__law_right) (dCall (F i__law_pot) (aCons (dVar 0) (aCons (dVar 1) aNil)))) [1]) aNil)))
section
variable {p : Pr} {n : Nat} {F : FT}
theorem wis_integer (B : Kn p) (A : Al p n F) : SSs p (fnCst nis_integer (defScope sis_integer)) n (defBody sis_integer) (bis_integer F) :=
    (ss_one (ss_ret (se_and (se_isi (x := "") (Tn := "int") rfl B.m_isinstance rfl B.m_int rfl (vv 0)) (se_one (se_not (se_isi (x := "") (Tn := "bool") rfl B.m_isinstance rfl B.m_bool rfl (vv 0)))))))
theorem wis_count (B : Kn p) (A : Al p n F) : SSs p (fnCst nis_count (defScope sis_count)) n (defBody sis_count) (bis_count F) :=
    (ss_one (ss_ret (se_and (se_call A.his_integer rfl (sa_cons (vv 0) sa_nil) rfl (al_cons (m := 0) al_nil)) (se_one (se_ge (vv 0) se_int)))))
theorem wis_below (B : Kn p) (A : Al p n F) : SSs p (fnCst nis_below (defScope sis_below)) n (defBody sis_below) (bis_below F) :=
    (ss_one (ss_ret (se_and (se_call A.his_count rfl (sa_cons (vv 0) sa_nil) rfl (al_cons (m := 0) al_nil)) (se_one (se_lt (vv 0) (vv 1))))))
theorem wis_row (B : Kn p) (A : Al p n F) : SSs p (fnCst nis_row (defScope sis_row)) n (defBody sis_row) (bis_row F) :=
    (ss_one (ss_ret (se_and (se_isi (x := "") (Tn := "tuple") rfl B.m_isinstance rfl B.m_tuple rfl (vv 0)) (se_one (se_eq (se_len rfl B.m_len (sa_cons (vv 0) sa_nil)) (vv 1))))))
theorem wis_prime (B : Kn p) (A : Al p n F) : SSs p (fnCst nis_prime (defScope sis_prime)) n (defBody sis_prime) (bis_prime F) :=
    (ss_cons (ss_if (st_lt (vv 0) se_int) (ss_one (ss_ret se_bl)) ss_nil)
    (ss_cons (ss_setC false (nm 1) se_int)
    (ss_cons (ss_while (st_le (se_mul (vv 1) (vv 1)) (vv 0)) (ss_cons (ss_if (st_eq (se_mod (vv 0) (vv 1)) se_int) (ss_one (ss_ret se_bl)) ss_nil)
    (ss_one (ss_augAdd (nm 1) se_int))))
    (ss_one (ss_ret se_bl)))))
theorem wpowered (B : Kn p) (A : Al p n F) : SSs p (fnCst npowered (defScope spowered)) n (defBody spowered) (bpowered F) :=
    (ss_cons (ss_setC false (nm 3) se_int)
    (ss_cons (ss_while (st_gt (vv 1) se_int) (ss_cons (ss_if (st_eq (se_mod (vv 1) se_int) se_int) (ss_one (ss_setC false (nm 3) (se_mod (se_mul (vv 3) (vv 0)) (vv 2)))) ss_nil)
    (ss_one (ss_parS (nm 0) (nm 1) (by decide) (se_mod (se_mul (vv 0) (vv 0)) (vv 2)) (se_div (vv 1) se_int)))))
    (ss_one (ss_ret (vv 3)))))
theorem wis_group_of (B : Kn p) (A : Al p n F) : SSs p (fnCst nis_group_of (defScope sis_group_of)) n (defBody sis_group_of) (bis_group_of F) :=
    (ss_cons (ss_if (st_of (sw_or (st_not (st_val (se_call A.his_row rfl (sa_cons (vv 0) (sa_cons se_int sa_nil)) rfl (al_cons (m := 1) (al_cons (m := 0) al_nil))))) (sw_or (st_not (st_val (se_isi (x := "") (Tn := "str") rfl B.m_isinstance rfl B.m_str rfl (se_sub1 (vv 0) se_int)))) (sw_or1 (st_ne (se_sub1 (vv 0) se_int) (gk_str B.k_GROUP)))))) (ss_one (ss_ret se_bl)) ss_nil)
    (ss_cons (ss_asg (se_slice (vv 0) (so_some se_int) so_none) (sg_tup (m := 3) (sgs_cons (sg_name (nm 1)) (sgs_cons (sg_name (nm 2)) (sgs_cons (sg_name (nm 3)) sgs_nil))) (gdl_cons (m := 2) (gdl_cons (m := 1) (gdl_cons (m := 0) (fun _ _ _ _ h => gdl_nil h))))))
    (ss_cons (ss_if (st_of (sw_or (st_not (st_val (se_all rfl B.m_all (sa_cons (se_lc (own := [(("one" : Str), 4)]) (si_seq (se_tup (sa_cons (vv 1) (sa_cons (vv 2) (sa_cons (vv 3) sa_nil))))) rfl (sg_name (nm 4)) sts_nil (se_call A.his_integer rfl (sa_cons (vv 4) sa_nil) rfl (al_cons (m := 0) al_nil)) (by decide)) sa_nil)))) (sw_or (st_gt (vv 1) (gk_int B.k_MOST_P)) (sw_or (st_gt (vv 2) (gk_int B.k_MOST_Q)) (sw_or1 (st_not (st_lelt se_int (vv 3) (vv 1)))))))) (ss_one (ss_ret se_bl)) ss_nil)
    (ss_cons (ss_if (st_of (sw_or (st_not (st_val (se_call A.his_prime rfl (sa_cons (vv 1) sa_nil) rfl (al_cons (m := 0) al_nil)))) (sw_or (st_not (st_val (se_call A.his_prime rfl (sa_cons (vv 2) sa_nil) rfl (al_cons (m := 0) al_nil)))) (sw_or1 (st_ne (se_mod (se_sub (vv 1) se_int) (vv 2)) se_int))))) (ss_one (ss_ret se_bl)) ss_nil)
    (ss_one (ss_ret (se_eq (se_call A.hpowered rfl (sa_cons (vv 3) (sa_cons (vv 2) (sa_cons (vv 1) sa_nil))) rfl (al_cons (m := 2) (al_cons (m := 1) (al_cons (m := 0) al_nil)))) se_int)))))))
theorem wis_element_of (B : Kn p) (A : Al p n F) : SSs p (fnCst nis_element_of (defScope sis_element_of)) n (defBody sis_element_of) (bis_element_of F) :=
    (ss_one (ss_ret (se_and (se_call A.his_integer rfl (sa_cons (vv 1) sa_nil) rfl (al_cons (m := 0) al_nil)) (se_and (se_lelt se_int (vv 1) (se_sub1 (vv 0) se_int)) (se_one (se_eq (se_call A.hpowered rfl (sa_cons (vv 1) (sa_cons (se_sub1 (vv 0) se_int) (sa_cons (se_sub1 (vv 0) se_int) sa_nil))) rfl (al_cons (m := 2) (al_cons (m := 1) (al_cons (m := 0) al_nil)))) se_int))))))
theorem wtimes_of (B : Kn p) (A : Al p n F) : SSs p (fnCst ntimes_of (defScope stimes_of)) n (defBody stimes_of) (btimes_of F) :=
    (ss_one (ss_ret (se_mod (se_mul (vv 1) (vv 2)) (se_sub1 (vv 0) se_int))))
theorem wpower_of (B : Kn p) (A : Al p n F) : SSs p (fnCst npower_of (defScope spower_of)) n (defBody spower_of) (bpower_of F) :=
    (ss_one (ss_ret (se_call A.hpowered rfl (sa_cons (vv 1) (sa_cons (vv 2) (sa_cons (se_sub1 (vv 0) se_int) sa_nil))) rfl (al_cons (m := 2) (al_cons (m := 1) (al_cons (m := 0) al_nil))))))
theorem wunder_of (B : Kn p) (A : Al p n F) : SSs p (fnCst nunder_of (defScope sunder_of)) n (defBody sunder_of) (bunder_of F) :=
    (ss_one (ss_ret (se_call A.hpowered rfl (sa_cons (vv 1) (sa_cons (se_sub (se_sub1 (vv 0) se_int) se_int) (sa_cons (se_sub1 (vv 0) se_int) sa_nil))) rfl (al_cons (m := 2) (al_cons (m := 1) (al_cons (m := 0) al_nil))))))
theorem wwant_group (B : Kn p) (A : Al p n F) : SSs p (fnCst nwant_group (defScope swant_group)) n (defBody swant_group) (bwant_group F) :=
    (ss_cons (ss_if (st_not (st_val (se_call A.his_group_of rfl (sa_cons (vv 0) sa_nil) rfl (al_cons (m := 0) al_nil)))) (ss_one ss_no) ss_nil)
    (ss_one (ss_ret (vv 0))))
theorem wwant_element (B : Kn p) (A : Al p n F) : SSs p (fnCst nwant_element (defScope swant_element)) n (defBody swant_element) (bwant_element F) :=
    (ss_cons (ss_if (st_not (st_val (se_call A.his_element_of rfl (sa_cons (vv 0) (sa_cons (vv 1) sa_nil)) rfl (al_cons (m := 1) (al_cons (m := 0) al_nil))))) (ss_one ss_no) ss_nil)
    (ss_one (ss_ret (vv 1))))
theorem wtimes (B : Kn p) (A : Al p n F) : SSs p (fnCst ntimes (defScope stimes)) n (defBody stimes) (btimes F) :=
    (ss_cons (ss_expr (se_call A.hwant_element rfl (sa_cons (se_call A.hwant_group rfl (sa_cons (vv 0) sa_nil) rfl (al_cons (m := 0) al_nil)) (sa_cons (vv 1) sa_nil)) rfl (al_cons (m := 1) (al_cons (m := 0) al_nil))))
    (ss_one (ss_ret (se_call A.htimes_of rfl (sa_cons (vv 0) (sa_cons (vv 1) (sa_cons (se_call A.hwant_element rfl (sa_cons (vv 0) (sa_cons (vv 2) sa_nil)) rfl (al_cons (m := 1) (al_cons (m := 0) al_nil))) sa_nil))) rfl (al_cons (m := 2) (al_cons (m := 1) (al_cons (m := 0) al_nil)))))))
theorem wunder (B : Kn p) (A : Al p n F) : SSs p (fnCst nunder (defScope sunder)) n (defBody sunder) (bunder F) :=
    (ss_one (ss_ret (se_call A.hunder_of rfl (sa_cons (se_call A.hwant_group rfl (sa_cons (vv 0) sa_nil) rfl (al_cons (m := 0) al_nil)) (sa_cons (se_call A.hwant_element rfl (sa_cons (vv 0) (sa_cons (vv 1) sa_nil)) rfl (al_cons (m := 1) (al_cons (m := 0) al_nil))) sa_nil)) rfl (al_cons (m := 1) (al_cons (m := 0) al_nil)))))
theorem ware_numbers (B : Kn p) (A : Al p n F) : SSs p (fnCst nare_numbers (defScope sare_numbers)) n (defBody sare_numbers) (bare_numbers F) :=
    (ss_one (ss_ret (se_and (se_call A.his_row rfl (sa_cons (vv 0) (sa_cons (vv 1) sa_nil)) rfl (al_cons (m := 1) (al_cons (m := 0) al_nil))) (se_one (se_all rfl B.m_all (sa_cons (se_lc (own := [(("number" : Str), 3)]) (si_seq (vv 0)) rfl (sg_name (nm 3)) sts_nil (se_call A.his_below rfl (sa_cons (vv 3) (sa_cons (vv 2) sa_nil)) rfl (al_cons (m := 1) (al_cons (m := 0) al_nil))) (by decide)) sa_nil))))))
theorem ware_elements (B : Kn p) (A : Al p n F) : SSs p (fnCst nare_elements (defScope sare_elements)) n (defBody sare_elements) (bare_elements F) :=
    (ss_one (ss_ret (se_and (se_call A.his_row rfl (sa_cons (vv 1) (sa_cons (vv 2) sa_nil)) rfl (al_cons (m := 1) (al_cons (m := 0) al_nil))) (se_one (se_all rfl B.m_all (sa_cons (se_lc (own := [(("one" : Str), 3)]) (si_seq (vv 1)) rfl (sg_name (nm 3)) sts_nil (se_call A.his_element_of rfl (sa_cons (vv 0) (sa_cons (vv 3) sa_nil)) rfl (al_cons (m := 1) (al_cons (m := 0) al_nil))) (by decide)) sa_nil))))))
theorem wproduct_of (B : Kn p) (A : Al p n F) : SSs p (fnCst nproduct_of (defScope sproduct_of)) n (defBody sproduct_of) (bproduct_of F) :=
    (ss_cons (ss_setC false (nm 3) se_int)
    (ss_cons (ss_for (si_zip rfl B.m_zip (sa_cons (vv 1) (sa_cons (vv 2) sa_nil))) (sg_tup (m := 2) (sgs_cons (sg_name (nm 4)) (sgs_cons (sg_name (nm 5)) sgs_nil)) (gdl_cons (m := 1) (gdl_cons (m := 0) (fun _ _ _ _ h => gdl_nil h)))) (ss_one (ss_setC false (nm 3) (se_call A.htimes_of rfl (sa_cons (vv 0) (sa_cons (vv 3) (sa_cons (se_call A.hpower_of rfl (sa_cons (vv 0) (sa_cons (vv 4) (sa_cons (vv 5) sa_nil))) rfl (al_cons (m := 2) (al_cons (m := 1) (al_cons (m := 0) al_nil)))) sa_nil))) rfl (al_cons (m := 2) (al_cons (m := 1) (al_cons (m := 0) al_nil)))))))
    (ss_one (ss_ret (vv 3)))))
theorem wis_check_of (B : Kn p) (A : Al p n F) : SSs p (fnCst nis_check_of (defScope sis_check_of)) n (defBody sis_check_of) (bis_check_of F) :=
    (ss_cons (ss_if (st_of (sw_or (st_not (st_val (se_call A.his_row rfl (sa_cons (vv 1) (sa_cons se_int sa_nil)) rfl (al_cons (m := 1) (al_cons (m := 0) al_nil))))) (sw_or (st_not (st_val (se_isi (x := "") (Tn := "str") rfl B.m_isinstance rfl B.m_str rfl (se_sub1 (vv 1) se_int)))) (sw_or (st_ne (se_sub1 (vv 1) se_int) (gk_str B.k_CHECK)) (sw_or1 (st_not (st_val (se_isi (x := "") (Tn := "tuple") rfl B.m_isinstance rfl B.m_tuple rfl (se_sub1 (vv 1) se_int))))))))) (ss_one (ss_ret se_bl)) ss_nil)
    (ss_cons (ss_setC false (nm 2) (se_len rfl B.m_len (sa_cons (se_sub1 (vv 1) se_int) sa_nil)))
    (ss_cons (ss_if (st_of (sw_or (st_not (st_lele se_int (vv 2) (gk_int B.k_MOST_BASES))) (sw_or (st_not (st_val (se_call A.hare_elements rfl (sa_cons (vv 0) (sa_cons (se_sub1 (vv 1) se_int) (sa_cons (vv 2) sa_nil))) rfl (al_cons (m := 2) (al_cons (m := 1) (al_cons (m := 0) al_nil)))))) (sw_or1 (st_not (st_val (se_call A.his_element_of rfl (sa_cons (vv 0) (sa_cons (se_sub1 (vv 1) se_int) sa_nil)) rfl (al_cons (m := 1) (al_cons (m := 0) al_nil))))))))) (ss_one (ss_ret se_bl)) ss_nil)
    (ss_one (ss_ret (se_call A.hare_numbers rfl (sa_cons (se_sub1 (vv 1) se_int) (sa_cons (vv 2) (sa_cons (se_sub1 (vv 0) se_int) sa_nil))) rfl (al_cons (m := 2) (al_cons (m := 1) (al_cons (m := 0) al_nil)))))))))
theorem wis_lot_of (B : Kn p) (A : Al p n F) : SSs p (fnCst nis_lot_of (defScope sis_lot_of)) n (defBody sis_lot_of) (bis_lot_of F) :=
    (ss_cons (ss_if (st_of (sw_or (st_not (st_val (se_isi (x := "") (Tn := "tuple") rfl B.m_isinstance rfl B.m_tuple rfl (vv 1)))) (sw_or1 (st_not (st_lele se_int (se_len rfl B.m_len (sa_cons (vv 1) sa_nil)) (gk_int B.k_MOST_CHECKS)))))) (ss_one (ss_ret se_bl)) ss_nil)
    (ss_one (ss_ret (se_all rfl B.m_all (sa_cons (se_lc (own := [(("one" : Str), 2)]) (si_seq (vv 1)) rfl (sg_name (nm 2)) sts_nil (se_call A.his_check_of rfl (sa_cons (vv 0) (sa_cons (vv 2) sa_nil)) rfl (al_cons (m := 1) (al_cons (m := 0) al_nil))) (by decide)) sa_nil)))))
theorem wfault_of (B : Kn p) (A : Al p n F) : SSs p (fnCst nfault_of (defScope sfault_of)) n (defBody sfault_of) (bfault_of F) :=
    (ss_one (ss_ret (se_call A.htimes_of rfl (sa_cons (vv 0) (sa_cons (se_call A.hproduct_of rfl (sa_cons (vv 0) (sa_cons (se_sub1 (vv 1) se_int) (sa_cons (se_sub1 (vv 1) se_int) sa_nil))) rfl (al_cons (m := 2) (al_cons (m := 1) (al_cons (m := 0) al_nil)))) (sa_cons (se_call A.hunder_of rfl (sa_cons (vv 0) (sa_cons (se_sub1 (vv 1) se_int) sa_nil)) rfl (al_cons (m := 1) (al_cons (m := 0) al_nil))) sa_nil))) rfl (al_cons (m := 2) (al_cons (m := 1) (al_cons (m := 0) al_nil))))))
theorem wfaults_of (B : Kn p) (A : Al p n F) : SSs p (fnCst nfaults_of (defScope sfaults_of)) n (defBody sfaults_of) (bfaults_of F) :=
    (ss_one (ss_ret (se_lc (own := [(("check" : Str), 2)]) (si_seq (vv 1)) rfl (sg_name (nm 2)) sts_nil (se_call A.hfault_of rfl (sa_cons (vv 0) (sa_cons (vv 2) sa_nil)) rfl (al_cons (m := 1) (al_cons (m := 0) al_nil))) (by decide))))
theorem wwant_check (B : Kn p) (A : Al p n F) : SSs p (fnCst nwant_check (defScope swant_check)) n (defBody swant_check) (bwant_check F) :=
    (ss_cons (ss_if (st_not (st_val (se_call A.his_check_of rfl (sa_cons (vv 0) (sa_cons (vv 1) sa_nil)) rfl (al_cons (m := 1) (al_cons (m := 0) al_nil))))) (ss_one ss_no) ss_nil)
    (ss_one (ss_ret (vv 1))))
theorem wwant_lot (B : Kn p) (A : Al p n F) : SSs p (fnCst nwant_lot (defScope swant_lot)) n (defBody swant_lot) (bwant_lot F) :=
    (ss_cons (ss_if (st_not (st_val (se_call A.his_lot_of rfl (sa_cons (vv 0) (sa_cons (vv 1) sa_nil)) rfl (al_cons (m := 1) (al_cons (m := 0) al_nil))))) (ss_one ss_no) ss_nil)
    (ss_one (ss_ret (vv 1))))
theorem wis_check (B : Kn p) (A : Al p n F) : SSs p (fnCst nis_check (defScope sis_check)) n (defBody sis_check) (bis_check F) :=
    (ss_one (ss_ret (se_call A.his_check_of rfl (sa_cons (se_call A.hwant_group rfl (sa_cons (vv 0) sa_nil) rfl (al_cons (m := 0) al_nil)) (sa_cons (vv 1) sa_nil)) rfl (al_cons (m := 1) (al_cons (m := 0) al_nil)))))
theorem wfault (B : Kn p) (A : Al p n F) : SSs p (fnCst nfault (defScope sfault)) n (defBody sfault) (bfault F) :=
    (ss_one (ss_ret (se_call A.hfault_of rfl (sa_cons (se_call A.hwant_group rfl (sa_cons (vv 0) sa_nil) rfl (al_cons (m := 0) al_nil)) (sa_cons (se_call A.hwant_check rfl (sa_cons (vv 0) (sa_cons (vv 1) sa_nil)) rfl (al_cons (m := 1) (al_cons (m := 0) al_nil))) sa_nil)) rfl (al_cons (m := 1) (al_cons (m := 0) al_nil)))))
theorem wdoes_hold (B : Kn p) (A : Al p n F) : SSs p (fnCst ndoes_hold (defScope sdoes_hold)) n (defBody sdoes_hold) (bdoes_hold F) :=
    (ss_one (ss_ret (se_eq (se_call A.hfault_of rfl (sa_cons (se_call A.hwant_group rfl (sa_cons (vv 0) sa_nil) rfl (al_cons (m := 0) al_nil)) (sa_cons (se_call A.hwant_check rfl (sa_cons (vv 0) (sa_cons (vv 1) sa_nil)) rfl (al_cons (m := 1) (al_cons (m := 0) al_nil))) sa_nil)) rfl (al_cons (m := 1) (al_cons (m := 0) al_nil))) se_int)))
theorem wfalse_ones (B : Kn p) (A : Al p n F) : SSs p (fnCst nfalse_ones (defScope sfalse_ones)) n (defBody sfalse_ones) (bfalse_ones F) :=
    (ss_cons (ss_setC false (nm 2) (se_call A.hfaults_of rfl (sa_cons (se_call A.hwant_group rfl (sa_cons (vv 0) sa_nil) rfl (al_cons (m := 0) al_nil)) (sa_cons (se_call A.hwant_lot rfl (sa_cons (vv 0) (sa_cons (vv 1) sa_nil)) rfl (al_cons (m := 1) (al_cons (m := 0) al_nil))) sa_nil)) rfl (al_cons (m := 1) (al_cons (m := 0) al_nil))))
    (ss_one (ss_ret (se_lc (own := [(("at" : Str), 3), (("element" : Str), 4)]) (si_enum rfl B.m_enumerate (sa_cons (vv 2) sa_nil)) rfl (sg_tup (m := 2) (sgs_cons (sg_name (nm 3)) (sgs_cons (sg_name (nm 4)) sgs_nil)) (gdl_cons (m := 1) (gdl_cons (m := 0) (fun _ _ _ _ h => gdl_nil h)))) (sts_one (st_ne (vv 4) se_int)) (vv 3) (by decide)))))
theorem w_law_pot (B : Kn p) (A : Al p n F) : SSs p (fnCst n_law_pot (defScope s_law_pot)) n (defBody s_law_pot) (b_law_pot F) :=
    (ss_cons (ss_setC false (nm 2) (se_if (st_lt (vv 1) (se_len rfl B.m_len (sa_cons (vv 0) sa_nil))) (se_abs rfl B.m_abs (sa_cons (se_sub1 (vv 0) (vv 1)) sa_nil)) (se_add (se_mul se_int (vv 1)) se_int)))
    (ss_one (ss_ret (se_lst (sa_cons (se_max2 rfl B.m_max (sa_cons se_int (sa_cons (se_sub (vv 2) (se_pow se_int se_int)) sa_nil))) (sa_cons (se_add (se_mod (se_intc rfl B.m_int (sa_cons (se_add (se_add (se_mul (se_mod (se_intc rfl B.m_int (sa_cons (vv 2) sa_nil)) se_int) se_int) (se_mul se_int (vv 1))) se_int) sa_nil)) se_int) se_int) sa_nil))))))
theorem w_law_draw (B : Kn p) (A : Al p n F) : SSs p (fnCst n_law_draw (defScope s_law_draw)) n (defBody s_law_draw) (b_law_draw F) :=
    (ss_cons (ss_if (st_gt (se_sub1 (vv 0) se_int) se_int) (ss_cons (ss_asg (se_divmod rfl B.m_divmod (sa_cons (se_sub1 (vv 0) se_int) (sa_cons (vv 1) sa_nil))) (sg_tup (m := 2) (sgs_cons (sg_sub (vv 0) se_int) (sgs_cons (sg_name (nm 2)) sgs_nil)) (gdl_cons (m := 1) (gdl_cons (m := 0) (fun _ _ _ _ h => gdl_nil h)))))
    (ss_one (ss_ret (vv 2)))) ss_nil)
    (ss_cons (ss_asg (se_mod (se_intc rfl B.m_int (sa_cons (se_add (se_mul (se_sub1 (vv 0) se_int) se_int) se_int) sa_nil)) se_int) (sg_sub (vv 0) se_int))
    (ss_one (ss_ret (se_mod (se_intc rfl B.m_int (sa_cons (se_div (se_mod (se_intc rfl B.m_int (sa_cons (se_mul (se_sub1 (vv 0) se_int) (se_sub1 (vv 0) se_int)) sa_nil)) se_int) se_int) sa_nil)) (vv 1))))))
theorem w_law_pick (B : Kn p) (A : Al p n F) : SSs p (fnCst n_law_pick (defScope s_law_pick)) n (defBody s_law_pick) (b_law_pick F) :=
    (ss_one (ss_ret (se_sub1 (vv 1) (se_call A.h_law_draw rfl (sa_cons (vv 0) (sa_cons (se_len rfl B.m_len (sa_cons (vv 1) sa_nil)) sa_nil)) rfl (al_cons (m := 1) (al_cons (m := 0) al_nil))))))
theorem w_law_group (B : Kn p) (A : Al p n F) : SSs p (fnCst n_law_group (defScope s_law_group)) n (defBody s_law_group) (b_law_group F) :=
    (ss_one (ss_ret (se_add (se_tup (sa_cons se_str sa_nil)) (se_call A.h_law_pick rfl (sa_cons (vv 0) (sa_cons (se_lst (sa_cons (se_tup (sa_cons se_int (sa_cons se_int (sa_cons se_int sa_nil)))) (sa_cons (se_tup (sa_cons se_int (sa_cons se_int (sa_cons se_int sa_nil)))) (sa_cons (se_tup (sa_cons se_int (sa_cons se_int (sa_cons se_int sa_nil)))) (sa_cons (se_tup (sa_cons se_int (sa_cons se_int (sa_cons se_int sa_nil)))) (sa_cons (se_tup (sa_cons se_int (sa_cons se_int (sa_cons se_int sa_nil)))) (sa_cons (se_tup (sa_cons se_int (sa_cons se_int (sa_cons se_int sa_nil)))) (sa_cons (se_tup (sa_cons se_int (sa_cons se_int (sa_cons se_int sa_nil)))) sa_nil)))))))) sa_nil)) rfl (al_cons (m := 1) (al_cons (m := 0) al_nil))))))
theorem w_law_power (B : Kn p) (A : Al p n F) : SSs p (fnCst n_law_power (defScope s_law_power)) n (defBody s_law_power) (b_law_power F) :=
    (ss_cons (ss_setC false (nm 3) se_int)
    (ss_cons (ss_for (si_rng1 rfl B.m_range (sa_cons (vv 2) sa_nil)) (sg_name (nm 4)) (ss_one (ss_setC false (nm 3) (se_mod (se_intc rfl B.m_int (sa_cons (se_mul (vv 3) (vv 1)) sa_nil)) (se_sub1 (vv 0) se_int)))))
    (ss_one (ss_ret (vv 3)))))
theorem w_law_element (B : Kn p) (A : Al p n F) : SSs p (fnCst n_law_element (defScope s_law_element)) n (defBody s_law_element) (b_law_element F) :=
    (ss_one (ss_ret (se_call A.h_law_power rfl (sa_cons (vv 1) (sa_cons (se_sub1 (vv 1) se_int) (sa_cons (se_call A.h_law_draw rfl (sa_cons (vv 0) (sa_cons (se_sub1 (vv 1) se_int) sa_nil)) rfl (al_cons (m := 1) (al_cons (m := 0) al_nil))) sa_nil))) rfl (al_cons (m := 2) (al_cons (m := 1) (al_cons (m := 0) al_nil))))))
theorem w_law_log (B : Kn p) (A : Al p n F) : SSs p (fnCst n_law_log (defScope s_law_log)) n (defBody s_law_log) (b_law_log F) :=
    (ss_cons (ss_setC false (nm 2) se_int)
    (ss_cons (ss_for (si_rng1 rfl B.m_range (sa_cons (se_sub1 (vv 0) se_int) sa_nil)) (sg_name (nm 3)) (ss_cons (ss_if (st_eq (vv 2) (vv 1)) (ss_one (ss_ret (vv 3))) ss_nil)
    (ss_one (ss_setC false (nm 2) (se_mod (se_intc rfl B.m_int (sa_cons (se_mul (vv 2) (se_sub1 (vv 0) se_int)) sa_nil)) (se_sub1 (vv 0) se_int))))))
    (ss_one (ss_ret se_int))))
theorem w_law_product (B : Kn p) (A : Al p n F) : SSs p (fnCst n_law_product (defScope s_law_product)) n (defBody s_law_product) (b_law_product F) :=
    (ss_cons (ss_setC false (nm 3) se_int)
    (ss_cons (ss_for (si_zip rfl B.m_zip (sa_cons (vv 1) (sa_cons (vv 2) sa_nil))) (sg_tup (m := 2) (sgs_cons (sg_name (nm 4)) (sgs_cons (sg_name (nm 5)) sgs_nil)) (gdl_cons (m := 1) (gdl_cons (m := 0) (fun _ _ _ _ h => gdl_nil h)))) (ss_one (ss_setC false (nm 3) (se_mod (se_intc rfl B.m_int (sa_cons (se_mul (vv 3) (se_call A.h_law_power rfl (sa_cons (vv 0) (sa_cons (vv 4) (sa_cons (vv 5) sa_nil))) rfl (al_cons (m := 2) (al_cons (m := 1) (al_cons (m := 0) al_nil))))) sa_nil)) (se_sub1 (vv 0) se_int)))))
    (ss_one (ss_ret (vv 3)))))
theorem w_law_check (B : Kn p) (A : Al p n F) : SSs p (fnCst n_law_check (defScope s_law_check)) n (defBody s_law_check) (b_law_check F) :=
    (ss_cons (ss_setC false (nm 2) (se_tuple rfl B.m_tuple (sa_cons (se_lc (own := [(("base" : Str), 5)]) (si_rng1 rfl B.m_range (sa_cons (se_add se_int (se_call A.h_law_draw rfl (sa_cons (vv 0) (sa_cons se_int sa_nil)) rfl (al_cons (m := 1) (al_cons (m := 0) al_nil)))) sa_nil)) rfl (sg_name (nm 5)) sts_nil (se_call A.h_law_element rfl (sa_cons (vv 0) (sa_cons (vv 1) sa_nil)) rfl (al_cons (m := 1) (al_cons (m := 0) al_nil))) (by decide)) sa_nil)))
    (ss_cons (ss_setC false (nm 3) (se_tuple rfl B.m_tuple (sa_cons (se_lc (own := [(("base" : Str), 5)]) (si_seq (vv 2)) rfl (sg_name (nm 5)) sts_nil (se_call A.h_law_draw rfl (sa_cons (vv 0) (sa_cons (se_sub1 (vv 1) se_int) sa_nil)) rfl (al_cons (m := 1) (al_cons (m := 0) al_nil))) (by decide)) sa_nil)))
    (ss_cons (ss_setC false (nm 4) (se_call A.h_law_product rfl (sa_cons (vv 1) (sa_cons (vv 2) (sa_cons (vv 3) sa_nil))) rfl (al_cons (m := 2) (al_cons (m := 1) (al_cons (m := 0) al_nil)))))
    (ss_cons (ss_if (st_eq (se_call A.h_law_draw rfl (sa_cons (vv 0) (sa_cons se_int sa_nil)) rfl (al_cons (m := 1) (al_cons (m := 0) al_nil))) se_int) (ss_one (ss_setC false (nm 4) (se_mod (se_intc rfl B.m_int (sa_cons (se_mul (vv 4) (se_call A.h_law_element rfl (sa_cons (vv 0) (sa_cons (vv 1) sa_nil)) rfl (al_cons (m := 1) (al_cons (m := 0) al_nil)))) sa_nil)) (se_sub1 (vv 1) se_int)))) ss_nil)
    (ss_one (ss_ret (se_tup (sa_cons se_str (sa_cons (vv 2) (sa_cons (vv 3) (sa_cons (vv 4) sa_nil)))))))))))
theorem w_law_lot (B : Kn p) (A : Al p n F) : SSs p (fnCst n_law_lot (defScope s_law_lot)) n (defBody s_law_lot) (b_law_lot F) :=
    (ss_one (ss_ret (se_tuple rfl B.m_tuple (sa_cons (se_lc (own := [(("turn" : Str), 3)]) (si_rng1 rfl B.m_range (sa_cons (se_add se_int (se_call A.h_law_draw rfl (sa_cons (vv 0) (sa_cons (vv 2) sa_nil)) rfl (al_cons (m := 1) (al_cons (m := 0) al_nil)))) sa_nil)) rfl (sg_name (nm 3)) sts_nil (se_call A.h_law_check rfl (sa_cons (vv 0) (sa_cons (vv 1) sa_nil)) rfl (al_cons (m := 1) (al_cons (m := 0) al_nil))) (by decide)) sa_nil))))
theorem w_law_fault (B : Kn p) (A : Al p n F) : SSs p (fnCst n_law_fault (defScope s_law_fault)) n (defBody s_law_fault) (b_law_fault F) :=
    (ss_one (ss_ret (se_mod (se_intc rfl B.m_int (sa_cons (se_sub (se_call A.h_law_log rfl (sa_cons (vv 0) (sa_cons (se_call A.h_law_product rfl (sa_cons (vv 0) (sa_cons (se_sub1 (vv 1) se_int) (sa_cons (se_sub1 (vv 1) se_int) sa_nil))) rfl (al_cons (m := 2) (al_cons (m := 1) (al_cons (m := 0) al_nil)))) sa_nil)) rfl (al_cons (m := 1) (al_cons (m := 0) al_nil))) (se_call A.h_law_log rfl (sa_cons (vv 0) (sa_cons (se_sub1 (vv 1) se_int) sa_nil)) rfl (al_cons (m := 1) (al_cons (m := 0) al_nil)))) sa_nil)) (se_sub1 (vv 0) se_int))))
theorem w_law_check_right (B : Kn p) (A : Al p n F) : SSs p (fnCst n_law_check_right (defScope s_law_check_right)) n (defBody s_law_check_right) (b_law_check_right F) :=
    (ss_cons (ss_setC false (nm 3) (se_call A.h_law_power rfl (sa_cons (vv 1) (sa_cons (se_sub1 (vv 1) se_int) (sa_cons (se_call A.h_law_fault rfl (sa_cons (vv 1) (sa_cons (vv 2) sa_nil)) rfl (al_cons (m := 1) (al_cons (m := 0) al_nil))) sa_nil))) rfl (al_cons (m := 2) (al_cons (m := 1) (al_cons (m := 0) al_nil)))))
    (ss_cons (ss_if (st_ne (se_repr rfl B.m_repr (sa_cons (se_lst (sa_cons (se_call A.hfault rfl (sa_cons (vv 1) (sa_cons (vv 2) sa_nil)) rfl (al_cons (m := 1) (al_cons (m := 0) al_nil))) (sa_cons (se_callK A.hfault (by rfl) [("check" : Str), ("group" : Str)] [1, 0] (List.mem_of_getElem? (i := 0) rfl) (sk_cons (vv 2) (sk_cons (vv 1) sk_nil)) (al_cons (m := 1) (al_cons (m := 0) al_nil))) sa_nil))) sa_nil)) (se_repr rfl B.m_repr (sa_cons (se_lst (sa_cons (vv 3) (sa_cons (vv 3) sa_nil))) sa_nil))) (ss_one (ss_ret se_bl)) ss_nil)
    (ss_cons (ss_if (st_of (sw_or (st_ne (se_repr rfl B.m_repr (sa_cons (se_lst (sa_cons (se_call A.hdoes_hold rfl (sa_cons (vv 1) (sa_cons (vv 2) sa_nil)) rfl (al_cons (m := 1) (al_cons (m := 0) al_nil))) (sa_cons (se_callK A.hdoes_hold (by rfl) [("check" : Str), ("group" : Str)] [1, 0] (List.mem_of_getElem? (i := 0) rfl) (sk_cons (vv 2) (sk_cons (vv 1) sk_nil)) (al_cons (m := 1) (al_cons (m := 0) al_nil))) sa_nil))) sa_nil)) (se_repr rfl B.m_repr (sa_cons (se_lst (sa_cons (se_eq (vv 3) se_int) (sa_cons (se_eq (vv 3) se_int) sa_nil))) sa_nil))) (sw_or1 (st_isnot (se_call A.his_check rfl (sa_cons (vv 1) (sa_cons (vv 2) sa_nil)) rfl (al_cons (m := 1) (al_cons (m := 0) al_nil))) se_bl)))) (ss_one (ss_ret se_bl)) ss_nil)
    (ss_cons (ss_setC false (nm 4) (se_call A.h_law_element rfl (sa_cons (vv 0) (sa_cons (vv 1) sa_nil)) rfl (al_cons (m := 1) (al_cons (m := 0) al_nil))))
    (ss_cons (ss_setC false (nm 5) (se_tup (sa_cons se_str (sa_cons (se_sub1 (vv 2) se_int) (sa_cons (se_sub1 (vv 2) se_int) (sa_cons (se_call A.htimes rfl (sa_cons (vv 1) (sa_cons (se_sub1 (vv 2) se_int) (sa_cons (vv 4) sa_nil))) rfl (al_cons (m := 2) (al_cons (m := 1) (al_cons (m := 0) al_nil)))) sa_nil))))))
    (ss_cons (ss_if (st_ne (se_call A.hfault rfl (sa_cons (vv 1) (sa_cons (vv 5) sa_nil)) rfl (al_cons (m := 1) (al_cons (m := 0) al_nil))) (se_call A.htimes rfl (sa_cons (vv 1) (sa_cons (vv 3) (sa_cons (se_call A.hunder rfl (sa_cons (vv 1) (sa_cons (vv 4) sa_nil)) rfl (al_cons (m := 1) (al_cons (m := 0) al_nil))) sa_nil))) rfl (al_cons (m := 2) (al_cons (m := 1) (al_cons (m := 0) al_nil))))) (ss_one (ss_ret se_bl)) ss_nil)
    (ss_cons (ss_if (st_lt (se_len rfl B.m_len (sa_cons (se_sub1 (vv 2) se_int) sa_nil)) se_int) (ss_cons (ss_setC false (nm 6) (se_tup (sa_cons se_str (sa_cons (se_add (se_sub1 (vv 2) se_int) (se_tup (sa_cons (vv 4) sa_nil))) (sa_cons (se_add (se_sub1 (vv 2) se_int) (se_tup (sa_cons se_int sa_nil))) (sa_cons (se_sub1 (vv 2) se_int) sa_nil))))))
    (ss_one (ss_if (st_ne (se_call A.hfault rfl (sa_cons (vv 1) (sa_cons (vv 6) sa_nil)) rfl (al_cons (m := 1) (al_cons (m := 0) al_nil))) (se_call A.htimes rfl (sa_cons (vv 1) (sa_cons (vv 3) (sa_cons (vv 4) sa_nil))) rfl (al_cons (m := 2) (al_cons (m := 1) (al_cons (m := 0) al_nil))))) (ss_one (ss_ret se_bl)) ss_nil))) ss_nil)
    (ss_cons (ss_setC false (nm 7) (se_tup (sa_cons se_str (sa_cons (se_rev (se_sub1 (vv 2) se_int)) (sa_cons (se_rev (se_sub1 (vv 2) se_int)) (sa_cons (se_sub1 (vv 2) se_int) sa_nil))))))
    (ss_one (ss_ret (se_eq (se_call A.hfault rfl (sa_cons (vv 1) (sa_cons (vv 7) sa_nil)) rfl (al_cons (m := 1) (al_cons (m := 0) al_nil))) (vv 3))))))))))))
theorem w_law_right (B : Kn p) (A : Al p n F) : SSs p (fnCst n_law_right (defScope s_law_right)) n (defBody s_law_right) (b_law_right F) :=
    (ss_cons (ss_setC false (nm 1) (se_call A.h_law_group rfl (sa_cons (vv 0) sa_nil) rfl (al_cons (m := 0) al_nil)))
    (ss_cons (ss_setC false (nm 2) (se_call A.h_law_lot rfl (sa_cons (vv 0) (sa_cons (vv 1) (sa_cons se_int sa_nil))) rfl (al_cons (m := 2) (al_cons (m := 1) (al_cons (m := 0) al_nil)))))
    (ss_cons (ss_setC false (nm 3) (se_repr rfl B.m_repr (sa_cons (vv 2) sa_nil)))
    (ss_cons (ss_if (st_not (st_val (se_all rfl B.m_all (sa_cons (se_lc (own := [(("check" : Str), 6)]) (si_seq (vv 2)) rfl (sg_name (nm 6)) sts_nil (se_call A.h_law_check_right rfl (sa_cons (vv 0) (sa_cons (vv 1) (sa_cons (vv 6) sa_nil))) rfl (al_cons (m := 2) (al_cons (m := 1) (al_cons (m := 0) al_nil)))) (by decide)) sa_nil)))) (ss_one (ss_ret se_bl)) ss_nil)
    (ss_cons (ss_setLc (own := [(("at" : Str), 7), (("check" : Str), 6)]) false (nm 4) rfl rfl rfl rfl (si_enum rfl B.m_enumerate (sa_cons (vv 2) sa_nil)) rfl (sg_tup (m := 2) (sgs_cons (sg_name (nm 7)) (sgs_cons (sg_name (nm 6)) sgs_nil)) (gdl_cons (m := 1) (gdl_cons (m := 0) (fun _ _ _ _ h => gdl_nil h)))) (sts_one (st_ne (se_call A.h_law_fault rfl (sa_cons (vv 1) (sa_cons (vv 6) sa_nil)) rfl (al_cons (m := 1) (al_cons (m := 0) al_nil))) se_int)) (vv 7) (by decide))
    (ss_cons (ss_setC false (nm 5) (se_lst (sa_cons (se_share (se_call A.hfalse_ones rfl (sa_cons (vv 1) (sa_cons (vv 2) sa_nil)) rfl (al_cons (m := 1) (al_cons (m := 0) al_nil)))) (sa_cons (se_share (se_callK A.hfalse_ones (by rfl) [("lot" : Str), ("group" : Str)] [1, 0] (List.mem_of_getElem? (i := 0) rfl) (sk_cons (vv 2) (sk_cons (vv 1) sk_nil)) (al_cons (m := 1) (al_cons (m := 0) al_nil)))) sa_nil))))
    (ss_cons (ss_if (st_ne (se_repr rfl B.m_repr (sa_cons (vv 5) sa_nil)) (se_repr rfl B.m_repr (sa_cons (se_lst (sa_cons (vv 4) (sa_cons (vv 4) sa_nil))) sa_nil))) (ss_one (ss_ret se_bl)) ss_nil)
    (ss_cons (ss_expr (se_append (se_sub1 (vv 5) se_int) (sa_cons se_non sa_nil)))
    (ss_one (ss_ret (se_and (se_eq (se_repr rfl B.m_repr (sa_cons (se_call A.hfalse_ones rfl (sa_cons (vv 1) (sa_cons (vv 2) sa_nil)) rfl (al_cons (m := 1) (al_cons (m := 0) al_nil))) sa_nil)) (se_repr rfl B.m_repr (sa_cons (vv 4) sa_nil))) (se_one (se_eq (se_repr rfl B.m_repr (sa_cons (vv 2) sa_nil)) (vv 3))))))))))))))
theorem wlaw (B : Kn p) (A : Al p n F) : SSs p (fnCst nlaw (defScope slaw)) n (defBody slaw) (blaw F) :=
    (ss_one (ss_ret (se_all rfl B.m_all (sa_cons (se_lc (own := [(("k" : Str), 1)]) (si_rng1 rfl B.m_range (sa_cons (se_max2 rfl B.m_max (sa_cons se_int (sa_cons (se_min2 rfl B.m_min (sa_cons se_int (sa_cons (se_len rfl B.m_len (sa_cons (vv 0) sa_nil)) sa_nil))) sa_nil))) sa_nil)) rfl (sg_name (nm 1)) sts_nil (se_callP A.h_law_right rfl (se_call A.h_law_pot rfl (sa_cons (vv 0) (sa_cons (vv 1) sa_nil)) rfl (al_cons (m := 1) (al_cons (m := 0) al_nil)))) (by decide)) sa_nil))))
end
/-- what each def makes of plain data, to a depth of calls -/
def T : Nat → FT
  | 0 => fun _ _ _ => none
  | n + 1 => fun i => match i with
    | 0 => bodyF 1 1 (bis_integer (T n))
    | 1 => bodyF 1 1 (bis_count (T n))
    | 2 => bodyF 2 2 (bis_below (T n))
    | 3 => bodyF 2 2 (bis_row (T n))
    | 4 => bodyF 2 1 (bis_prime (T n))
    | 5 => bodyF 4 3 (bpowered (T n))
    | 6 => bodyF 5 1 (bis_group_of (T n))
    | 7 => bodyF 2 2 (bis_element_of (T n))
    | 8 => bodyF 3 3 (btimes_of (T n))
    | 9 => bodyF 3 3 (bpower_of (T n))
    | 10 => bodyF 2 2 (bunder_of (T n))
    | 11 => bodyF 1 1 (bwant_group (T n))
    | 12 => bodyF 2 2 (bwant_element (T n))
    | 13 => bodyF 3 3 (btimes (T n))
    | 14 => bodyF 2 2 (bunder (T n))
    | 15 => bodyF 4 3 (bare_numbers (T n))
    | 16 => bodyF 4 3 (bare_elements (T n))
    | 17 => bodyF 6 3 (bproduct_of (T n))
    | 18 => bodyF 3 2 (bis_check_of (T n))
    | 19 => bodyF 3 2 (bis_lot_of (T n))
    | 20 => bodyF 2 2 (bfault_of (T n))
    | 21 => bodyF 3 2 (bfaults_of (T n))
    | 22 => bodyF 2 2 (bwant_check (T n))
    | 23 => bodyF 2 2 (bwant_lot (T n))
    | 24 => bodyF 2 2 (bis_check (T n))
    | 25 => bodyF 2 2 (bfault (T n))
    | 26 => bodyF 2 2 (bdoes_hold (T n))
    | 27 => bodyF 5 2 (bfalse_ones (T n))
    | 28 => bodyF 3 2 (b_law_pot (T n))
    | 29 => bodyF 3 2 (b_law_draw (T n))
    | 30 => bodyF 2 2 (b_law_pick (T n))
    | 31 => bodyF 1 1 (b_law_group (T n))
    | 32 => bodyF 5 3 (b_law_power (T n))
    | 33 => bodyF 2 2 (b_law_element (T n))
    | 34 => bodyF 4 2 (b_law_log (T n))
    | 35 => bodyF 6 3 (b_law_product (T n))
    | 36 => bodyF 6 2 (b_law_check (T n))
    | 37 => bodyF 4 3 (b_law_lot (T n))
    | 38 => bodyF 2 2 (b_law_fault (T n))
    | 39 => bodyF 8 3 (b_law_check_right (T n))
    | 40 => bodyF 8 1 (b_law_right (T n))
    | 41 => bodyF 2 1 (blaw (T n))
    | _ => fun _ _ => none
theorem t_is_integer (n : Nat) : T (n + 1) i_is_integer = bodyF 1 1 (bis_integer (T n)) := rfl
theorem t_is_count (n : Nat) : T (n + 1) i_is_count = bodyF 1 1 (bis_count (T n)) := rfl
theorem t_is_below (n : Nat) : T (n + 1) i_is_below = bodyF 2 2 (bis_below (T n)) := rfl
theorem t_is_row (n : Nat) : T (n + 1) i_is_row = bodyF 2 2 (bis_row (T n)) := rfl
theorem t_is_prime (n : Nat) : T (n + 1) i_is_prime = bodyF 2 1 (bis_prime (T n)) := rfl
theorem t_powered (n : Nat) : T (n + 1) i_powered = bodyF 4 3 (bpowered (T n)) := rfl
theorem t_is_group_of (n : Nat) : T (n + 1) i_is_group_of = bodyF 5 1 (bis_group_of (T n)) := rfl
theorem t_is_element_of (n : Nat) : T (n + 1) i_is_element_of = bodyF 2 2 (bis_element_of (T n)) := rfl
theorem t_times_of (n : Nat) : T (n + 1) i_times_of = bodyF 3 3 (btimes_of (T n)) := rfl
theorem t_power_of (n : Nat) : T (n + 1) i_power_of = bodyF 3 3 (bpower_of (T n)) := rfl
theorem t_under_of (n : Nat) : T (n + 1) i_under_of = bodyF 2 2 (bunder_of (T n)) := rfl
theorem t_want_group (n : Nat) : T (n + 1) i_want_group = bodyF 1 1 (bwant_group (T n)) := rfl
theorem t_want_element (n : Nat) : T (n + 1) i_want_element = bodyF 2 2 (bwant_element (T n)) := rfl
theorem t_times (n : Nat) : T (n + 1) i_times = bodyF 3 3 (btimes (T n)) := rfl
theorem t_under (n : Nat) : T (n + 1) i_under = bodyF 2 2 (bunder (T n)) := rfl
theorem t_are_numbers (n : Nat) : T (n + 1) i_are_numbers = bodyF 4 3 (bare_numbers (T n)) := rfl
theorem t_are_elements (n : Nat) : T (n + 1) i_are_elements = bodyF 4 3 (bare_elements (T n)) := rfl
theorem t_product_of (n : Nat) : T (n + 1) i_product_of = bodyF 6 3 (bproduct_of (T n)) := rfl
theorem t_is_check_of (n : Nat) : T (n + 1) i_is_check_of = bodyF 3 2 (bis_check_of (T n)) := rfl
theorem t_is_lot_of (n : Nat) : T (n + 1) i_is_lot_of = bodyF 3 2 (bis_lot_of (T n)) := rfl
theorem t_fault_of (n : Nat) : T (n + 1) i_fault_of = bodyF 2 2 (bfault_of (T n)) := rfl
theorem t_faults_of (n : Nat) : T (n + 1) i_faults_of = bodyF 3 2 (bfaults_of (T n)) := rfl
theorem t_want_check (n : Nat) : T (n + 1) i_want_check = bodyF 2 2 (bwant_check (T n)) := rfl
theorem t_want_lot (n : Nat) : T (n + 1) i_want_lot = bodyF 2 2 (bwant_lot (T n)) := rfl
theorem t_is_check (n : Nat) : T (n + 1) i_is_check = bodyF 2 2 (bis_check (T n)) := rfl
theorem t_fault (n : Nat) : T (n + 1) i_fault = bodyF 2 2 (bfault (T n)) := rfl
theorem t_does_hold (n : Nat) : T (n + 1) i_does_hold = bodyF 2 2 (bdoes_hold (T n)) := rfl
theorem t_false_ones (n : Nat) : T (n + 1) i_false_ones = bodyF 5 2 (bfalse_ones (T n)) := rfl
theorem t__law_pot (n : Nat) : T (n + 1) i__law_pot = bodyF 3 2 (b_law_pot (T n)) := rfl
theorem t__law_draw (n : Nat) : T (n + 1) i__law_draw = bodyF 3 2 (b_law_draw (T n)) := rfl
theorem t__law_pick (n : Nat) : T (n + 1) i__law_pick = bodyF 2 2 (b_law_pick (T n)) := rfl
theorem t__law_group (n : Nat) : T (n + 1) i__law_group = bodyF 1 1 (b_law_group (T n)) := rfl
theorem t__law_power (n : Nat) : T (n + 1) i__law_power = bodyF 5 3 (b_law_power (T n)) := rfl
theorem t__law_element (n : Nat) : T (n + 1) i__law_element = bodyF 2 2 (b_law_element (T n)) := rfl
theorem t__law_log (n : Nat) : T (n + 1) i__law_log = bodyF 4 2 (b_law_log (T n)) := rfl
theorem t__law_product (n : Nat) : T (n + 1) i__law_product = bodyF 6 3 (b_law_product (T n)) := rfl
theorem t__law_check (n : Nat) : T (n + 1) i__law_check = bodyF 6 2 (b_law_check (T n)) := rfl
theorem t__law_lot (n : Nat) : T (n + 1) i__law_lot = bodyF 4 3 (b_law_lot (T n)) := rfl
theorem t__law_fault (n : Nat) : T (n + 1) i__law_fault = bodyF 2 2 (b_law_fault (T n)) := rfl
theorem t__law_check_right (n : Nat) : T (n + 1) i__law_check_right = bodyF 8 3 (b_law_check_right (T n)) := rfl
theorem t__law_right (n : Nat) : T (n + 1) i__law_right = bodyF 8 1 (b_law_right (T n)) := rfl
theorem t_law (n : Nat) : T (n + 1) i_law = bodyF 2 1 (blaw (T n)) := rfl
/-- where the defs stand -/
structure St (p : Pr) : Prop where
  fis_integer : Fa p ("is_integer" : Str) ("is_integer" : Str) sis_integer pis_integer kwis_integer
  fis_count : Fa p ("is_count" : Str) ("is_count" : Str) sis_count pis_count kwis_count
  fis_below : Fa p ("is_below" : Str) ("is_below" : Str) sis_below pis_below kwis_below
  fis_row : Fa p ("is_row" : Str) ("is_row" : Str) sis_row pis_row kwis_row
  fis_prime : Fa p ("is_prime" : Str) ("is_prime" : Str) sis_prime pis_prime kwis_prime
  fpowered : Fa p ("powered" : Str) ("powered" : Str) spowered ppowered kwpowered
  fis_group_of : Fa p ("is_group_of" : Str) ("is_group_of" : Str) sis_group_of pis_group_of kwis_group_of
  fis_element_of : Fa p ("is_element_of" : Str) ("is_element_of" : Str) sis_element_of pis_element_of kwis_element_of
  ftimes_of : Fa p ("times_of" : Str) ("times_of" : Str) stimes_of ptimes_of kwtimes_of
  fpower_of : Fa p ("power_of" : Str) ("power_of" : Str) spower_of ppower_of kwpower_of
  funder_of : Fa p ("under_of" : Str) ("under_of" : Str) sunder_of punder_of kwunder_of
  fwant_group : Fa p ("want_group" : Str) ("want_group" : Str) swant_group pwant_group kwwant_group
  fwant_element : Fa p ("want_element" : Str) ("want_element" : Str) swant_element pwant_element kwwant_element
  ftimes : Fa p ("times" : Str) ("times" : Str) stimes ptimes kwtimes
  funder : Fa p ("under" : Str) ("under" : Str) sunder punder kwunder
  fare_numbers : Fa p ("are_numbers" : Str) ("are_numbers" : Str) sare_numbers pare_numbers kware_numbers
  fare_elements : Fa p ("are_elements" : Str) ("are_elements" : Str) sare_elements pare_elements kware_elements
  fproduct_of : Fa p ("product_of" : Str) ("product_of" : Str) sproduct_of pproduct_of kwproduct_of
  fis_check_of : Fa p ("is_check_of" : Str) ("is_check_of" : Str) sis_check_of pis_check_of kwis_check_of
  fis_lot_of : Fa p ("is_lot_of" : Str) ("is_lot_of" : Str) sis_lot_of pis_lot_of kwis_lot_of
  ffault_of : Fa p ("fault_of" : Str) ("fault_of" : Str) sfault_of pfault_of kwfault_of
  ffaults_of : Fa p ("faults_of" : Str) ("faults_of" : Str) sfaults_of pfaults_of kwfaults_of
  fwant_check : Fa p ("want_check" : Str) ("want_check" : Str) swant_check pwant_check kwwant_check
  fwant_lot : Fa p ("want_lot" : Str) ("want_lot" : Str) swant_lot pwant_lot kwwant_lot
  fis_check : Fa p ("is_check" : Str) ("is_check" : Str) sis_check pis_check kwis_check
  ffault : Fa p ("fault" : Str) ("fault" : Str) sfault pfault kwfault
  fdoes_hold : Fa p ("does_hold" : Str) ("does_hold" : Str) sdoes_hold pdoes_hold kwdoes_hold
  ffalse_ones : Fa p ("false_ones" : Str) ("false_ones" : Str) sfalse_ones pfalse_ones kwfalse_ones
  f_law_pot : Fa p ("_law_pot" : Str) ("_law_pot" : Str) s_law_pot p_law_pot kw_law_pot
  f_law_draw : Fa p ("_law_draw" : Str) ("_law_draw" : Str) s_law_draw p_law_draw kw_law_draw
  f_law_pick : Fa p ("_law_pick" : Str) ("_law_pick" : Str) s_law_pick p_law_pick kw_law_pick
  f_law_group : Fa p ("_law_group" : Str) ("_law_group" : Str) s_law_group p_law_group kw_law_group
  f_law_power : Fa p ("_law_power" : Str) ("_law_power" : Str) s_law_power p_law_power kw_law_power
  f_law_element : Fa p ("_law_element" : Str) ("_law_element" : Str) s_law_element p_law_element kw_law_element
  f_law_log : Fa p ("_law_log" : Str) ("_law_log" : Str) s_law_log p_law_log kw_law_log
  f_law_product : Fa p ("_law_product" : Str) ("_law_product" : Str) s_law_product p_law_product kw_law_product
  f_law_check : Fa p ("_law_check" : Str) ("_law_check" : Str) s_law_check p_law_check kw_law_check
  f_law_lot : Fa p ("_law_lot" : Str) ("_law_lot" : Str) s_law_lot p_law_lot kw_law_lot
  f_law_fault : Fa p ("_law_fault" : Str) ("_law_fault" : Str) s_law_fault p_law_fault kw_law_fault
  f_law_check_right : Fa p ("_law_check_right" : Str) ("_law_check_right" : Str) s_law_check_right p_law_check_right kw_law_check_right
  f_law_right : Fa p ("_law_right" : Str) ("_law_right" : Str) s_law_right p_law_right kw_law_right
  flaw : Fa p ("law" : Str) ("law" : Str) slaw plaw kwlaw
theorem all_0 {p : Pr} (S : St p) : Al p 0 (T 0) := ⟨S.fis_integer.zero, S.fis_count.zero, S.fis_below.zero, S.fis_row.zero, S.fis_prime.zero, S.fpowered.zero, S.fis_group_of.zero, S.fis_element_of.zero, S.ftimes_of.zero, S.fpower_of.zero, S.funder_of.zero, S.fwant_group.zero, S.fwant_element.zero, S.ftimes.zero, S.funder.zero, S.fare_numbers.zero, S.fare_elements.zero, S.fproduct_of.zero, S.fis_check_of.zero, S.fis_lot_of.zero, S.ffault_of.zero, S.ffaults_of.zero, S.fwant_check.zero, S.fwant_lot.zero, S.fis_check.zero, S.ffault.zero, S.fdoes_hold.zero, S.ffalse_ones.zero, S.f_law_pot.zero, S.f_law_draw.zero, S.f_law_pick.zero, S.f_law_group.zero, S.f_law_power.zero, S.f_law_element.zero, S.f_law_log.zero, S.f_law_product.zero, S.f_law_check.zero, S.f_law_lot.zero, S.f_law_fault.zero, S.f_law_check_right.zero, S.f_law_right.zero, S.flaw.zero⟩
theorem all_s {p : Pr} {n : Nat} (S : St p) (B : Kn p) (A : Al p n (T n)) : Al p (n + 1) (T (n + 1)) := ⟨S.fis_integer.succ scis_integer (wis_integer B A), S.fis_count.succ scis_count (wis_count B A), S.fis_below.succ scis_below (wis_below B A), S.fis_row.succ scis_row (wis_row B A), S.fis_prime.succ scis_prime (wis_prime B A), S.fpowered.succ scpowered (wpowered B A), S.fis_group_of.succ scis_group_of (wis_group_of B A), S.fis_element_of.succ scis_element_of (wis_element_of B A), S.ftimes_of.succ sctimes_of (wtimes_of B A), S.fpower_of.succ scpower_of (wpower_of B A), S.funder_of.succ scunder_of (wunder_of B A), S.fwant_group.succ scwant_group (wwant_group B A), S.fwant_element.succ scwant_element (wwant_element B A), S.ftimes.succ sctimes (wtimes B A), S.funder.succ scunder (wunder B A), S.fare_numbers.succ scare_numbers (ware_numbers B A), S.fare_elements.succ scare_elements (ware_elements B A), S.fproduct_of.succ scproduct_of (wproduct_of B A), S.fis_check_of.succ scis_check_of (wis_check_of B A), S.fis_lot_of.succ scis_lot_of (wis_lot_of B A), S.ffault_of.succ scfault_of (wfault_of B A), S.ffaults_of.succ scfaults_of (wfaults_of B A), S.fwant_check.succ scwant_check (wwant_check B A), S.fwant_lot.succ scwant_lot (wwant_lot B A), S.fis_check.succ scis_check (wis_check B A), S.ffault.succ scfault (wfault B A), S.fdoes_hold.succ scdoes_hold (wdoes_hold B A), S.ffalse_ones.succ scfalse_ones (wfalse_ones B A), S.f_law_pot.succ sc_law_pot (w_law_pot B A), S.f_law_draw.succ sc_law_draw (w_law_draw B A), S.f_law_pick.succ sc_law_pick (w_law_pick B A), S.f_law_group.succ sc_law_group (w_law_group B A), S.f_law_power.succ sc_law_power (w_law_power B A), S.f_law_element.succ sc_law_element (w_law_element B A), S.f_law_log.succ sc_law_log (w_law_log B A), S.f_law_product.succ sc_law_product (w_law_product B A), S.f_law_check.succ sc_law_check (w_law_check B A), S.f_law_lot.succ sc_law_lot (w_law_lot B A), S.f_law_fault.succ sc_law_fault (w_law_fault B A), S.f_law_check_right.succ sc_law_check_right (w_law_check_right B A), S.f_law_right.succ sc_law_right (w_law_right B A), S.flaw.succ sclaw (wlaw B A)⟩
theorem all_n {p : Pr} (S : St p) (B : Kn p) : ∀ n, Al p n (T n)
  | 0 => all_0 S
  | n + 1 => all_s S B (all_n S B n)
end K68
namespace K68
open PySem L2 PySem.Spec PyProof.Rows Ev1
def fnD : List He.DefD := [dD ("is_integer" : Str) sis_integer, dD ("is_count" : Str) sis_count, dD ("is_below" : Str) sis_below, dD ("is_row" : Str) sis_row, dD ("is_prime" : Str) sis_prime, dD ("powered" : Str) spowered, dD ("is_group_of" : Str) sis_group_of, dD ("is_element_of" : Str) sis_element_of, dD ("times_of" : Str) stimes_of, dD ("power_of" : Str) spower_of, dD ("under_of" : Str) sunder_of, dD ("want_group" : Str) swant_group, dD ("want_element" : Str) swant_element, dD ("times" : Str) stimes, dD ("under" : Str) sunder, dD ("are_numbers" : Str) sare_numbers, dD ("are_elements" : Str) sare_elements, dD ("product_of" : Str) sproduct_of, dD ("is_check_of" : Str) sis_check_of, dD ("is_lot_of" : Str) sis_lot_of, dD ("fault_of" : Str) sfault_of, dD ("faults_of" : Str) sfaults_of, dD ("want_check" : Str) swant_check, dD ("want_lot" : Str) swant_lot, dD ("is_check" : Str) sis_check, dD ("fault" : Str) sfault, dD ("does_hold" : Str) sdoes_hold, dD ("false_ones" : Str) sfalse_ones, dD ("_law_pot" : Str) s_law_pot, dD ("_law_draw" : Str) s_law_draw, dD ("_law_pick" : Str) s_law_pick, dD ("_law_group" : Str) s_law_group, dD ("_law_power" : Str) s_law_power, dD ("_law_element" : Str) s_law_element, dD ("_law_log" : Str) s_law_log, dD ("_law_product" : Str) s_law_product, dD ("_law_check" : Str) s_law_check, dD ("_law_lot" : Str) s_law_lot, dD ("_law_fault" : Str) s_law_fault, dD ("_law_check_right" : Str) s_law_check_right, dD ("_law_right" : Str) s_law_right, dD ("law" : Str) slaw]
def faD : List He.Fa := [.glo ("is_integer" : Str), .glo ("is_count" : Str), .glo ("is_below" : Str), .glo ("is_row" : Str), .glo ("is_prime" : Str), .glo ("powered" : Str), .glo ("is_group_of" : Str), .glo ("is_element_of" : Str), .glo ("times_of" : Str), .glo ("power_of" : Str), .glo ("under_of" : Str), .glo ("want_group" : Str), .glo ("want_element" : Str), .glo ("times" : Str), .glo ("under" : Str), .glo ("are_numbers" : Str), .glo ("are_elements" : Str), .glo ("product_of" : Str), .glo ("is_check_of" : Str), .glo ("is_lot_of" : Str), .glo ("fault_of" : Str), .glo ("faults_of" : Str), .glo ("want_check" : Str), .glo ("want_lot" : Str), .glo ("is_check" : Str), .glo ("fault" : Str), .glo ("does_hold" : Str), .glo ("false_ones" : Str), .glo ("_law_pot" : Str), .glo ("_law_draw" : Str), .glo ("_law_pick" : Str), .glo ("_law_group" : Str), .glo ("_law_power" : Str), .glo ("_law_element" : Str), .glo ("_law_log" : Str), .glo ("_law_product" : Str), .glo ("_law_check" : Str), .glo ("_law_lot" : Str), .glo ("_law_fault" : Str), .glo ("_law_check_right" : Str), .glo ("_law_right" : Str), .glo ("law" : Str), .free ("abs" : Str), .free ("all" : Str), .free ("bool" : Str), .free ("divmod" : Str), .free ("enumerate" : Str), .free ("int" : Str), .free ("isinstance" : Str), .free ("len" : Str), .free ("max" : Str), .free ("min" : Str), .free ("range" : Str), .free ("repr" : Str), .free ("str" : Str), .free ("tuple" : Str), .free ("zip" : Str), .str ("CHECK" : Str) ("check" : Str), .str ("GROUP" : Str) ("group" : Str), .int ("MOST_BASES" : Str) 5, .int ("MOST_CHECKS" : Str) 16, .int ("MOST_P" : Str) 999983, .int ("MOST_Q" : Str) 9973]
section
variable {p : Pr} {h : Heap}
theorem zis_integer (X : p.K.In h) (G : h.Ns mainGlobals p.mg) (c : He.SaysD faD fnD p.K) : Fa p ("is_integer" : Str) ("is_integer" : Str) sis_integer pis_integer kwis_integer := by
  obtain ⟨fd, F⟩ := c.def_ 0 (d := dD ("is_integer" : Str) sis_integer) rfl
  exact fa_D (He.glo_ok X G (c.fact 0 (f := .glo ("is_integer" : Str)) rfl)) F (fun _ _ _ _ _ _ us hl => match us, hl with | [_], _ => rfl) (fun _ _ _ _ _ _ => kb_nil)
theorem zis_count (X : p.K.In h) (G : h.Ns mainGlobals p.mg) (c : He.SaysD faD fnD p.K) : Fa p ("is_count" : Str) ("is_count" : Str) sis_count pis_count kwis_count := by
  obtain ⟨fd, F⟩ := c.def_ 1 (d := dD ("is_count" : Str) sis_count) rfl
  exact fa_D (He.glo_ok X G (c.fact 1 (f := .glo ("is_count" : Str)) rfl)) F (fun _ _ _ _ _ _ us hl => match us, hl with | [_], _ => rfl) (fun _ _ _ _ _ _ => kb_nil)
theorem zis_below (X : p.K.In h) (G : h.Ns mainGlobals p.mg) (c : He.SaysD faD fnD p.K) : Fa p ("is_below" : Str) ("is_below" : Str) sis_below pis_below kwis_below := by
  obtain ⟨fd, F⟩ := c.def_ 2 (d := dD ("is_below" : Str) sis_below) rfl
  exact fa_D (He.glo_ok X G (c.fact 2 (f := .glo ("is_below" : Str)) rfl)) F (fun _ _ _ _ _ _ us hl => match us, hl with | [_, _], _ => rfl) (fun _ _ _ _ _ _ => kb_nil)
theorem zis_row (X : p.K.In h) (G : h.Ns mainGlobals p.mg) (c : He.SaysD faD fnD p.K) : Fa p ("is_row" : Str) ("is_row" : Str) sis_row pis_row kwis_row := by
  obtain ⟨fd, F⟩ := c.def_ 3 (d := dD ("is_row" : Str) sis_row) rfl
  exact fa_D (He.glo_ok X G (c.fact 3 (f := .glo ("is_row" : Str)) rfl)) F (fun _ _ _ _ _ _ us hl => match us, hl with | [_, _], _ => rfl) (fun _ _ _ _ _ _ => kb_nil)
theorem zis_prime (X : p.K.In h) (G : h.Ns mainGlobals p.mg) (c : He.SaysD faD fnD p.K) : Fa p ("is_prime" : Str) ("is_prime" : Str) sis_prime pis_prime kwis_prime := by
  obtain ⟨fd, F⟩ := c.def_ 4 (d := dD ("is_prime" : Str) sis_prime) rfl
  exact fa_D (He.glo_ok X G (c.fact 4 (f := .glo ("is_prime" : Str)) rfl)) F (fun _ _ _ _ _ _ us hl => match us, hl with | [_], _ => rfl) (fun _ _ _ _ _ _ => kb_nil)
theorem zpowered (X : p.K.In h) (G : h.Ns mainGlobals p.mg) (c : He.SaysD faD fnD p.K) : Fa p ("powered" : Str) ("powered" : Str) spowered ppowered kwpowered := by
  obtain ⟨fd, F⟩ := c.def_ 5 (d := dD ("powered" : Str) spowered) rfl
  exact fa_D (He.glo_ok X G (c.fact 5 (f := .glo ("powered" : Str)) rfl)) F (fun _ _ _ _ _ _ us hl => match us, hl with | [_, _, _], _ => rfl) (fun _ _ _ _ _ _ => kb_nil)
theorem zis_group_of (X : p.K.In h) (G : h.Ns mainGlobals p.mg) (c : He.SaysD faD fnD p.K) : Fa p ("is_group_of" : Str) ("is_group_of" : Str) sis_group_of pis_group_of kwis_group_of := by
  obtain ⟨fd, F⟩ := c.def_ 6 (d := dD ("is_group_of" : Str) sis_group_of) rfl
  exact fa_D (He.glo_ok X G (c.fact 6 (f := .glo ("is_group_of" : Str)) rfl)) F (fun _ _ _ _ _ _ us hl => match us, hl with | [_], _ => rfl) (fun _ _ _ _ _ _ => kb_nil)
theorem zis_element_of (X : p.K.In h) (G : h.Ns mainGlobals p.mg) (c : He.SaysD faD fnD p.K) : Fa p ("is_element_of" : Str) ("is_element_of" : Str) sis_element_of pis_element_of kwis_element_of := by
  obtain ⟨fd, F⟩ := c.def_ 7 (d := dD ("is_element_of" : Str) sis_element_of) rfl
  exact fa_D (He.glo_ok X G (c.fact 7 (f := .glo ("is_element_of" : Str)) rfl)) F (fun _ _ _ _ _ _ us hl => match us, hl with | [_, _], _ => rfl) (fun _ _ _ _ _ _ => kb_nil)
theorem ztimes_of (X : p.K.In h) (G : h.Ns mainGlobals p.mg) (c : He.SaysD faD fnD p.K) : Fa p ("times_of" : Str) ("times_of" : Str) stimes_of ptimes_of kwtimes_of := by
  obtain ⟨fd, F⟩ := c.def_ 8 (d := dD ("times_of" : Str) stimes_of) rfl
  exact fa_D (He.glo_ok X G (c.fact 8 (f := .glo ("times_of" : Str)) rfl)) F (fun _ _ _ _ _ _ us hl => match us, hl with | [_, _, _], _ => rfl) (fun _ _ _ _ _ _ => kb_nil)
theorem zpower_of (X : p.K.In h) (G : h.Ns mainGlobals p.mg) (c : He.SaysD faD fnD p.K) : Fa p ("power_of" : Str) ("power_of" : Str) spower_of ppower_of kwpower_of := by
  obtain ⟨fd, F⟩ := c.def_ 9 (d := dD ("power_of" : Str) spower_of) rfl
  exact fa_D (He.glo_ok X G (c.fact 9 (f := .glo ("power_of" : Str)) rfl)) F (fun _ _ _ _ _ _ us hl => match us, hl with | [_, _, _], _ => rfl) (fun _ _ _ _ _ _ => kb_nil)
theorem zunder_of (X : p.K.In h) (G : h.Ns mainGlobals p.mg) (c : He.SaysD faD fnD p.K) : Fa p ("under_of" : Str) ("under_of" : Str) sunder_of punder_of kwunder_of := by
  obtain ⟨fd, F⟩ := c.def_ 10 (d := dD ("under_of" : Str) sunder_of) rfl
  exact fa_D (He.glo_ok X G (c.fact 10 (f := .glo ("under_of" : Str)) rfl)) F (fun _ _ _ _ _ _ us hl => match us, hl with | [_, _], _ => rfl) (fun _ _ _ _ _ _ => kb_nil)
theorem zwant_group (X : p.K.In h) (G : h.Ns mainGlobals p.mg) (c : He.SaysD faD fnD p.K) : Fa p ("want_group" : Str) ("want_group" : Str) swant_group pwant_group kwwant_group := by
  obtain ⟨fd, F⟩ := c.def_ 11 (d := dD ("want_group" : Str) swant_group) rfl
  exact fa_D (He.glo_ok X G (c.fact 11 (f := .glo ("want_group" : Str)) rfl)) F (fun _ _ _ _ _ _ us hl => match us, hl with | [_], _ => rfl) (fun _ _ _ _ _ _ => kb_nil)
theorem zwant_element (X : p.K.In h) (G : h.Ns mainGlobals p.mg) (c : He.SaysD faD fnD p.K) : Fa p ("want_element" : Str) ("want_element" : Str) swant_element pwant_element kwwant_element := by
  obtain ⟨fd, F⟩ := c.def_ 12 (d := dD ("want_element" : Str) swant_element) rfl
  exact fa_D (He.glo_ok X G (c.fact 12 (f := .glo ("want_element" : Str)) rfl)) F (fun _ _ _ _ _ _ us hl => match us, hl with | [_, _], _ => rfl) (fun _ _ _ _ _ _ => kb_nil)
theorem ztimes (X : p.K.In h) (G : h.Ns mainGlobals p.mg) (c : He.SaysD faD fnD p.K) : Fa p ("times" : Str) ("times" : Str) stimes ptimes kwtimes := by
  obtain ⟨fd, F⟩ := c.def_ 13 (d := dD ("times" : Str) stimes) rfl
  exact fa_D (He.glo_ok X G (c.fact 13 (f := .glo ("times" : Str)) rfl)) F (fun _ _ _ _ _ _ us hl => match us, hl with | [_, _, _], _ => rfl) (fun _ _ _ _ _ _ => kb_nil)
theorem zunder (X : p.K.In h) (G : h.Ns mainGlobals p.mg) (c : He.SaysD faD fnD p.K) : Fa p ("under" : Str) ("under" : Str) sunder punder kwunder := by
  obtain ⟨fd, F⟩ := c.def_ 14 (d := dD ("under" : Str) sunder) rfl
  exact fa_D (He.glo_ok X G (c.fact 14 (f := .glo ("under" : Str)) rfl)) F (fun _ _ _ _ _ _ us hl => match us, hl with | [_, _], _ => rfl) (fun _ _ _ _ _ _ => kb_nil)
theorem zare_numbers (X : p.K.In h) (G : h.Ns mainGlobals p.mg) (c : He.SaysD faD fnD p.K) : Fa p ("are_numbers" : Str) ("are_numbers" : Str) sare_numbers pare_numbers kware_numbers := by
  obtain ⟨fd, F⟩ := c.def_ 15 (d := dD ("are_numbers" : Str) sare_numbers) rfl
  exact fa_D (He.glo_ok X G (c.fact 15 (f := .glo ("are_numbers" : Str)) rfl)) F (fun _ _ _ _ _ _ us hl => match us, hl with | [_, _, _], _ => rfl) (fun _ _ _ _ _ _ => kb_nil)
theorem zare_elements (X : p.K.In h) (G : h.Ns mainGlobals p.mg) (c : He.SaysD faD fnD p.K) : Fa p ("are_elements" : Str) ("are_elements" : Str) sare_elements pare_elements kware_elements := by
  obtain ⟨fd, F⟩ := c.def_ 16 (d := dD ("are_elements" : Str) sare_elements) rfl
  exact fa_D (He.glo_ok X G (c.fact 16 (f := .glo ("are_elements" : Str)) rfl)) F (fun _ _ _ _ _ _ us hl => match us, hl with | [_, _, _], _ => rfl) (fun _ _ _ _ _ _ => kb_nil)
theorem zproduct_of (X : p.K.In h) (G : h.Ns mainGlobals p.mg) (c : He.SaysD faD fnD p.K) : Fa p ("product_of" : Str) ("product_of" : Str) sproduct_of pproduct_of kwproduct_of := by
  obtain ⟨fd, F⟩ := c.def_ 17 (d := dD ("product_of" : Str) sproduct_of) rfl
  exact fa_D (He.glo_ok X G (c.fact 17 (f := .glo ("product_of" : Str)) rfl)) F (fun _ _ _ _ _ _ us hl => match us, hl with | [_, _, _], _ => rfl) (fun _ _ _ _ _ _ => kb_nil)
theorem zis_check_of (X : p.K.In h) (G : h.Ns mainGlobals p.mg) (c : He.SaysD faD fnD p.K) : Fa p ("is_check_of" : Str) ("is_check_of" : Str) sis_check_of pis_check_of kwis_check_of := by
  obtain ⟨fd, F⟩ := c.def_ 18 (d := dD ("is_check_of" : Str) sis_check_of) rfl
  exact fa_D (He.glo_ok X G (c.fact 18 (f := .glo ("is_check_of" : Str)) rfl)) F (fun _ _ _ _ _ _ us hl => match us, hl with | [_, _], _ => rfl) (fun _ _ _ _ _ _ => kb_nil)
theorem zis_lot_of (X : p.K.In h) (G : h.Ns mainGlobals p.mg) (c : He.SaysD faD fnD p.K) : Fa p ("is_lot_of" : Str) ("is_lot_of" : Str) sis_lot_of pis_lot_of kwis_lot_of := by
  obtain ⟨fd, F⟩ := c.def_ 19 (d := dD ("is_lot_of" : Str) sis_lot_of) rfl
  exact fa_D (He.glo_ok X G (c.fact 19 (f := .glo ("is_lot_of" : Str)) rfl)) F (fun _ _ _ _ _ _ us hl => match us, hl with | [_, _], _ => rfl) (fun _ _ _ _ _ _ => kb_nil)
theorem zfault_of (X : p.K.In h) (G : h.Ns mainGlobals p.mg) (c : He.SaysD faD fnD p.K) : Fa p ("fault_of" : Str) ("fault_of" : Str) sfault_of pfault_of kwfault_of := by
  obtain ⟨fd, F⟩ := c.def_ 20 (d := dD ("fault_of" : Str) sfault_of) rfl
  exact fa_D (He.glo_ok X G (c.fact 20 (f := .glo ("fault_of" : Str)) rfl)) F (fun _ _ _ _ _ _ us hl => match us, hl with | [_, _], _ => rfl) (fun _ _ _ _ _ _ => kb_nil)
theorem zfaults_of (X : p.K.In h) (G : h.Ns mainGlobals p.mg) (c : He.SaysD faD fnD p.K) : Fa p ("faults_of" : Str) ("faults_of" : Str) sfaults_of pfaults_of kwfaults_of := by
  obtain ⟨fd, F⟩ := c.def_ 21 (d := dD ("faults_of" : Str) sfaults_of) rfl
  exact fa_D (He.glo_ok X G (c.fact 21 (f := .glo ("faults_of" : Str)) rfl)) F (fun _ _ _ _ _ _ us hl => match us, hl with | [_, _], _ => rfl) (fun _ _ _ _ _ _ => kb_nil)
theorem zwant_check (X : p.K.In h) (G : h.Ns mainGlobals p.mg) (c : He.SaysD faD fnD p.K) : Fa p ("want_check" : Str) ("want_check" : Str) swant_check pwant_check kwwant_check := by
  obtain ⟨fd, F⟩ := c.def_ 22 (d := dD ("want_check" : Str) swant_check) rfl
  exact fa_D (He.glo_ok X G (c.fact 22 (f := .glo ("want_check" : Str)) rfl)) F (fun _ _ _ _ _ _ us hl => match us, hl with | [_, _], _ => rfl) (fun _ _ _ _ _ _ => kb_nil)
theorem zwant_lot (X : p.K.In h) (G : h.Ns mainGlobals p.mg) (c : He.SaysD faD fnD p.K) : Fa p ("want_lot" : Str) ("want_lot" : Str) swant_lot pwant_lot kwwant_lot := by
  obtain ⟨fd, F⟩ := c.def_ 23 (d := dD ("want_lot" : Str) swant_lot) rfl
  exact fa_D (He.glo_ok X G (c.fact 23 (f := .glo ("want_lot" : Str)) rfl)) F (fun _ _ _ _ _ _ us hl => match us, hl with | [_, _], _ => rfl) (fun _ _ _ _ _ _ => kb_nil)
theorem zis_check (X : p.K.In h) (G : h.Ns mainGlobals p.mg) (c : He.SaysD faD fnD p.K) : Fa p ("is_check" : Str) ("is_check" : Str) sis_check pis_check kwis_check := by
  obtain ⟨fd, F⟩ := c.def_ 24 (d := dD ("is_check" : Str) sis_check) rfl
  exact fa_D (He.glo_ok X G (c.fact 24 (f := .glo ("is_check" : Str)) rfl)) F (fun _ _ _ _ _ _ us hl => match us, hl with | [_, _], _ => rfl) (fun _ _ _ _ _ _ => kb_nil)
theorem zfault (X : p.K.In h) (G : h.Ns mainGlobals p.mg) (c : He.SaysD faD fnD p.K) : Fa p ("fault" : Str) ("fault" : Str) sfault pfault kwfault := by
  obtain ⟨fd, F⟩ := c.def_ 25 (d := dD ("fault" : Str) sfault) rfl
  exact fa_D (He.glo_ok X G (c.fact 25 (f := .glo ("fault" : Str)) rfl)) F (fun _ _ _ _ _ _ us hl => match us, hl with | [_, _], _ => rfl) (fun _ _ _ _ _ _ => (kb_cons rfl (by decide) (fun us hl => match us, hl with | [_, _], _ => rfl) kb_nil))
theorem zdoes_hold (X : p.K.In h) (G : h.Ns mainGlobals p.mg) (c : He.SaysD faD fnD p.K) : Fa p ("does_hold" : Str) ("does_hold" : Str) sdoes_hold pdoes_hold kwdoes_hold := by
  obtain ⟨fd, F⟩ := c.def_ 26 (d := dD ("does_hold" : Str) sdoes_hold) rfl
  exact fa_D (He.glo_ok X G (c.fact 26 (f := .glo ("does_hold" : Str)) rfl)) F (fun _ _ _ _ _ _ us hl => match us, hl with | [_, _], _ => rfl) (fun _ _ _ _ _ _ => (kb_cons rfl (by decide) (fun us hl => match us, hl with | [_, _], _ => rfl) kb_nil))
theorem zfalse_ones (X : p.K.In h) (G : h.Ns mainGlobals p.mg) (c : He.SaysD faD fnD p.K) : Fa p ("false_ones" : Str) ("false_ones" : Str) sfalse_ones pfalse_ones kwfalse_ones := by
  obtain ⟨fd, F⟩ := c.def_ 27 (d := dD ("false_ones" : Str) sfalse_ones) rfl
  exact fa_D (He.glo_ok X G (c.fact 27 (f := .glo ("false_ones" : Str)) rfl)) F (fun _ _ _ _ _ _ us hl => match us, hl with | [_, _], _ => rfl) (fun _ _ _ _ _ _ => (kb_cons rfl (by decide) (fun us hl => match us, hl with | [_, _], _ => rfl) kb_nil))
theorem z_law_pot (X : p.K.In h) (G : h.Ns mainGlobals p.mg) (c : He.SaysD faD fnD p.K) : Fa p ("_law_pot" : Str) ("_law_pot" : Str) s_law_pot p_law_pot kw_law_pot := by
  obtain ⟨fd, F⟩ := c.def_ 28 (d := dD ("_law_pot" : Str) s_law_pot) rfl
  exact fa_D (He.glo_ok X G (c.fact 28 (f := .glo ("_law_pot" : Str)) rfl)) F (fun _ _ _ _ _ _ us hl => match us, hl with | [_, _], _ => rfl) (fun _ _ _ _ _ _ => kb_nil)
theorem z_law_draw (X : p.K.In h) (G : h.Ns mainGlobals p.mg) (c : He.SaysD faD fnD p.K) : Fa p ("_law_draw" : Str) ("_law_draw" : Str) s_law_draw p_law_draw kw_law_draw := by
  obtain ⟨fd, F⟩ := c.def_ 29 (d := dD ("_law_draw" : Str) s_law_draw) rfl
  exact fa_D (He.glo_ok X G (c.fact 29 (f := .glo ("_law_draw" : Str)) rfl)) F (fun _ _ _ _ _ _ us hl => match us, hl with | [_, _], _ => rfl) (fun _ _ _ _ _ _ => kb_nil)
theorem z_law_pick (X : p.K.In h) (G : h.Ns mainGlobals p.mg) (c : He.SaysD faD fnD p.K) : Fa p ("_law_pick" : Str) ("_law_pick" : Str) s_law_pick p_law_pick kw_law_pick := by
  obtain ⟨fd, F⟩ := c.def_ 30 (d := dD ("_law_pick" : Str) s_law_pick) rfl
  exact fa_D (He.glo_ok X G (c.fact 30 (f := .glo ("_law_pick" : Str)) rfl)) F (fun _ _ _ _ _ _ us hl => match us, hl with | [_, _], _ => rfl) (fun _ _ _ _ _ _ => kb_nil)
theorem z_law_group (X : p.K.In h) (G : h.Ns mainGlobals p.mg) (c : He.SaysD faD fnD p.K) : Fa p ("_law_group" : Str) ("_law_group" : Str) s_law_group p_law_group kw_law_group := by
  obtain ⟨fd, F⟩ := c.def_ 31 (d := dD ("_law_group" : Str) s_law_group) rfl
  exact fa_D (He.glo_ok X G (c.fact 31 (f := .glo ("_law_group" : Str)) rfl)) F (fun _ _ _ _ _ _ us hl => match us, hl with | [_], _ => rfl) (fun _ _ _ _ _ _ => kb_nil)
theorem z_law_power (X : p.K.In h) (G : h.Ns mainGlobals p.mg) (c : He.SaysD faD fnD p.K) : Fa p ("_law_power" : Str) ("_law_power" : Str) s_law_power p_law_power kw_law_power := by
  obtain ⟨fd, F⟩ := c.def_ 32 (d := dD ("_law_power" : Str) s_law_power) rfl
  exact fa_D (He.glo_ok X G (c.fact 32 (f := .glo ("_law_power" : Str)) rfl)) F (fun _ _ _ _ _ _ us hl => match us, hl with | [_, _, _], _ => rfl) (fun _ _ _ _ _ _ => kb_nil)
theorem z_law_element (X : p.K.In h) (G : h.Ns mainGlobals p.mg) (c : He.SaysD faD fnD p.K) : Fa p ("_law_element" : Str) ("_law_element" : Str) s_law_element p_law_element kw_law_element := by
  obtain ⟨fd, F⟩ := c.def_ 33 (d := dD ("_law_element" : Str) s_law_element) rfl
  exact fa_D (He.glo_ok X G (c.fact 33 (f := .glo ("_law_element" : Str)) rfl)) F (fun _ _ _ _ _ _ us hl => match us, hl with | [_, _], _ => rfl) (fun _ _ _ _ _ _ => kb_nil)
theorem z_law_log (X : p.K.In h) (G : h.Ns mainGlobals p.mg) (c : He.SaysD faD fnD p.K) : Fa p ("_law_log" : Str) ("_law_log" : Str) s_law_log p_law_log kw_law_log := by
  obtain ⟨fd, F⟩ := c.def_ 34 (d := dD ("_law_log" : Str) s_law_log) rfl
  exact fa_D (He.glo_ok X G (c.fact 34 (f := .glo ("_law_log" : Str)) rfl)) F (fun _ _ _ _ _ _ us hl => match us, hl with | [_, _], _ => rfl) (fun _ _ _ _ _ _ => kb_nil)
theorem z_law_product (X : p.K.In h) (G : h.Ns mainGlobals p.mg) (c : He.SaysD faD fnD p.K) : Fa p ("_law_product" : Str) ("_law_product" : Str) s_law_product p_law_product kw_law_product := by
  obtain ⟨fd, F⟩ := c.def_ 35 (d := dD ("_law_product" : Str) s_law_product) rfl
  exact fa_D (He.glo_ok X G (c.fact 35 (f := .glo ("_law_product" : Str)) rfl)) F (fun _ _ _ _ _ _ us hl => match us, hl with | [_, _, _], _ => rfl) (fun _ _ _ _ _ _ => kb_nil)
theorem z_law_check (X : p.K.In h) (G : h.Ns mainGlobals p.mg) (c : He.SaysD faD fnD p.K) : Fa p ("_law_check" : Str) ("_law_check" : Str) s_law_check p_law_check kw_law_check := by
  obtain ⟨fd, F⟩ := c.def_ 36 (d := dD ("_law_check" : Str) s_law_check) rfl
  exact fa_D (He.glo_ok X G (c.fact 36 (f := .glo ("_law_check" : Str)) rfl)) F (fun _ _ _ _ _ _ us hl => match us, hl with | [_, _], _ => rfl) (fun _ _ _ _ _ _ => kb_nil)
theorem z_law_lot (X : p.K.In h) (G : h.Ns mainGlobals p.mg) (c : He.SaysD faD fnD p.K) : Fa p ("_law_lot" : Str) ("_law_lot" : Str) s_law_lot p_law_lot kw_law_lot := by
  obtain ⟨fd, F⟩ := c.def_ 37 (d := dD ("_law_lot" : Str) s_law_lot) rfl
  exact fa_D (He.glo_ok X G (c.fact 37 (f := .glo ("_law_lot" : Str)) rfl)) F (fun _ _ _ _ _ _ us hl => match us, hl with | [_, _, _], _ => rfl) (fun _ _ _ _ _ _ => kb_nil)
theorem z_law_fault (X : p.K.In h) (G : h.Ns mainGlobals p.mg) (c : He.SaysD faD fnD p.K) : Fa p ("_law_fault" : Str) ("_law_fault" : Str) s_law_fault p_law_fault kw_law_fault := by
  obtain ⟨fd, F⟩ := c.def_ 38 (d := dD ("_law_fault" : Str) s_law_fault) rfl
  exact fa_D (He.glo_ok X G (c.fact 38 (f := .glo ("_law_fault" : Str)) rfl)) F (fun _ _ _ _ _ _ us hl => match us, hl with | [_, _], _ => rfl) (fun _ _ _ _ _ _ => kb_nil)
theorem z_law_check_right (X : p.K.In h) (G : h.Ns mainGlobals p.mg) (c : He.SaysD faD fnD p.K) : Fa p ("_law_check_right" : Str) ("_law_check_right" : Str) s_law_check_right p_law_check_right kw_law_check_right := by
  obtain ⟨fd, F⟩ := c.def_ 39 (d := dD ("_law_check_right" : Str) s_law_check_right) rfl
  exact fa_D (He.glo_ok X G (c.fact 39 (f := .glo ("_law_check_right" : Str)) rfl)) F (fun _ _ _ _ _ _ us hl => match us, hl with | [_, _, _], _ => rfl) (fun _ _ _ _ _ _ => kb_nil)
theorem z_law_right (X : p.K.In h) (G : h.Ns mainGlobals p.mg) (c : He.SaysD faD fnD p.K) : Fa p ("_law_right" : Str) ("_law_right" : Str) s_law_right p_law_right kw_law_right := by
  obtain ⟨fd, F⟩ := c.def_ 40 (d := dD ("_law_right" : Str) s_law_right) rfl
  exact fa_D (He.glo_ok X G (c.fact 40 (f := .glo ("_law_right" : Str)) rfl)) F (fun _ _ _ _ _ _ us hl => match us, hl with | [_], _ => rfl) (fun _ _ _ _ _ _ => kb_nil)
theorem zlaw (X : p.K.In h) (G : h.Ns mainGlobals p.mg) (c : He.SaysD faD fnD p.K) : Fa p ("law" : Str) ("law" : Str) slaw plaw kwlaw := by
  obtain ⟨fd, F⟩ := c.def_ 41 (d := dD ("law" : Str) slaw) rfl
  exact fa_D (He.glo_ok X G (c.fact 41 (f := .glo ("law" : Str)) rfl)) F (fun _ _ _ _ _ _ us hl => match us, hl with | [_], _ => rfl) (fun _ _ _ _ _ _ => kb_nil)
theorem stOf (X : p.K.In h) (G : h.Ns mainGlobals p.mg) (c : He.SaysD faD fnD p.K) : St p := ⟨zis_integer X G c, zis_count X G c, zis_below X G c, zis_row X G c, zis_prime X G c, zpowered X G c, zis_group_of X G c, zis_element_of X G c, ztimes_of X G c, zpower_of X G c, zunder_of X G c, zwant_group X G c, zwant_element X G c, ztimes X G c, zunder X G c, zare_numbers X G c, zare_elements X G c, zproduct_of X G c, zis_check_of X G c, zis_lot_of X G c, zfault_of X G c, zfaults_of X G c, zwant_check X G c, zwant_lot X G c, zis_check X G c, zfault X G c, zdoes_hold X G c, zfalse_ones X G c, z_law_pot X G c, z_law_draw X G c, z_law_pick X G c, z_law_group X G c, z_law_power X G c, z_law_element X G c, z_law_log X G c, z_law_product X G c, z_law_check X G c, z_law_lot X G c, z_law_fault X G c, z_law_check_right X G c, z_law_right X G c, zlaw X G c⟩
theorem knOf (X : p.K.In h) (G : h.Ns mainGlobals p.mg) (c : He.SaysD faD fnD p.K) : Kn p := ⟨He.free_ok X G (c.fact 42 (f := .free ("abs" : Str)) rfl), He.free_ok X G (c.fact 43 (f := .free ("all" : Str)) rfl), He.free_ok X G (c.fact 44 (f := .free ("bool" : Str)) rfl), He.free_ok X G (c.fact 45 (f := .free ("divmod" : Str)) rfl), He.free_ok X G (c.fact 46 (f := .free ("enumerate" : Str)) rfl), He.free_ok X G (c.fact 47 (f := .free ("int" : Str)) rfl), He.free_ok X G (c.fact 48 (f := .free ("isinstance" : Str)) rfl), He.free_ok X G (c.fact 49 (f := .free ("len" : Str)) rfl), He.free_ok X G (c.fact 50 (f := .free ("max" : Str)) rfl), He.free_ok X G (c.fact 51 (f := .free ("min" : Str)) rfl), He.free_ok X G (c.fact 52 (f := .free ("range" : Str)) rfl), He.free_ok X G (c.fact 53 (f := .free ("repr" : Str)) rfl), He.free_ok X G (c.fact 54 (f := .free ("str" : Str)) rfl), He.free_ok X G (c.fact 55 (f := .free ("tuple" : Str)) rfl), He.free_ok X G (c.fact 56 (f := .free ("zip" : Str)) rfl), ck_str X G (c.fact 57 (f := .str ("CHECK" : Str) ("check" : Str)) rfl), ck_str X G (c.fact 58 (f := .str ("GROUP" : Str) ("group" : Str)) rfl), ck_int X G (c.fact 59 (f := .int ("MOST_BASES" : Str) 5) rfl), ck_int X G (c.fact 60 (f := .int ("MOST_CHECKS" : Str) 16) rfl), ck_int X G (c.fact 61 (f := .int ("MOST_P" : Str) 999983) rfl), ck_int X G (c.fact 62 (f := .int ("MOST_Q" : Str) 9973) rfl)⟩
end
abbrev R : PySem.W.OpenRow := PySem.W.OpenLaw.row PySem.Challenge.rw_showneither_k68_whole_checks_and_faults
abbrev hk : PySem.W.Hook := He.hookD 4 faD fnD
def ob (s : PySem.W.SharedT) : He.AlD := He.obsDG 4 faD fnD (HandSHeadRun.getT s)
theorem ob_eq (s : PySem.W.SharedT) : ob s = hk.obs s.abs := He.obsDG_eq (HandSHeadRun.getT_eq s)
def loose0 : List Str := [("ShownError" : Str), ("InvalidElement" : Str), ("InvalidGroup" : Str), ("InvalidCheck" : Str), ("InvalidLot" : Str), ("is_integer" : Str), ("is_count" : Str), ("is_below" : Str), ("is_row" : Str), ("GROUP" : Str), ("MOST_P" : Str), ("MOST_Q" : Str), ("is_prime" : Str), ("powered" : Str), ("is_group_of" : Str), ("is_element_of" : Str), ("times_of" : Str), ("power_of" : Str), ("under_of" : Str), ("want_group" : Str), ("want_element" : Str), ("times" : Str), ("under" : Str), ("are_numbers" : Str), ("are_elements" : Str), ("product_of" : Str), ("CHECK" : Str), ("MOST_BASES" : Str), ("MOST_CHECKS" : Str), ("is_check_of" : Str)]
def loose1 : List Str := [("is_lot_of" : Str), ("fault_of" : Str), ("faults_of" : Str), ("want_check" : Str), ("want_lot" : Str), ("is_check" : Str), ("fault" : Str), ("does_hold" : Str), ("false_ones" : Str), ("_law_pot" : Str), ("_law_draw" : Str), ("_law_pick" : Str), ("_law_group" : Str), ("_law_power" : Str), ("_law_element" : Str), ("_law_log" : Str), ("_law_product" : Str), ("_law_check" : Str), ("_law_lot" : Str), ("_law_fault" : Str), ("_law_check_right" : Str), ("_law_right" : Str)]
def loose : List Str := loose0 ++ loose1
theorem run (w : World) : HandSHeadRun.RunEq R (PySem.W.view R.prog [59]) hk ob 20000 loose w := by
  intro os
  kernel_rfl
theorem holds {n : Nat} (rm : Room (n + 1) callerA) (law : LawOk (bodyF nlaw.length 1 (blaw (T n))) 63) : PySem.Challenge.rw_showneither_k68_whole_checks_and_faults.Holds := by
  w_on; o_law
  refine HandSHeadRun.head_any (r := R) (q := PySem.W.view R.prog [59]) (H := hk) (ob := ob) (M := 20000) (loose := loose) (d := HandSHeadRun.topDef R.prog 59) (kwd := []) ob_eq
    (by kernel_rfl) (fun s => by kernel_rfl) run (by kernel_rfl) (by kernel_rfl) (by kernel_rfl) (by rfl) (by first | assumption | decide +kernel) (by decide +kernel) ⟨rfl, rfl, rfl, rfl, rfl, by decide +kernel⟩ ?hw ?hc
  case hw => w_witness2
  case hc =>
    refine walk_GE (l := PySem.Challenge.rw_showneither_k68_whole_checks_and_faults) (most := 63) (x := "script") (F := bodyF nlaw.length 1 (blaw (T n))) rfl (by decide) (by kernel_rfl) rm ?F law
    intro w mg fa h Y G hmg0
    obtain ⟨K, KX, c⟩ := Y
    have hmg : mg ("law" : Str) = some (.ref fa) := by
      have e : (HandSHeadRun.topDef R.prog 59).name = ("law" : Str) := by kernel_rfl
      rw [← e]
      exact hmg0
    obtain ⟨fd, F⟩ := c.def_ 41 (d := dD "law" slaw) rfl
    refine law_end (P := (PySem.Challenge.rw_showneither_k68_whole_checks_and_faults).prog) (w := w) hmg KX G (c.fact 41 (f := .glo "law") rfl) F sclaw (fun _ _ _ _ _ _ us hl => match us, hl with | [_], _ => rfl) fun base h1 h2 => ?_
    exact wlaw (p := ⟨(PySem.Challenge.rw_showneither_k68_whole_checks_and_faults).prog, w, K, mg, base⟩) (knOf KX G c) (all_n (stOf KX G c) (knOf KX G c) n)
end K68
/-! Numbers by a modulus, powers of one base. -/
namespace Ev1
/-- the same by p -/
def Eqm (p a b : Int) : Prop := a % p = b % p
namespace Eqm
variable {p a b c d : Int}
theorem refl (a : Int) : Eqm p a a := rfl
theorem symm (h : Eqm p a b) : Eqm p b a := Eq.symm h
theorem trans (h : Eqm p a b) (k : Eqm p b c) : Eqm p a c := Eq.trans h k
theorem mod (a : Int) : Eqm p (a % p) a := Int.emod_emod_of_dvd a (Int.dvd_refl p)
theorem mul (h : Eqm p a b) (k : Eqm p c d) : Eqm p (a * c) (b * d) := by
  unfold Eqm at *
  rw [Int.mul_emod, h, k, ← Int.mul_emod]
theorem pow (h : Eqm p a b) : ∀ n : Nat, Eqm p (a ^ n) (b ^ n)
  | 0 => by rw [Int.pow_zero, Int.pow_zero]; exact refl 1
  | n + 1 => by
    rw [Int.pow_succ, Int.pow_succ]
    exact (pow h n).mul h
end Eqm
/-- a group's numbers -/
structure Gn (p q : Nat) (g : Int) : Prop where
  p1 : 1 < p
  q1 : 1 < q
  g1 : 1 < g
  g2 : g < p
  gq : g ^ q % (p : Int) = 1
  low : ∀ f, f < q → g ^ f % (p : Int) = 1 → f = 0
section
variable {p q : Nat} {g : Int} (G : Gn p q g)
include G
theorem Gn.pos : (0 : Int) < p := by have := G.p1; omega
theorem Gn.one : (1 : Int) % (p : Int) = 1 := Int.emod_eq_of_lt (by omega) (by have := G.p1; omega)
theorem Gn.gqE : Eqm p (g ^ q) 1 := by
  unfold Eqm
  rw [G.gq, G.one]
theorem Gn.gqk (k : Nat) : Eqm p (g ^ (q * k)) 1 := by
  rw [Int.pow_mul]
  have := G.gqE.pow k
  rwa [Int.one_pow] at this
theorem Gn.red (n : Nat) : Eqm p (g ^ n) (g ^ (n % q)) := by
  have e : q * (n / q) + n % q = n := Nat.div_add_mod n q
  have h := (G.gqk (n / q)).mul (Eqm.refl (p := p) (g ^ (n % q)))
  rw [← Int.pow_add, e, Int.one_mul] at h
  exact h
/-- of the same exponent by q -/
theorem Gn.same {m n : Nat} (h : m % q = n % q) : g ^ m % (p : Int) = g ^ n % (p : Int) := by
  have a := G.red m
  rw [h] at a
  exact a.trans (G.red n).symm
theorem Gn.inj {m n : Nat} (hm : m < q) (hn : n < q) (h : g ^ m % (p : Int) = g ^ n % (p : Int)) : m = n := by
  have key : ∀ {m n : Nat}, m < q → n < q → m ≤ n → Eqm p (g ^ m) (g ^ n) → m = n := by
    intro m n hm hn hl h
    have e := h.mul (Eqm.refl (p := p) (g ^ (q - m)))
    rw [← Int.pow_add, ← Int.pow_add, show m + (q - m) = q by omega] at e
    have e2 := (e.symm.trans G.gqE)
    have e3 : g ^ ((n + (q - m)) % q) % (p : Int) = 1 := by
      have := (G.red (n + (q - m))).symm.trans e2
      unfold Eqm at this
      rw [this, G.one]
    have e4 := G.low _ (Nat.mod_lt _ (by omega)) e3
    rw [show n + (q - m) = (n - m) + q by omega, Nat.add_mod_right, Nat.mod_eq_of_lt (by omega)] at e4
    omega
  rcases Nat.le_total m n with hl | hl
  · exact key hm hn hl h
  · exact (key hn hm hl h.symm).symm
/-- an element: a power of g -/
def El (p q : Nat) (g : Int) (v : Int) : Prop := ∃ d : Nat, d < q ∧ v = g ^ d % (p : Int)
omit G in
theorem El.pow {v : Int} (h : El p q g v) : ∃ d : Nat, d < q ∧ Eqm p v (g ^ d) := by
  obtain ⟨d, h1, rfl⟩ := h
  exact ⟨d, h1, Eqm.mod _⟩
theorem Gn.el_of (n : Nat) : El p q g (g ^ n % (p : Int)) := ⟨n % q, Nat.mod_lt _ (by have := G.q1; omega), G.red n⟩
theorem Gn.el_eq {v : Int} {n : Nat} (h : Eqm p v (g ^ n)) : El p q g (v % p) := by
  obtain ⟨d, h1, h2⟩ := G.el_of n
  exact ⟨d, h1, h.trans h2⟩
theorem Gn.el_mul {v w : Int} (hv : El p q g v) (hw : El p q g w) : El p q g (v * w % p) := by
  obtain ⟨a, _, ha⟩ := hv.pow
  obtain ⟨b, _, hb⟩ := hw.pow
  have := ha.mul hb
  rw [← Int.pow_add] at this
  exact G.el_eq this
theorem Gn.el_pow {v : Int} (hv : El p q g v) (n : Nat) : El p q g (v ^ n % p) := by
  obtain ⟨a, _, ha⟩ := hv.pow
  have := ha.pow n
  rw [← Int.pow_mul] at this
  exact G.el_eq this
theorem Gn.el_one : El p q g 1 := ⟨0, by have := G.q1; omega, by rw [Int.pow_zero, G.one]⟩
theorem Gn.el_range {v : Int} (hv : El p q g v) : 1 ≤ v ∧ v < p := by
  obtain ⟨d, h1, rfl⟩ := hv
  have hp := G.pos
  have h2 := Int.emod_nonneg (g ^ d) (by omega : (p : Int) ≠ 0)
  have h3 := Int.emod_lt_of_pos (g ^ d) hp
  refine ⟨?_, h3⟩
  rcases Int.lt_or_eq_of_le h2 with h | h
  · omega
  · exfalso
    have e : Eqm p (g ^ d) 0 := by unfold Eqm; rw [← h]; simp
    have e2 := e.mul (Eqm.refl (p := p) (g ^ (q - d)))
    rw [← Int.pow_add, show d + (q - d) = q by omega, Int.zero_mul] at e2
    have := G.gqE.symm.trans e2
    unfold Eqm at this
    rw [G.one] at this
    simp at this
theorem Gn.el_q {v : Int} (hv : El p q g v) : v ^ q % (p : Int) = 1 := by
  obtain ⟨a, _, ha⟩ := hv.pow
  have := ha.pow q
  rw [← Int.pow_mul, Nat.mul_comm] at this
  have := this.trans (G.gqk a)
  unfold Eqm at this
  rw [this, G.one]
theorem Gn.el_self {v : Int} (hv : El p q g v) : v % (p : Int) = v := Int.emod_eq_of_lt (by have := (G.el_range hv).1; omega) (G.el_range hv).2
/-- the quotient of two powers: by the difference of exponents, by the (q - 1)-th power -/
theorem Gn.quot {a b : Nat} {v w : Int} (hv : v = g ^ a % p) (hw : w = g ^ b % p) (ha : a < q) (hb : b < q) : v * (w ^ (q - 1) % p) % p = g ^ (((a : Int) - b) % (q : Int)).toNat % (p : Int) := by
  have h1 : Eqm p v (g ^ a) := by rw [hv]; exact Eqm.mod _
  have h2 : Eqm p w (g ^ b) := by rw [hw]; exact Eqm.mod _
  have h3 : Eqm p (v * (w ^ (q - 1) % p)) (g ^ (a + b * (q - 1))) := by
    rw [Int.pow_add, Int.pow_mul]
    exact h1.mul ((Eqm.mod _).trans (h2.pow _))
  have hq := G.q1
  refine h3.trans (G.same ?_)
  have e1 : b * (q - 1) + b = b * q := by
    rw [Nat.mul_sub, Nat.mul_one]
    have := Nat.le_mul_of_pos_right b (show 0 < q by omega)
    omega
  by_cases hc : b ≤ a
  · have e2 : (((a : Int) - b) % (q : Int)).toNat = a - b := by
      rw [Int.emod_eq_of_lt (by omega) (by omega)]
      omega
    rw [e2]
    have : a + b * (q - 1) = (a - b) + b * q := by omega
    rw [this, Nat.add_mul_mod_self_right]
  · have e2 : (((a : Int) - b) % (q : Int)).toNat = a + q - b := by
      rw [← Int.add_emod_right, Int.emod_eq_of_lt (by omega) (by omega)]
      omega
    rw [e2]
    have : a + b * (q - 1) + q = (a + q - b) + b * q := by omega
    rw [← Nat.add_mod_right, this, Nat.add_mul_mod_self_right]
end
end Ev1
namespace K68
open PySem L2 Ev1
theorem r_is_integer (n : Nat) (i : Int) (g : List Cell) : T (n + 1) i_is_integer [.int i] g = some (.v (.bl true), g) := by
  rw [t_is_integer]
  unfold bis_integer
  simp
theorem r_is_count (n : Nat) (i : Int) (g : List Cell) : T (n + 2) i_is_count [.int i] g = some (.v (.bl (decide (0 ≤ i))), g) := by
  rw [t_is_count]
  unfold bis_count
  simp [r_is_integer]
theorem r_is_below (n : Nat) (i j : Int) (g : List Cell) (h : 0 ≤ i) : T (n + 3) i_is_below [.int i, .int j] g = some (.v (.bl (decide (i < j))), g) := by
  rw [t_is_below]
  unfold bis_below
  simp [r_is_count, h]
theorem r_is_row (n : Nat) (xs : List D) (k : Int) (g : List Cell) : T (n + 1) i_is_row [.tup xs, .int k] g = some (.v (.bl ((xs.length : Int) == k)), g) := by
  rw [t_is_row]
  unfold bis_row
  simp
abbrev iI (i : Int) : Option Rs := some (.v (.int i))
theorem wh_powered {p : Int} (h1 : 1 < p) (h2 : p < 1000000) (s : S) : ∀ (k n : Nat) (b f : Int), n < 2 ^ k → 0 ≤ b → b < p → 0 ≤ f → f < p → ∀ fu, k < fu → ∃ b',
    whD (dT (dGt (dVar 1) (dC (.int 0)))) (dSeq (dIfS (dT (dEq (dMod (dVar 1) (dC (.int 2))) (dC (.int 1)))) (dSet false 3 (dMod (dMul (dVar 3) (dVar 0)) (dVar 2))) dNil)
      (dPar 0 1 (dMod (dMul (dVar 0) (dVar 0)) (dVar 2)) (dDiv (dVar 1) (dC (.int 2))))) fu [iI b, iI n, iI p, iI f] s = some (.nx [iI b', iI 0, iI p, iI (f * b ^ n % p)] s) := by
  intro k
  induction k with
  | zero =>
    intro n b f hn hb0 hb hf0 hf fu hfu
    obtain ⟨fu, rfl⟩ : ∃ m, fu = m + 1 := ⟨fu - 1, by omega⟩
    have hn0 : n = 0 := by simpa using hn
    subst hn0
    refine ⟨b, ?_⟩
    rw [whD]
    simp [Int.emod_eq_of_lt hf0 hf]
  | succ k ih =>
    intro n b f hn hb0 hb hf0 hf fu hfu
    obtain ⟨fu, rfl⟩ : ∃ m, fu = m + 1 := ⟨fu - 1, by omega⟩
    by_cases hn0 : n = 0
    · subst hn0
      refine ⟨b, ?_⟩
      rw [whD]
      simp [Int.emod_eq_of_lt hf0 hf]
    · have hp : 0 < p := by omega
      have hs1 : sm64 b = true := by simp only [sm64, decide_eq_true_eq]; omega
      have hs2 : sm64 f = true := by simp only [sm64, decide_eq_true_eq]; omega
      have hn1 : (0 : Int) < n := by omega
      have hd : ((n : Int) / 2) = ((n / 2 : Nat) : Int) := by omega
      have hlt : n / 2 < 2 ^ k := by rw [Nat.pow_succ] at hn; omega
      have hbb := Int.emod_nonneg (b * b) (by omega : p ≠ 0)
      have hbl := Int.emod_lt_of_pos (b * b) hp
      have hfb := Int.emod_nonneg (f * b) (by omega : p ≠ 0)
      have hfl := Int.emod_lt_of_pos (f * b) hp
      have sq : Eqm p ((b * b % p) ^ (n / 2)) (b ^ (2 * (n / 2))) := by
        rw [Int.pow_mul, show b ^ 2 = b * b by rw [Int.pow_succ, Int.pow_succ, Int.pow_zero, Int.one_mul]]
        exact (Eqm.mod _).pow _
      by_cases ho : n % 2 = 1
      · obtain ⟨b', e⟩ := ih (n / 2) (b * b % p) (f * b % p) hlt hbb hbl hfb hfl fu (by omega)
        rw [← hd] at e
        have ho' : (n : Int) % 2 = 1 := by omega
        have en : f * b % p * (b * b % p) ^ (n / 2) % p = f * b ^ n % p := by
          refine ((Eqm.mod _).mul sq).trans ?_
          have : n = 1 + 2 * (n / 2) := by omega
          rw [Int.mul_assoc]
          conv => rhs; rw [this, Int.pow_add, show b ^ 1 = b by rw [Int.pow_succ, Int.pow_zero, Int.one_mul]]
          exact Eqm.refl _
        refine ⟨b', ?_⟩
        rw [whD]
        simp [hn1, hn0, ho', hs1, hs2, hp, e, en]
      · obtain ⟨b', e⟩ := ih (n / 2) (b * b % p) f hlt hbb hbl hf0 hf fu (by omega)
        rw [← hd] at e
        have ho' : ¬ (n : Int) % 2 = 1 := by omega
        have en : f * (b * b % p) ^ (n / 2) % p = f * b ^ n % p := by
          refine ((Eqm.refl _).mul sq).trans ?_
          have : n = 2 * (n / 2) := by omega
          conv => rhs; rw [this]
          exact Eqm.refl _
        refine ⟨b', ?_⟩
        rw [whD]
        simp [hn1, hn0, ho', hs1, hs2, hp, e, en]
theorem r_powered (n k : Nat) {b p : Int} (g : List Cell) (h1 : 1 < p) (h2 : p < 1000000) (hb0 : 0 ≤ b) (hb : b < p) (hk : k < 2 ^ 64) : T (n + 1) i_powered [.int b, .int k, .int p] g = some (.v (.int (b ^ k % p)), g) := by
  obtain ⟨b', e⟩ := wh_powered h1 h2 ⟨[], g⟩ 64 k b 1 hk hb0 hb (by omega) h1 fuel (by decide)
  rw [t_powered]
  unfold bpowered
  rw [Int.one_mul] at e
  simp [e]

theorem r_poweredI (n : Nat) {b p e : Int} (g : List Cell) (h1 : 1 < p) (h2 : p < 1000000) (hb0 : 0 ≤ b) (hb : b < p) (he : 0 ≤ e) (hk : e < 1000000) : T (n + 1) i_powered [.int b, .int e, .int p] g = some (.v (.int (b ^ e.toNat % p)), g) := by
  have := r_powered n e.toNat g h1 h2 hb0 hb (by omega)
  rwa [Int.toNat_of_nonneg he] at this
abbrev gD (p q : Nat) (g : Int) : D := .tup [.str "group", .int p, .int q, .int g]
structure Gr (p q : Nat) (g : Int) : Prop extends Gn p q g where
  p2 : p < 1000
  q2 : q < 1000
  is : ∀ (n : Nat) (c : List Cell), T (n + 2) i_is_group_of [gD p q g] c = some (.v (.bl true), c)
theorem sm {a : Int} (h0 : 0 ≤ a) (h : a < 1000000) : sm64 a = true := by simp only [sm64, decide_eq_true_eq]; omega
section
variable {p q : Nat} {g : Int} (G : Gr p q g) (c : List Cell)
include G
theorem Gr.pI : (1 : Int) < p ∧ (p : Int) < 1000000 := by have := G.p1; have := G.p2; omega
theorem Gr.posN : 0 < p := by have := G.p1; omega
theorem Gr.sm {v : Int} (h : El p q g v) : sm64 v = true := by
  have := G.el_range h
  have := G.pI
  exact K68.sm (by omega) (by omega)
theorem r_is_element_of (n : Nat) {v : Int} (h : El p q g v) : T (n + 2) i_is_element_of [gD p q g, .int v] c = some (.v (.bl true), c) := by
  obtain ⟨h1, h2⟩ := G.el_range h
  have e1 := r_powered n q c G.pI.1 G.pI.2 (by omega : 0 ≤ v) h2 (by have := G.q2; omega)
  rw [t_is_element_of]
  unfold bis_element_of
  simp [r_is_integer, h1, h2, e1, G.el_q h]
theorem r_times_of (n : Nat) {v w : Int} (h : El p q g v) : T (n + 1) i_times_of [gD p q g, .int v, .int w] c = some (.v (.int (v * w % p)), c) := by
  rw [t_times_of]
  unfold btimes_of
  simp [G.sm h, G.pos, G.posN]
theorem r_power_of (n : Nat) {v e : Int} (h : El p q g v) (h0 : 0 ≤ e) (h1 : e < 1000000) : T (n + 2) i_power_of [gD p q g, .int v, .int e] c = some (.v (.int (v ^ e.toNat % p)), c) := by
  obtain ⟨h3, h2⟩ := G.el_range h
  have e1 := r_poweredI n c G.pI.1 G.pI.2 (by omega : 0 ≤ v) h2 h0 h1
  rw [t_power_of]
  unfold bpower_of
  simp [e1]
theorem r_under_of (n : Nat) {v : Int} (h : El p q g v) : T (n + 2) i_under_of [gD p q g, .int v] c = some (.v (.int (v ^ (q - 1) % p)), c) := by
  obtain ⟨h3, h2⟩ := G.el_range h
  have hq := G.q1
  have hq2 := G.q2
  have e1 := r_poweredI n c G.pI.1 G.pI.2 (by omega : 0 ≤ v) h2 (show 0 ≤ (q : Int) - 1 by omega) (by omega)
  rw [show ((q : Int) - 1).toNat = q - 1 by omega] at e1
  rw [t_under_of]
  unfold bunder_of
  simp [e1]
theorem r_want_group (n : Nat) : T (n + 3) i_want_group [gD p q g] c = some (.v (gD p q g), c) := by
  rw [t_want_group]
  unfold bwant_group
  simp [G.is]
theorem r_want_element (n : Nat) {v : Int} (h : El p q g v) : T (n + 3) i_want_element [gD p q g, .int v] c = some (.v (.int v), c) := by
  rw [t_want_element]
  unfold bwant_element
  simp [r_is_element_of G c _ h]
theorem r_times (n : Nat) {v w : Int} (h : El p q g v) (h2 : El p q g w) : T (n + 4) i_times [gD p q g, .int v, .int w] c = some (.v (.int (v * w % p)), c) := by
  rw [t_times]
  unfold btimes
  simp [r_want_group G, r_want_element G c _ h, r_want_element G c _ h2, r_times_of G c _ h]
theorem r_under (n : Nat) {v : Int} (h : El p q g v) : T (n + 4) i_under [gD p q g, .int v] c = some (.v (.int (v ^ (q - 1) % p)), c) := by
  rw [t_under]
  unfold bunder
  simp [r_want_group G, r_want_element G c _ h, r_under_of G c _ h]
end
end K68
namespace K68
open PySem L2 Ev1
abbrev iT (xs : List Int) : D := .tup (xs.map D.int)
def prodOf (p : Nat) : List Int → List Int → Int → Int
  | b :: bs, n :: ns, f => prodOf p bs ns (f * (b ^ n.toNat % p) % p)
  | _, _, f => f
section
variable {p q : Nat} {g : Int} (G : Gr p q g) (c : List Cell)
include G
theorem r_are_elements (n : Nat) (vs : List Int) (h : ∀ v ∈ vs, El p q g v) (hl : vs.length ≤ 1000) : T (n + 3) i_are_elements [gD p q g, iT vs, .int vs.length] c = some (.v (.bl true), c) := by
  have lc := lc_map (gd := gdName 3) (t := dYes) (d := dCall (T (n + 2) i_is_element_of) (aCons (dVar 0) (aCons (dVar 3) aNil))) (ρ0 := [some (.v (gD p q g)), some (.v (iT vs)), iI vs.length, none]) (s := ⟨[], c⟩)
    D.int (fun _ => D.bl true) vs fun v hv => ⟨_, rfl, rfl, .v (.bl true), by simp [r_is_element_of G c n (h v hv)], rfl⟩
  rw [t_are_elements]
  unfold bare_elements
  simp [r_is_row, lc, hl]
omit G in
theorem r_are_numbers (n : Nat) (vs : List Int) (h : ∀ v ∈ vs, 0 ≤ v ∧ v < (q : Int)) (hl : vs.length ≤ 1000) : T (n + 4) i_are_numbers [iT vs, .int vs.length, .int q] c = some (.v (.bl true), c) := by
  have lc := lc_map (gd := gdName 3) (t := dYes) (d := dCall (T (n + 3) i_is_below) (aCons (dVar 3) (aCons (dVar 2) aNil))) (ρ0 := [some (.v (iT vs)), iI vs.length, iI q, none]) (s := ⟨[], c⟩)
    D.int (fun _ => D.bl true) vs fun v hv => ⟨_, rfl, rfl, .v (.bl true), by simp [r_is_below n v q c (h v hv).1, (h v hv).2], rfl⟩
  rw [t_are_numbers]
  unfold bare_numbers
  simp [r_is_row, lc, hl]
theorem Gr.el_prod : ∀ (bs ns : List Int) (f : Int), (∀ v ∈ bs, El p q g v) → El p q g f → El p q g (prodOf p bs ns f)
  | [], _, f, _, hf => by unfold prodOf; exact hf
  | b :: bs, [], f, _, hf => by unfold prodOf; exact hf
  | b :: bs, n :: ns, f, h, hf => by
    unfold prodOf
    exact Gr.el_prod bs ns _ (fun v hv => h v (List.mem_cons_of_mem _ hv)) (G.el_mul hf (G.el_pow (h b (List.mem_cons_self ..)) _))
theorem r_product_of (n : Nat) (bs ns : List Int) (h : ∀ v ∈ bs, El p q g v) (h2 : ∀ v ∈ ns, 0 ≤ v ∧ v < (q : Int)) : T (n + 3) i_product_of [gD p q g, iT bs, iT ns] c = some (.v (.int (prodOf p bs ns 1)), c) := by
  have key : ∀ (bs ns : List Int) (f : Int) (ρ1 ρ2 x4 x5 : Option Rs), (∀ v ∈ bs, El p q g v) → (∀ v ∈ ns, 0 ≤ v ∧ v < (q : Int)) → El p q g f → ∃ y4 y5,
      forD (gdTup (gdCons (gdName 4) (gdCons (gdName 5) gdNil))) (dSet false 3 (dCall (T (n + 2) i_times_of) (aCons (dVar 0) (aCons (dVar 3) (aCons (dCall (T (n + 2) i_power_of) (aCons (dVar 0) (aCons (dVar 4) (aCons (dVar 5) aNil)))) aNil)))))
        (zipII bs ns) [some (.v (gD p q g)), ρ1, ρ2, iI f, x4, x5] ⟨[], c⟩ = some (.nx [some (.v (gD p q g)), ρ1, ρ2, iI (prodOf p bs ns f), y4, y5] ⟨[], c⟩) := by
    intro bs
    induction bs with
    | nil => exact fun ns f _ _ x4 x5 _ _ _ => ⟨x4, x5, by unfold prodOf; rfl⟩
    | cons b bs ih =>
      intro ns f ρ1 ρ2 x4 x5 h h2 hf
      cases ns with
      | nil => exact ⟨x4, x5, by unfold prodOf; rfl⟩
      | cons m ns =>
        have hb := h b (List.mem_cons_self ..)
        have hm := h2 m (List.mem_cons_self ..)
        have hq := G.q2
        have e1 := r_power_of G c n hb hm.1 (by omega)
        have e2 := r_times_of G c (n + 1) (w := b ^ m.toNat % p) hf
        obtain ⟨y4, y5, e3⟩ := ih ns (f * (b ^ m.toNat % p) % p) ρ1 ρ2 (iI b) (iI m) (fun v hv => h v (List.mem_cons_of_mem _ hv)) (fun v hv => h2 v (List.mem_cons_of_mem _ hv)) (G.el_mul hf (G.el_pow hb _))
        refine ⟨y4, y5, ?_⟩
        unfold prodOf
        simp [e1, e2, e3]
  obtain ⟨y4, y5, e⟩ := key bs ns 1 (some (.v (iT bs))) (some (.v (iT ns))) none none h h2 G.el_one
  rw [t_product_of]
  unfold bproduct_of
  simp [e]
/-- a check as the law makes it -/
structure Ck (p q : Nat) (g : Int) (bs ns : List Int) (t : Int) : Prop where
  l1 : 1 ≤ bs.length
  l5 : bs.length ≤ 5
  ll : ns.length = bs.length
  hb : ∀ v ∈ bs, El p q g v
  hn : ∀ v ∈ ns, 0 ≤ v ∧ v < (q : Int)
  ht : El p q g t
abbrev cD (bs ns : List Int) (t : Int) : D := .tup [.str "check", iT bs, iT ns, .int t]
def fo (p q : Nat) (bs ns : List Int) (t : Int) : Int := prodOf p bs ns 1 * (t ^ (q - 1) % p) % p
variable {bs ns : List Int} {t : Int} (C : Ck p q g bs ns t)
include C
theorem r_is_check_of (n : Nat) : T (n + 5) i_is_check_of [gD p q g, cD bs ns t] c = some (.v (.bl true), c) := by
  have e1 := r_are_elements G c (n + 1) bs C.hb (by have := C.l5; omega)
  have e2 := r_are_numbers (q := q) c n ns C.hn (by have := C.l5; have := C.ll; omega)
  have e3 := r_is_element_of G c (n + 2) C.ht
  have h1 : (1 : Int) ≤ bs.length := by have := C.l1; omega
  have h5 : (bs.length : Int) ≤ 5 := by have := C.l5; omega
  rw [C.ll] at e2
  rw [t_is_check_of]
  unfold bis_check_of
  simp [r_is_row, e1, e2, e3, C.l1, C.l5, h1, h5]
theorem r_fault_of (n : Nat) : T (n + 4) i_fault_of [gD p q g, cD bs ns t] c = some (.v (.int (fo p q bs ns t)), c) := by
  have e1 := r_product_of G c n bs ns C.hb C.hn
  have e2 := r_under_of G c (n + 1) C.ht
  have e3 := r_times_of G c (n + 2) (w := t ^ (q - 1) % p) (G.el_prod bs ns 1 C.hb G.el_one)
  rw [t_fault_of]
  unfold bfault_of
  simp [e1, e2, e3, fo]
theorem r_want_check (n : Nat) : T (n + 6) i_want_check [gD p q g, cD bs ns t] c = some (.v (cD bs ns t), c) := by
  rw [t_want_check]
  unfold bwant_check
  simp [r_is_check_of G c C n]
theorem r_is_check (n : Nat) : T (n + 6) i_is_check [gD p q g, cD bs ns t] c = some (.v (.bl true), c) := by
  rw [t_is_check]
  unfold bis_check
  simp [r_is_check_of G c C n, r_want_group G]
theorem r_fault (n : Nat) : T (n + 7) i_fault [gD p q g, cD bs ns t] c = some (.v (.int (fo p q bs ns t)), c) := by
  rw [t_fault]
  unfold bfault
  simp [r_fault_of G c C, r_want_group G, r_want_check G c C n]
theorem r_does_hold (n : Nat) : T (n + 7) i_does_hold [gD p q g, cD bs ns t] c = some (.v (.bl (fo p q bs ns t == 1)), c) := by
  rw [t_does_hold]
  unfold bdoes_hold
  simp [r_fault_of G c C, r_want_group G, r_want_check G c C n]
end
end K68
namespace K68
open PySem L2 Ev1
abbrev Kt : Type := List Int × List Int × Int
abbrev kD (k : Kt) : D := cD k.1 k.2.1 k.2.2
abbrev CkK (p q : Nat) (g : Int) (k : Kt) : Prop := Ck p q g k.1 k.2.1 k.2.2
abbrev foK (p q : Nat) (k : Kt) : Int := fo p q k.1 k.2.1 k.2.2
abbrev lotD (ks : List Kt) : D := .tup (ks.map kD)
/-- the items with their places -/
def enI {α : Type} : Nat → List α → List (Nat × α)
  | _, [] => []
  | k, x :: xs => (k, x) :: enI (k + 1) xs
theorem enumD_map {α : Type} (f : α → D) : ∀ (xs : List α) (k : Nat), enumD k (xs.map f) = (enI k xs).map fun a => D.tup [.int a.1, f a.2]
  | [], _ => rfl
  | x :: xs, k => by
    show D.tup [.int k, f x] :: enumD (k + 1) (xs.map f) = _
    rw [enumD_map f xs (k + 1)]
    rfl
theorem enI_mem {α : Type} : ∀ {xs : List α} {k : Nat} {a : Nat × α}, a ∈ enI k xs → a.2 ∈ xs ∧ a.1 < k + xs.length
  | [], _, _, h => nomatch h
  | x :: xs, k, a, h => by
    rcases List.mem_cons.mp (show a ∈ (k, x) :: enI (k + 1) xs from h) with rfl | h
    · exact ⟨List.mem_cons_self .., by rw [List.length_cons]; exact Nat.lt_add_of_pos_right (Nat.succ_pos _)⟩
    · obtain ⟨h1, h2⟩ := enI_mem h
      exact ⟨List.mem_cons_of_mem _ h1, by rw [List.length_cons]; omega⟩
theorem enI_len {α : Type} : ∀ {xs : List α} {k : Nat}, (enI k xs).length = xs.length
  | [], _ => rfl
  | x :: xs, k => by
    show ((k, x) :: enI (k + 1) xs).length = _
    rw [List.length_cons, List.length_cons, enI_len]
section
variable {p q : Nat} {g : Int} (G : Gr p q g) (c : List Cell)
include G
theorem r_is_lot_of (n : Nat) (ks : List Kt) (h : ∀ k ∈ ks, CkK p q g k) (h1 : 1 ≤ ks.length) (h2 : ks.length ≤ 16) : T (n + 6) i_is_lot_of [gD p q g, lotD ks] c = some (.v (.bl true), c) := by
  have lc := lc_map (gd := gdName 2) (t := dYes) (d := dCall (T (n + 5) i_is_check_of) (aCons (dVar 0) (aCons (dVar 2) aNil))) (ρ0 := [some (.v (gD p q g)), some (.v (lotD ks)), none]) (s := ⟨[], c⟩)
    kD (fun _ => D.bl true) ks fun k hk => ⟨_, rfl, rfl, .v (.bl true), by simp [r_is_check_of G c (h k hk) n], rfl⟩
  have a1 : (1 : Int) ≤ ks.length := by omega
  have a2 : (ks.length : Int) ≤ 16 := by omega
  have a3 : ks.length ≤ 1000 := by omega
  rw [t_is_lot_of]
  unfold bis_lot_of
  simp [lc, h1, h2, a1, a2, a3]
theorem r_faults_of (n : Nat) (ks : List Kt) (h : ∀ k ∈ ks, CkK p q g k) (h2 : ks.length ≤ 16) : T (n + 5) i_faults_of [gD p q g, lotD ks] c = some (.own (ks.map fun k => .int (foK p q k)), c) := by
  have lc := lc_map (gd := gdName 2) (t := dYes) (d := dCall (T (n + 4) i_fault_of) (aCons (dVar 0) (aCons (dVar 2) aNil))) (ρ0 := [some (.v (gD p q g)), some (.v (lotD ks)), none]) (s := ⟨[], c⟩)
    kD (fun k => .int (foK p q k)) ks fun k hk => ⟨_, rfl, rfl, .v (.int (foK p q k)), by simp [r_fault_of G c (h k hk) n], rfl⟩
  have a3 : ks.length ≤ 1000 := by omega
  rw [t_faults_of]
  unfold bfaults_of
  simp [lc, h2, a3]
theorem r_want_lot (n : Nat) (ks : List Kt) (h : ∀ k ∈ ks, CkK p q g k) (h1 : 1 ≤ ks.length) (h2 : ks.length ≤ 16) : T (n + 7) i_want_lot [gD p q g, lotD ks] c = some (.v (lotD ks), c) := by
  rw [t_want_lot]
  unfold bwant_lot
  simp [r_is_lot_of G c n ks h h1 h2]
/-- the places of the checks that don't hold -/
abbrev bad (p q : Nat) (ks : List Kt) : List D := ((enI 0 ks).filter fun a => !(foK p q a.2 == 1)).map fun a => .int a.1
theorem r_false_ones (n : Nat) (ks : List Kt) (h : ∀ k ∈ ks, CkK p q g k) (h1 : 1 ≤ ks.length) (h2 : ks.length ≤ 16) : T (n + 8) i_false_ones [gD p q g, lotD ks] c = some (.own (bad p q ks), c) := by
  have e1 := r_faults_of G c (n + 2) ks h h2
  have lc := lc_filter (gd := gdTup (gdCons (gdName 3) (gdCons (gdName 4) gdNil))) (t := dT (dNe (dVar 4) (dC (.int 1)))) (d := dVar 3) (ρ0 := [some (.v (gD p q g)), some (.v (lotD ks)), some (.v (.lst (ks.map fun k => .int (foK p q k)))), none, none]) (s := ⟨[], c⟩)
    (fun a => !(foK p q a.2 == 1)) (fun a : Nat × Kt => D.tup [.int a.1, .int (foK p q a.2)]) (fun a => .int a.1) (enI 0 ks) fun a ha => ⟨_, rfl, by simp, fun _ => ⟨.v (.int a.1), by simp, rfl⟩⟩
  have a3 : ks.length ≤ 1000 := by omega
  rw [t_false_ones]
  unfold bfalse_ones
  simp [r_want_group G, r_want_lot G c n ks h h1 h2, e1, enumD_map, lc, enI_len, a3]
end
/-! ### the law's own -/
abbrev Pc (a b : Int) : Cell := [.int a, .int b]
theorem r_draw (n : Nat) (a b : Int) {m : Int} (rest : List Cell) (hm : 0 < m) (hm2 : m.natAbs < 1073741824) : ∃ d a' b', T (n + 1) i__law_draw [.ref 0, .int m] (Pc a b :: rest) = some (.v (.int d), Pc a' b' :: rest) ∧ 0 ≤ d ∧ d < m := by
  rw [t__law_draw]
  unfold b_law_draw
  by_cases ha : 0 < a
  · refine ⟨a % m, a / m, b, ?_, Int.emod_nonneg _ (by omega), Int.emod_lt_of_pos _ hm⟩
    simp [ha, hm, hm2]
  · have hb := Int.emod_nonneg (b * 40692 + 7481) (show (2147483587 : Int) ≠ 0 by decide)
    have hb2 := Int.emod_lt_of_pos (b * 40692 + 7481) (show (0 : Int) < 2147483587 by decide)
    have h3 : sm64 ((b * 40692 + 7481) % 2147483587) = true := by simp only [sm64, decide_eq_true_eq]; omega
    refine ⟨_, a, (b * 40692 + 7481) % 2147483587, ?_, Int.emod_nonneg (((b * 40692 + 7481) % 2147483587 * ((b * 40692 + 7481) % 2147483587)) % 2147483549 / 17) (by omega : m ≠ 0), Int.emod_lt_of_pos _ hm⟩
    simp [ha, hm, hm2, h3, show sm64 40692 = true by decide]
end K68
namespace K68
open PySem L2 Ev1
theorem at_in {α : Type} {xs : List α} {d : Int} (h0 : 0 ≤ d) (h : d < xs.length) : ∃ x, L2.atI xs d = some x ∧ x ∈ xs := by
  have hl : d.toNat < xs.length := by omega
  refine ⟨xs[d.toNat], ?_, List.getElem_mem hl⟩
  unfold L2.atI L2.ixN
  rw [if_pos h0, if_pos h]
  simp [hl]
theorem r_pick (n : Nat) (a b : Int) (rest : List Cell) (xs : List D) (h1 : 1 ≤ xs.length) (h2 : xs.length ≤ 1000) : ∃ x a' b', T (n + 2) i__law_pick [.ref 0, .lst xs] (Pc a b :: rest) = some (.v x, Pc a' b' :: rest) ∧ x ∈ xs := by
  obtain ⟨d, a', b', e, hd0, hd⟩ := r_draw n a b rest (show (0 : Int) < (xs.length : Int) by omega) (by omega)
  obtain ⟨x, ex, hx⟩ := at_in hd0 hd
  refine ⟨x, a', b', ?_, hx⟩
  rw [t__law_pick]
  unfold b_law_pick
  simp [e, ex]
theorem gr1 : Gr 23 11 2 := ⟨⟨by decide, by decide, by decide, by decide, by decide +kernel, by decide +kernel⟩, by decide, by decide, fun n c => by kernel_rfl⟩
theorem gr2 : Gr 47 23 2 := ⟨⟨by decide, by decide, by decide, by decide, by decide +kernel, by decide +kernel⟩, by decide, by decide, fun n c => by kernel_rfl⟩
theorem gr3 : Gr 11 5 3 := ⟨⟨by decide, by decide, by decide, by decide, by decide +kernel, by decide +kernel⟩, by decide, by decide, fun n c => by kernel_rfl⟩
theorem gr4 : Gr 7 3 2 := ⟨⟨by decide, by decide, by decide, by decide, by decide +kernel, by decide +kernel⟩, by decide, by decide, fun n c => by kernel_rfl⟩
theorem gr5 : Gr 607 101 64 := ⟨⟨by decide, by decide, by decide, by decide, by decide +kernel, by decide +kernel⟩, by decide, by decide, fun n c => by kernel_rfl⟩
theorem gr6 : Gr 23 11 3 := ⟨⟨by decide, by decide, by decide, by decide, by decide +kernel, by decide +kernel⟩, by decide, by decide, fun n c => by kernel_rfl⟩
theorem gr7 : Gr 3 2 2 := ⟨⟨by decide, by decide, by decide, by decide, by decide +kernel, by decide +kernel⟩, by decide, by decide, fun n c => by kernel_rfl⟩
def someG : List D := [.tup [.int 23, .int 11, .int 2], .tup [.int 47, .int 23, .int 2], .tup [.int 11, .int 5, .int 3], .tup [.int 7, .int 3, .int 2], .tup [.int 607, .int 101, .int 64], .tup [.int 23, .int 11, .int 3], .tup [.int 3, .int 2, .int 2]]
theorem someG_is {x : D} (h : x ∈ someG) : ∃ p q g, Gr p q g ∧ x = .tup [.int (p : Nat), .int (q : Nat), .int g] := by
  simp only [someG, List.mem_cons, List.not_mem_nil, or_false] at h
  rcases h with rfl | rfl | rfl | rfl | rfl | rfl | rfl
  · exact ⟨_, _, _, gr1, rfl⟩
  · exact ⟨_, _, _, gr2, rfl⟩
  · exact ⟨_, _, _, gr3, rfl⟩
  · exact ⟨_, _, _, gr4, rfl⟩
  · exact ⟨_, _, _, gr5, rfl⟩
  · exact ⟨_, _, _, gr6, rfl⟩
  · exact ⟨_, _, _, gr7, rfl⟩
theorem r_group (n : Nat) (a b : Int) (rest : List Cell) : ∃ p q g a' b', Gr p q g ∧ T (n + 3) i__law_group [.ref 0] (Pc a b :: rest) = some (.v (gD p q g), Pc a' b' :: rest) := by
  obtain ⟨x, a', b', e, hx⟩ := r_pick n a b rest someG (by decide) (by decide)
  obtain ⟨p, q, g, G, rfl⟩ := someG_is hx
  refine ⟨p, q, g, a', b', G, ?_⟩
  rw [t__law_group]
  unfold b_law_group
  unfold someG at e
  simp [e]
end K68
namespace K68
open PySem L2 Ev1
theorem rng_succ (lo : Int) (n : Nat) : rngD lo (n + 1) = .int lo :: rngD (lo + 1) n := by
  unfold rngD
  rw [List.range_succ_eq_map, List.map_cons, List.map_map]
  congr 1
  · simp
  · refine List.map_congr_left fun i _ => ?_
    show D.int (lo + ((i + 1 : Nat) : Int)) = D.int (lo + 1 + (i : Int))
    congr 1
    omega
theorem rng_zero (lo : Int) : rngD lo 0 = [] := rfl
section
variable {p q : Nat} {g : Int} (G : Gr p q g) (c : List Cell)
include G
theorem r_law_power (n : Nat) {v e : Int} (h : El p q g v) (h0 : 0 ≤ e) (h1 : e < 1000000) : T (n + 1) i__law_power [gD p q g, .int v, .int e] c = some (.v (.int (v ^ e.toNat % p)), c) := by
  have key : ∀ (m : Nat) (lo f : Int) (x2 x4 : Option Rs), 0 ≤ f → f < p → ∃ y4, forD (gdName 4) (dSet false 3 (dMod (dInt (aCons (dMul (dVar 3) (dVar 1)) aNil)) (dIx (dVar 0) (dC (.int 1))))) (rngD lo m)
      [some (.v (gD p q g)), iI v, x2, iI f, x4] ⟨[], c⟩ = some (.nx [some (.v (gD p q g)), iI v, x2, iI (f * v ^ m % p), y4] ⟨[], c⟩) := by
    intro m
    induction m with
    | zero =>
      intro lo f x2 x4 hf0 hf
      refine ⟨x4, ?_⟩
      rw [rng_zero]
      simp [Int.emod_eq_of_lt hf0 hf]
    | succ m ih =>
      intro lo f x2 x4 hf0 hf
      have hp := G.pos
      obtain ⟨y4, e⟩ := ih (lo + 1) (f * v % p) x2 (iI lo) (Int.emod_nonneg _ (by omega)) (Int.emod_lt_of_pos _ hp)
      refine ⟨y4, ?_⟩
      have em : f * v % p * v ^ m % p = f * v ^ (m + 1) % (p : Int) := by
        refine ((Eqm.mod (p := (p : Int)) (f * v)).mul (Eqm.refl (v ^ m))).trans ?_
        rw [Int.pow_succ, Int.mul_assoc, Int.mul_comm v]
        exact Eqm.refl _
      rw [em] at e
      have hs : sm64 f = true := K68.sm hf0 (by have := G.pI; omega)
      rw [rng_succ]
      simp [e, hs, G.posN]
  obtain ⟨y4, e1⟩ := key e.toNat 0 1 (iI e) none (by omega) G.pI.1
  have hr : inRng e = true := by simp only [inRng, decide_eq_true_eq]; omega
  rw [Int.one_mul] at e1
  rw [t__law_power]
  unfold b_law_power
  simp [hr, e1]
theorem r_law_element (n : Nat) (a b : Int) : ∃ v a' b', T (n + 2) i__law_element [.ref 0, gD p q g] (Pc a b :: c) = some (.v (.int v), Pc a' b' :: c) ∧ El p q g v := by
  have hq := G.q1
  have hq2 := G.q2
  obtain ⟨d, a', b', e, hd0, hd⟩ := r_draw n a b c (show (0 : Int) < (q : Int) by omega) (by omega)
  have hg : El p q g g := ⟨1, hq, by rw [Int.pow_succ, Int.pow_zero, Int.one_mul, Int.emod_eq_of_lt (by have := G.g1; omega) G.g2]⟩
  have e2 := r_law_power G (Pc a' b' :: c) n hg hd0 (by omega)
  refine ⟨g ^ d.toNat % p, a', b', ?_, G.el_of _⟩
  rw [t__law_element]
  unfold b_law_element
  simp [e, e2]
theorem lg_key {d : Nat} (hd : d < q) : ∀ (m j : Nat) (x3 : Option Rs), j + m = d →
      forD (gdName 3) (dSeq (dIfS (dT (dEq (dVar 2) (dVar 1))) (dRet (dVar 3)) dNil) (dSet false 2 (dMod (dInt (aCons (dMul (dVar 2) (dIx (dVar 0) (dC (.int 3)))) aNil)) (dIx (dVar 0) (dC (.int 1)))))) (rngD j (q - j))
        [some (.v (gD p q g)), iI (g ^ d % p), iI (g ^ j % p), x3] ⟨[], c⟩ = some (.rt (.v (.int d)) c) := by
    intro m
    induction m with
    | zero =>
      intro j x3 hj
      have : j = d := by omega
      subst this
      obtain ⟨k, hk⟩ : ∃ k, q - j = k + 1 := ⟨q - j - 1, by omega⟩
      rw [hk, rng_succ]
      simp
    | succ m ih =>
      intro j x3 hj
      have e := ih (j + 1) (iI j) (by omega)
      have ne : ¬ (g ^ j % (p : Int) = g ^ d % p) := fun z => by
        have := G.inj (by omega) hd z
        omega
      have hs : sm64 (g ^ j % p) = true := G.sm (G.el_of j)
      have em : g ^ j % p * g % p = g ^ (j + 1) % (p : Int) := by
        rw [Int.pow_succ]
        exact (Eqm.mod (p := (p : Int)) (g ^ j)).mul (Eqm.refl g)
      obtain ⟨k, hk⟩ : ∃ k, q - j = k + 1 := ⟨q - j - 1, by omega⟩
      rw [show q - (j + 1) = k by omega, ← em, show (((j + 1 : Nat) : Int)) = (j : Int) + 1 by omega] at e
      rw [hk, rng_succ]
      simp [e, hs, G.posN, ne]
theorem lg_key0 {d : Nat} (hd : d < q) : forD (gdName 3) (dSeq (dIfS (dT (dEq (dVar 2) (dVar 1))) (dRet (dVar 3)) dNil) (dSet false 2 (dMod (dInt (aCons (dMul (dVar 2) (dIx (dVar 0) (dC (.int 3)))) aNil)) (dIx (dVar 0) (dC (.int 1)))))) (rngD 0 q)
        [some (.v (gD p q g)), iI (g ^ d % p), iI 1, none] ⟨[], c⟩ = some (.rt (.v (.int d)) c) := by
  have e := lg_key G c hd d 0 none (by omega)
  rw [Int.pow_zero, G.one] at e
  exact e
theorem r_law_log (n : Nat) {d : Nat} (hd : d < q) : T (n + 1) i__law_log [gD p q g, .int (g ^ d % p)] c = some (.v (.int d), c) := by
  have e := lg_key0 G c hd
  have hq2 := G.q2
  have hr : inRng q = true := by simp only [inRng, decide_eq_true_eq]; omega
  rw [t__law_log]
  unfold b_law_log
  simp [hr, e]
theorem r_law_product (n : Nat) (bs ns : List Int) (h : ∀ v ∈ bs, El p q g v) (h2 : ∀ v ∈ ns, 0 ≤ v ∧ v < (q : Int)) : T (n + 2) i__law_product [gD p q g, iT bs, iT ns] c = some (.v (.int (prodOf p bs ns 1)), c) := by
  have key : ∀ (bs ns : List Int) (f : Int) (ρ1 ρ2 x4 x5 : Option Rs), (∀ v ∈ bs, El p q g v) → (∀ v ∈ ns, 0 ≤ v ∧ v < (q : Int)) → El p q g f → ∃ y4 y5,
      forD (gdTup (gdCons (gdName 4) (gdCons (gdName 5) gdNil))) (dSet false 3 (dMod (dInt (aCons (dMul (dVar 3) (dCall (T (n + 1) i__law_power) (aCons (dVar 0) (aCons (dVar 4) (aCons (dVar 5) aNil))))) aNil)) (dIx (dVar 0) (dC (.int 1)))))
        (zipII bs ns) [some (.v (gD p q g)), ρ1, ρ2, iI f, x4, x5] ⟨[], c⟩ = some (.nx [some (.v (gD p q g)), ρ1, ρ2, iI (prodOf p bs ns f), y4, y5] ⟨[], c⟩) := by
    intro bs
    induction bs with
    | nil => exact fun ns f _ _ x4 x5 _ _ _ => ⟨x4, x5, by unfold prodOf; simp⟩
    | cons b bs ih =>
      intro ns f ρ1 ρ2 x4 x5 h h2 hf
      cases ns with
      | nil => exact ⟨x4, x5, by unfold prodOf; simp⟩
      | cons m ns =>
        have hb := h b (List.mem_cons_self ..)
        have hm := h2 m (List.mem_cons_self ..)
        have hq := G.q2
        have e1 := r_law_power G c n hb hm.1 (by omega)
        have hs := G.sm hf
        obtain ⟨y4, y5, e3⟩ := ih ns (f * (b ^ m.toNat % p) % p) ρ1 ρ2 (iI b) (iI m) (fun v hv => h v (List.mem_cons_of_mem _ hv)) (fun v hv => h2 v (List.mem_cons_of_mem _ hv)) (G.el_mul hf (G.el_pow hb _))
        refine ⟨y4, y5, ?_⟩
        unfold prodOf
        simp [e1, hs, G.posN, e3]
  obtain ⟨y4, y5, e⟩ := key bs ns 1 (some (.v (iT bs))) (some (.v (iT ns))) none none h h2 G.el_one
  rw [t__law_product]
  unfold b_law_product
  simp [e]
end
end K68
namespace K68
open PySem L2 Ev1
theorem ints_ex {P : Int → Prop} : ∀ {ys : List D}, (∀ y ∈ ys, ∃ v, y = .int v ∧ P v) → ∃ vs : List Int, ys = vs.map D.int ∧ ∀ v ∈ vs, P v
  | [], _ => ⟨[], rfl, fun v hv => nomatch hv⟩
  | y :: ys, h => by
    obtain ⟨v, rfl, hv⟩ := h y (List.mem_cons_self ..)
    obtain ⟨vs, rfl, hvs⟩ := ints_ex fun z hz => h z (List.mem_cons_of_mem _ hz)
    exact ⟨v :: vs, rfl, fun z hz => by
      rcases List.mem_cons.mp hz with rfl | hz
      · exact hv
      · exact hvs z hz⟩
theorem all_ex {α : Type} {f : α → D} {P : α → Prop} : ∀ {ys : List D}, (∀ y ∈ ys, ∃ v, y = f v ∧ P v) → ∃ vs : List α, ys = vs.map f ∧ ∀ v ∈ vs, P v
  | [], _ => ⟨[], rfl, fun v hv => nomatch hv⟩
  | y :: ys, h => by
    obtain ⟨v, rfl, hv⟩ := h y (List.mem_cons_self ..)
    obtain ⟨vs, rfl, hvs⟩ := all_ex fun z hz => h z (List.mem_cons_of_mem _ hz)
    exact ⟨v :: vs, rfl, fun z hz => by
      rcases List.mem_cons.mp hz with rfl | hz
      · exact hv
      · exact hvs z hz⟩
theorem rng_len (lo : Int) (n : Nat) : (rngD lo n).length = n := by
  unfold rngD
  rw [List.length_map, List.length_range]
/-- the state while the law draws -/
def IP (c : List Cell) (s : S) : Prop := ∃ a b, s = ⟨[], Pc a b :: c⟩
section
variable {p q : Nat} {g : Int} (G : Gr p q g) (c : List Cell)
include G
theorem r_law_check (n : Nat) (a b : Int) : ∃ k a' b', T (n + 3) i__law_check [.ref 0, gD p q g] (Pc a b :: c) = some (.v (kD k), Pc a' b' :: c) ∧ CkK p q g k ∧ k.1.length ≤ 4 := by
  obtain ⟨d, a1, b1, e1, hd0, hd⟩ := r_draw (n + 1) a b c (show (0 : Int) < 4 by decide) (by decide)
  have hr : inRng (1 + d) = true := by simp only [inRng, decide_eq_true_eq]; omega
  obtain ⟨ys, s2, e2, ⟨a2, b2, rfl⟩, l2, q2⟩ := lc_inv (gd := gdName 5) (t := dYes) (d := dCall (T (n + 2) i__law_element) (aCons (dVar 0) (aCons (dVar 1) aNil))) (ρ0 := [some (.v (.ref 0)), some (.v (gD p q g)), none, none, none, none])
    (IP c) (fun y => ∃ v, y = .int v ∧ El p q g v) (rngD 0 (1 + d).toNat) (fun x _ s hs => by
      obtain ⟨a, b, rfl⟩ := hs
      obtain ⟨v, a', b', e, hv⟩ := r_law_element G c n a b
      exact ⟨_, .v (.int v), ⟨[], Pc a' b' :: c⟩, rfl, rfl, by simp [e], ⟨a', b', rfl⟩, .int v, rfl, v, rfl, hv⟩) ⟨[], Pc a1 b1 :: c⟩ ⟨a1, b1, rfl⟩
  obtain ⟨bs, rfl, hbs⟩ := ints_ex q2
  rw [List.length_map, rng_len] at l2
  have hq2 := G.q2
  have hq := G.q1
  obtain ⟨zs, s3, e3, ⟨a3, b3, rfl⟩, l3, q3⟩ := lc_inv (gd := gdName 5) (t := dYes) (d := dCall (T (n + 2) i__law_draw) (aCons (dVar 0) (aCons (dIx (dVar 1) (dC (.int 2))) aNil))) (ρ0 := [some (.v (.ref 0)), some (.v (gD p q g)), some (.v (iT bs)), none, none, none])
    (IP c) (fun y => ∃ v, y = .int v ∧ 0 ≤ v ∧ v < (q : Int)) (bs.map D.int) (fun x _ s hs => by
      obtain ⟨a, b, rfl⟩ := hs
      obtain ⟨v, a', b', e, hv⟩ := r_draw (n + 1) a b c (show (0 : Int) < (q : Int) by omega) (by omega)
      exact ⟨_, .v (.int v), ⟨[], Pc a' b' :: c⟩, rfl, rfl, by simp [e], ⟨a', b', rfl⟩, .int v, rfl, v, rfl, hv⟩) ⟨[], Pc a2 b2 :: c⟩ ⟨a2, b2, rfl⟩
  obtain ⟨ns, rfl, hns⟩ := ints_ex q3
  rw [List.length_map, List.length_map] at l3
  have e4 := r_law_product G (Pc a3 b3 :: c) n bs ns hbs hns
  have hp1 := G.el_prod bs ns 1 hbs G.el_one
  have l4 : (1 + d).toNat ≤ 1000 := by omega
  have l5 : bs.length ≤ 1000 := by omega
  obtain ⟨d2, a4, b4, e5, hd20, hd2⟩ := r_draw (n + 1) a3 b3 c (show (0 : Int) < 3 by decide) (by decide)
  obtain ⟨v, a5, b5, e6, hv⟩ := r_law_element G c n a4 b4
  have hs := G.sm hp1
  rw [t__law_check]
  unfold b_law_check
  by_cases hz : d2 = 0
  · subst hz
    refine ⟨(bs, ns, prodOf p bs ns 1 * v % p), a5, b5, ?_, ⟨by simp only; omega, by simp only; omega, l3, hbs, hns, G.el_mul hp1 hv⟩, by simp only; omega⟩
    simp [e1, hr, rng_len, l4, l5, e2, e3, e4, e5, e6, hs, G.posN]
  · refine ⟨(bs, ns, prodOf p bs ns 1), a4, b4, ?_, ⟨by simp only; omega, by simp only; omega, l3, hbs, hns, hp1⟩, by simp only; omega⟩
    simp [e1, hr, rng_len, l4, l5, e2, e3, e4, e5, hz]
theorem r_law_lot (n : Nat) (a b : Int) : ∃ ks a' b', T (n + 4) i__law_lot [.ref 0, gD p q g, .int 8] (Pc a b :: c) = some (.v (lotD ks), Pc a' b' :: c) ∧ (∀ k ∈ ks, CkK p q g k ∧ k.1.length ≤ 4) ∧ 1 ≤ ks.length ∧ ks.length ≤ 8 := by
  obtain ⟨d, a1, b1, e1, hd0, hd⟩ := r_draw (n + 2) a b c (show (0 : Int) < 8 by decide) (by decide)
  have hr : inRng (1 + d) = true := by simp only [inRng, decide_eq_true_eq]; omega
  obtain ⟨ys, s2, e2, ⟨a2, b2, rfl⟩, l2, q2⟩ := lc_inv (gd := gdName 3) (t := dYes) (d := dCall (T (n + 3) i__law_check) (aCons (dVar 0) (aCons (dVar 1) aNil))) (ρ0 := [some (.v (.ref 0)), some (.v (gD p q g)), some (.v (.int 8)), none])
    (IP c) (fun y => ∃ k, y = kD k ∧ CkK p q g k ∧ k.1.length ≤ 4) (rngD 0 (1 + d).toNat) (fun x _ s hs => by
      obtain ⟨a, b, rfl⟩ := hs
      obtain ⟨k, a', b', e, hk⟩ := r_law_check G c n a b
      exact ⟨_, .v (kD k), ⟨[], Pc a' b' :: c⟩, rfl, rfl, by simp [e], ⟨a', b', rfl⟩, kD k, rfl, k, rfl, hk⟩) ⟨[], Pc a1 b1 :: c⟩ ⟨a1, b1, rfl⟩
  obtain ⟨ks, rfl, hks⟩ := all_ex q2
  rw [List.length_map, rng_len] at l2
  have l4 : (1 + d).toNat ≤ 1000 := by omega
  refine ⟨ks, a2, b2, ?_, hks, by omega, by omega⟩
  rw [t__law_lot]
  unfold b_law_lot
  simp [e1, hr, rng_len, l4, e2]
/-- the law's fault of a check: the exponent of what the program tells -/
theorem r_law_fault (n : Nat) {bs ns : List Int} {t : Int} (C : Ck p q g bs ns t) : ∃ d : Nat, d < q ∧ fo p q bs ns t = g ^ d % p ∧ T (n + 3) i__law_fault [gD p q g, cD bs ns t] c = some (.v (.int d), c) := by
  have hp := G.el_prod bs ns 1 C.hb G.el_one
  obtain ⟨x, hx, ex⟩ := id hp
  obtain ⟨y, hy, ey⟩ := C.ht
  have hq := G.q1
  have h0 := Int.emod_nonneg ((x : Int) - y) (show (q : Int) ≠ 0 by omega)
  have h1 := Int.emod_lt_of_pos ((x : Int) - y) (show (0 : Int) < (q : Int) by omega)
  have ed : (((((x : Int) - y) % (q : Int)).toNat : Nat) : Int) = ((x : Int) - y) % (q : Int) := Int.toNat_of_nonneg h0
  refine ⟨(((x : Int) - y) % (q : Int)).toNat, by omega, G.quot ex ey hx hy, ?_⟩
  have e1 := r_law_product G c n bs ns C.hb C.hn
  have e2 := r_law_log G c (n + 1) hx
  have e3 := r_law_log G c (n + 1) hy
  rw [← ex] at e2
  rw [← ey] at e3
  have hqN : 0 < q := by omega
  rw [t__law_fault]
  unfold b_law_fault
  rw [ed]
  simp [e1, e2, e3, hqN]
end
end K68
namespace K68
open PySem L2 Ev1
/-- the product without a modulus -/
def pl : List Int → List Int → Int
  | b :: bs, n :: ns => b ^ n.toNat * pl bs ns
  | _, _ => 1
theorem prod_pl (p : Nat) : ∀ (bs ns : List Int) (f : Int), Eqm p (prodOf p bs ns f) (f * pl bs ns)
  | [], ns, f => by unfold prodOf pl; rw [Int.mul_one]; exact Eqm.refl f
  | b :: bs, [], f => by unfold prodOf pl; rw [Int.mul_one]; exact Eqm.refl f
  | b :: bs, n :: ns, f => by
    unfold prodOf pl
    refine (prod_pl p bs ns _).trans ?_
    rw [← Int.mul_assoc]
    exact ((Eqm.mod _).trans ((Eqm.refl f).mul (Eqm.mod _))).mul (Eqm.refl _)
theorem pl_app : ∀ {bs ns : List Int} {b n : Int}, ns.length = bs.length → pl (bs ++ [b]) (ns ++ [n]) = pl bs ns * b ^ n.toNat
  | [], [], b, n, _ => by simp [pl]
  | x :: bs, m :: ns, b, n, h => by
    show x ^ m.toNat * pl (bs ++ [b]) (ns ++ [n]) = x ^ m.toNat * pl bs ns * b ^ n.toNat
    rw [pl_app (by simpa using h), Int.mul_assoc]
theorem pl_rev : ∀ {bs ns : List Int}, ns.length = bs.length → pl bs.reverse ns.reverse = pl bs ns
  | [], [], _ => rfl
  | x :: bs, m :: ns, h => by
    have h2 : ns.length = bs.length := by simpa using h
    rw [List.reverse_cons, List.reverse_cons, pl_app (by rw [List.length_reverse, List.length_reverse, h2]), pl_rev h2, Int.mul_comm]
    rfl
section
variable {p q : Nat} {g : Int} (G : Gr p q g) (c : List Cell) {bs ns : List Int} {t : Int} (C : Ck p q g bs ns t)
theorem fo_pl : Eqm p (fo p q bs ns t) (pl bs ns * t ^ (q - 1)) := by
  unfold fo
  have := (prod_pl p bs ns 1).mul (Eqm.mod (p := (p : Int)) (t ^ (q - 1)))
  rw [Int.one_mul] at this
  exact (Eqm.mod _).trans this
include G C
theorem Ck.el_fo : El p q g (fo p q bs ns t) := G.el_mul (G.el_prod bs ns 1 C.hb G.el_one) (G.el_pow C.ht _)
theorem Ck.late {e : Int} (he : El p q g e) : Ck p q g bs ns (t * e % p) := ⟨C.l1, C.l5, C.ll, C.hb, C.hn, G.el_mul C.ht he⟩
theorem fo_late {e : Int} (he : El p q g e) : fo p q bs ns (t * e % p) = fo p q bs ns t * (e ^ (q - 1) % p) % p := by
  have h1 := fo_pl (p := p) (q := q) (bs := bs) (ns := ns) (t := t * e % p)
  have h2 := (fo_pl (p := p) (q := q) (bs := bs) (ns := ns) (t := t)).mul (Eqm.mod (p := (p : Int)) (e ^ (q - 1)))
  have h3 : Eqm p (pl bs ns * (t * e % p) ^ (q - 1)) (pl bs ns * t ^ (q - 1) * e ^ (q - 1)) := by
    rw [Int.mul_assoc, ← Int.mul_pow]
    exact (Eqm.refl _).mul ((Eqm.mod _).pow _)
  rw [← G.el_self (Ck.el_fo G (Ck.late G C he))]
  exact h1.trans (h3.trans h2.symm)
theorem Ck.more {e : Int} (he : El p q g e) (hl : bs.length < 5) : Ck p q g (bs ++ [e]) (ns ++ [1]) t := by
  have := G.q1
  have := C.ll
  refine ⟨by simp, by simp; omega, by simp [C.ll], fun v hv => ?_, fun v hv => ?_, C.ht⟩
  · rcases List.mem_append.mp hv with hv | hv
    · exact C.hb v hv
    · rw [List.mem_singleton.mp hv]; exact he
  · rcases List.mem_append.mp hv with hv | hv
    · exact C.hn v hv
    · rw [List.mem_singleton.mp hv]; omega
theorem fo_more {e : Int} (he : El p q g e) (hl : bs.length < 5) : fo p q (bs ++ [e]) (ns ++ [1]) t = fo p q bs ns t * e % p := by
  have h1 := fo_pl (p := p) (q := q) (bs := bs ++ [e]) (ns := ns ++ [1]) (t := t)
  have h2 := (fo_pl (p := p) (q := q) (bs := bs) (ns := ns) (t := t)).mul (Eqm.refl (p := (p : Int)) e)
  rw [pl_app C.ll, show ((1 : Int).toNat) = 1 from rfl, show e ^ 1 = e by rw [Int.pow_succ, Int.pow_zero, Int.one_mul]] at h1
  rw [show pl bs ns * t ^ (q - 1) * e = pl bs ns * e * t ^ (q - 1) by rw [Int.mul_assoc, Int.mul_comm (t ^ (q - 1)), ← Int.mul_assoc]] at h2
  rw [← G.el_self (Ck.el_fo G (Ck.more G C he hl))]
  exact h1.trans h2.symm
omit G in
theorem Ck.turned : Ck p q g bs.reverse ns.reverse t :=
  ⟨by rw [List.length_reverse]; exact C.l1, by rw [List.length_reverse]; exact C.l5, by rw [List.length_reverse, List.length_reverse]; exact C.ll, fun v hv => C.hb v (List.mem_reverse.mp hv), fun v hv => C.hn v (List.mem_reverse.mp hv), C.ht⟩
theorem fo_turned : fo p q bs.reverse ns.reverse t = fo p q bs ns t := by
  have h1 := fo_pl (p := p) (q := q) (bs := bs.reverse) (ns := ns.reverse) (t := t)
  rw [pl_rev C.ll] at h1
  rw [← G.el_self (Ck.el_fo G (Ck.turned C)), ← G.el_self (Ck.el_fo G C)]
  exact h1.trans fo_pl.symm
end
/-- what repr takes -/
theorem sz_int {i : Int} (h0 : 0 ≤ i) (h : i < 1000000) : D.sz (.int i) = 20 := by
  unfold D.sz
  rw [if_pos (by omega)]
theorem szs_le {B : Nat} : ∀ {xs : List D}, (∀ x ∈ xs, D.sz x ≤ B) → D.szs xs ≤ xs.length * (B + 2)
  | [], _ => by simp [D.szs]
  | x :: xs, h => by
    have h1 := h x (List.mem_cons_self ..)
    have h2 := szs_le fun z hz => h z (List.mem_cons_of_mem _ hz)
    rw [List.length_cons, Nat.add_mul]
    simp only [D.szs]
    omega
theorem okR_two {i j : Int} (h0 : 0 ≤ i) (h : i < 1000000) (h1 : 0 ≤ j) (h2 : j < 1000000) : D.okR (.lst [.int i, .int j]) = true := by
  simp [D.okR, D.sz, D.szs, show i.natAbs < 1000000000000000000 by omega, show j.natAbs < 1000000000000000000 by omega]
theorem okR_twoB {i j : Bool} : D.okR (.lst [.bl i, .bl j]) = true := by
  simp [D.okR, D.sz, D.szs]
section
variable {p q : Nat} {g : Int} (G : Gr p q g) (c : List Cell) {bs ns : List Int} {t : Int} (C : Ck p q g bs ns t)
include G C
theorem r_check_right (n : Nat) (a b : Int) : ∃ a' b', T (n + 8) i__law_check_right [.ref 0, gD p q g, cD bs ns t] (Pc a b :: c) = some (.v (.bl true), Pc a' b' :: c) := by
  obtain ⟨d, hd, ed, e1⟩ := r_law_fault G (Pc a b :: c) (n + 4) C
  have hg : El p q g g := ⟨1, G.q1, by rw [Int.pow_succ, Int.pow_zero, Int.one_mul, Int.emod_eq_of_lt (by have := G.g1; omega) G.g2]⟩
  have hq := G.q2
  have e2 := r_law_power G (Pc a b :: c) (n + 6) hg (show (0 : Int) ≤ d by omega) (by omega)
  rw [Int.toNat_natCast, ← ed] at e2
  have hfo := Ck.el_fo G C
  have rfo := G.el_range hfo
  have hpI := G.pI
  have e3 := r_fault G (Pc a b :: c) C n
  have e4 := r_does_hold G (Pc a b :: c) C n
  have e5 := r_is_check G (Pc a b :: c) C (n + 1)
  obtain ⟨v, a', b', e6, hv⟩ := r_law_element G c (n + 5) a b
  have e7 := r_times G (Pc a' b' :: c) (n + 3) C.ht hv
  have e8 := r_fault G (Pc a' b' :: c) (Ck.late G C hv) n
  have e9 := r_under G (Pc a' b' :: c) (n + 3) hv
  have e10 := r_times G (Pc a' b' :: c) (n + 3) hfo (G.el_pow hv (q - 1))
  rw [fo_late G C hv] at e8
  have e11 := r_fault G (Pc a' b' :: c) (Ck.turned C) n
  rw [fo_turned G C] at e11
  simp only [cD, iT, List.map_reverse] at e11
  have k1 := okR_two (i := fo p q bs ns t) (j := fo p q bs ns t) (by omega) (by omega) (by omega) (by omega)
  refine ⟨a', b', ?_⟩
  rw [t__law_check_right]
  unfold b_law_check_right
  by_cases hl : bs.length < 5
  · have e12 := r_fault G (Pc a' b' :: c) (Ck.more G C hv hl) n
    rw [fo_more G C hv hl] at e12
    simp only [cD, iT, List.map_append, List.map_cons, List.map_nil] at e12
    have e13 := r_times G (Pc a' b' :: c) (n + 3) hfo hv
    have l1 : bs.length + 1 ≤ 1000 := by omega
    have l2 : ns.length + 1 ≤ 1000 := by have := C.ll; omega
    have hl' : (bs.length : Int) < 5 := by omega
    simp [e1, e2, e3, e4, e5, e6, e7, e8, e9, e10, e11, e12, e13, hl, hl', D.deep, D.rs, k1, okR_twoB, l1, l2]
  · have hl' : ¬ (bs.length : Int) < 5 := by omega
    simp [e1, e2, e3, e4, e5, e6, e7, e8, e9, e10, e11, hl, hl', D.deep, D.rs, k1, okR_twoB]
end
end K68
namespace K68
open PySem L2 Ev1
theorem all_true {ys : List D} (h : ∀ y ∈ ys, y = .bl true) : ∃ bs : List Bool, bls? ys = some bs ∧ bs.all id = true := by
  obtain ⟨bs, rfl, hb⟩ := all_ex (f := D.bl) (P := fun b => b = true) fun y hy => ⟨true, h y hy, rfl⟩
  exact ⟨bs, bls_map bs, List.all_eq_true.mpr fun b hb2 => hb b hb2⟩
theorem sz_iT {vs : List Int} (h : ∀ v ∈ vs, 0 ≤ v ∧ v < 1000000) : D.sz (iT vs) ≤ vs.length * 22 + 3 := by
  have := szs_le (B := 20) (xs := vs.map D.int) fun x hx => by
    obtain ⟨v, hv, rfl⟩ := List.mem_map.mp hx
    rw [sz_int (h v hv).1 (h v hv).2]
    exact Nat.le_refl _
  rw [List.length_map] at this
  simp only [D.sz]
  omega
section
variable {p q : Nat} {g : Int} (G : Gr p q g)
include G
theorem okR_lot {ks : List Kt} (h : ∀ k ∈ ks, CkK p q g k) (hl : ks.length ≤ 8) : D.okR (lotD ks) = true := by
  have hp := G.pI
  have hq := G.q2
  have h1 := szs_le (B := 400) (xs := ks.map kD) fun x hx => by
    obtain ⟨k, hk, rfl⟩ := List.mem_map.mp hx
    have C := h k hk
    have a1 := sz_iT (vs := k.1) fun v hv => by
      have := G.el_range (C.hb v hv)
      omega
    have a2 := sz_iT (vs := k.2.1) fun v hv => by
      have := C.hn v hv
      omega
    have a3 := G.el_range C.ht
    have a4 := sz_int (i := k.2.2) (by omega) (by omega)
    have a5 := C.l5
    have a6 := C.ll
    have a7 : D.sz (.str "check") = 52 := by decide
    show D.szs [.str "check", iT k.1, iT k.2.1, .int k.2.2] + 3 ≤ 400
    simp only [D.szs]
    omega
  rw [List.length_map] at h1
  have h2 : D.sz (lotD ks) ≤ 1000000 := by
    simp only [D.sz]
    omega
  have h3 : D.ok 12 (lotD ks) = true := by
    have hs : PyData.strOk (Str.ofString "check") = true := by decide +kernel
    simp [D.ok, hs]
  rw [D.okR, h3, decide_eq_true h2]
  rfl
omit G in
theorem okR_bad {ks : List Kt} (hl : ks.length ≤ 8) : D.okR (.lst (bad p q ks)) = true ∧ D.okR (.lst [.lst (bad p q ks), .lst (bad p q ks)]) = true ∧ (bad p q ks).length ≤ 8 := by
  have hb : ∀ a ∈ (enI 0 ks).filter (fun a => !(foK p q a.2 == 1)), a.1 < 8 := fun a ha => by
    have := (enI_mem (List.mem_filter.mp ha).1).2
    omega
  have hn : (bad p q ks).length ≤ 8 := by
    rw [List.length_map]
    have := List.length_filter_le (fun a : Nat × Kt => !(foK p q a.2 == 1)) (enI 0 ks)
    rw [enI_len] at this
    omega
  have h1 := szs_le (B := 20) (xs := bad p q ks) fun x hx => by
    obtain ⟨a, ha, rfl⟩ := List.mem_map.mp hx
    rw [sz_int (by omega) (by have := hb a ha; omega)]
    exact Nat.le_refl _
  have h2 : D.sz (.lst (bad p q ks)) ≤ 1000 := by
    simp only [D.sz]
    omega
  have h3 : ∀ k, (bad p q ks).all (D.ok k) = true := fun k => List.all_eq_true.mpr fun x hx => by
    obtain ⟨a, ha, rfl⟩ := List.mem_map.mp hx
    simp
  refine ⟨?_, ?_, hn⟩
  · rw [D.okR, D.ok, h3, decide_eq_true (show D.sz (.lst (bad p q ks)) ≤ 1000000 by omega)]
    rfl
  · have h4 : D.sz (.lst [.lst (bad p q ks), .lst (bad p q ks)]) ≤ 1000000 := by
      rw [D.sz, D.szs, D.szs, D.szs]
      omega
    rw [D.okR, decide_eq_true h4]
    simp only [D.ok, List.all_cons, List.all_nil, h3]
    rfl
end
theorem r_right (n : Nat) (a b : Int) : ∃ g', T (n + 10) i__law_right [.ref 0] [Pc a b] = some (.v (.bl true), g') := by
  obtain ⟨p, q, g, a1, b1, G, e1⟩ := r_group (n + 6) a b []
  obtain ⟨ks, a2, b2, e2, hks, l1, l8⟩ := r_law_lot G [] (n + 5) a1 b1
  have hk : ∀ k ∈ ks, CkK p q g k := fun k hk => (hks k hk).1
  have kl := okR_lot G hk l8
  obtain ⟨kb1, kb2, kb3⟩ := okR_bad (p := p) (q := q) (ks := ks) l8
  obtain ⟨ys, s2, e3, ⟨a3, b3, rfl⟩, l3, q3⟩ := lc_inv (gd := gdName 6) (t := dYes) (d := dCall (T (n + 9) i__law_check_right) (aCons (dVar 0) (aCons (dVar 1) (aCons (dVar 6) aNil)))) (ρ0 := [some (.v (.ref 0)), some (.v (gD p q g)), some (.v (lotD ks)), some (.v (.str (D.py (lotD ks)).shown)), none, none, none, none])
    (IP []) (fun y => y = .bl true) (ks.map kD) (fun x hx s hs => by
      obtain ⟨a, b, rfl⟩ := hs
      obtain ⟨k, hk2, rfl⟩ := List.mem_map.mp hx
      obtain ⟨a', b', e⟩ := r_check_right G [] (hk k hk2) (n + 1) a b
      exact ⟨_, .v (.bl true), ⟨[], Pc a' b' :: []⟩, rfl, rfl, by simp [e], ⟨a', b', rfl⟩, .bl true, rfl, rfl⟩) ⟨[], Pc a2 b2 :: []⟩ ⟨a2, b2, rfl⟩
  obtain ⟨bs, e4, e5⟩ := all_true q3
  have lc := lc_filter (gd := gdTup (gdCons (gdName 7) (gdCons (gdName 6) gdNil))) (t := dT (dNe (dCall (T (n + 9) i__law_fault) (aCons (dVar 1) (aCons (dVar 6) aNil))) (dC (.int 0)))) (d := dVar 7)
    (ρ0 := [some (.v (.ref 0)), some (.v (gD p q g)), some (.v (lotD ks)), some (.v (.str (D.py (lotD ks)).shown)), none, none, none, none]) (s := ⟨[], [Pc a3 b3]⟩)
    (fun a => !(foK p q a.2 == 1)) (fun a : Nat × Kt => D.tup [.int a.1, kD a.2]) (fun a => .int a.1) (enI 0 ks) fun a ha => by
      have C := hk a.2 (enI_mem ha).1
      obtain ⟨d, hd, ed, e⟩ := r_law_fault G [Pc a3 b3] (n + 6) C
      refine ⟨_, rfl, ?_, fun _ => ⟨.v (.int a.1), by simp, rfl⟩⟩
      have : ((d : Int) == 0) = (foK p q a.2 == 1) := by
        show ((d : Int) == 0) = (fo p q a.2.1 a.2.2.1 a.2.2.2 == 1)
        rw [ed, Bool.eq_iff_iff, beq_iff_eq, beq_iff_eq]
        constructor
        · intro z
          have : d = 0 := by omega
          rw [this, Int.pow_zero, G.one]
        · intro z
          have := G.low d hd z
          omega
      rw [← this]
      simp [e]
  have l9 : ks.length ≤ 1000 := by omega
  have f1 := r_false_ones G [Pc a3 b3] (n + 1) ks hk l1 (by omega)
  have f2 := r_false_ones G [Pc a3 b3, bad p q ks] (n + 1) ks hk l1 (by omega)
  have f3 := r_false_ones G [Pc a3 b3, bad p q ks ++ [.non], bad p q ks] (n + 1) ks hk l1 (by omega)
  have lb : (bad p q ks).length < bigLen := big1 (by omega)
  have hrs : ∀ s, (bad p q ks).map (D.rs s) = bad p q ks := fun s => by
    rw [List.map_map]
    exact List.map_congr_left fun a _ => rfl
  refine ⟨[Pc a3 b3, bad p q ks ++ [.non], bad p q ks], ?_⟩
  rw [t__law_right]
  unfold b_law_right
  generalize hbad : bad p q ks = bd at *
  rw [show List.map (fun a : Nat × Kt => D.int a.1) (List.filter (fun a => !(foK p q a.2 == 1)) (enI 0 ks)) = bd from hbad] at lc
  simp [e1, e2, D.deep, D.rs, kl, e3, e4, e5, enumD_map, enI_len, l9, lc, f1, f2, f3, kb1, kb2, lb, hrs]
theorem r_pot (n : Nat) (ns : List Int) (k : Nat) : ∃ a b, T (n + 1) i__law_pot [.scr ns, .int k] [] = some (.own (Pc a b), []) := by
  rw [t__law_pot]
  unfold b_law_pot
  by_cases h : k < ns.length
  · obtain ⟨x, ex, hx⟩ := at_in (xs := ns.map D.int) (d := k) (by omega) (by rw [List.length_map]; omega)
    obtain ⟨z, _, rfl⟩ := List.mem_map.mp hx
    have key : ∀ c : Int, (if z < 0 then -z else z) = c → ∃ a b, (if z < 0 then -z else z) = c ∧ a = (if c - 10 ^ 18 > 0 then c - 10 ^ 18 else 0) ∧ b = (c % 2147483549 * 40014 + 3581 * k + 1951) % 2147483563 + 1 := fun c hc => ⟨_, _, hc, rfl, rfl⟩
    obtain ⟨a, b, hc, ha, hb⟩ := key _ rfl
    refine ⟨a, b, ?_⟩
    rw [ha, hb]
    simp [h, ex, show sm64 40014 = true by decide, show sm64 3581 = true by decide]
  · have key : ∀ c : Int, c = 2339 * k + 1217 → ∃ a b, a = (if c - 10 ^ 18 > 0 then c - 10 ^ 18 else 0) ∧ b = (c % 2147483549 * 40014 + 3581 * k + 1951) % 2147483563 + 1 := fun c hc => ⟨_, _, rfl, rfl⟩
    obtain ⟨a, b, ha, hb⟩ := key _ rfl
    refine ⟨a, b, ?_⟩
    rw [ha, hb]
    simp [h, show sm64 40014 = true by decide, show sm64 3581 = true by decide, show sm64 2339 = true by decide]
theorem law_ok : LawOk (bodyF nlaw.length 1 (blaw (T 10))) 63 := by
  intro ns _ _
  refine ⟨[], ?_⟩
  have lc : ∀ m : Nat, lcD (gdName 1) dYes (dCallP (T 10 i__law_right) (dCall (T 10 i__law_pot) (aCons (dVar 0) (aCons (dVar 1) aNil)))) [some (.v (.scr ns)), none] (rngD 0 m) ⟨[], []⟩ = some ((List.range m).map fun _ => D.bl true, ⟨[], []⟩) := fun m =>
    lc_map (fun i : Nat => D.int (0 + (i : Nat))) (fun _ => D.bl true) (List.range m) fun i _ => by
      obtain ⟨a, b, e1⟩ := r_pot 9 ns i
      obtain ⟨g', e2⟩ := r_right 0 a b
      refine ⟨_, rfl, rfl, .v (.bl true), ?_, rfl⟩
      rw [Int.zero_add]
      simp [dCallP, e1, e2]
  unfold blaw
  by_cases h : ns.length < 2
  · have hn : ¬ (1 : Int) < ns.length := by omega
    have h2 : (ns.length : Int) < 2 := by omega
    simp [h, h2, hn, rng_len, lc, show inRng 1 = true by decide]
  · have h2 : ¬ (ns.length : Int) < 2 := by omega
    simp [h, h2, rng_len, lc, show inRng 2 = true by decide]
end K68
theorem PySem.Challenge.cw_showneither_k68_whole_checks_and_faults_holds : PySem.Challenge.rw_showneither_k68_whole_checks_and_faults.Holds :=
  K68.holds (n := 10) ⟨rfl, by decide, by decide⟩ K68.law_ok
#print axioms PySem.Challenge.cw_showneither_k68_whole_checks_and_faults_holds
