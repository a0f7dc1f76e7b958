import PyProof.Rows.All
import Wide.All
import OpenK.AllK
import Wide.FinOn
import HandS.ForMost
import HandS.Exc
import HandS.TryOnly
import HandS.TryMany
import HandS.ExcOwn
import HandS.WordsExc
import HandS.Flow
import HandS.TupAny
import HandS.TupMul
import HandS.Star
import HandS.IsInst
import HandS.Deep
import HandS.Zip
import HandS.Walk
import HandS.Conv
import HandS.TupSets
import KE.DataEq
import KE.SortData
import HandS.SetFor
import HandS.Strs
import HandS.HeadNt
import HandS.Style
import PyProof.LongRange
import Lean
import HandS.Ends
import HandS.More
import HandS.Words
import HandS.Defaults
import HandS.Head0
import HandS.Head1
import HandS.Head2
import HandS.HeadEnd
import HandS.HeadHook1
import HandS.HeadHook2
import HandS.HeadWalk
import PySem.Challenge.RW_turnfingers_k22_whole_lassos_counted_at
set_option Elab.async false
set_option linter.all false
set_option maxRecDepth 100000
set_option maxHeartbeats 4000000
/-! Mi: a functional reading of defs: data, a small store, results; each rule shows that the text does what the function says. -/
namespace Mi
open PySem PySem.Spec PyProof.Rows L2

/-! ### data, cells, the store -/
inductive D where
  | non | bl (b : Bool) | int (i : Int) | str (x : Str) | tup (xs : List D) | lst (xs : List D) | scr (xs : List D) | ref (i : Nat) | ty (n : Nat) | obj (a : Addr)
/-- the built-in classes, by number -/
def tyS : Nat → String
  | 0 => "int"
  | 1 => "bool"
  | 2 => "str"
  | 3 => "list"
  | 4 => "tuple"
  | 5 => "NoneType"
  | 6 => "dict"
  | _ => "object"
inductive Cell where
  | ml (xs : List D)
  | ins (C : Addr) (fs : List (Str × D))
structure Sto where
  next : Nat
  cells : List (Nat × Cell)
def getL (i : Nat) : List (Nat × Cell) → Option Cell
  | [] => none
  | (j, c) :: r => if j = i then some c else getL i r
def putL (i : Nat) (c : Cell) : List (Nat × Cell) → List (Nat × Cell)
  | [] => []
  | (j, d) :: r => if j = i then (j, c) :: r else (j, d) :: putL i c r
def delL (i : Nat) : List (Nat × Cell) → List (Nat × Cell)
  | [] => []
  | (j, d) :: r => if j = i then delL i r else (j, d) :: delL i r
def Sto.get (S : Sto) (i : Nat) : Option Cell := getL i S.cells
def Sto.put (S : Sto) (i : Nat) (c : Cell) : Sto := ⟨S.next, putL i c S.cells⟩
def Sto.del (S : Sto) (i : Nat) : Sto := ⟨S.next, delL i S.cells⟩
def Sto.new (S : Sto) (c : Cell) : Sto := ⟨S.next + 1, (S.next, c) :: S.cells⟩
theorem getL_put {i j : Nat} {c : Cell} : ∀ {l : List (Nat × Cell)}, getL j (putL i c l) = if j = i then (getL i l).map (fun _ => c) else getL j l
  | [] => by unfold putL getL; split <;> rfl
  | (k, d) :: r => by
    have ih := getL_put (i := i) (j := j) (c := c) (l := r)
    unfold putL
    by_cases hk : k = i
    · rw [if_pos hk]
      unfold getL
      by_cases hj : j = i
      · rw [if_pos hj, if_pos (hk.trans hj.symm), if_pos hk]; rfl
      · rw [if_neg hj, if_neg (fun e => hj (e.symm.trans hk))]
        unfold getL
        rw [if_neg (fun e => hj (e.symm.trans hk))]
    · rw [if_neg hk]
      unfold getL
      by_cases hj : j = i
      · rw [if_pos hj] at ih ⊢
        rw [if_neg (fun e => hk (e.trans hj)), if_neg hk]
        exact ih
      · rw [if_neg hj] at ih ⊢
        by_cases hkj : k = j
        · rw [if_pos hkj, if_pos hkj]
        · rw [if_neg hkj, if_neg hkj]; exact ih
theorem getL_del {i j : Nat} : ∀ {l : List (Nat × Cell)}, getL j (delL i l) = if j = i then none else getL j l
  | [] => by unfold delL getL; split <;> rfl
  | (k, d) :: r => by
    have ih := getL_del (i := i) (j := j) (l := r)
    unfold delL
    by_cases hk : k = i
    · rw [if_pos hk, ih]
      by_cases hj : j = i
      · rw [if_pos hj, if_pos hj]
      · rw [if_neg hj, if_neg hj]
        conv => rhs; unfold getL
        rw [if_neg (fun e => hj (e.symm.trans hk))]
    · rw [if_neg hk]
      unfold getL
      by_cases hkj : k = j
      · rw [if_pos hkj, if_pos hkj, if_neg (fun e => hk (hkj.trans e))]
      · rw [if_neg hkj, if_neg hkj]; exact ih
theorem Sto.get_put {S : Sto} {i j : Nat} {c : Cell} : (S.put i c).get j = if j = i then (S.get i).map (fun _ => c) else S.get j := getL_put
theorem Sto.get_del {S : Sto} {i j : Nat} : (S.del i).get j = if j = i then none else S.get j := getL_del
theorem Sto.get_new {S : Sto} {j : Nat} {c : Cell} : (S.new c).get j = if S.next = j then some c else S.get j := rfl

/-! ### worlds -/
/-- ρ: where the cells lie; S: the store; H: what is tracked; P: what others own and nobody here touches -/
structure Wd where
  ρ : Nat → Addr
  S : Sto
  H : Hp
  P : Addr → Prop
def Wd.Live (W : Wd) (a : Addr) : Prop := W.P a ∨ ∃ i c, W.S.get i = some c ∧ W.ρ i = a
def KT (K : PySem.W.Frag) (a : Addr) (xs : List V) : Prop :=
  ∃ (o : Obj) (its : Array Value) (n : Nat), K.lookup a = some o ∧ o.cls = .type "tuple" ∧ o.data = .seq its n ∧ its.size ≤ sizeLine ∧ Vals xs its.toList
/-- a tuple, a list that stay as they are -/
def RdT (K : PySem.W.Frag) (W : Wd) (a : Addr) (vs : List V) : Prop := (W.H a = some (.tup vs) ∧ ¬ W.Live a) ∨ KT K a vs
def RdL (W : Wd) (a : Addr) (vs : List V) : Prop := W.H a = some (.lst vs) ∧ ¬ W.Live a
def KL (K : PySem.W.Frag) (a : Addr) (xs : List V) : Prop :=
  ∃ (o : Obj) (its : Array Value) (n : Nat), K.lookup a = some o ∧ o.cls = .type "list" ∧ o.dict = none ∧ o.data = .seq its n ∧ its.size ≤ sizeLine ∧ Vals xs its.toList
def RdF (K : PySem.W.Frag) (W : Wd) (a : Addr) (vs : List V) : Prop := ((W.H a = some (.lst vs) ∨ ∃ o, W.H a = some (.frz o (.lst vs))) ∧ ¬ W.Live a) ∨ KL K a vs
theorem SqL_ofF {K : PySem.W.Frag} {W : Wd} {a : Addr} {vs : List V} (h : RdF K W a vs) : SqL K W.H a vs := by
  rcases h with ⟨h | ⟨o, h⟩, _⟩ | h
  · exact .inl (.inl h)
  · exact .inl (.inr ⟨o, h⟩)
  · exact .inr h
mutual
inductive Rep (K : PySem.W.Frag) (W : Wd) : V → D → Prop
  | non : Rep K W .non .non
  | bl (b : Bool) : Rep K W (.bl b) (.bl b)
  | int (i : Int) : Rep K W (.int i) (.int i)
  | str (x : Str) : Rep K W (.str x) (.str x)
  | tup {a : Addr} {vs : List V} {ds : List D} : RdT K W a vs → Reps K W vs ds → Rep K W (.ref a) (.tup ds)
  | lst {a : Addr} {vs : List V} {ds : List D} : RdL W a vs → Reps K W vs ds → Rep K W (.ref a) (.lst ds)
  | scr {a : Addr} {vs : List V} {ds : List D} : RdF K W a vs → Reps K W vs ds → Rep K W (.ref a) (.scr ds)
  | ref {i : Nat} {a : Addr} : i < W.S.next → a = W.ρ i → Rep K W (.ref a) (.ref i)
  | ty (n : Nat) : Rep K W (.ty (tyS n)) (.ty n)
  | obj (a : Addr) : Rep K W (.ref a) (.obj a)
inductive Reps (K : PySem.W.Frag) (W : Wd) : List V → List D → Prop
  | nil : Reps K W [] []
  | cons {v : V} {vs : List V} {d : D} {ds : List D} : Rep K W v d → Reps K W vs ds → Reps K W (v :: vs) (d :: ds)
end
/-- a later world, what is read -/
structure Ext0 (W W' : Wd) : Prop where
  keep : ∀ a o, W.H a = some o → ¬ W.Live a → W'.H a = some o
  live : ∀ a, W'.Live a → W.Live a ∨ W.H a = none
  rho : ∀ i, i < W.S.next → W'.ρ i = W.ρ i
  next : W.S.next ≤ W'.S.next
/-- .. and what others own stands -/
structure Ext (W W' : Wd) : Prop extends Ext0 W W' where
  own : W'.P = W.P
  priv : ∀ a o, W.P a → W.H a = some o → W'.H a = some o
theorem Ext0.refl (W : Wd) : Ext0 W W := ⟨fun _ _ h _ => h, fun _ h => .inl h, fun _ _ => rfl, Nat.le_refl _⟩
theorem Ext.refl (W : Wd) : Ext W W := ⟨Ext0.refl W, rfl, fun _ _ _ h => h⟩
theorem Ext0.dead {W W' : Wd} (e : Ext0 W W') {a : Addr} {o : HO} (h : W.H a = some o) (n : ¬ W.Live a) : ¬ W'.Live a := fun l => by
  rcases e.live a l with z | z
  · exact n z
  · rw [h] at z; cases z
theorem Ext0.trans {W W1 W2 : Wd} (a : Ext0 W W1) (b : Ext0 W1 W2) : Ext0 W W2 where
  keep := fun x o h n => b.keep x o (a.keep x o h n) (a.dead h n)
  live := fun x l => by
    rcases b.live x l with z | z
    · exact a.live x z
    · by_cases hl : W.Live x
      · exact .inl hl
      · refine .inr ?_
        cases q : W.H x with
        | none => rfl
        | some o => rw [a.keep x o q hl] at z; cases z
  rho := fun i h => (b.rho i (Nat.lt_of_lt_of_le h a.next)).trans (a.rho i h)
  next := Nat.le_trans a.next b.next
theorem Ext.trans {W W1 W2 : Wd} (a : Ext W W1) (b : Ext W1 W2) : Ext W W2 :=
  ⟨a.toExt0.trans b.toExt0, b.own.trans a.own, fun x o p h => b.priv x o (by rw [a.own]; exact p) (a.priv x o p h)⟩
section
variable {K : PySem.W.Frag} {W W' : Wd}
theorem RdT.mono {a : Addr} {vs : List V} (h : RdT K W a vs) (e : Ext0 W W') : RdT K W' a vs := by
  rcases h with ⟨h, n⟩ | h
  · exact .inl ⟨e.keep a _ h n, e.dead h n⟩
  · exact .inr h
theorem RdL.mono {a : Addr} {vs : List V} (h : RdL W a vs) (e : Ext0 W W') : RdL W' a vs := by
  obtain ⟨h, n⟩ := h
  exact ⟨e.keep a _ h n, e.dead h n⟩
theorem RdF.mono {a : Addr} {vs : List V} (h : RdF K W a vs) (e : Ext0 W W') : RdF K W' a vs := by
  rcases h with ⟨h | ⟨o, h⟩, n⟩ | h
  · exact .inl ⟨.inl (e.keep a _ h n), e.dead h n⟩
  · exact .inl ⟨.inr ⟨o, e.keep a _ h n⟩, e.dead h n⟩
  · exact .inr h
mutual
theorem Rep.mono0 (e : Ext0 W W') : ∀ {v : V} {d : D}, Rep K W v d → Rep K W' v d
  | _, _, .non => .non
  | _, _, .bl b => .bl b
  | _, _, .int i => .int i
  | _, _, .str x => .str x
  | _, _, .tup h r => .tup (h.mono e) (Reps.mono0 e r)
  | _, _, .lst h r => .lst (h.mono e) (Reps.mono0 e r)
  | _, _, .scr h r => .scr (h.mono e) (Reps.mono0 e r)
  | _, _, .ref h q => .ref (Nat.lt_of_lt_of_le h e.next) (q.trans (e.rho _ h).symm)
  | _, _, .ty n => .ty n
  | _, _, .obj a => .obj a
theorem Reps.mono0 (e : Ext0 W W') : ∀ {vs : List V} {ds : List D}, Reps K W vs ds → Reps K W' vs ds
  | _, _, .nil => .nil
  | _, _, .cons r t => .cons (Rep.mono0 e r) (Reps.mono0 e t)
end
theorem Rep.mono {v : V} {d : D} (h : Rep K W v d) (e : Ext W W') : Rep K W' v d := h.mono0 e.toExt0
theorem Reps.mono {v : List V} {d : List D} (h : Reps K W v d) (e : Ext W W') : Reps K W' v d := h.mono0 e.toExt0
theorem Reps.length : ∀ {vs : List V} {ds : List D}, Reps K W vs ds → vs.length = ds.length
  | _, _, .nil => rfl
  | _, _, .cons _ t => congrArg Nat.succ t.length
theorem Reps.get : ∀ {vs : List V} {ds : List D} {i : Nat} {d : D}, Reps K W vs ds → ds[i]? = some d → ∃ v, vs[i]? = some v ∧ Rep K W v d
  | _, _, _, _, .nil, e => by simp at e
  | _, _, 0, _, .cons r _, e => by simp at e; subst e; exact ⟨_, rfl, r⟩
  | _, _, i + 1, d, .cons _ t, e => by
    obtain ⟨u, h1, h2⟩ := Reps.get (i := i) (d := d) t (by simpa using e)
    exact ⟨u, by simpa using h1, h2⟩
theorem Reps.getV : ∀ {vs : List V} {ds : List D} {i : Nat} {v : V}, Reps K W vs ds → vs[i]? = some v → ∃ d, ds[i]? = some d ∧ Rep K W v d
  | _, _, _, _, .nil, e => by simp at e
  | _, _, 0, _, .cons r _, e => by simp at e; subst e; exact ⟨_, rfl, r⟩
  | _, _, i + 1, d, .cons _ t, e => by
    obtain ⟨u, h1, h2⟩ := Reps.getV (i := i) (v := d) t (by simpa using e)
    exact ⟨u, by simpa using h1, h2⟩
theorem Reps.append : ∀ {vs ws : List V} {ds es : List D}, Reps K W vs ds → Reps K W ws es → Reps K W (vs ++ ws) (ds ++ es)
  | _, _, _, _, .nil, s => s
  | _, _, _, _, .cons r t, s => .cons r (t.append s)
theorem Reps.take : ∀ {vs : List V} {ds : List D} (n : Nat), Reps K W vs ds → Reps K W (vs.take n) (ds.take n)
  | _, _, 0, _ => .nil
  | _, _, _ + 1, .nil => .nil
  | _, _, n + 1, .cons r t => .cons r (t.take n)
theorem Reps.drop : ∀ {vs : List V} {ds : List D} (n : Nat), Reps K W vs ds → Reps K W (vs.drop n) (ds.drop n)
  | _, _, 0, r => r
  | _, _, _ + 1, .nil => .nil
  | _, _, n + 1, .cons _ t => t.drop n
theorem Reps.set {v : V} {d : D} (r : Rep K W v d) : ∀ {vs : List V} {ds : List D} (i : Nat), Reps K W vs ds → Reps K W (vs.set i v) (ds.set i d)
  | _, _, _, .nil => .nil
  | _, _, 0, .cons _ t => .cons r t
  | _, _, i + 1, .cons q t => .cons q (Reps.set r i t)
theorem Reps.nil_iff {vs : List V} {ds : List D} (r : Reps K W vs ds) : vs = [] ↔ ds = [] := by
  cases r <;> simp
end

/-! ### the state of a world -/
inductive RepC (K : PySem.W.Frag) (W : Wd) : HO → Cell → Prop
  | ml {vs : List V} {ds : List D} : Reps K W vs ds → RepC K W (.lst vs) (.ml ds)
  | ins {C dx : Addr} {fs : List (Str × V)} {gs : List (Str × D)} : fs.map (·.1) = gs.map (·.1) → Reps K W (fs.map (·.2)) (gs.map (·.2)) → RepC K W (.ins C dx fs) (.ins C gs)
theorem RepC.mono0 {K : PySem.W.Frag} {W W' : Wd} (e : Ext0 W W') {o : HO} {c : Cell} (h : RepC K W o c) : RepC K W' o c := by
  cases h with
  | ml r => exact .ml (r.mono0 e)
  | ins h r => exact .ins h (r.mono0 e)
structure StOk (K : PySem.W.Frag) (W : Wd) : Prop where
  cell : ∀ i c, W.S.get i = some c → i < W.S.next ∧ ∃ o, W.H (W.ρ i) = some o ∧ RepC K W o c
  inj : ∀ i j c d, W.S.get i = some c → W.S.get j = some d → W.ρ i = W.ρ j → i = j
  apart : ∀ i c, W.S.get i = some c → ¬ W.P (W.ρ i)
  ownd : ∀ a, W.P a → ∃ o, W.H a = some o
section
variable {K : PySem.W.Frag} {W W' : Wd}
theorem StOk.fresh (s : StOk K W) {p : Addr} (h : W.H p = none) : ¬ W.Live p := fun l => by
  rcases l with l | ⟨i, c, e, q⟩
  · obtain ⟨o, z⟩ := s.ownd p l
    rw [h] at z; cases z
  · obtain ⟨_, o, z, _⟩ := s.cell i c e
    rw [q, h] at z; cases z
/-- a new thing that is not told in the store -/
def Wd.lay (W : Wd) (p : Addr) (o : HO) : Wd := ⟨W.ρ, W.S, upd W.H p o, W.P⟩
theorem Ext.lay {p : Addr} {o : HO} (h : W.H p = none) : Ext W (W.lay p o) := by
  have k : ∀ a u, W.H a = some u → upd W.H p o a = some u := fun a u e => by rw [upd_ne (ne_of_none e h)]; exact e
  exact ⟨⟨fun a u e _ => k a u e, fun a l => .inl l, fun _ _ => rfl, Nat.le_refl _⟩, rfl, fun a u _ e => k a u e⟩
theorem StOk.lay (s : StOk K W) {p : Addr} {o : HO} (h : W.H p = none) : StOk K (W.lay p o) where
  cell := fun i c e => by
    obtain ⟨h1, u, z, r⟩ := s.cell i c e
    exact ⟨h1, u, by show upd W.H p o (W.ρ i) = some u; rw [upd_ne (ne_of_none z h)]; exact z, r.mono0 (Ext.lay h).toExt0⟩
  inj := s.inj
  apart := s.apart
  ownd := fun a h' => by
    obtain ⟨u, z⟩ := s.ownd a h'
    exact ⟨u, by show upd W.H p o a = some u; rw [upd_ne (ne_of_none z h)]; exact z⟩
theorem lay_tup (s : StOk K W) {p : Addr} {vs : List V} {ds : List D} (h : W.H p = none) (r : Reps K W vs ds) : Rep K (W.lay p (.tup vs)) (.ref p) (.tup ds) :=
  .tup (.inl ⟨upd_same, fun l => s.fresh h l⟩) (r.mono (Ext.lay h))
theorem lay_lst (s : StOk K W) {p : Addr} {vs : List V} {ds : List D} (h : W.H p = none) (r : Reps K W vs ds) : Rep K (W.lay p (.lst vs)) (.ref p) (.lst ds) :=
  .lst ⟨upd_same, fun l => s.fresh h l⟩ (r.mono (Ext.lay h))
/-- a new cell -/
def Wd.addc (W : Wd) (p : Addr) (o : HO) (c : Cell) : Wd := ⟨fun i => if i = W.S.next then p else W.ρ i, W.S.new c, upd W.H p o, W.P⟩
theorem Ext.addc {p : Addr} {o : HO} {c : Cell} (h : W.H p = none) : Ext W (W.addc p o c) := by
  have k : ∀ a u, W.H a = some u → upd W.H p o a = some u := fun a u e => by rw [upd_ne (ne_of_none e h)]; exact e
  refine ⟨⟨fun a u e _ => k a u e, fun a l => ?_, fun i hi => ?_, Nat.le_succ _⟩, rfl, fun a u _ e => k a u e⟩
  · rcases l with l | ⟨i, d, e, q⟩
    · exact .inl (.inl l)
    · have q' : (if i = W.S.next then p else W.ρ i) = a := q
      have e' : (if W.S.next = i then some c else W.S.get i) = some d := e
      by_cases hi : i = W.S.next
      · rw [if_pos hi] at q'; subst q'; exact .inr h
      · rw [if_neg hi] at q'
        rw [if_neg (Ne.symm hi)] at e'
        exact .inl (.inr ⟨i, d, e', q'⟩)
  · show (if i = W.S.next then p else W.ρ i) = W.ρ i
    rw [if_neg (Nat.ne_of_lt hi)]
theorem StOk.addc (s : StOk K W) {p : Addr} {o : HO} {c : Cell} (h : W.H p = none) (r : RepC K W o c) : StOk K (W.addc p o c) where
  cell := fun i d e => by
    have e' : (if W.S.next = i then some c else W.S.get i) = some d := e
    show i < W.S.next + 1 ∧ ∃ u, upd W.H p o (if i = W.S.next then p else W.ρ i) = some u ∧ RepC K (W.addc p o c) u d
    by_cases hi : W.S.next = i
    · rw [if_pos hi] at e'
      cases e'
      exact ⟨by omega, o, by rw [if_pos hi.symm]; exact upd_same, r.mono0 (Ext.addc h).toExt0⟩
    · rw [if_neg hi] at e'
      obtain ⟨h1, u, z, r'⟩ := s.cell i d e'
      exact ⟨by omega, u, by rw [if_neg (Ne.symm hi), upd_ne (ne_of_none z h)]; exact z, r'.mono0 (Ext.addc h).toExt0⟩
  inj := fun i j d d' e e' q => by
    have e1 : (if W.S.next = i then some c else W.S.get i) = some d := e
    have e2 : (if W.S.next = j then some c else W.S.get j) = some d' := e'
    have q' : (if i = W.S.next then p else W.ρ i) = (if j = W.S.next then p else W.ρ j) := q
    by_cases hi : W.S.next = i
    · by_cases hj : W.S.next = j
      · exact hi.symm.trans hj
      · rw [if_pos hi.symm, if_neg (Ne.symm hj)] at q'
        rw [if_neg hj] at e2
        exact absurd (.inr ⟨j, d', e2, q'.symm⟩) (s.fresh h)
    · by_cases hj : W.S.next = j
      · rw [if_neg (Ne.symm hi), if_pos hj.symm] at q'
        rw [if_neg hi] at e1
        exact absurd (.inr ⟨i, d, e1, q'⟩) (s.fresh h)
      · rw [if_neg (Ne.symm hi), if_neg (Ne.symm hj)] at q'
        rw [if_neg hi] at e1
        rw [if_neg hj] at e2
        exact s.inj i j d d' e1 e2 q'
  apart := fun i d e z => by
    have e' : (if W.S.next = i then some c else W.S.get i) = some d := e
    have z' : W.P (if i = W.S.next then p else W.ρ i) := z
    by_cases hi : W.S.next = i
    · rw [if_pos hi.symm] at z'
      exact s.fresh h (.inl z')
    · rw [if_neg hi] at e'
      rw [if_neg (Ne.symm hi)] at z'
      exact s.apart i d e' z'
  ownd := fun a h' => by
    obtain ⟨u, z⟩ := s.ownd a h'
    exact ⟨u, by show upd W.H p o a = some u; rw [upd_ne (ne_of_none z h)]; exact z⟩
/-- a cell written -/
def Wd.wr (W : Wd) (i : Nat) (o : HO) (c : Cell) : Wd := ⟨W.ρ, W.S.put i c, upd W.H (W.ρ i) o, W.P⟩
theorem Wd.wr_live {i : Nat} {o : HO} {c c0 : Cell} (h : W.S.get i = some c0) {a : Addr} : (W.wr i o c).Live a ↔ W.Live a := by
  constructor
  · rintro (l | ⟨j, d, e, q⟩)
    · exact .inl l
    · have e' : (W.S.put i c).get j = some d := e
      rw [Sto.get_put] at e'
      by_cases hj : j = i
      · exact .inr ⟨i, c0, h, by rw [← hj]; exact q⟩
      · rw [if_neg hj] at e'; exact .inr ⟨j, d, e', q⟩
  · rintro (l | ⟨j, d, e, q⟩)
    · exact .inl l
    · by_cases hj : j = i
      · refine .inr ⟨i, c, ?_, by rw [← hj]; exact q⟩
        show (W.S.put i c).get i = some c
        rw [Sto.get_put, if_pos rfl, h]; rfl
      · refine .inr ⟨j, d, ?_, q⟩
        show (W.S.put i c).get j = some d
        rw [Sto.get_put, if_neg hj]; exact e
theorem Ext.wr (s : StOk K W) {i : Nat} {o : HO} {c c0 : Cell} (h : W.S.get i = some c0) : Ext W (W.wr i o c) := by
  have k : ∀ a u, W.H a = some u → a ≠ W.ρ i → upd W.H (W.ρ i) o a = some u := fun a u e n => by rw [upd_ne n]; exact e
  exact ⟨⟨fun a u e n => k a u e fun z => n (.inr ⟨i, c0, h, z.symm⟩), fun a l => .inl ((Wd.wr_live h).mp l), fun _ _ => rfl, Nat.le_refl _⟩, rfl,
    fun a u p e => k a u e fun z => s.apart i c0 h (by rw [← z]; exact p)⟩
theorem StOk.wr (s : StOk K W) {i : Nat} {o : HO} {c c0 : Cell} (h : W.S.get i = some c0) (r : RepC K W o c) : StOk K (W.wr i o c) := by
  have at0 : ∀ j d, (W.S.put i c).get j = some d → ∃ x, W.S.get j = some x := fun j d e => by
    rw [Sto.get_put] at e
    by_cases hj : j = i
    · exact ⟨c0, by rw [hj]; exact h⟩
    · rw [if_neg hj] at e; exact ⟨d, e⟩
  refine ⟨fun j d e => ?_, fun j k d d' e e' q => ?_, fun j d e => ?_, fun a h' => ?_⟩
  · have e' : (W.S.put i c).get j = some d := e
    rw [Sto.get_put] at e'
    show j < W.S.next ∧ ∃ u, upd W.H (W.ρ i) o (W.ρ j) = some u ∧ RepC K (W.wr i o c) u d
    by_cases hj : j = i
    · rw [if_pos hj, h] at e'
      cases e'
      subst hj
      exact ⟨(s.cell _ _ h).1, o, upd_same, r.mono0 (Ext.wr s h).toExt0⟩
    · rw [if_neg hj] at e'
      obtain ⟨h1, u, z, r'⟩ := s.cell j d e'
      exact ⟨h1, u, by rw [upd_ne (fun q => hj (s.inj _ _ _ _ e' h q))]; exact z, r'.mono0 (Ext.wr s h).toExt0⟩
  · obtain ⟨x, w1⟩ := at0 j d e
    obtain ⟨y, w2⟩ := at0 k d' e'
    exact s.inj j k x y w1 w2 q
  · obtain ⟨x, w1⟩ := at0 j d e
    exact s.apart j x w1
  · show ∃ u, upd W.H (W.ρ i) o a = some u
    obtain ⟨u, z⟩ := s.ownd a h'
    exact ⟨u, by rw [upd_ne (fun q => s.apart i c0 h (by rw [← q]; exact h'))]; exact z⟩
/-- a cell forgotten -/
def Wd.dl (W : Wd) (i : Nat) : Wd := ⟨W.ρ, W.S.del i, W.H, W.P⟩
theorem dl_get {i j : Nat} {d : Cell} (e : (W.S.del i).get j = some d) : j ≠ i ∧ W.S.get j = some d := by
  rw [Sto.get_del] at e
  by_cases hj : j = i
  · rw [if_pos hj] at e; cases e
  · rw [if_neg hj] at e; exact ⟨hj, e⟩
theorem Wd.dl_live {i : Nat} {a : Addr} (l : (W.dl i).Live a) : W.Live a := by
  rcases l with l | ⟨j, d, e, q⟩
  · exact .inl l
  · exact .inr ⟨j, d, (dl_get e).2, q⟩
theorem Ext.dl {i : Nat} : Ext W (W.dl i) := ⟨⟨fun _ _ e _ => e, fun _ l => .inl (Wd.dl_live l), fun _ _ => rfl, Nat.le_refl _⟩, rfl, fun _ _ _ e => e⟩
theorem StOk.dl (s : StOk K W) {i : Nat} : StOk K (W.dl i) where
  cell := fun j d e => by
    obtain ⟨h1, u, z, r'⟩ := s.cell j d (dl_get e).2
    exact ⟨h1, u, z, r'.mono0 Ext.dl.toExt0⟩
  inj := fun j k d d' e e' q => s.inj j k d d' (dl_get e).2 (dl_get e').2 q
  apart := fun j d e => s.apart j d (dl_get e).2
  ownd := s.ownd
theorem StOk.dl_dead (s : StOk K W) {i : Nat} {c : Cell} (h : W.S.get i = some c) : ¬ (W.dl i).Live (W.ρ i) := fun l => by
  rcases l with l | ⟨j, d, e, q⟩
  · exact s.apart i c h l
  · exact (dl_get e).1 (s.inj j i d c (dl_get e).2 h q)
end

/-! ### slots -/
abbrev Env := List (Option D)
structure EnvOk (K : PySem.W.Frag) (W : Wd) (σ : L2.St) (E : Env) : Prop where
  len : σ.length = E.length
  at_ : ∀ (i : Nat) (d : D), E[i]? = some (some d) → ∃ v, σ[i]? = some (some v) ∧ Rep K W v d
section
variable {K : PySem.W.Frag} {W W' : Wd} {σ : L2.St} {E : Env}
theorem EnvOk.mono (h : EnvOk K W σ E) (e : Ext W W') : EnvOk K W' σ E := ⟨h.len, fun i d q => by
  obtain ⟨v, a, r⟩ := h.at_ i d q
  exact ⟨v, a, r.mono e⟩⟩
theorem EnvOk.set (h : EnvOk K W σ E) {i : Nat} {v : V} {d : D} (r : Rep K W v d) : EnvOk K W (σ.set i (some v)) (E.set i (some d)) := ⟨by simpa using h.len, fun j x q => by
  by_cases hj : i = j
  · subst hj
    have hl : i < E.length := by
      have := (List.getElem?_eq_some_iff.mp q).1
      simpa using this
    rw [List.getElem?_set_self hl] at q
    cases q
    exact ⟨v, by rw [List.getElem?_set_self (by rw [h.len]; exact hl)], r⟩
  · rw [List.getElem?_set_ne hj] at q
    obtain ⟨u, a, r'⟩ := h.at_ j x q
    exact ⟨u, by rw [List.getElem?_set_ne hj]; exact a, r'⟩⟩
end

/-! ### results -/
inductive Ex where
  | mk (cls : Str) (fs : List (Str × D))
inductive Res (α : Type) where
  | stuck
  | ok (a : α) (S : Sto)
  | exc (x : Ex) (S : Sto)
def Res.bind {α β : Type} (r : Res α) (k : α → Sto → Res β) : Res β := match r with
  | .stuck => .stuck
  | .ok a S => k a S
  | .exc x S => .exc x S
inductive Fl where
  | stuck
  | nx (E : Env) (S : Sto)
  | rt (d : D) (S : Sto)
  | bk (E : Env) (S : Sto)
  | ct (E : Env) (S : Sto)
  | exc (x : Ex) (E : Env) (S : Sto)
abbrev ME := Env → Sto → Res D
abbrev MT := Env → Sto → Res Bool
abbrev MA := Env → Sto → Res (List D)
abbrev MS := Env → Sto → Fl
abbrev MF := List D → Sto → Res D

/-- an exception, told -/
def RepX (K : PySem.W.Frag) (mg : Str → Option Value) (W : Wd) (cls : Value) (a : Option Addr) : Ex → Prop
  | .mk x fs => (∃ C, mg x = some (.ref C) ∧ cls = .ref C) ∧ ((fs = [] ∧ a = none) ∨ ∃ d vs, a = some d ∧ W.H d = some (.xd vs) ∧ ¬ W.Live d ∧ vs.map (·.1) = fs.map (·.1) ∧ Reps K W (vs.map (·.2)) (fs.map (·.2)))
/-- what is wanted behind -/
def PostE {α β : Type} (K : PySem.W.Frag) (mg : Str → Option Value) (R : Wd → β → α → Prop) (w : Value → Option Addr → Hp → Prop) (W : Wd) (r : Res α) (Q : β → Hp → Prop) : Prop :=
  match r with
  | .stuck => False
  | .ok d S' => ∀ W' v, Ext W W' → W'.S = S' → StOk K W' → R W' v d → Q v W'.H
  | .exc x S' => ∀ W' cls a, Ext W W' → W'.S = S' → StOk K W' → RepX K mg W' cls a x → w cls a W'.H
def rdE (K : PySem.W.Frag) (mg : Str → Option Value) (w : WX) (f : ME) : TE := fun σ H Q => ∃ W E, W.H = H ∧ StOk K W ∧ EnvOk K W σ E ∧ PostE K mg (Rep K) (fun c a H' => w c a σ H') W (f E W.S) Q
def rdT (K : PySem.W.Frag) (mg : Str → Option Value) (w : WX) (f : MT) : TT := fun σ H Q => ∃ W E, W.H = H ∧ StOk K W ∧ EnvOk K W σ E ∧ PostE K mg (fun _ (b : Bool) d => b = d) (fun c a H' => w c a σ H') W (f E W.S) Q
def rdA (K : PySem.W.Frag) (mg : Str → Option Value) (w : WX) (f : MA) : TA := fun σ H Q => ∃ W E, W.H = H ∧ StOk K W ∧ EnvOk K W σ E ∧ PostE K mg (Reps K) (fun c a H' => w c a σ H') W (f E W.S) Q
/-- .. of a def -/
def spF (K : PySem.W.Frag) (mg : Str → Option Value) (F : MF) : Sp := fun vs H Q E => ∃ W ds, W.H = H ∧ StOk K W ∧ Reps K W vs ds ∧ PostE K mg (Rep K) E W (F ds W.S) Q
/-- .. of a statement -/
def PostS (K : PySem.W.Frag) (mg : Str → Option Value) (w : WX) (W : Wd) (r : Fl) (D : Ends) : Prop :=
  match r with
  | .stuck => False
  | .nx E' S' => ∀ W' σ', Ext W W' → W'.S = S' → StOk K W' → EnvOk K W' σ' E' → D.nx σ' W'.H
  | .bk E' S' => ∀ W' σ', Ext W W' → W'.S = S' → StOk K W' → EnvOk K W' σ' E' → D.bk σ' W'.H
  | .ct E' S' => ∀ W' σ', Ext W W' → W'.S = S' → StOk K W' → EnvOk K W' σ' E' → D.ct σ' W'.H
  | .rt d S' => ∀ W' v, Ext W W' → W'.S = S' → StOk K W' → Rep K W' v d → D.rt v W'.H
  | .exc x E' S' => ∀ W' σ' cls a, Ext W W' → W'.S = S' → StOk K W' → EnvOk K W' σ' E' → RepX K mg W' cls a x → w cls a σ' W'.H
def rdS (K : PySem.W.Frag) (mg : Str → Option Value) (w : WX) (f : MS) : TS := fun D σ H => ∃ W E, W.H = H ∧ StOk K W ∧ EnvOk K W σ E ∧ PostS K mg w W (f E W.S) D
section
variable {K : PySem.W.Frag} {mg : Str → Option Value} {W W' : Wd}
theorem PostE.ext {α β : Type} {R : Wd → β → α → Prop} {w : Value → Option Addr → Hp → Prop} {r : Res α} {Q : β → Hp → Prop} (e : Ext W W') (h : PostE K mg R w W r Q) : PostE K mg R w W' r Q := by
  cases r with
  | stuck => exact h
  | ok d S' => exact fun W2 v e2 hS s q => h W2 v (e.trans e2) hS s q
  | exc x S' => exact fun W2 c a e2 hS s q => h W2 c a (e.trans e2) hS s q
/-- a result that goes on -/
theorem PostE.bind {α β γ δ : Type} {R : Wd → β → α → Prop} {R' : Wd → δ → γ → Prop} {w : Value → Option Addr → Hp → Prop} {r : Res α} {k : α → Sto → Res γ} {Q : δ → Hp → Prop} (h : PostE K mg R' w W (r.bind k) Q)
    {Q' : β → Hp → Prop} (g : ∀ W1 v d, Ext W W1 → StOk K W1 → R W1 v d → PostE K mg R' w W1 (k d W1.S) Q → Q' v W1.H) : PostE K mg R w W r Q' := by
  cases r with
  | stuck => exact h
  | ok d S' =>
    intro W1 v e hS s q
    refine g W1 v d e s q ?_
    rw [hS]
    exact PostE.ext e (show PostE K mg R' w W (k d S') Q from h)
  | exc x S' => exact h
theorem PostS.ext {w : WX} {r : Fl} {D : Ends} (e : Ext W W') (h : PostS K mg w W r D) : PostS K mg w W' r D := by
  cases r with
  | stuck => exact h
  | nx E S => exact fun W2 σ2 e2 hS s q => h W2 σ2 (e.trans e2) hS s q
  | bk E S => exact fun W2 σ2 e2 hS s q => h W2 σ2 (e.trans e2) hS s q
  | ct E S => exact fun W2 σ2 e2 hS s q => h W2 σ2 (e.trans e2) hS s q
  | rt d S => exact fun W2 v e2 hS s q => h W2 v (e.trans e2) hS s q
  | exc x E S => exact fun W2 σ2 c a e2 hS s q r => h W2 σ2 c a (e.trans e2) hS s q r
end

/-! ### weaker readings -/
theorem PE.imp {X : Cx} {e : Expr} {t t' : TE} (h : PE X e t) (k : ∀ σ H Q, t' σ H Q → t σ H Q) : PE X e t' := ⟨fun pins s σ H Q I q => h.run pins s σ H Q I (k σ H Q q)⟩
theorem PT.imp {X : Cx} {e : Expr} {t t' : TT} (h : PT X e t) (k : ∀ σ H Q, t' σ H Q → t σ H Q) : PT X e t' := ⟨fun pins s σ H Q I q => h.run pins s σ H Q I (k σ H Q q)⟩
theorem PA.imp {X : Cx} {es : List Expr} {t t' : TA} (h : PA X es t) (k : ∀ σ H Q, t' σ H Q → t σ H Q) : PA X es t' := ⟨fun pos pins s σ H Q I q => h.run pos pins s σ H Q I (k σ H Q q)⟩
theorem PS.imp {X : Cx} {st : Stmt} {t t' : TS} (h : PS X st t) (k : ∀ D σ H, t' D σ H → t D σ H) : PS X st t' := ⟨fun pins s σ H D I q => h.run pins s σ H D I (k D σ H q)⟩
theorem PSs.imp {X : Cx} {st : List Stmt} {t t' : TS} (h : PSs X st t) (k : ∀ D σ H, t' D σ H → t D σ H) : PSs X st t' := ⟨fun pins s σ H D I q => h.run pins s σ H D I (k D σ H q)⟩
theorem PG.imp {X : Cx} {e : Expr} {t t' : TG} (h : PG X e t) (k : ∀ v σ H Q, t' v σ H Q → t v σ H Q) : PG X e t' := ⟨fun pins s σ H v u Q I r q => h.run pins s σ H v u Q I r (k v σ H Q q)⟩
end Mi

/-! Mi: expressions. -/
namespace Mi
open PySem PySem.Spec PyProof.Rows L2

abbrev RE (X : Cx) (w : WX) (f : ME) : TE := rdE X.K X.mg w f
abbrev RT (X : Cx) (w : WX) (f : MT) : TT := rdT X.K X.mg w f
abbrev RA (X : Cx) (w : WX) (f : MA) : TA := rdA X.K X.mg w f
abbrev RS (X : Cx) (w : WX) (f : MS) : TS := rdS X.K X.mg w f
/-- no exception is wanted -/
abbrev w0 : WX := fun _ _ _ _ => False

/-! ### names, constants -/
def mVar (i : Nat) : ME := fun E S => match E[i]? with
  | some (some d) => .ok d S
  | _ => .stuck
def mC (d : D) : ME := fun _ S => .ok d S
section
variable {X : Cx} {w : WX} {e : Expr}
theorem m_var (i : Nat) (h : PE X e (tVar i)) : PE X e (RE X w (mVar i)) := PE.imp h fun σ H Q ⟨W, E, eH, s, en, q⟩ => by
  unfold mVar at q
  split at q
  · rename_i d hE
    obtain ⟨v, hv, r⟩ := en.at_ i d hE
    subst eH
    exact ⟨v, hv, q W v (Ext.refl W) rfl s r⟩
  · exact q.elim
theorem m_c {v : V} {d : D} (h : PE X e (tC v)) (hr : ∀ W, Rep X.K W v d) : PE X e (RE X w (mC d)) := PE.imp h fun σ H Q ⟨W, E, eH, s, en, q⟩ => by
  subst eH
  exact q W v (Ext.refl W) rfl s (hr W)
theorem m_int {i j pos} : PE X (.Constant (.int i) j pos) (RE X w (mC (.int i))) := m_c pe_int fun _ => .int i
theorem m_bl {b j pos} : PE X (.Constant (.bool b) j pos) (RE X w (mC (.bl b))) := m_c pe_bl fun _ => .bl b
theorem m_non {j pos} : PE X (.Constant .none j pos) (RE X w (mC .non)) := m_c pe_non fun _ => .non
theorem m_str {x j pos} : PE X (.Constant (.str x) j pos) (RE X w (mC (.str x))) := m_c pe_str fun _ => .str x
end

/-! ### two-place operations -/
def liftO (o : Option D) (S : Sto) : Res D := match o with
  | some d => .ok d S
  | none => .stuck
def mOp2 (o : D → D → Sto → Option D) (f g : ME) : ME := fun E S => (f E S).bind fun x S1 => (g E S1).bind fun y S2 => liftO (o x y S2) S2
def mOp1 (o : D → Sto → Option D) (f : ME) : ME := fun E S => (f E S).bind fun x S1 => liftO (o x S1) S1
def Snd2 (K : PySem.W.Frag) (r : R2) (o : D → D → Sto → Option D) : Prop := ∀ (W : Wd) (x y : V) (dx dy d : D) (Q : VK), StOk K W → Rep K W x dx → Rep K W y dy → o dx dy W.S = some d →
  (∀ W' v, Ext W W' → W'.S = W.S → StOk K W' → Rep K W' v d → Q v W'.H) → r x y W.H Q
def Snd1 (K : PySem.W.Frag) (r : V → Hp → VK → Prop) (o : D → Sto → Option D) : Prop := ∀ (W : Wd) (x : V) (dx d : D) (Q : VK), StOk K W → Rep K W x dx → o dx W.S = some d →
  (∀ W' v, Ext W W' → W'.S = W.S → StOk K W' → Rep K W' v d → Q v W'.H) → r x W.H Q
theorem post_lift {K : PySem.W.Frag} {mg : Str → Option Value} {w : Value → Option Addr → Hp → Prop} {W : Wd} {o : Option D} {Q : VK} (h : PostE K mg (Rep K) w W (liftO o W.S) Q) :
    ∃ d, o = some d ∧ ∀ W' v, Ext W W' → W'.S = W.S → StOk K W' → Rep K W' v d → Q v W'.H := by
  cases o with
  | none => exact h.elim
  | some d => exact ⟨d, rfl, h⟩
theorem rd2 {K : PySem.W.Frag} {mg : Str → Option Value} {w : WX} {r : R2} {o : D → D → Sto → Option D} {f g : ME} (hs : Snd2 K r o) {σ : L2.St} {H : Hp} {Q : VK} (h : rdE K mg w (mOp2 o f g) σ H Q) : tOp r (rdE K mg w f) (rdE K mg w g) σ H Q := by
  obtain ⟨W, E, eH, s, en, q⟩ := h
  refine ⟨W, E, eH, s, en, PostE.bind q fun W1 v d e1 s1 r1 q1 => ⟨W1, E, rfl, s1, en.mono e1, PostE.bind q1 fun W2 u d2 e2 s2 r2 q2 => ?_⟩⟩
  obtain ⟨z, ho, q3⟩ := post_lift q2
  exact hs W2 v u d d2 z Q s2 (r1.mono e2) r2 ho q3
theorem rd1 {K : PySem.W.Frag} {mg : Str → Option Value} {w : WX} {r : V → Hp → VK → Prop} {o : D → Sto → Option D} {f : ME} (hs : Snd1 K r o) {σ : L2.St} {H : Hp} {Q : VK} (h : rdE K mg w (mOp1 o f) σ H Q) : tUn r (rdE K mg w f) σ H Q := by
  obtain ⟨W, E, eH, s, en, q⟩ := h
  refine ⟨W, E, eH, s, en, PostE.bind q fun W1 v d e1 s1 r1 q1 => ?_⟩
  obtain ⟨z, ho, q3⟩ := post_lift q1
  exact hs W1 v d z Q s1 r1 ho q3
section
variable {X : Cx} {w : WX} {a b : Expr} {pos : Pos} {f g : ME}
theorem m_op {op : Operator} {r : R2} {o : D → D → Sto → Option D} (ho : OpR X (binaryOp op) r) (hs : Snd2 X.K r o) (ha : PE X a (RE X w f)) (hb : PE X b (RE X w g)) : PE X (.BinOp a op b pos) (RE X w (mOp2 o f g)) :=
  PE.imp (pe_op ho ha hb) fun _ _ _ h => rd2 hs h
theorem m_cmp {op : CmpOp} {r : R2} {o : D → D → Sto → Option D} (ho : OpR X (compareOp op) r) (hs : Snd2 X.K r o) (hm : behindInMarks op b = false) (ha : PE X a (RE X w f)) (hb : PE X b (RE X w g)) : PE X (.Compare a [op] [b] pos) (RE X w (mOp2 o f g)) :=
  PE.imp (pe_cmpR ho ha hb hm) fun _ _ _ h => rd2 hs h
theorem m_un {op : UnaryOp} {r : V → Hp → VK → Prop} {o : D → Sto → Option D} (ho : UnR X (unaryOp op) r) (hs : Snd1 X.K r o) (ha : PE X a (RE X w f)) : PE X (.UnaryOp op a pos) (RE X w (mOp1 o f)) :=
  PE.imp (pe_un ho ha) fun _ _ _ h => rd1 hs h
end

/-! ### what is read as a list, as a tuple -/
def lstOf (S : Sto) : D → Option (List D)
  | .lst xs => some xs
  | .ref i => match S.get i with
    | some (.ml xs) => some xs
    | _ => none
  | _ => none
/-- .. that may be read only, too -/
def lstR (S : Sto) : D → Option (List D)
  | .scr xs => some xs
  | d => lstOf S d
def seqOf (S : Sto) : D → Option (List D)
  | .tup xs => some xs
  | d => lstR S d
section
variable {K : PySem.W.Frag} {W : Wd} {v : V} {d : D} {xs : List D}
theorem lst_of (s : StOk K W) (r : Rep K W v d) (h : lstOf W.S d = some xs) : ∃ a vs, v = .ref a ∧ W.H a = some (.lst vs) ∧ Reps K W vs xs := by
  cases r with
  | lst hl hr =>
    cases h
    exact ⟨_, _, rfl, hl.1, hr⟩
  | @ref i a hi ha =>
    have h2 : (match W.S.get i with | some (.ml ys) => some ys | _ => none) = some xs := h
    split at h2
    · rename_i ys hg
      cases h2
      obtain ⟨_, o, ho, rc⟩ := s.cell _ _ hg
      cases rc with
      | ml rr => exact ⟨_, _, rfl, by rw [ha]; exact ho, rr⟩
    · cases h2
  | _ => cases h
theorem SqT_of {a : Addr} {vs : List V} (h : RdT K W a vs) : SqT K W.H a vs := by
  rcases h with ⟨h, _⟩ | h
  · exact .inl (.inl h)
  · exact .inr h
theorem tup_of (r : Rep K W v (.tup xs)) : ∃ a vs, v = .ref a ∧ RdT K W a vs ∧ SqT K W.H a vs ∧ Reps K W vs xs := by
  cases r with
  | tup h hr => exact ⟨_, _, rfl, h, SqT_of h, hr⟩
theorem lstR_of (s : StOk K W) (r : Rep K W v d) (h : lstR W.S d = some xs) : ∃ a vs, v = .ref a ∧ SqL K W.H a vs ∧ Reps K W vs xs := by
  unfold lstR at h
  split at h
  · cases h
    cases r with
    | scr ht hr =>
      exact ⟨_, _, rfl, SqL_ofF ht, hr⟩
  · obtain ⟨a, vs, e, ha, rr⟩ := lst_of s r h
    exact ⟨a, vs, e, SqL.of ha, rr⟩
theorem seq_of (s : StOk K W) (r : Rep K W v d) (h : seqOf W.S d = some xs) : ∃ a vs, v = .ref a ∧ (SqL K W.H a vs ∨ SqT K W.H a vs) ∧ Reps K W vs xs := by
  unfold seqOf at h
  split at h
  · cases h
    obtain ⟨a, vs, e, _, ha, rr⟩ := tup_of r
    exact ⟨a, vs, e, .inr ha, rr⟩
  · obtain ⟨a, vs, e, ha, rr⟩ := lstR_of s r h
    exact ⟨a, vs, e, .inl ha, rr⟩
end

/-! ### + - * // % ** and the unary minus -/
def big (n : Nat) : Bool := Nat.ble n 10000000
theorem big_le {n : Nat} (h : big n = true) : n ≤ sizeLine := Nat.le_trans (Nat.le_of_ble_eq_true h) (by decide)
theorem big_lt {n : Nat} (h : big n = true) : n < sizeLine := Nat.lt_of_le_of_lt (Nat.le_of_ble_eq_true h) (by decide)
def opAdd : D → D → Sto → Option D
  | .int a, .int b, _ => some (.int (a + b))
  | .tup xs, .tup ys, _ => if big (xs.length + ys.length) then some (.tup (xs ++ ys)) else none
  | x, y, S => match lstOf S x, lstOf S y with
    | some xs, some ys => if big (xs.length + ys.length) then some (.lst (xs ++ ys)) else none
    | _, _ => none
def rAddA (K : PySem.W.Frag) : R2 := fun x y H Q => rI0 (fun i j => .int (i + j)) x y H Q ∨ rCatA K x y H Q ∨ rCat x y H Q
theorem or_add {X : Cx} : OpR X (binaryOp .Add) (rAddA X.K) := op_add.or (op_catA.or op_cat)
theorem sn_add {K : PySem.W.Frag} : Snd2 K (rAddA K) opAdd := by
  intro W x y dx dy d Q s rx ry h q
  unfold opAdd at h
  split at h
  · cases h
    cases rx
    cases ry
    exact .inl ⟨_, _, rfl, rfl, q W _ (Ext.refl W) rfl s (.int _)⟩
  · rename_i xs ys S
    split at h
    · rename_i hb
      cases h
      obtain ⟨a, vs, rfl, ha, ha', ra⟩ := tup_of rx
      obtain ⟨b, ws, rfl, hb', hb'', rb⟩ := tup_of ry
      refine .inr (.inl ⟨a, b, vs, ws, rfl, rfl, ha', hb'', by rw [ra.length, rb.length]; exact big_le hb, fun e => ?_, fun e e' => ?_, fun e e' p hp => ?_⟩)
      · have := ra.nil_iff.mp e
        subst this
        exact q W _ (Ext.refl W) rfl s ry
      · have := rb.nil_iff.mp e'
        subst this
        rw [List.append_nil] at q
        exact q W _ (Ext.refl W) rfl s rx
      · exact q (W.lay p (.tup (vs ++ ws))) _ (Ext.lay hp) rfl (s.lay hp) (lay_tup s hp (ra.append rb))
    · cases h
  · split at h
    · rename_i xs ys hx hy
      split at h
      · rename_i hb
        cases h
        obtain ⟨a, vs, rfl, ha, ra⟩ := lst_of s rx hx
        obtain ⟨b, ws, rfl, hb', rb⟩ := lst_of s ry hy
        exact .inr (.inr ⟨a, b, vs, ws, rfl, rfl, ha, hb', by rw [ra.length, rb.length]; exact big_le hb, fun p hp => q (W.lay p (.lst (vs ++ ws))) _ (Ext.lay hp) rfl (s.lay hp) (lay_lst s hp (ra.append rb))⟩)
      · cases h
    · cases h
def opSub : D → D → Sto → Option D
  | .int a, .int b, _ => some (.int (a - b))
  | _, _, _ => none
theorem sn_sub {K : PySem.W.Frag} : Snd2 K (rI0 fun i j => .int (i - j)) opSub := by
  intro W x y dx dy d Q s rx ry h q
  unfold opSub at h
  split at h
  · cases h; cases rx; cases ry
    exact ⟨_, _, rfl, rfl, q W _ (Ext.refl W) rfl s (.int _)⟩
  · cases h
def small64 (i : Int) : Bool := decide (-(2 ^ 64) < i) && decide (i < 2 ^ 64)
theorem small64_iff {i : Int} (h : small64 i = true) : -(2 ^ 64) < i ∧ i < 2 ^ 64 := by
  unfold small64 at h
  rw [Bool.and_eq_true] at h
  exact ⟨of_decide_eq_true h.1, of_decide_eq_true h.2⟩
/-- a * b; a tuple, a list some times -/
def opMul : D → D → Sto → Option D
  | .int a, .int b, _ => if small64 a || small64 b then some (.int (a * b)) else none
  | .tup xs, .int k, _ => if decide (k = 1) then some (.tup xs) else if !xs.isEmpty && decide (2 ≤ k) && decide (k ≤ 1000) && Nat.ble xs.length 1000 then some (.tup (List.replicate k.toNat xs).flatten) else none
  | x, .int k, S => match lstOf S x with
    | some xs => if decide (0 ≤ k) && decide (k ≤ 1000) && Nat.ble xs.length 1000 then some (.lst (List.replicate k.toNat xs).flatten) else none
    | none => none
  | _, _, _ => none
theorem Reps.rep {K : PySem.W.Frag} {W : Wd} {vs : List V} {ds : List D} (h : Reps K W vs ds) : ∀ k : Nat, Reps K W (List.replicate k vs).flatten (List.replicate k ds).flatten
  | 0 => .nil
  | k + 1 => by
    rw [List.replicate_succ, List.replicate_succ, List.flatten_cons, List.flatten_cons]
    exact h.append (h.rep k)
end Mi
namespace Mi
open PySem PySem.Spec PyProof.Rows L2
theorem tuple_mul1 (l : Addr) (items : Array Value) (n : Nat) (dd : Option Addr) (sl : Array (Option Value)) (x : Int) (u : Tok) (c0 : (decide (x < -(2 ^ 63)) || decide (x ≥ 2 ^ 63)) = false) (c1 : (items.isEmpty || x == 1) = true) :
    Meets (Builtin.«tuple.__mul__» ⟨[.ref l, .int x u], []⟩) (fun _ R s => s.heap.get? l = some { cls := .type "tuple", dict := dd, data := .seq items n, slots := sl } ∧
      R (.ok (.ret (Value.ref l))) s) :=
  .of_wp fun prog w A R s h => by
    obtain ⟨hp, g, d, tk, os⟩ := s
    obtain ⟨hl, h⟩ := h
    have f1 := AutoSeq1.idx_int
    wp_walk using wpAny_loadPart' hl
    repeat (first
      | (refine wpAny_ite_false (decide_eq_false (by rw [c0]; exact Bool.false_ne_true)) ?_; wp_walk using wpAny_loadPart' hl)
      | (refine wpAny_ite_true (decide_eq_true (by rw [c1])) ?_; wp_walk using wpAny_loadPart' hl))
    exact ⟨_, rfl, h⟩
def rRep1 (K : PySem.W.Frag) : R2 := fun x y H Q => ∃ l k xs, x = .ref l ∧ y = .int k ∧ SqT K H l xs ∧ (xs = [] ∨ k = 1) ∧ -1000 ≤ k ∧ k ≤ 1000 ∧ Q (.ref l) H
section
variable {X : Cx}
theorem op_rep1 : OpR X (binaryOp .Mult) (rRep1 X.K) := by
  intro pins s σ H x y v u Q I rx ry h
  obtain ⟨l, k, xs, rfl, rfl, hT, hne, h1, h2, q⟩ := h
  cases rx
  obtain ⟨t, rfl⟩ := ry
  obtain ⟨its, r, ⟨⟨cls, dd, data, sl⟩, ho, hc, n, hd⟩, hs⟩ := I.tuple hT
  simp only at hc hd
  subst hc hd
  have c0 : (decide (k < -(2 ^ 63)) || decide (k ≥ 2 ^ 63)) = false := by
    rw [decide_eq_false (by omega), decide_eq_false (by omega)] <;> rfl
  have c1 : (its.toArray.isEmpty || k == 1) = true := by
    rcases hne with e | e
    · subst e
      cases r
      rfl
    · subst e
      rw [beq_self_eq_true, Bool.or_true]
  refine wpAny_binaryOp_repeat_ref (T := "tuple") (U := "int") (by decide) ⟨_, ho, rfl⟩ (fun s' => typeIs_int s' k t) noFill_tuple_mul F.fills_int_mul F.slot_int_rmul repeat_tuple F.slot_int_index.lookup
    (call_meets F.slot_int_rmul (typeIs_int s k t) F.entry_int_rmul (F.args_int_rmul_2 _ _) (int_rmul_tuple k t l its.toArray n dd sl)
      ⟨ho, rfl, ⟨_, ho, rfl⟩, call_meets F.slot_tuple_mul ⟨_, ho, rfl⟩ F.entry_tuple_mul (F.args_tuple_mul_2 _ _) (tuple_mul1 l its.toArray n dd sl k t c0 c1) ⟨ho, ?_⟩⟩)
  exact ⟨.ref l, H, I, rfl, q⟩
end
end Mi

namespace Mi
open PySem PySem.Spec PyProof.Rows L2
def rMulA (K : PySem.W.Frag) : R2 := fun x y H Q => rI CMul (fun i j => .int (i * j)) x y H Q ∨ rRep1 K x y H Q ∨ rRepT K x y H Q ∨ rRep x y H Q
theorem or_mul {X : Cx} : OpR X (binaryOp .Mult) (rMulA X.K) := op_mul.or (op_rep1.or (op_repT.or op_rep))
theorem and3 {a b c : Bool} (h : (a && b && c) = true) : a = true ∧ b = true ∧ c = true := by
  rw [Bool.and_eq_true, Bool.and_eq_true] at h
  exact ⟨h.1.1, h.1.2, h.2⟩
theorem sn_mul {K : PySem.W.Frag} : Snd2 K (rMulA K) opMul := by
  intro W x y dx dy d Q s rx ry h q
  unfold opMul at h
  split at h
  · split at h
    · rename_i hc
      cases h; cases rx; cases ry
      refine .inl ⟨_, _, rfl, rfl, ?_, q W _ (Ext.refl W) rfl s (.int _)⟩
      rw [Bool.or_eq_true] at hc
      rcases hc with hc | hc
      · exact .inl (small64_iff hc)
      · exact .inr (small64_iff hc)
    · cases h
  · obtain ⟨a, vs, rfl, ha, ha', ra⟩ := tup_of rx
    cases ry
    split at h
    · rename_i hk
      have hk := of_decide_eq_true hk
      cases h
      exact .inr (.inl ⟨a, _, vs, rfl, rfl, ha', .inr hk, by omega, by omega, q W _ (Ext.refl W) rfl s rx⟩)
    · split at h
      · rename_i hc
        rw [Bool.and_eq_true] at hc
        obtain ⟨hc, h4⟩ := hc
        obtain ⟨h1, h2, h3⟩ := and3 hc
        cases h
        refine .inr (.inr (.inl ⟨a, _, vs, rfl, rfl, ha', fun e => ?_, of_decide_eq_true h2, of_decide_eq_true h3, by rw [ra.length]; exact Nat.le_of_ble_eq_true h4, fun p hp => ?_⟩))
        · rw [ra.nil_iff.mp e] at h1
          exact absurd h1 (by decide)
        · exact q (W.lay p _) _ (Ext.lay hp) rfl (s.lay hp) (lay_tup s hp (ra.rep _))
      · cases h
  · split at h
    · rename_i xs hx
      split at h
      · rename_i hc
        obtain ⟨h1, h2, h3⟩ := and3 hc
        have h1 := of_decide_eq_true h1
        have h2 := of_decide_eq_true h2
        have h3 := Nat.le_of_ble_eq_true h3
        cases h
        obtain ⟨a, vs, rfl, ha, ra⟩ := lst_of s rx hx
        cases ry
        refine .inr (.inr (.inr ⟨a, _, vs, rfl, rfl, ha, by omega, by omega, ?_, fun p hp => ?_⟩))
        · rw [ra.length, sizeLine_eq]
          exact Nat.le_trans (Nat.mul_le_mul h3 (show _ ≤ 1000 by omega)) (by decide)
        · exact q (W.lay p _) _ (Ext.lay hp) rfl (s.lay hp) (lay_lst s hp (ra.rep _))
      · cases h
    · cases h
  · cases h
/-- // -/
def opDiv : D → D → Sto → Option D
  | .int a, .int b, _ => if decide (b ≠ 0) && Nat.blt b.natAbs 1073741824 then some (.int (a.fdiv b)) else none
  | _, _, _ => none
theorem sn_div {K : PySem.W.Frag} : Snd2 K (rI CDivN fun i j => .int (i.fdiv j)) opDiv := by
  intro W x y dx dy d Q s rx ry h q
  unfold opDiv at h
  split at h
  · split at h
    · rename_i hc
      rw [Bool.and_eq_true] at hc
      cases h; cases rx; cases ry
      exact ⟨_, _, rfl, rfl, ⟨of_decide_eq_true hc.1, Nat.le_of_ble_eq_true hc.2⟩, q W _ (Ext.refl W) rfl s (.int _)⟩
    · cases h
  · cases h
def opMod : D → D → Sto → Option D
  | .int a, .int b, _ => if decide (b ≠ 0) then some (.int (a.fmod b)) else none
  | _, _, _ => none
theorem sn_mod {K : PySem.W.Frag} : Snd2 K (rI (fun _ j => j ≠ 0) fun i j => .int (i.fmod j)) opMod := by
  intro W x y dx dy d Q s rx ry h q
  unfold opMod at h
  split at h
  · split at h
    · rename_i hc
      cases h; cases rx; cases ry
      exact ⟨_, _, rfl, rfl, of_decide_eq_true hc, q W _ (Ext.refl W) rfl s (.int _)⟩
    · cases h
  · cases h
def opPow : D → D → Sto → Option D
  | .int a, .int b, _ => if decide (0 ≤ b) && decide (b ≤ 1000) && Nat.blt a.natAbs 1000000 then some (.int (a ^ b.toNat)) else none
  | _, _, _ => none
theorem sn_pow {K : PySem.W.Frag} : Snd2 K (rI CPow fun i j => .int (i ^ j.toNat)) opPow := by
  intro W x y dx dy d Q s rx ry h q
  unfold opPow at h
  split at h
  · split at h
    · rename_i hc
      obtain ⟨h1, h2, h3⟩ := and3 hc
      have h1 := of_decide_eq_true h1
      have h2 := of_decide_eq_true h2
      have h3 := Nat.le_of_ble_eq_true h3
      cases h; cases rx; cases ry
      exact ⟨_, _, rfl, rfl, ⟨h1, by omega, by omega⟩, q W _ (Ext.refl W) rfl s (.int _)⟩
    · cases h
  · cases h
def opNeg : D → Sto → Option D
  | .int a, _ => some (.int (-a))
  | _, _ => none
theorem sn_neg {K : PySem.W.Frag} : Snd1 K (rU fun i => .int (-i)) opNeg := by
  intro W x dx d Q s rx h q
  unfold opNeg at h
  split at h
  · cases h; cases rx
    exact ⟨_, rfl, q W _ (Ext.refl W) rfl s (.int _)⟩
  · cases h
/-! ### comparisons of ints -/
def opLt : D → D → Sto → Option D
  | .int a, .int b, _ => some (.bl (decide (a < b)))
  | _, _, _ => none
def opLe : D → D → Sto → Option D
  | .int a, .int b, _ => some (.bl (decide (a ≤ b)))
  | _, _, _ => none
def opGt : D → D → Sto → Option D
  | .int a, .int b, _ => some (.bl (decide (b < a)))
  | _, _, _ => none
def opGe : D → D → Sto → Option D
  | .int a, .int b, _ => some (.bl (decide (b ≤ a)))
  | _, _, _ => none
theorem sn_lt {K : PySem.W.Frag} : Snd2 K (rI0 fun i j => .bl (decide (i < j))) opLt := by
  intro W x y dx dy d Q s rx ry h q
  unfold opLt at h
  split at h
  · cases h; cases rx; cases ry
    exact ⟨_, _, rfl, rfl, q W _ (Ext.refl W) rfl s (.bl _)⟩
  · cases h
theorem sn_le {K : PySem.W.Frag} : Snd2 K (rI0 fun i j => .bl (decide (i ≤ j))) opLe := by
  intro W x y dx dy d Q s rx ry h q
  unfold opLe at h
  split at h
  · cases h; cases rx; cases ry
    exact ⟨_, _, rfl, rfl, q W _ (Ext.refl W) rfl s (.bl _)⟩
  · cases h
theorem sn_gt {K : PySem.W.Frag} : Snd2 K (rI0 fun i j => .bl (decide (j < i))) opGt := by
  intro W x y dx dy d Q s rx ry h q
  unfold opGt at h
  split at h
  · cases h; cases rx; cases ry
    exact ⟨_, _, rfl, rfl, q W _ (Ext.refl W) rfl s (.bl _)⟩
  · cases h
theorem sn_ge {K : PySem.W.Frag} : Snd2 K (rI0 fun i j => .bl (decide (j ≤ i))) opGe := by
  intro W x y dx dy d Q s rx ry h q
  unfold opGe at h
  split at h
  · cases h; cases rx; cases ry
    exact ⟨_, _, rfl, rfl, q W _ (Ext.refl W) rfl s (.bl _)⟩
  · cases h
/-- is None, is not None -/
def isNone : D → Bool
  | .non => true
  | _ => false
def opIsN (x y : D) (_ : Sto) : Option D := match y with
  | .non => some (.bl (isNone x))
  | _ => none
def opNotN (x y : D) (_ : Sto) : Option D := match y with
  | .non => some (.bl (!isNone x))
  | _ => none
theorem rep_none {K : PySem.W.Frag} {W : Wd} {v : V} {d : D} (r : Rep K W v d) : decide (v = .non) = isNone d := by
  cases r <;> first | rfl | (exact decide_eq_false (fun z => nomatch z))
theorem sn_isN {K : PySem.W.Frag} : Snd2 K (fun x y H Q => y = .non ∧ Q (.bl (decide (x = .non))) H) opIsN := by
  intro W x y dx dy d Q s rx ry h q
  unfold opIsN at h
  split at h
  · cases h; cases ry
    exact ⟨rfl, q W _ (Ext.refl W) rfl s (by rw [rep_none rx]; exact .bl _)⟩
  · cases h
theorem sn_notN {K : PySem.W.Frag} : Snd2 K (fun x y H Q => y = .non ∧ Q (.bl (!decide (x = .non))) H) opNotN := by
  intro W x y dx dy d Q s rx ry h q
  unfold opNotN at h
  split at h
  · cases h; cases ry
    exact ⟨rfl, q W _ (Ext.refl W) rfl s (by rw [rep_none rx]; exact .bl _)⟩
  · cases h

/-! ### data, == and in -/
def mapO {α β : Type} (f : α → Option β) : List α → Option (List β)
  | [] => some []
  | x :: xs => match f x with
    | none => none
    | some y => match mapO f xs with
      | none => none
      | some ys => some (y :: ys)
def toPy : Nat → D → Option PyData
  | _, .non => some .none
  | _, .bl b => some (.bool b)
  | _, .int i => some (.int i)
  | _, .str x => some (.str x)
  | n + 1, .tup xs => match mapO (toPy n) xs with
    | some ps => some (.tuple ps)
    | none => none
  | n + 1, .lst xs => match mapO (toPy n) xs with
    | some ps => some (.list ps)
    | none => none
  | _, _ => none
def dep : Nat := 40
/-- a list of the store is read through -/
def toPyS (S : Sto) (d : D) : Option PyData := match d with
  | .ref i => match S.get i with
    | some (.ml xs) => (match mapO (toPy dep) xs with
      | some ps => some (.list ps)
      | none => none)
    | _ => none
  | .scr xs => match mapO (toPy dep) xs with
    | some ps => some (.list ps)
    | none => none
  | d => toPy dep d
section
variable {K : PySem.W.Frag} {W : Wd}
theorem depthAll_le {n : Nat} : ∀ {ps : List PyData}, (∀ p ∈ ps, p.depth ≤ n) → PyData.depthAll ps ≤ n
  | [], _ => Nat.zero_le _
  | p :: ps, h => by
    unfold PyData.depthAll
    exact Nat.max_le.mpr ⟨h p List.mem_cons_self, depthAll_le fun q hq => h q (List.mem_cons_of_mem _ hq)⟩
theorem py_all {n : Nat} {f : D → Option PyData} (hf : ∀ v d p, Rep K W v d → f d = some p → Dp K W.H v p ∧ p.depth ≤ n) :
    ∀ {vs : List V} {ds : List D} {ps : List PyData}, Reps K W vs ds → mapO f ds = some ps → DpAll K W.H vs ps ∧ PyData.depthAll ps ≤ n
  | _, _, _, .nil, h => by
    cases h
    exact ⟨.nil, Nat.zero_le _⟩
  | _, _, ps, .cons r t, h => by
    unfold mapO at h
    split at h
    · cases h
    · rename_i y hy
      split at h
      · cases h
      · rename_i ys hys
        cases h
        obtain ⟨a1, a2⟩ := hf _ _ _ r hy
        obtain ⟨b1, b2⟩ := py_all hf t hys
        refine ⟨.cons a1 b1, ?_⟩
        unfold PyData.depthAll
        exact Nat.max_le.mpr ⟨a2, b2⟩
theorem toPy_ok : ∀ (n : Nat) (v : V) (d : D) (p : PyData), Rep K W v d → toPy n d = some p → Dp K W.H v p ∧ p.depth ≤ n := by
  intro n
  induction n with
  | zero =>
    intro v d p r h
    cases r <;> first | (cases h; exact ⟨by constructor, Nat.zero_le _⟩) | cases h
  | succ n ih =>
    intro v d p r h
    cases r with
    | non => cases h; exact ⟨.non, Nat.zero_le _⟩
    | bl b => cases h; exact ⟨.bl b, Nat.zero_le _⟩
    | int i => cases h; exact ⟨.int i, Nat.zero_le _⟩
    | str x => cases h; exact ⟨.str x, Nat.zero_le _⟩
    | tup ht hr =>
      unfold toPy at h
      split at h
      · rename_i ps hps
        cases h
        obtain ⟨a1, a2⟩ := py_all ih hr hps
        refine ⟨.tup (SqT_of ht) a1, ?_⟩
        unfold PyData.depth
        omega
      · cases h
    | lst ht hr =>
      unfold toPy at h
      split at h
      · rename_i ps hps
        cases h
        obtain ⟨a1, a2⟩ := py_all ih hr hps
        refine ⟨.lst (SqL.of ht.1) a1, ?_⟩
        unfold PyData.depth
        omega
      · cases h
    | _ => cases h
theorem toPyS_ok (s : StOk K W) {v : V} {d : D} {p : PyData} (r : Rep K W v d) (h : toPyS W.S d = some p) : Dp K W.H v p ∧ p.depth ≤ dep + 1 := by
  have gen : toPy dep d = some p → Dp K W.H v p ∧ p.depth ≤ dep + 1 := fun q => by
    obtain ⟨a, b⟩ := toPy_ok _ _ _ _ r q
    exact ⟨a, by omega⟩
  cases r with
  | @ref i a hi ha =>
    have h2 : (match W.S.get i with | some (.ml xs) => (match mapO (toPy dep) xs with | some ps => some (.list ps) | none => none) | _ => none) = some p := h
    split at h2
    · rename_i xs hg
      split at h2
      · rename_i ps hps
        cases h2
        obtain ⟨_, o, ho, rc⟩ := s.cell _ _ hg
        cases rc with
        | ml rr =>
          obtain ⟨a1, a2⟩ := py_all (toPy_ok dep) rr hps
          refine ⟨.lst (SqL.of (by rw [ha]; exact ho)) a1, ?_⟩
          unfold PyData.depth
          omega
      · cases h2
    · cases h2
  | @scr a vs xs ht hr =>
    have h2 : (match mapO (toPy dep) xs with | some ps => some (PyData.list ps) | none => none) = some p := h
    split at h2
    · rename_i ps hps
      cases h2
      obtain ⟨a1, a2⟩ := py_all (toPy_ok dep) hr hps
      refine ⟨.lst (SqL_ofF ht) a1, ?_⟩
      unfold PyData.depth
      omega
    · cases h2
  | _ => exact gen h
end
mutual
theorem Dp.plain {K : PySem.W.Frag} {H : Hp} : ∀ (p : PyData) (v : V), Dp K H v p → p.plain = true
  | .none, _, _ => rfl
  | .bool _, _, _ => rfl
  | .int _, _, _ => rfl
  | .str _, _, _ => rfl
  | .list ps, _, h => by
    cases h with
    | lst _ r => exact Dp.plainAll ps _ r
  | .tuple ps, _, h => by
    cases h with
    | tup _ r => exact Dp.plainAll ps _ r
  | .dict _, _, h => by cases h
theorem Dp.plainAll {K : PySem.W.Frag} {H : Hp} : ∀ (ps : List PyData) (vs : List V), DpAll K H vs ps → PyData.plainAll ps = true
  | [], _, _ => rfl
  | p :: ps, _, h => by
    cases h with
    | cons a b =>
      simp only [PyData.plainAll, Dp.plain p _ a, Dp.plainAll ps _ b, Bool.and_self]
end
def rEqP (K : PySem.W.Frag) (neg : Bool) : R2 := fun x y H Q => ∃ d e, Dp K H x d ∧ Dp K H y e ∧ d.depth ≤ 60 ∧ Q (.bl (if neg then !PyData.eqv d e else PyData.eqv d e)) H
def rInP (K : PySem.W.Frag) (neg : Bool) : R2 := fun x y H Q => ∃ d ds, Dp K H x d ∧ (Dp K H y (.list ds) ∨ Dp K H y (.tuple ds)) ∧ d.depth ≤ 60 ∧ Q (.bl (if neg then !(ds.any fun z => PyData.eqv z d) else ds.any fun z => PyData.eqv z d)) H
section
variable {X : Cx}
theorem or_eqP (hu : X.A.units + 64 < cLine) : OpR X (compareOp .Eq) (rEqP X.K false) := by
  intro pins s σ H x y v u Q I rx ry h
  obtain ⟨d, e, hd, he, hz, q⟩ := h
  obtain ⟨as, r1⟩ := Dp.reads I d x v hd rx
  obtain ⟨bs, r2⟩ := Dp.reads I e y u he ry
  exact SeqAt.eq_plain r1 r2 (Dp.plain _ _ hd) (Dp.plain _ _ he) (by have := Nat.min_le_left d.depth e.depth; omega) ⟨.bl _, H, I, rfl, q⟩
theorem or_neP (hu : X.A.units + 64 < cLine) : OpR X (compareOp .NotEq) (rEqP X.K true) := by
  intro pins s σ H x y v u Q I rx ry h
  obtain ⟨d, e, hd, he, hz, q⟩ := h
  obtain ⟨as, r1⟩ := Dp.reads I d x v hd rx
  obtain ⟨bs, r2⟩ := Dp.reads I e y u he ry
  exact SeqAt.ne_plain r1 r2 (Dp.plain _ _ hd) (Dp.plain _ _ he) (by have := Nat.min_le_left d.depth e.depth; omega) ⟨.bl _, H, I, rfl, q⟩
theorem or_inP (hu : X.A.units + 64 < cLine) : OpR X (compareOp .In) (rInP X.K false) := by
  intro pins s σ H x y v u Q I rx ry h
  obtain ⟨d, ds, hd, he, hz, q⟩ := h
  obtain ⟨as, r1⟩ := Dp.reads I d x v hd rx
  rcases he with he | he
  · obtain ⟨bs, r2⟩ := Dp.reads I _ y u he ry
    exact SeqAt.in_list_data r2 r1 (Dp.plain _ _ he) (Dp.plain _ _ hd) (by have := Nat.min_le_right (PyData.depthAll ds) d.depth; omega) ⟨.bl _, H, I, rfl, q⟩
  · obtain ⟨bs, r2⟩ := Dp.reads I _ y u he ry
    exact SeqAt.in_tuple_data r2 r1 (Dp.plain _ _ he) (Dp.plain _ _ hd) (by have := Nat.min_le_right (PyData.depthAll ds) d.depth; omega) ⟨.bl _, H, I, rfl, q⟩
theorem or_notInP (hu : X.A.units + 64 < cLine) : OpR X (compareOp .NotIn) (rInP X.K true) := by
  intro pins s σ H x y v u Q I rx ry h
  obtain ⟨d, ds, hd, he, hz, q⟩ := h
  obtain ⟨as, r1⟩ := Dp.reads I d x v hd rx
  rcases he with he | he
  · obtain ⟨bs, r2⟩ := Dp.reads I _ y u he ry
    exact SeqAt.notIn_list_data r2 r1 (Dp.plain _ _ he) (Dp.plain _ _ hd) (by have := Nat.min_le_right (PyData.depthAll ds) d.depth; omega) ⟨.bl _, H, I, rfl, q⟩
  · obtain ⟨bs, r2⟩ := Dp.reads I _ y u he ry
    exact SeqAt.notIn_tuple_data r2 r1 (Dp.plain _ _ he) (Dp.plain _ _ hd) (by have := Nat.min_le_right (PyData.depthAll ds) d.depth; omega) ⟨.bl _, H, I, rfl, q⟩
end
def opEq (neg : Bool) (x y : D) (S : Sto) : Option D := match toPyS S x with
  | none => none
  | some p => match toPyS S y with
    | none => none
    | some q => some (.bl (if neg then !PyData.eqv p q else PyData.eqv p q))
def opIn (neg : Bool) (x y : D) (S : Sto) : Option D := match toPyS S x with
  | none => none
  | some p => match toPyS S y with
    | some (.list qs) => some (.bl (if neg then !(qs.any fun z => PyData.eqv z p) else qs.any fun z => PyData.eqv z p))
    | some (.tuple qs) => some (.bl (if neg then !(qs.any fun z => PyData.eqv z p) else qs.any fun z => PyData.eqv z p))
    | _ => none
theorem sn_eq {K : PySem.W.Frag} {neg : Bool} : Snd2 K (rEqP K neg) (opEq neg) := by
  intro W x y dx dy d Q s rx ry h q
  unfold opEq at h
  split at h
  · cases h
  · rename_i p hp
    split at h
    · cases h
    · rename_i p' hp'
      cases h
      obtain ⟨a1, a2⟩ := toPyS_ok s rx hp
      obtain ⟨b1, b2⟩ := toPyS_ok s ry hp'
      exact ⟨p, p', a1, b1, Nat.le_trans a2 (by decide), q W _ (Ext.refl W) rfl s (.bl _)⟩
theorem sn_in {K : PySem.W.Frag} {neg : Bool} : Snd2 K (rInP K neg) (opIn neg) := by
  intro W x y dx dy d Q s rx ry h q
  unfold opIn at h
  split at h
  · cases h
  · rename_i p hp
    obtain ⟨a1, a2⟩ := toPyS_ok s rx hp
    split at h
    · rename_i qs hq
      cases h
      obtain ⟨b1, b2⟩ := toPyS_ok s ry hq
      exact ⟨p, qs, a1, .inl b1, Nat.le_trans a2 (by decide), q W _ (Ext.refl W) rfl s (.bl _)⟩
    · rename_i qs hq
      cases h
      obtain ⟨b1, b2⟩ := toPyS_ok s ry hq
      exact ⟨p, qs, a1, .inr b1, Nat.le_trans a2 (by decide), q W _ (Ext.refl W) rfl s (.bl _)⟩
    · cases h
end Mi

namespace Mi
open PySem PySem.Spec PyProof.Rows L2

/-! ### x[i], x[i:j] -/
def opIx (x y : D) (S : Sto) : Option D := match y with
  | .int i => match seqOf S x with
    | some xs => match ixN xs.length i with
      | some j => xs[j]?
      | none => none
    | none => none
  | _ => none
theorem sn_ix {K : PySem.W.Frag} : Snd2 K (rIx K) opIx := by
  intro W x y dx dy d Q s rx ry h q
  unfold opIx at h
  split at h
  · rename_i i
    split at h
    · rename_i xs hx
      split at h
      · rename_i j hj
        obtain ⟨a, vs, rfl, ha, ra⟩ := seq_of s rx hx
        cases ry
        obtain ⟨v, hv, rv⟩ := ra.get h
        have hat : atI vs i = some v := by
          unfold atI
          rw [ra.length, hj]
          exact hv
        rcases ha with ha | ha
        · exact .inl ⟨a, vs, i, v, rfl, rfl, ha, hat, q W _ (Ext.refl W) rfl s rv⟩
        · exact .inr (.inl ⟨a, vs, i, v, rfl, rfl, ha, hat, q W _ (Ext.refl W) rfl s rv⟩)
      · cases h
    · cases h
  · cases h
section
variable {X : Cx} {w : WX} {a b : Expr} {pos : Pos} {f g : ME}
theorem m_ix (ha : PE X a (RE X w f)) (hb : PE X b (RE X w g)) (hs : PlainIx b := by exact fun _ _ => rfl) : PE X (.Subscript a b pos) (RE X w (mOp2 opIx f g)) :=
  PE.imp (pe_ix ix_seq ha hb hs) fun _ _ _ h => rd2 sn_ix h
end
/-- a part of a slice -/
abbrev MO := Env → Sto → Res (Option Int)
def rdO (K : PySem.W.Frag) (mg : Str → Option Value) (w : WX) (f : MO) : TO := fun σ H Q => ∃ W E, W.H = H ∧ StOk K W ∧ EnvOk K W σ E ∧ PostE K mg (fun _ (b : Option Int) d => b = d) (fun c a H' => w c a σ H') W (f E W.S) Q
def mNoPart : MO := fun _ S => .ok none S
def mPart (f : ME) : MO := fun E S => (f E S).bind fun x S1 => match x with
  | .int i => .ok (some i) S1
  | _ => .stuck
def cut (xs : List D) (lo hi : Option Int) : List D := (xs.drop (HT.sIx xs.length 0 lo)).take (HT.sIx xs.length xs.length hi - HT.sIx xs.length 0 lo)
def opSl (x : D) (lo hi : Option Int) (S : Sto) : Option D := match x with
  | .tup xs => some (.tup (cut xs lo hi))
  | x => match lstR S x with
    | some xs => some (.lst (cut xs lo hi))
    | none => none
def mSl (f : ME) (l h : MO) : ME := fun E S => (f E S).bind fun x S1 => (l E S1).bind fun lo S2 => (h E S2).bind fun hi S3 => liftO (opSl x lo hi S3) S3
theorem Reps.cut {K : PySem.W.Frag} {W : Wd} {vs : List V} {ds : List D} (r : Reps K W vs ds) (lo hi : Option Int) : Reps K W (cutV vs lo hi) (cut ds lo hi) := by
  unfold cutV Mi.cut
  rw [r.length]
  exact (r.drop _).take _
section
variable {X : Cx} {w : WX}
theorem m_nopart : PO X none (rdO X.K X.mg w mNoPart) := by
  refine ⟨fun pins s σ H Q I h => ?_⟩
  obtain ⟨W, E, eH, st, en, q⟩ := h
  subst eH
  exact po_none.run pins s σ W.H Q I (q W _ (Ext.refl W) rfl st rfl)
theorem m_part {e : Expr} {f : ME} (h : PE X e (RE X w f)) : PO X (some e) (rdO X.K X.mg w (mPart f)) := by
  refine ⟨fun pins s σ H Q I hq => ?_⟩
  obtain ⟨W, E, eH, st, en, q⟩ := hq
  refine (po_some h).run pins s σ H Q I ⟨W, E, eH, st, en, PostE.bind q fun W1 v d e1 s1 r1 q1 => ?_⟩
  cases d with
  | int i =>
    cases r1
    exact ⟨i, rfl, q1 W1 _ (Ext.refl W1) rfl s1 rfl⟩
  | _ => exact q1.elim
theorem m_sl {e : Expr} {f : ME} {l h : MO} {lo hi : Option Expr} {p2 pos : Pos} (he : PE X e (RE X w f)) (hl : PO X lo (rdO X.K X.mg w l)) (hu : PO X hi (rdO X.K X.mg w h)) :
    PE X (.Subscript e (.Slice lo hi none p2) pos) (RE X w (mSl f l h)) := by
  refine PE.imp (pe_slice (sl_tupA.or sl_list) he hl hu) fun σ H Q hq => ?_
  obtain ⟨W, E, eH, st, en, q⟩ := hq
  refine ⟨W, E, eH, st, en, PostE.bind q fun W1 v d e1 s1 r1 q1 => ⟨W1, E, rfl, s1, en.mono e1, PostE.bind q1 fun W2 lo' lo e2 s2 r2 q2 => ?_⟩⟩
  subst r2
  refine ⟨W2, E, rfl, s2, (en.mono e1).mono e2, PostE.bind q2 fun W3 hi' hi e3 s3 r3 q3 => ?_⟩
  subst r3
  obtain ⟨z, ho, q4⟩ := post_lift q3
  have r : Rep X.K W3 v d := (r1.mono e2).mono e3
  unfold opSl at ho
  split at ho
  · rename_i xs
    cases ho
    obtain ⟨a, vs, rfl, ha, ha', ra⟩ := tup_of r
    refine .inl ⟨a, vs, rfl, ha', fun hw => ?_, fun _ p hp => q4 (W3.lay p _) _ (Ext.lay hp) rfl (s3.lay hp) (lay_tup s3 hp (ra.cut _ _))⟩
    have ez : cut xs lo' hi' = xs := by
      unfold cut
      rw [← ra.length, hw.1, hw.2, List.drop_zero, Nat.sub_zero, ra.length, List.take_length]
    rw [ez] at q4
    exact q4 W3 _ (Ext.refl W3) rfl s3 r
  · rename_i hnt
    split at ho
    · rename_i xs hx
      cases ho
      obtain ⟨a, vs, rfl, hl, ra⟩ := lstR_of s3 r hx
      exact .inr ⟨a, vs, rfl, hl, fun p hp => q4 (W3.lay p _) _ (Ext.lay hp) rfl (s3.lay hp) (lay_lst s3 hp (ra.cut _ _))⟩
    · cases ho
end

/-! ### truth -/
def truD (S : Sto) : D → Option Bool
  | .non => some false
  | .bl b => some b
  | .int i => some (i != 0)
  | d => match seqOf S d with
    | some xs => some (!xs.isEmpty)
    | none => none
theorem tru_of {K : PySem.W.Frag} {W : Wd} {v : V} {d : D} {k : Bool} (s : StOk K W) (r : Rep K W v d) (h : truD W.S d = some k) : TruV K v W.H k := by
  have hem : ∀ {vs : List V} {ds : List D}, Reps K W vs ds → (!vs.isEmpty) = !ds.isEmpty := fun rr => by cases rr <;> rfl
  unfold truD at h
  split at h
  · cases h; cases r; rfl
  · cases h; cases r; rfl
  · cases h; cases r; rfl
  · split at h
    · rename_i xs hx
      cases h
      obtain ⟨a, vs, rfl, ha, rr⟩ := seq_of s r hx
      rw [← hem rr]
      rcases ha with ha | ha
      · exact .inl ⟨vs, ha, rfl⟩
      · exact .inr (.inl ⟨vs, ha, rfl⟩)
    · cases h
def liftB (o : Option Bool) (S : Sto) : Res Bool := match o with
  | some b => .ok b S
  | none => .stuck
def tTru (f : ME) : MT := fun E S => (f E S).bind fun x S1 => liftB (truD S1 x) S1
theorem post_liftB {K : PySem.W.Frag} {mg : Str → Option Value} {w : Value → Option Addr → Hp → Prop} {W : Wd} {o : Option Bool} {Q : Bool → Hp → Prop} (h : PostE K mg (fun _ (b : Bool) d => b = d) w W (liftB o W.S) Q) :
    ∃ d, o = some d ∧ (StOk K W → Q d W.H) := by
  cases o with
  | none => exact h.elim
  | some d => exact ⟨d, rfl, fun s => h W d (Ext.refl W) rfl s rfl⟩
section
variable {X : Cx} {w : WX} {a b e : Expr} {pos : Pos} {f g : ME}
/-- any expression as a test, by its value's truth -/
theorem mt_tru (he : PE X e (RE X w f)) (hp : ∀ whole, isTrue e X.env whole = (do let v ← whole; standAt e.pos; holding [v] (truthy v)) := by intro _; rfl) : PT X e (RT X w (tTru f)) :=
  PT.imp (pt_truth he hp) fun σ H Q ⟨W, E, eH, s, en, q⟩ => ⟨W, E, eH, s, en, PostE.bind q fun W1 v d e1 s1 r1 q1 => by
    obtain ⟨k, hk, q2⟩ := post_liftB q1
    exact ⟨k, tru_of s1 r1 hk, q2 s1⟩⟩
def blOf : D → Option Bool
  | .bl b => some b
  | _ => none
def tBl (f : ME) : MT := fun E S => (f E S).bind fun x S1 => liftB (blOf x) S1
/-- a comparison as a test -/
theorem mt_cmp {op : CmpOp} {r : R2} {o : D → D → Sto → Option D} (ho : OpR X (compareOp op) r) (hs : Snd2 X.K r o) (hm : behindInMarks op b = false) (ha : PE X a (RE X w f)) (hb : PE X b (RE X w g)) : PT X (.Compare a [op] [b] pos) (RT X w (tBl (mOp2 o f g))) :=
  PT.imp (pt_cmpR ho ha hb hm) fun σ H Q ⟨W, E, eH, s, en, q⟩ => by
    show tOp r _ _ σ H _
    refine rd2 hs ⟨W, E, eH, s, en, PostE.bind q fun W1 v d e1 s1 r1 q1 => ?_⟩
    obtain ⟨k, hk, q2⟩ := post_liftB q1
    unfold blOf at hk
    split at hk
    · cases hk
      cases r1
      exact ⟨_, rfl, q2 s1⟩
    · cases hk
/-- a < b < c -/
def mChain (o o' : D → D → Sto → Option D) (f g h : ME) : ME := fun E S => (f E S).bind fun x S1 => (g E S1).bind fun y S2 => (liftO (o x y S2) S2).bind fun z S3 => match z with
  | .bl true => (h E S3).bind fun u S4 => liftO (o' y u S4) S4
  | .bl false => .ok (.bl false) S3
  | _ => .stuck
theorem rd_chain {K : PySem.W.Frag} {mg : Str → Option Value} {r r' : R2} {o o' : D → D → Sto → Option D} {f g h : ME} (hs : Snd2 K r o) (hs' : Snd2 K r' o') {σ : L2.St} {H : Hp} {Q : VK} (q : rdE K mg w (mChain o o' f g h) σ H Q) :
    tChain r r' (rdE K mg w f) (rdE K mg w g) (rdE K mg w h) σ H Q := by
  obtain ⟨W, E, eH, s, en, q⟩ := q
  refine ⟨W, E, eH, s, en, PostE.bind q fun W1 v d e1 s1 r1 q1 => ⟨W1, E, rfl, s1, en.mono e1, PostE.bind q1 fun W2 u d2 e2 s2 r2 q2 => ?_⟩⟩
  cases ho : o d d2 W2.S with
  | none => rw [ho] at q2; exact q2.elim
  | some z =>
    rw [ho] at q2
    refine hs W2 v u d d2 z _ s2 (r1.mono e2) r2 ho fun W3 t e3 eS s3 r3 => ?_
    cases z with
    | bl k =>
      cases r3
      refine ⟨k, rfl, ?_⟩
      cases k with
      | true =>
        show rdE K mg w h σ W3.H _
        refine ⟨W3, E, rfl, s3, ((en.mono e1).mono e2).mono e3, ?_⟩
        have q2' : PostE K mg (Rep K) (fun c a H' => w c a σ H') W2 ((h E W2.S).bind fun u S4 => liftO (o' d2 u S4) S4) Q := q2
        rw [← eS] at q2'
        refine PostE.bind (PostE.ext e3 q2') fun W4 x4 d4 e4 s4 r4 q4 => ?_
        obtain ⟨z4, ho4, q5⟩ := post_lift q4
        exact hs' W4 u x4 d2 d4 z4 Q s4 ((r2.mono e3).mono e4) r4 ho4 q5
      | false =>
        have q2' : PostE K mg (Rep K) (fun c a H' => w c a σ H') W2 (.ok (.bl false) W2.S) Q := q2
        exact q2' W3 (.bl false) e3 eS s3 (.bl false)
    | _ => exact q2.elim
end
end Mi

namespace Mi
open PySem PySem.Spec PyProof.Rows L2

/-! ### chains, and, or, not, if .. else -/
section
variable {X : Cx} {w : WX} {a b c e : Expr} {pos : Pos} {f g h : ME} {t u : MT} {rest : List Expr}
theorem m_chain {op op' : CmpOp} {r r' : R2} {o o' : D → D → Sto → Option D} (ho : OpR X (compareOp op) r) (ho' : OpR X (compareOp op') r') (hs : Snd2 X.K r o) (hs' : Snd2 X.K r' o') (hm : lastMarks [op, op'] [b, c] = false)
    (ha : PE X a (RE X w f)) (hb : PE X b (RE X w g)) (hc : PE X c (RE X w h)) : PE X (.Compare a [op, op'] [b, c] pos) (RE X w (mChain o o' f g h)) :=
  PE.imp (pe_chain ho ho' ha hb hc hm) fun _ _ _ q => rd_chain hs hs' q
theorem mt_chain {op op' : CmpOp} {r r' : R2} {o o' : D → D → Sto → Option D} (ho : OpR X (compareOp op) r) (ho' : OpR X (compareOp op') r') (hs : Snd2 X.K r o) (hs' : Snd2 X.K r' o') (hm : lastMarks [op, op'] [b, c] = false)
    (ha : PE X a (RE X w f)) (hb : PE X b (RE X w g)) (hc : PE X c (RE X w h)) : PT X (.Compare a [op, op'] [b, c] pos) (RT X w (tBl (mChain o o' f g h))) :=
  PT.imp (pt_chain ho ho' ha hb hc hm) fun σ H Q ⟨W, E, eH, s, en, q⟩ => by
    show tChain r r' _ _ _ σ H _
    refine rd_chain hs hs' ⟨W, E, eH, s, en, PostE.bind q fun W1 v d e1 s1 r1 q1 => ?_⟩
    obtain ⟨k, hk, q2⟩ := post_liftB q1
    unfold blOf at hk
    split at hk
    · cases hk
      cases r1
      exact ⟨_, rfl, q2 s1⟩
    · cases hk
/-- tests -/
def tAnd2 (t u : MT) : MT := fun E S => (t E S).bind fun b S1 => match b with
  | true => u E S1
  | false => .ok false S1
def tOr2 (t u : MT) : MT := fun E S => (t E S).bind fun b S1 => match b with
  | true => .ok true S1
  | false => u E S1
def tNot1 (t : MT) : MT := fun E S => (t E S).bind fun b S1 => .ok (!b) S1
theorem rdT_of {K : PySem.W.Frag} {mg : Str → Option Value} {W : Wd} {E : Env} {σ : L2.St} {Q : Bool → Hp → Prop} {b : Bool} (s : StOk K W) (q : PostE K mg (fun _ (b : Bool) d => b = d) (fun c a H' => w c a σ H') W (.ok b W.S) Q) : Q b W.H :=
  q W b (Ext.refl W) rfl s rfl
theorem PW.imp {X : Cx} {e : Expr} {t t' : TT} (h : PW X e t) (k : ∀ σ H Q, t' σ H Q → t σ H Q) : PW X e t' := ⟨fun wh pins s σ H Q I q => h.run wh pins s σ H Q I (k σ H Q q)⟩
theorem rd_and {K : PySem.W.Frag} {mg : Str → Option Value} {σ : L2.St} {H : Hp} {Q : Bool → Hp → Prop} (h : rdT K mg w (tAnd2 t u) σ H Q) : tAnd (rdT K mg w t) (rdT K mg w u) σ H Q := by
  obtain ⟨W, E, eH, s, en, q⟩ := h
  refine ⟨W, E, eH, s, en, PostE.bind q fun W1 v d e1 s1 r1 q1 => ?_⟩
  subst r1
  cases v with
  | true => exact ⟨W1, E, rfl, s1, en.mono e1, q1⟩
  | false => exact rdT_of (E := E) s1 q1
theorem rd_or {K : PySem.W.Frag} {mg : Str → Option Value} {σ : L2.St} {H : Hp} {Q : Bool → Hp → Prop} (h : rdT K mg w (tOr2 t u) σ H Q) : tOr (rdT K mg w t) (rdT K mg w u) σ H Q := by
  obtain ⟨W, E, eH, s, en, q⟩ := h
  refine ⟨W, E, eH, s, en, PostE.bind q fun W1 v d e1 s1 r1 q1 => ?_⟩
  subst r1
  cases v with
  | true => exact rdT_of (E := E) s1 q1
  | false => exact ⟨W1, E, rfl, s1, en.mono e1, q1⟩
theorem mw_and1 (ha : PT X a (RT X w t)) : PW X (.BoolOp .And [a] pos) (RT X w t) := pw_and1 ha
theorem mw_or1 (ha : PT X a (RT X w t)) : PW X (.BoolOp .Or [a] pos) (RT X w t) := pw_or1 ha
theorem mw_and (ha : PT X a (RT X w t)) (hb : PW X (.BoolOp .And (b :: rest) pos) (RT X w u)) : PW X (.BoolOp .And (a :: b :: rest) pos) (RT X w (tAnd2 t u)) := PW.imp (pw_and ha hb) fun _ _ _ h => rd_and h
theorem mw_or (ha : PT X a (RT X w t)) (hb : PW X (.BoolOp .Or (b :: rest) pos) (RT X w u)) : PW X (.BoolOp .Or (a :: b :: rest) pos) (RT X w (tOr2 t u)) := PW.imp (pw_or ha hb) fun _ _ _ h => rd_or h
theorem mt_w (h : PW X e (RT X w t)) : PT X e (RT X w t) := h.pt
theorem mt_not (ha : PT X a (RT X w t)) : PT X (.UnaryOp .Not a pos) (RT X w (tNot1 t)) := PT.imp (pt_not ha) fun σ H Q ⟨W, E, eH, s, en, q⟩ =>
  ⟨W, E, eH, s, en, PostE.bind q fun W1 v d e1 s1 r1 q1 => by subst r1; exact rdT_of (E := E) s1 q1⟩
/-- values, by truth -/
def mOrT (f g : ME) : ME := fun E S => (f E S).bind fun x S1 => match truD S1 x with
  | some true => .ok x S1
  | some false => g E S1
  | none => .stuck
def mAndT (f g : ME) : ME := fun E S => (f E S).bind fun x S1 => match truD S1 x with
  | some true => g E S1
  | some false => .ok x S1
  | none => .stuck
theorem m_one {op} (h : PE X a (RE X w f)) : PE X (.BoolOp op [a] pos) (RE X w f) := pe_one h
theorem m_or (ha : PE X a (RE X w f)) (hb : PE X (.BoolOp .Or (b :: rest) pos) (RE X w g)) : PE X (.BoolOp .Or (a :: b :: rest) pos) (RE X w (mOrT f g)) := PE.imp (pe_orT ha hb) fun σ H Q ⟨W, E, eH, s, en, q⟩ =>
  ⟨W, E, eH, s, en, PostE.bind q fun W1 v d e1 s1 r1 q1 => by
    split at q1
    · rename_i ht
      exact ⟨true, tru_of s1 r1 ht, q1 W1 v (Ext.refl W1) rfl s1 r1⟩
    · rename_i ht
      exact ⟨false, tru_of s1 r1 ht, W1, E, rfl, s1, en.mono e1, q1⟩
    · exact q1.elim⟩
theorem m_and (ha : PE X a (RE X w f)) (hb : PE X (.BoolOp .And (b :: rest) pos) (RE X w g)) : PE X (.BoolOp .And (a :: b :: rest) pos) (RE X w (mAndT f g)) := PE.imp (pe_andT ha hb) fun σ H Q ⟨W, E, eH, s, en, q⟩ =>
  ⟨W, E, eH, s, en, PostE.bind q fun W1 v d e1 s1 r1 q1 => by
    split at q1
    · rename_i ht
      exact ⟨true, tru_of s1 r1 ht, W1, E, rfl, s1, en.mono e1, q1⟩
    · rename_i ht
      exact ⟨false, tru_of s1 r1 ht, q1 W1 v (Ext.refl W1) rfl s1 r1⟩
    · exact q1.elim⟩
def mNot (f : ME) : ME := fun E S => (f E S).bind fun x S1 => match truD S1 x with
  | some k => .ok (.bl (!k)) S1
  | none => .stuck
theorem m_not (ha : PE X a (RE X w f)) : PE X (.UnaryOp .Not a pos) (RE X w (mNot f)) := PE.imp (pe_notT ha) fun σ H Q ⟨W, E, eH, s, en, q⟩ =>
  ⟨W, E, eH, s, en, PostE.bind q fun W1 v d e1 s1 r1 q1 => by
    split at q1
    · rename_i k ht
      exact ⟨k, tru_of s1 r1 ht, q1 W1 _ (Ext.refl W1) rfl s1 (.bl _)⟩
    · exact q1.elim⟩
def mIf (t : MT) (f g : ME) : ME := fun E S => (t E S).bind fun b S1 => match b with
  | true => f E S1
  | false => g E S1
theorem m_if {c : Expr} (hc : PT X c (RT X w t)) (ha : PE X a (RE X w f)) (hb : PE X b (RE X w g)) : PE X (.IfExp c a b pos) (RE X w (mIf t f g)) := PE.imp (pe_ifExp hc ha hb) fun σ H Q ⟨W, E, eH, s, en, q⟩ =>
  ⟨W, E, eH, s, en, PostE.bind q fun W1 v d e1 s1 r1 q1 => by
    subst r1
    cases v with
    | true => exact ⟨W1, E, rfl, s1, en.mono e1, q1⟩
    | false => exact ⟨W1, E, rfl, s1, en.mono e1, q1⟩⟩
end

/-! ### arguments, displays -/
def aNil : MA := fun _ S => .ok [] S
def aCons (f : ME) (g : MA) : MA := fun E S => (f E S).bind fun x S1 => (g E S1).bind fun xs S2 => .ok (x :: xs) S2
def aStar (f : ME) (g : MA) : MA := fun E S => (f E S).bind fun x S1 => match seqOf S1 x with
  | some ys => (g E S1).bind fun xs S2 => .ok (ys ++ xs) S2
  | none => .stuck
def mkList (mm : Bool) (ds : List D) (S : Sto) : Res D := match mm with
  | true => .ok (.ref S.next) (S.new (.ml ds))
  | false => .ok (.lst ds) S
def mTup (g : MA) : ME := fun E S => (g E S).bind fun xs S1 => match big xs.length with
  | true => .ok (.tup xs) S1
  | false => .stuck
def mLst (mm : Bool) (g : MA) : ME := fun E S => (g E S).bind fun xs S1 => match big xs.length with
  | true => mkList mm xs S1
  | false => .stuck
theorem fresh_q {K : PySem.W.Frag} {mg : Str → Option Value} {w : Value → Option Addr → Hp → Prop} {W : Wd} {mm : Bool} {vs : List V} {ds : List D} {Q : VK} (s : StOk K W) (r : Reps K W vs ds) (q : PostE K mg (Rep K) w W (mkList mm ds W.S) Q) :
    ∀ p, W.H p = none → Q (.ref p) (upd W.H p (.lst vs)) := fun p hp => by
  cases mm with
  | false => exact q (W.lay p (.lst vs)) _ (Ext.lay hp) rfl (s.lay hp) (lay_lst s hp r)
  | true =>
    refine q (W.addc p (.lst vs) (.ml ds)) _ (Ext.addc hp) rfl (s.addc hp (.ml r)) (.ref (Nat.lt_succ_self _) ?_)
    show p = if W.S.next = W.S.next then p else W.ρ W.S.next
    rw [if_pos rfl]
section
variable {X : Cx} {w : WX} {e : Expr} {es : List Expr} {pos : Pos} {f : ME} {g : MA}
theorem ma_nil : PA X [] (RA X w aNil) := PA.imp pa_nil fun σ H Q ⟨W, E, eH, s, en, q⟩ => by
  subst eH
  exact q W [] (Ext.refl W) rfl s .nil
theorem ma_cons (ha : PE X e (RE X w f)) (hr : PA X es (RA X w g)) (hs : starEach (e :: es) X.env = (false, eval e X.env) :: starEach es X.env := by rfl) : PA X (e :: es) (RA X w (aCons f g)) :=
  PA.imp (pa_cons ha hr hs) fun σ H Q ⟨W, E, eH, s, en, q⟩ => ⟨W, E, eH, s, en, PostE.bind q fun W1 v d e1 s1 r1 q1 => ⟨W1, E, rfl, s1, en.mono e1, PostE.bind q1 fun W2 vs ds e2 s2 r2 q2 =>
    q2 W2 _ (Ext.refl W2) rfl s2 (.cons (r1.mono e2) r2)⟩⟩
theorem ma_star {p : Pos} (ha : PE X e (RE X w f)) (hr : PA X es (RA X w g)) (hs : starEach (.Starred e p :: es) X.env = (true, eval e X.env) :: starEach es X.env := by rfl) : PA X (.Starred e p :: es) (RA X w (aStar f g)) :=
  PA.imp (StX.pa_star ha hr hs) fun σ H Q ⟨W, E, eH, s, en, q⟩ => ⟨W, E, eH, s, en, PostE.bind q fun W1 v d e1 s1 r1 q1 => by
    split at q1
    · rename_i ys hy
      obtain ⟨a, vs, rfl, ha, rr⟩ := seq_of s1 r1 hy
      refine ⟨a, vs, rfl, ha.symm, W1, E, rfl, s1, en.mono e1, PostE.bind q1 fun W2 us ds e2 s2 r2 q2 => ?_⟩
      exact q2 W2 _ (Ext.refl W2) rfl s2 ((rr.mono e2).append r2)
    · exact q1.elim⟩
theorem m_tup {x1} (h : PA X es (RA X w g)) : PE X (.Tuple es x1 pos) (RE X w (mTup g)) := PE.imp (pe_tup h) fun σ H Q ⟨W, E, eH, s, en, q⟩ => ⟨W, E, eH, s, en, PostE.bind q fun W1 vs ds e1 s1 r1 q1 => by
  cases hb : big ds.length with
  | false => rw [hb] at q1; exact q1.elim
  | true =>
    rw [hb] at q1
    exact ⟨by rw [r1.length]; exact big_le hb, fun p hp => q1 (W1.lay p _) _ (Ext.lay hp) rfl (s1.lay hp) (lay_tup s1 hp r1)⟩⟩
theorem m_lst (mm : Bool) (h : PA X es (RA X w g)) : PE X (.List es pos) (RE X w (mLst mm g)) := PE.imp (pe_lst h) fun σ H Q ⟨W, E, eH, s, en, q⟩ => ⟨W, E, eH, s, en, PostE.bind q fun W1 vs ds e1 s1 r1 q1 => by
  cases hb : big ds.length with
  | false => rw [hb] at q1; exact q1.elim
  | true =>
    rw [hb] at q1
    exact ⟨by rw [r1.length]; exact big_le hb, fresh_q s1 r1 q1⟩⟩
/-- a list told in the store, from here on as it stands -/
def mFz (f : ME) : ME := fun E S => (f E S).bind fun x S1 => match x with
  | .ref i => (match S1.get i with
    | some (.ml xs) => .ok (.lst xs) (S1.del i)
    | _ => .stuck)
  | x => .ok x S1
theorem m_fz (h : PE X e (RE X w f)) : PE X e (RE X w (mFz f)) := PE.imp h fun σ H Q ⟨W, E, eH, s, en, q⟩ => ⟨W, E, eH, s, en, PostE.bind q fun W1 v d e1 s1 r1 q1 => by
  split at q1
  · split at q1
    · rename_i i xs hg
      cases r1 with
      | ref hi ha =>
        obtain ⟨_, o, ho, rc⟩ := s1.cell _ _ hg
        cases rc with
        | @ml vs _ rr =>
          refine q1 (W1.dl _) _ Ext.dl rfl s1.dl (.lst (vs := vs) ⟨?_, ?_⟩ (rr.mono Ext.dl))
          · rw [ha]; exact ho
          · rw [ha]; exact s1.dl_dead hg
    · exact q1.elim
  · exact q1 W1 v (Ext.refl W1) rfl s1 r1⟩
end

/-! ### calls of what is built in -/
def SndC (K : PySem.W.Frag) (r : List V → Hp → VK → Prop) (o : List D → Sto → Option D) : Prop := ∀ (W : Wd) (xs : List V) (ds : List D) (d : D) (Q : VK), StOk K W → Reps K W xs ds → o ds W.S = some d →
  (∀ W' v, Ext W W' → W'.S = W.S → StOk K W' → Rep K W' v d → Q v W'.H) → r xs W.H Q
def mCB (o : List D → Sto → Option D) (g : MA) : ME := fun E S => (g E S).bind fun xs S1 => liftO (o xs S1) S1
theorem rdC {K : PySem.W.Frag} {mg : Str → Option Value} {w : WX} {r : List V → Hp → VK → Prop} {o : List D → Sto → Option D} {g : MA} (hs : SndC K r o) {σ : L2.St} {H : Hp} {Q : VK} (h : rdE K mg w (mCB o g) σ H Q) : tCB r (rdA K mg w g) σ H Q := by
  obtain ⟨W, E, eH, s, en, q⟩ := h
  refine ⟨W, E, eH, s, en, PostE.bind q fun W1 v d e1 s1 r1 q1 => ?_⟩
  obtain ⟨z, ho, q3⟩ := post_lift q1
  exact hs W1 v d z Q s1 r1 ho q3
section
variable {X : Cx} {w : WX} {e : Expr} {es : List Expr} {p pos : Pos} {g : MA} {r : List V → Hp → VK → Prop} {o : List D → Sto → Option D} {x : Str}
theorem m_callB {id : String} (hc : CallR X (.builtin id) r) (hs : SndC X.K r o) (hg : Gl X x) (hm : X.mg x = none) (hv : bootBuiltins x = some (.builtin id)) (ha : PA X (e :: es) (RA X w g)) (hn : x ≠ "__name__" := by decide) (hdb : (x == ("__debug__" : Str)) = false := by decide)
    (he : starEach (e :: es) X.env = (false, eval e X.env) :: starEach es X.env := by rfl) (hpl : (backTo pos (starEach es X.env)).any (·.1) = false := by rfl) : PE X (.Call (.Name x p) (e :: es) [] pos) (RE X w (mCB o g)) :=
  PE.imp (pe_callB hc hg hm hv ha hn hdb he hpl) fun _ _ _ h => rdC hs h
theorem m_callTy {T : String} (hc : CallR X (.type T) r) (hs : SndC X.K r o) (hg : Gl X x) (hm : X.mg x = none) (hv : bootBuiltins x = some (.type T)) (ha : PA X (e :: es) (RA X w g)) (hn : x ≠ "__name__" := by decide) (hdb : (x == ("__debug__" : Str)) = false := by decide)
    (he : starEach (e :: es) X.env = (false, eval e X.env) :: starEach es X.env := by rfl) (hpl : (backTo pos (starEach es X.env)).any (·.1) = false := by rfl) : PE X (.Call (.Name x p) (e :: es) [] pos) (RE X w (mCB o g)) :=
  PE.imp (pe_callTy hc hg hm hv ha hn hdb he hpl) fun _ _ _ h => rdC hs h
end
/-- len -/
def oLen (xs : List D) (S : Sto) : Option D := match xs with
  | [x] => match seqOf S x with
    | some ys => some (.int ys.length)
    | none => none
  | _ => none
theorem reps1 {K : PySem.W.Frag} {W : Wd} {vs : List V} {d : D} (r : Reps K W vs [d]) : ∃ v, vs = [v] ∧ Rep K W v d := by
  cases r with
  | cons a b => cases b; exact ⟨_, rfl, a⟩
theorem reps2 {K : PySem.W.Frag} {W : Wd} {vs : List V} {d e : D} (r : Reps K W vs [d, e]) : ∃ v u, vs = [v, u] ∧ Rep K W v d ∧ Rep K W u e := by
  cases r with
  | cons a b =>
    cases b with
    | cons b c => cases c; exact ⟨_, _, rfl, a, b⟩
theorem sc_len {K : PySem.W.Frag} : SndC K (fun xs H Q => ∃ p ys, xs = [.ref p] ∧ (SqL K H p ys ∨ SqT K H p ys) ∧ Q (.int ys.length) H) oLen := by
  intro W xs ds d Q s r h q
  unfold oLen at h
  split at h
  · split at h
    · rename_i ys hy
      cases h
      obtain ⟨v, rfl, r1⟩ := reps1 r
      obtain ⟨a, vs, rfl, ha, rr⟩ := seq_of s r1 hy
      refine ⟨a, vs, rfl, ha, ?_⟩
      rw [rr.length]
      exact q W _ (Ext.refl W) rfl s (.int _)
    · cases h
  · cases h
def oAbs (xs : List D) (_ : Sto) : Option D := match xs with
  | [.int i] => some (.int (if i < 0 then -i else i))
  | _ => none
theorem sc_abs {K : PySem.W.Frag} : SndC K (fun xs H Q => ∃ i, xs = [.int i] ∧ Q (.int (if i < 0 then -i else i)) H) oAbs := by
  intro W xs ds d Q s r h q
  unfold oAbs at h
  split at h
  · cases h
    obtain ⟨v, rfl, r1⟩ := reps1 r
    cases r1
    exact ⟨_, rfl, q W _ (Ext.refl W) rfl s (.int _)⟩
  · cases h
def oInt (xs : List D) (_ : Sto) : Option D := match xs with
  | [.int i] => some (.int i)
  | [.bl k] => some (.int (if k then 1 else 0))
  | _ => none
theorem sc_int {K : PySem.W.Frag} : SndC K (fun xs H Q => (∃ i, xs = [.int i] ∧ Q (.int i) H) ∨ ∃ k, xs = [.bl k] ∧ Q (.int (if k then 1 else 0)) H) oInt := by
  intro W xs ds d Q s r h q
  unfold oInt at h
  split at h
  · cases h
    obtain ⟨v, rfl, r1⟩ := reps1 r
    cases r1
    exact .inl ⟨_, rfl, q W _ (Ext.refl W) rfl s (.int _)⟩
  · cases h
    obtain ⟨v, rfl, r1⟩ := reps1 r
    cases r1
    exact .inr ⟨_, rfl, q W _ (Ext.refl W) rfl s (.int _)⟩
  · cases h
def oMax2 (xs : List D) (_ : Sto) : Option D := match xs with
  | [.int i, .int j] => some (.int (if j > i then j else i))
  | _ => none
theorem sc_max2 {K : PySem.W.Frag} : SndC K (fun xs H Q => ∃ i j, xs = [.int i, .int j] ∧ Q (.int (if j > i then j else i)) H) oMax2 := by
  intro W xs ds d Q s r h q
  unfold oMax2 at h
  split at h
  · cases h
    obtain ⟨v, u, rfl, r1, r2⟩ := reps2 r
    cases r1
    cases r2
    exact ⟨_, _, rfl, q W _ (Ext.refl W) rfl s (.int _)⟩
  · cases h
def oMin2 (xs : List D) (_ : Sto) : Option D := match xs with
  | [.int i, .int j] => some (.int (if j < i then j else i))
  | _ => none
theorem sc_min2 {K : PySem.W.Frag} : SndC K (fun xs H Q => ∃ i j, xs = [.int i, .int j] ∧ Q (.int (if j < i then j else i)) H) oMin2 := by
  intro W xs ds d Q s r h q
  unfold oMin2 at h
  split at h
  · cases h
    obtain ⟨v, u, rfl, r1, r2⟩ := reps2 r
    cases r1
    cases r2
    exact ⟨_, _, rfl, q W _ (Ext.refl W) rfl s (.int _)⟩
  · cases h
/-- tuple(x) -/
def oTuple (xs : List D) (S : Sto) : Option D := match xs with
  | [x] => match seqOf S x with
    | some ys => some (.tup ys)
    | none => none
  | _ => none
theorem sc_tuple {K : PySem.W.Frag} : SndC K (fun xs H Q => ∃ p ys, xs = [.ref p] ∧ ((SqL K H p ys ∧ ∀ l, H l = none → Q (.ref l) (upd H l (.tup ys))) ∨ (SqT K H p ys ∧ Q (.ref p) H))) oTuple := by
  intro W xs ds d Q s r h q
  unfold oTuple at h
  split at h
  · split at h
    · rename_i ys hy
      cases h
      obtain ⟨v, rfl, r1⟩ := reps1 r
      unfold seqOf at hy
      split at hy
      · cases hy
        obtain ⟨a, vs, rfl, _, ha, rr⟩ := tup_of r1
        exact ⟨a, vs, rfl, .inr ⟨ha, q W _ (Ext.refl W) rfl s r1⟩⟩
      · obtain ⟨a, vs, rfl, ha, rr⟩ := lstR_of s r1 hy
        exact ⟨a, vs, rfl, .inl ⟨ha, fun p hp => q (W.lay p _) _ (Ext.lay hp) rfl (s.lay hp) (lay_tup s hp rr)⟩⟩
    · cases h
  · cases h
/-- sum, all, any of what is told -/
def intsOf : List D → Option (List Int)
  | [] => some []
  | .int i :: r => match intsOf r with
    | some is => some (i :: is)
    | none => none
  | _ => none
def blsOf : List D → Option (List Bool)
  | [] => some []
  | .bl i :: r => match blsOf r with
    | some is => some (i :: is)
    | none => none
  | _ => none
theorem ints_of {K : PySem.W.Frag} {W : Wd} : ∀ {vs : List V} {ds : List D} {is : List Int}, Reps K W vs ds → intsOf ds = some is → vs = is.map V.int
  | _, _, _, .nil, h => by cases h; rfl
  | _, _, is, .cons a t, h => by
    unfold intsOf at h
    split at h
    · rename_i e; cases e
    · rename_i i r e
      cases e
      split at h
      · rename_i js hj
        cases h
        cases a
        rw [ints_of t hj]; rfl
      · cases h
    · cases h
theorem bls_of {K : PySem.W.Frag} {W : Wd} : ∀ {vs : List V} {ds : List D} {is : List Bool}, Reps K W vs ds → blsOf ds = some is → vs = is.map V.bl
  | _, _, _, .nil, h => by cases h; rfl
  | _, _, is, .cons a t, h => by
    unfold blsOf at h
    split at h
    · rename_i e; cases e
    · rename_i i r e
      cases e
      split at h
      · rename_i js hj
        cases h
        cases a
        rw [bls_of t hj]; rfl
      · cases h
    · cases h
def oSum (xs : List D) (S : Sto) : Option D := match xs with
  | [x] => match lstR S x with
    | some ys => match intsOf ys with
      | some is => some (.int is.sum)
      | none => none
    | none => none
  | _ => none
theorem sc_sum {K : PySem.W.Frag} : SndC K (rSum K) oSum := by
  intro W xs ds d Q s r h q
  unfold oSum at h
  split at h
  · split at h
    · rename_i ys hy
      split at h
      · rename_i is hi
        cases h
        obtain ⟨v, rfl, r1⟩ := reps1 r
        obtain ⟨a, vs, rfl, ha, rr⟩ := lstR_of s r1 hy
        have e := ints_of rr hi
        subst e
        exact ⟨a, is, rfl, ha, q W _ (Ext.refl W) rfl s (.int _)⟩
      · cases h
    · cases h
  · cases h
def oAll (xs : List D) (S : Sto) : Option D := match xs with
  | [x] => match lstR S x with
    | some ys => match blsOf ys with
      | some is => some (.bl (is.all id))
      | none => none
    | none => none
  | _ => none
def oAny (xs : List D) (S : Sto) : Option D := match xs with
  | [x] => match lstR S x with
    | some ys => match blsOf ys with
      | some is => some (.bl (is.any id))
      | none => none
    | none => none
  | _ => none
theorem sc_all {K : PySem.W.Frag} : SndC K (rAll K) oAll := by
  intro W xs ds d Q s r h q
  unfold oAll at h
  split at h
  · split at h
    · rename_i ys hy
      split at h
      · rename_i is hi
        cases h
        obtain ⟨v, rfl, r1⟩ := reps1 r
        obtain ⟨a, vs, rfl, ha, rr⟩ := lstR_of s r1 hy
        have e := bls_of rr hi
        subst e
        exact ⟨a, is, rfl, ha, q W _ (Ext.refl W) rfl s (.bl _)⟩
      · cases h
    · cases h
  · cases h
theorem sc_any {K : PySem.W.Frag} : SndC K (rAny K) oAny := by
  intro W xs ds d Q s r h q
  unfold oAny at h
  split at h
  · split at h
    · rename_i ys hy
      split at h
      · rename_i is hi
        cases h
        obtain ⟨v, rfl, r1⟩ := reps1 r
        obtain ⟨a, vs, rfl, ha, rr⟩ := lstR_of s r1 hy
        have e := bls_of rr hi
        subst e
        exact ⟨a, is, rfl, ha, q W _ (Ext.refl W) rfl s (.bl _)⟩
      · cases h
    · cases h
  · cases h
end Mi

/-! Mi: what is walked, targets, comprehensions. -/
namespace Mi
open PySem PySem.Spec PyProof.Rows L2

/-! ### targets -/
abbrev BG := D → Option (List (Nat × D))
def setE : Env → List (Nat × D) → Env
  | E, [] => E
  | E, (i, d) :: r => setE (E.set i (some d)) r
def setV : L2.St → List (Nat × V) → L2.St
  | σ, [] => σ
  | σ, (i, v) :: r => setV (σ.set i (some v)) r
inductive Bnd (K : PySem.W.Frag) (W : Wd) : List (Nat × V) → List (Nat × D) → Prop
  | nil : Bnd K W [] []
  | cons {i : Nat} {v : V} {d : D} {vs : List (Nat × V)} {ds : List (Nat × D)} : Rep K W v d → Bnd K W vs ds → Bnd K W ((i, v) :: vs) ((i, d) :: ds)
theorem Bnd.append {K : PySem.W.Frag} {W : Wd} : ∀ {vs ws : List (Nat × V)} {ds es : List (Nat × D)}, Bnd K W vs ds → Bnd K W ws es → Bnd K W (vs ++ ws) (ds ++ es)
  | _, _, _, _, .nil, s => s
  | _, _, _, _, .cons r t, s => .cons r (t.append s)
theorem Bnd.mono {K : PySem.W.Frag} {W W' : Wd} (e : Ext0 W W') : ∀ {vs : List (Nat × V)} {ds : List (Nat × D)}, Bnd K W vs ds → Bnd K W' vs ds
  | _, _, .nil => .nil
  | _, _, .cons r t => .cons (r.mono0 e) (t.mono e)
theorem Bnd.keys {K : PySem.W.Frag} {W : Wd} : ∀ {vs : List (Nat × V)} {ds : List (Nat × D)}, Bnd K W vs ds → vs.map (·.1) = ds.map (·.1)
  | _, _, .nil => rfl
  | _, _, .cons r t => by rw [List.map_cons, List.map_cons, t.keys]
theorem EnvOk.setAll {K : PySem.W.Frag} {W : Wd} : ∀ {vs : List (Nat × V)} {ds : List (Nat × D)} {σ : L2.St} {E : Env}, Bnd K W vs ds → EnvOk K W σ E → EnvOk K W (setV σ vs) (setE E ds)
  | _, _, _, _, .nil, en => en
  | _, _, σ, E, .cons (i := i) (v := v) (d := d) (vs := vs) (ds := ds) r t, en => EnvOk.setAll (vs := vs) (ds := ds) (σ := σ.set i (some v)) (E := E.set i (some d)) t (en.set r)
theorem setV_append : ∀ (l m : List (Nat × V)) (σ : L2.St), setV σ (l ++ m) = setV (setV σ l) m
  | [], _, _ => rfl
  | (i, v) :: l, m, σ => setV_append l m _
def rdG (K : PySem.W.Frag) (b : BG) : TG := fun v σ H Q => ∃ W d l, W.H = H ∧ StOk K W ∧ Rep K W v d ∧ b d = some l ∧ ∀ l', Bnd K W l' l → Q (setV σ l') H
abbrev BGs := List D → Option (List (Nat × D))
def rdGs (K : PySem.W.Frag) (b : BGs) : TGs := fun vs σ H Q => ∃ W ds l, W.H = H ∧ StOk K W ∧ Reps K W vs ds ∧ b ds = some l ∧ ∀ l', Bnd K W l' l → Q (setV σ l') H
def bNm (i : Nat) : BG := fun d => some [(i, d)]
def bNil : BGs := fun ds => match ds with
  | [] => some []
  | _ => none
def bCons (b : BG) (c : BGs) : BGs := fun ds => match ds with
  | d :: r => match b d with
    | some l => match c r with
      | some m => some (l ++ m)
      | none => none
    | none => none
  | [] => none
def bTup (n : Nat) (c : BGs) : BG := fun d => match d with
  | .tup ds => if Nat.beq ds.length n then c ds else none
  | _ => none
section
variable {X : Cx} {e : Expr} {es : List Expr} {pos : Pos}
theorem mg_nm {i : Nat} {x : Str} (hN : X.N.Nodup) (hi : X.N[i]? = some x) (hx : Loc X.env.scope x) (hf : X.fn x = true ∨ X.env.scope.names.lookup x = some .local := by first | exact .inl rfl | exact .inr rfl | assumption) : PG X (.Name x pos) (rdG X.K (bNm i)) :=
  PG.imp (pg_name hN hi hx hf) fun v σ H Q ⟨W, d, l, eH, s, r, hb, q⟩ => by
    cases hb
    exact q [(i, v)] (.cons r .nil)
theorem PGs.imp {X : Cx} {e : List Expr} {t t' : TGs} (h : PGs X e t) (k : ∀ v σ H Q, t' v σ H Q → t v σ H Q) : PGs X e t' := ⟨fun pins s σ H v u Q I r q => h.run pins s σ H v u Q I r (k v σ H Q q)⟩
theorem mgs_nil : PGs X [] (rdGs X.K bNil) := PGs.imp pgs_nil fun vs σ H Q ⟨W, ds, l, eH, s, r, hb, q⟩ => by
  unfold bNil at hb
  split at hb
  · cases hb
    cases r
    exact ⟨rfl, q [] .nil⟩
  · cases hb
theorem mgs_cons {b : BG} {c : BGs} (h1 : PG X e (rdG X.K b)) (h2 : PGs X es (rdGs X.K c)) (hs : (assignEach (e :: es) X.env).map (·.2) = assign e X.env :: (assignEach es X.env).map (·.2) := by rfl) : PGs X (e :: es) (rdGs X.K (bCons b c)) :=
  PGs.imp (pgs_cons h1 h2 hs) fun vs σ H Q ⟨W, ds, l, eH, s, r, hb, q⟩ => by
    unfold bCons at hb
    split at hb
    · rename_i d ds'
      split at hb
      · rename_i l1 h1
        split at hb
        · rename_i l2 h2
          cases hb
          cases r with
          | cons ra rb =>
            refine ⟨_, _, rfl, W, d, l1, eH, s, ra, h1, fun l1' b1 => ⟨W, ds', l2, eH, s, rb, h2, fun l2' b2 => ?_⟩⟩
            rw [← setV_append]
            exact q _ (b1.append b2)
        · cases hb
      · cases hb
    · cases hb
theorem mg_tup {k : Nat} {c : BGs} {n : Nat} (hc : X.calm = true) (h : PGs X es (rdGs X.K c)) (hn : (assignEach es X.env).length = n := by rfl) (hst : (assignEach es X.env).findIdx? (·.1) = none := by rfl) : PG X (.Tuple es k pos) (rdG X.K (bTup n c)) :=
  PG.imp (pg_tup hc h hn hst) fun v σ H Q ⟨W, d, l, eH, s, r, hb, q⟩ => by
    unfold bTup at hb
    split at hb
    · rename_i ds
      split at hb
      · rename_i hl
        obtain ⟨a, vs, rfl, _, ha, rr⟩ := tup_of r
        subst eH
        exact ⟨a, vs, rfl, ha, by rw [rr.length]; exact Nat.eq_of_beq_eq_true hl, W, ds, l, rfl, s, rr, hb, q⟩
      · cases hb
    · cases hb
end

/-! ### what is walked -/
structure IterOk (K : PySem.W.Frag) (W : Wd) (J : It) (ds : List D) : Prop where
  ex : ∃ (G : Hp → Prop) (Y : Nat → Hp → V → Hp → Prop), Walk J ds.length G Y ∧ (∀ W', Ext0 W W' → StOk K W' → G W'.H) ∧
    ∀ W' i x H', Ext0 W W' → StOk K W' → i < ds.length → Y i W'.H x H' → ∃ W'' d, ds[i]? = some d ∧ W''.H = H' ∧ Ext W' W'' ∧ W''.S = W'.S ∧ StOk K W'' ∧ Rep K W'' x d
def rdI (K : PySem.W.Frag) (mg : Str → Option Value) (w : WX) (f : MA) : TI := fun σ H R => ∃ W E, W.H = H ∧ StOk K W ∧ EnvOk K W σ E ∧ PostE K mg (IterOk K) (fun c a H' => w c a σ H') W (f E W.S) R
theorem PI.imp {X : Cx} {tg e : Expr} {t t' : TI} (h : PI X tg e t) (k : ∀ σ H R, t' σ H R → t σ H R) : PI X tg e t' := ⟨fun pins s σ H R I q => h.run pins s σ H R I (k σ H R q)⟩
/-- a list or a tuple -/
theorem pi_any {X : Cx} {tg l : Expr} {tl : TE} (hl : PE X l tl) : PI X tg l (fun σ H R => tl σ H fun x H1 => ∃ a, x = .ref a ∧ (((∃ xs, SqL X.K H1 a xs) ∧ R (Itl X.K a) H1) ∨ ((∃ xs, SqT X.K H1 a xs) ∧ R (Itt X.K a) H1))) := by
  refine ⟨fun pins s σ H R I h => ?_⟩
  refine thn (hl.run pins s σ H _ I h) fun v s1 ⟨x, H1, I1, r1, q1⟩ => ?_
  obtain ⟨a, e, q⟩ := q1
  subst e
  cases r1
  rcases q with ⟨⟨xs, hq⟩, q⟩ | ⟨⟨xs, hq⟩, q⟩
  · obtain ⟨its, rv, p, hz⟩ := I1.list hq
    refine wpAny_pyIter_list p.isList ?_
    refine ⟨s1.heap.objs.size, [s1.heap.objs.size], _, _, H1, rfl, I1.kept (t' := s1.toks) fun b o e => Heap.get?_push_of_some _ e, turn_list a _, ⟨_, Heap.get?_push_size _ rfl, rfl, rfl⟩, fun b hb => ?_, q⟩
    have e : b = s1.heap.objs.size := by simpa using hb
    subst e
    exact I1.fpOk (Nat.le_refl _) (I1.hok.fresh (Nat.le_refl _))
  · obtain ⟨its, rv, p, hz⟩ := I1.tuple hq
    refine wpAny_pyIter_tuple (show s1.heap.IsTuple a its.toArray from p) ?_
    refine ⟨s1.heap.objs.size, [s1.heap.objs.size], _, _, H1, rfl, I1.kept (t' := s1.toks) fun b o e => Heap.get?_push_of_some _ e, turn_tuple a _, ⟨_, Heap.get?_push_size _ rfl, rfl, rfl⟩, fun b hb => ?_, q⟩
    have e : b = s1.heap.objs.size := by simpa using hb
    subst e
    exact I1.fpOk (Nat.le_refl _) (I1.hok.fresh (Nat.le_refl _))
/-- what stays: no list of the store -/
def fixOf : D → Option (List D)
  | .tup xs => some xs
  | .lst xs => some xs
  | .scr xs => some xs
  | _ => none
def iSeq (f : ME) : MA := fun E S => (f E S).bind fun x S1 => match fixOf x with
  | some ys => .ok ys S1
  | none => .stuck
theorem fix_of {K : PySem.W.Frag} {W : Wd} {v : V} {d : D} {xs : List D} (r : Rep K W v d) (h : fixOf d = some xs) : ∃ a vs, v = .ref a ∧ Reps K W vs xs ∧ ((∀ W', Ext0 W W' → SqL K W'.H a vs) ∨ (∀ W', Ext0 W W' → SqT K W'.H a vs)) := by
  cases r with
  | tup ht hr => cases h; exact ⟨_, _, rfl, hr, .inr fun W' e => SqT_of (ht.mono e)⟩
  | lst ht hr => cases h; exact ⟨_, _, rfl, hr, .inl fun W' e => SqL.of (ht.mono e).1⟩
  | scr ht hr => cases h; exact ⟨_, _, rfl, hr, .inl fun W' e => SqL_ofF (ht.mono e)⟩
  | _ => cases h
theorem iter_at {K : PySem.W.Frag} {W : Wd} {J : It} {vs : List V} {ds : List D} {G : Hp → Prop} (w : Walk J vs.length G (YAt vs)) (r : Reps K W vs ds) (hG : ∀ W', Ext0 W W' → G W'.H) : IterOk K W J ds := by
  refine ⟨⟨G, YAt vs, by rw [← r.length]; exact w, fun W' e _ => hG W' e, fun W' i x H' e s hi y => ?_⟩⟩
  obtain ⟨rfl, hx⟩ := y
  obtain ⟨d, hd, rr⟩ := r.getV hx
  exact ⟨W', d, hd, rfl, Ext.refl _, rfl, s, rr.mono0 e⟩
section
variable {X : Cx} {w : WX} {tg e a b : Expr} {p pos tpos : Pos} {f g : ME}
theorem mi_seq (h : PE X e (RE X w f)) : PI X tg e (rdI X.K X.mg w (iSeq f)) := PI.imp (pi_any h) fun σ H R ⟨W, E, eH, s, en, q⟩ => ⟨W, E, eH, s, en, PostE.bind q fun W1 v d e1 s1 r1 q1 => by
  split at q1
  · rename_i ys hy
    obtain ⟨a, vs, rfl, rr, hh⟩ := fix_of r1 hy
    rcases hh with hh | hh
    · exact ⟨a, rfl, .inl ⟨⟨vs, hh W1 (Ext0.refl _)⟩, q1 W1 _ (Ext.refl _) rfl s1 (iter_at walk_list rr hh)⟩⟩
    · exact ⟨a, rfl, .inr ⟨⟨vs, hh W1 (Ext0.refl _)⟩, q1 W1 _ (Ext.refl _) rfl s1 (iter_at walk_tup rr hh)⟩⟩
  · exact q1.elim⟩
/-- range(n), range(a, b) -/
def small62 (i : Int) : Bool := decide (-(2 ^ 62) ≤ i) && decide (i < 2 ^ 62)
theorem small62_iff {i : Int} (h : small62 i = true) : -(2 ^ 62) ≤ i ∧ i < 2 ^ 62 := by
  unfold small62 at h
  rw [Bool.and_eq_true] at h
  exact ⟨of_decide_eq_true h.1, of_decide_eq_true h.2⟩
def rngFrom (lo : Int) : Nat → List D
  | 0 => []
  | n + 1 => .int lo :: rngFrom (lo + 1) n
theorem rngFrom_len (lo : Int) : ∀ n, (rngFrom lo n).length = n
  | 0 => rfl
  | n + 1 => congrArg Nat.succ (rngFrom_len (lo + 1) n)
theorem rngFrom_get : ∀ (n : Nat) (lo : Int) (i : Nat), i < n → (rngFrom lo n)[i]? = some (.int (lo + i))
  | 0, _, _, h => absurd h (Nat.not_lt_zero _)
  | n + 1, lo, 0, _ => by
    show some (D.int lo) = some (D.int (lo + ((0 : Nat) : Int)))
    rw [show lo + ((0 : Nat) : Int) = lo from by omega]
  | n + 1, lo, i + 1, h => by
    show (rngFrom (lo + 1) n)[i]? = _
    rw [rngFrom_get n (lo + 1) i (by omega)]
    rw [show lo + 1 + (i : Int) = lo + ((i + 1 : Nat) : Int) from by omega]
def rng (lo hi : Int) : List D := rngFrom lo (hi - lo).toNat
def iRng1 (g : ME) : MA := fun E S => (g E S).bind fun x S1 => match x with
  | .int n => (match small62 n with
    | true => .ok (rng 0 n) S1
    | false => .stuck)
  | _ => .stuck
def iRng2 (f g : ME) : MA := fun E S => (f E S).bind fun x S1 => (g E S1).bind fun y S2 => match x, y with
  | .int i, .int j => (match small62 i && small62 j with
    | true => .ok (rng i j) S2
    | false => .stuck)
  | _, _ => .stuck
theorem iter_rng {K : PySem.W.Frag} {W : Wd} {lo hi : Int} : IterOk K W (Itr lo (hi - lo).toNat) (rng lo hi) := by
  unfold rng
  refine ⟨⟨_, _, by rw [rngFrom_len]; exact walk_range, fun _ _ _ => trivial, fun W' i x H' e s hi y => ?_⟩⟩
  rw [rngFrom_len] at hi
  obtain ⟨rfl, rfl⟩ := y
  exact ⟨W', _, rngFrom_get _ _ _ hi, rfl, Ext.refl _, rfl, s, .int _⟩
theorem pa1 {ta : TE} (ha : PE X a ta) (hs : starEach [a] X.env = [(false, eval a X.env)]) : PA X [a] (tCons ta tNil) := pa_cons ha pa_nil hs
theorem mi_rng1 (hg : Gl X "range") (hm : X.mg "range" = none) (ha : PE X a (RE X w f)) (hs : starEach [a] X.env = [(false, eval a X.env)] := by rfl) : PI X tg (.Call (.Name "range" p) [a] [] pos) (rdI X.K X.mg w (iRng1 f)) :=
  PI.imp (pi_range1 hg hm (pa1 ha hs) hs) fun σ H R ⟨W, E, eH, s, en, q⟩ => ⟨W, E, eH, s, en, PostE.bind q fun W1 v d e1 s1 r1 q1 => by
    split at q1
    · rename_i n
      split at q1
      · rename_i hb
        cases r1
        obtain ⟨h1, h2⟩ := small62_iff hb
        refine ⟨n, rfl, h1, h2, ?_⟩
        have := q1 W1 (Itr 0 (n - 0).toNat) (Ext.refl _) rfl s1 iter_rng
        rwa [Int.sub_zero] at this
      · exact q1.elim
    · exact q1.elim⟩
theorem mi_rng2 (hg : Gl X "range") (hm : X.mg "range" = none) (ha : PE X a (RE X w f)) (hb : PE X b (RE X w g)) (hs : starEach [a, b] X.env = [(false, eval a X.env), (false, eval b X.env)] := by rfl) (hs2 : starEach [b] X.env = [(false, eval b X.env)] := by rfl) :
    PI X tg (.Call (.Name "range" p) [a, b] [] pos) (rdI X.K X.mg w (iRng2 f g)) :=
  PI.imp (pi_range2 hg hm (pa_cons ha (pa1 hb hs2) (by rw [hs, hs2])) hs hs2) fun σ H R ⟨W, E, eH, s, en, q⟩ => ⟨W, E, eH, s, en, PostE.bind q fun W1 v d e1 s1 r1 q1 =>
    ⟨W1, E, rfl, s1, en.mono e1, PostE.bind q1 fun W2 v2 d2 e2 s2 r2 q2 => by
    split at q2
    · rename_i i j
      split at q2
      · rename_i hb
        rw [Bool.and_eq_true] at hb
        cases r1
        cases r2
        obtain ⟨h1, h2⟩ := small62_iff hb.1
        obtain ⟨h3, h4⟩ := small62_iff hb.2
        exact ⟨i, j, rfl, ⟨h1, h2, h3, h4⟩, q2 W2 (Itr i (j - i).toNat) (Ext.refl _) rfl s2 iter_rng⟩
      · exact q2.elim
    · exact q2.elim⟩⟩
/-- enumerate(list), zip(..) -/
def enumFrom (k : Nat) : List D → List D
  | [] => []
  | d :: ds => .tup [.int k, d] :: enumFrom (k + 1) ds
theorem enumFrom_len : ∀ (ds : List D) (k : Nat), (enumFrom k ds).length = ds.length
  | [], _ => rfl
  | _ :: ds, k => congrArg Nat.succ (enumFrom_len ds (k + 1))
theorem enumFrom_get : ∀ (ds : List D) (k i : Nat) (d : D), ds[i]? = some d → (enumFrom k ds)[i]? = some (.tup [.int (k + i : Nat), d])
  | [], _, _, _, h => by simp at h
  | x :: ds, k, 0, d, h => by
    cases h
    rfl
  | x :: ds, k, i + 1, d, h => by
    have := enumFrom_get ds (k + 1) i d (by simpa using h)
    rw [show k + 1 + i = k + (i + 1) from by omega] at this
    exact this
def zip2 : List D → List D → List D
  | x :: xs, y :: ys => .tup [x, y] :: zip2 xs ys
  | _, _ => []
theorem zip2_len : ∀ (xs ys : List D), (zip2 xs ys).length = min xs.length ys.length
  | [], _ => by simp [zip2]
  | _ :: _, [] => by simp [zip2]
  | x :: xs, y :: ys => by
    show (zip2 xs ys).length + 1 = min (xs.length + 1) (ys.length + 1)
    rw [zip2_len xs ys]
    omega
theorem zip2_get : ∀ (xs ys : List D) (i : Nat) (x y : D), xs[i]? = some x → ys[i]? = some y → (zip2 xs ys)[i]? = some (.tup [x, y])
  | [], _, _, _, _, h, _ => by simp at h
  | _ :: _, [], _, _, _, _, h => by simp at h
  | a :: xs, b :: ys, 0, x, y, h, h' => by cases h; cases h'; rfl
  | a :: xs, b :: ys, i + 1, x, y, h, h' => zip2_get xs ys i x y (by simpa using h) (by simpa using h')
def fixL : D → Option (List D)
  | .lst xs => some xs
  | .scr xs => some xs
  | _ => none
theorem fixL_of {K : PySem.W.Frag} {W : Wd} {v : V} {d : D} {xs : List D} (r : Rep K W v d) (h : fixL d = some xs) : ∃ a vs, v = .ref a ∧ Reps K W vs xs ∧ (∀ W', Ext0 W W' → SqL K W'.H a vs) := by
  cases r with
  | lst ht hr => cases h; exact ⟨_, _, rfl, hr, fun W' e => SqL.of (ht.mono e).1⟩
  | scr ht hr => cases h; exact ⟨_, _, rfl, hr, fun W' e => SqL_ofF (ht.mono e)⟩
  | _ => cases h
def iEnum1 (f : ME) : MA := fun E S => (f E S).bind fun x S1 => match fixL x with
  | some xs => .ok (enumFrom 0 xs) S1
  | none => .stuck
def iZip2 (f g : ME) : MA := fun E S => (f E S).bind fun x S1 => (g E S1).bind fun y S2 => match x, y with
  | .tup xs, .tup ys => .ok (zip2 xs ys) S2
  | x, y => match fixL x, fixL y with
    | some xs, some ys => .ok (zip2 xs ys) S2
    | _, _ => .stuck
theorem pair_at {K : PySem.W.Frag} {W' : Wd} {T : Addr} {x y : V} {dx dy : D} (s : StOk K W') (hT : W'.H T = none) (rx : Rep K W' x dx) (ry : Rep K W' y dy) :
    ∃ W'', W''.H = upd W'.H T (.tup [x, y]) ∧ Ext W' W'' ∧ W''.S = W'.S ∧ StOk K W'' ∧ Rep K W'' (.ref T) (.tup [dx, dy]) :=
  ⟨W'.lay T (.tup [x, y]), rfl, Ext.lay hT, rfl, s.lay hT, lay_tup s hT (.cons rx (.cons ry .nil))⟩
theorem iter_enum {K : PySem.W.Frag} {W : Wd} {a : Addr} {vs : List V} {ds : List D} (r : Reps K W vs ds) (hh : ∀ W', Ext0 W W' → SqL K W'.H a vs) : IterOk K W (Ite K a) (enumFrom 0 ds) := by
  refine ⟨⟨_, _, by rw [enumFrom_len, ← r.length]; exact walk_enum, fun W' e _ => hh W' e, fun W' i x H' e s hi y => ?_⟩⟩
  obtain ⟨T, u, v, rfl, hT, rfl, e1, e2⟩ := y
  cases e1
  obtain ⟨d, hd, rr⟩ := r.getV e2
  obtain ⟨W'', a1, a2, a3, a4, a5⟩ := pair_at (x := .int (i : Nat)) (dx := .int (i : Nat)) s hT (.int _) (rr.mono0 e)
  refine ⟨W'', _, ?_, a1, a2, a3, a4, a5⟩
  have := enumFrom_get ds 0 i d hd
  rw [Nat.zero_add] at this
  exact this
theorem mi_enum {elts : List Expr} {kk : Nat} (hg : Gl X "enumerate") (hm : X.mg "enumerate" = none) (ha : PE X a (RE X w f)) (hs : starEach [a] X.env = [(false, eval a X.env)] := by rfl) :
    PI X (.Tuple elts kk tpos) (.Call (.Name "enumerate" p) [a] [] pos) (rdI X.K X.mg w (iEnum1 f)) :=
  PI.imp (pi_enum hg hm (pa1 ha hs) hs) fun σ H R ⟨W, E, eH, s, en, q⟩ => ⟨W, E, eH, s, en, PostE.bind q fun W1 v d e1 s1 r1 q1 => by
    split at q1
    · rename_i xs hx
      obtain ⟨a, vs, rfl, rr, hh⟩ := fixL_of r1 hx
      exact ⟨a, vs, rfl, hh W1 (Ext0.refl _), q1 W1 _ (Ext.refl _) rfl s1 (iter_enum rr hh)⟩
    · exact q1.elim⟩
theorem walk_zipT {K : PySem.W.Frag} {a b : Addr} {xs ys : List V} {n : Nat} (hn : n = min xs.length ys.length) : Walk (RZ.ItzT K a b) n (fun H => SqT K H a xs ∧ SqT K H b ys) (YPair (fun i => xs[i]?) (fun i => ys[i]?)) := by
  subst hn
  refine ⟨fun i _ hi q => ?_, fun _ q => ⟨xs, ys, q.1, q.2, by omega⟩, fun i H v H' _ q y => ?_⟩
  · have h1 : i < xs.length := by omega
    have h2 : i < ys.length := by omega
    exact ⟨xs, ys, xs[i], ys[i], q.1, q.2, by simp [h1], by simp [h2]⟩
  · obtain ⟨T, x, z, h1, h2, h3, h4, h5⟩ := y
    exact ⟨T, x, z, h1, h2, h3, h4 xs q.1, h5 ys q.2⟩
theorem iter_zip {K : PySem.W.Frag} {W : Wd} {J : It} {vs ws : List V} {ds es : List D} {G : Hp → Prop} (wk : Walk J (min vs.length ws.length) G (YPair (fun i => vs[i]?) (fun i => ws[i]?))) (r : Reps K W vs ds) (r' : Reps K W ws es) (hh : ∀ W', Ext0 W W' → G W'.H) : IterOk K W J (zip2 ds es) := by
  refine ⟨⟨_, _, by rw [zip2_len, ← r.length, ← r'.length]; exact wk, fun W' e _ => hh W' e, fun W' i x H' e s hi y => ?_⟩⟩
  obtain ⟨T, u, v, rfl, hT, rfl, e1, e2⟩ := y
  obtain ⟨d, hd, rr⟩ := r.getV e1
  obtain ⟨d', hd', rr'⟩ := r'.getV e2
  obtain ⟨W'', a1, a2, a3, a4, a5⟩ := pair_at s hT (rr.mono0 e) (rr'.mono0 e)
  exact ⟨W'', _, zip2_get _ _ _ _ _ hd hd', a1, a2, a3, a4, a5⟩
theorem mi_zip {elts : List Expr} {kk : Nat} (hg : Gl X "zip") (hm : X.mg "zip" = none) (ha : PE X a (RE X w f)) (hb : PE X b (RE X w g)) (hs : starEach [a, b] X.env = [(false, eval a X.env), (false, eval b X.env)] := by rfl) (hs2 : starEach [b] X.env = [(false, eval b X.env)] := by rfl) :
    PI X (.Tuple elts kk tpos) (.Call (.Name "zip" p) [a, b] [] pos) (rdI X.K X.mg w (iZip2 f g)) :=
  PI.imp (RZ.pi_zipA hg hm (pa_cons ha (pa1 hb hs2) (by rw [hs, hs2])) (by rw [hs, hs2]) (by rw [hs2]; rfl)) fun σ H R ⟨W, E, eH, s, en, q⟩ => ⟨W, E, eH, s, en, PostE.bind q fun W1 v d e1 s1 r1 q1 =>
    ⟨W1, E, rfl, s1, en.mono e1, PostE.bind q1 fun W2 v2 d2 e2 s2 r2 q2 => by
    have r1' := r1.mono e2
    split at q2
    · obtain ⟨a, vs, rfl, ht, ha, rr⟩ := tup_of r1'
      obtain ⟨b, ws, rfl, ht', hb, rr'⟩ := tup_of r2
      exact ⟨a, b, vs, ws, rfl, .inr ⟨ha, hb, q2 W2 _ (Ext.refl _) rfl s2 (iter_zip (walk_zipT rfl) rr rr' fun W' e => ⟨SqT_of (ht.mono e), SqT_of (ht'.mono e)⟩)⟩⟩
    · split at q2
      · rename_i xs ys hx hy
        obtain ⟨a, vs, rfl, rr, hh⟩ := fixL_of r1' hx
        obtain ⟨b, ws, rfl, rr', hh'⟩ := fixL_of r2 hy
        exact ⟨a, b, vs, ws, rfl, .inl ⟨hh W2 (Ext0.refl _), hh' W2 (Ext0.refl _), q2 W2 _ (Ext.refl _) rfl s2 (iter_zip (walk_zip rfl) rr rr' fun W' e => ⟨hh W' e, hh' W' e⟩)⟩⟩
      · exact q2.elim⟩⟩
end
end Mi

/-! Mi: list comprehensions. -/
namespace Mi
open PySem PySem.Spec PyProof.Rows L2

/-- nothing is raised within -/
def Res.bind0 {α β : Type} (r : Res α) (k : α → Sto → Res β) : Res β := match r with
  | .ok a S => k a S
  | _ => .stuck
theorem PostE.bind0 {α β γ δ : Type} {K : PySem.W.Frag} {mg : Str → Option Value} {W : Wd} {R : Wd → β → α → Prop} {R' : Wd → δ → γ → Prop} {w w' : Value → Option Addr → Hp → Prop} {r : Res α} {k : α → Sto → Res γ} {Q : δ → Hp → Prop} (h : PostE K mg R' w W (r.bind0 k) Q)
    {Q' : β → Hp → Prop} (g : ∀ W1 v d, Ext W W1 → StOk K W1 → R W1 v d → PostE K mg R' w W1 (k d W1.S) Q → Q' v W1.H) : PostE K mg R w' W r Q' := by
  cases r with
  | stuck => exact h
  | ok d S' =>
    intro W1 v e hS s q
    refine g W1 v d e s q ?_
    rw [hS]
    exact PostE.ext e (show PostE K mg R' w W (k d S') Q from h)
  | exc x S' => exact h.elim
def wipeE (E : Env) : List Nat → Env
  | [] => E
  | v :: vs => (wipeE E vs).set v none
theorem EnvOk.unset {K : PySem.W.Frag} {W : Wd} {σ : L2.St} {E : Env} (h : EnvOk K W σ E) (i : Nat) : EnvOk K W (σ.set i none) (E.set i none) := ⟨by simpa using h.len, fun j d e => by
  by_cases hj : i = j
  · subst hj
    have hl : i < E.length := by
      have := (List.getElem?_eq_some_iff.mp e).1
      simpa using this
    rw [List.getElem?_set_self hl] at e
    cases e
  · rw [List.getElem?_set_ne hj] at e
    obtain ⟨u, a, r'⟩ := h.at_ j d e
    exact ⟨u, by rw [List.getElem?_set_ne hj]; exact a, r'⟩⟩
theorem EnvOk.wiped {K : PySem.W.Frag} {W : Wd} {σ : L2.St} {E : Env} (h : EnvOk K W σ E) : ∀ vs : List Nat, EnvOk K W (wipe σ vs) (wipeE E vs)
  | [] => h
  | v :: vs => (h.wiped vs).unset v
theorem wipe_set {σ : L2.St} {i : Nat} {x : Option V} : ∀ {vs : List Nat}, i ∈ vs → wipe (σ.set i x) vs = wipe σ vs
  | v :: vs, h => by
    show (wipe (σ.set i x) vs).set v none = (wipe σ vs).set v none
    by_cases hi : i ∈ vs
    · rw [wipe_set hi]
    · rcases List.mem_cons.mp h with e | h
      · subst e
        have gen : ∀ ws : List Nat, i ∉ ws → wipe (σ.set i x) ws = (wipe σ ws).set i x := by
          intro ws
          induction ws with
          | nil => intro _; rfl
          | cons y ys ih =>
            intro hn
            show (wipe (σ.set i x) ys).set y none = ((wipe σ ys).set y none).set i x
            rw [ih fun z => hn (List.mem_cons_of_mem _ z), List.set_comm _ _ (fun e => hn (by rw [e]; exact List.mem_cons_self))]
        rw [gen vs hi, List.set_set]
      · exact absurd h hi
theorem wipe_wipe {σ : L2.St} : ∀ {ws vs : List Nat}, (∀ v ∈ ws, v ∈ vs) → wipe (wipe σ ws) vs = wipe σ vs
  | [], _, _ => rfl
  | w :: ws, vs, h => by
    show wipe ((wipe σ ws).set w none) vs = wipe σ vs
    rw [wipe_set (h w List.mem_cons_self), wipe_wipe fun v hv => h v (List.mem_cons_of_mem _ hv)]
theorem wipe_setV : ∀ {l : List (Nat × V)} {σ : L2.St} {vs : List Nat}, (∀ p ∈ l, p.1 ∈ vs) → wipe (setV σ l) vs = wipe σ vs
  | [], _, _, _ => rfl
  | (i, v) :: l, σ, vs, h => by
    show wipe (setV (σ.set i (some v)) l) vs = wipe σ vs
    rw [wipe_setV fun p hp => h p (List.mem_cons_of_mem _ hp), wipe_set (h (i, v) List.mem_cons_self)]
def lcLoop (b : BG) (t : MT) (f : ME) (E : Env) : List D → Sto → Res (List D)
  | [], S => .ok [] S
  | d :: ds, S => match b d with
    | none => .stuck
    | some l => (t (setE E l) S).bind0 fun k S1 => match k with
      | true => (f (setE E l) S1).bind0 fun y S2 => (lcLoop b t f E ds S2).bind0 fun ys S3 => .ok (y :: ys) S3
      | false => lcLoop b t f E ds S1
def mComp (mm : Bool) (it : MA) (b : BG) (t : MT) (f : ME) (vs : List Nat) : ME := fun E S => (it E S).bind fun ds S1 => match big ds.length with
  | true => (lcLoop b t f (wipeE E vs) ds S1).bind0 fun ys S2 => mkList mm ys S2
  | false => .stuck
def tTrue : MT := fun _ S => .ok true S
theorem mts_nil {X : Cx} {w : WX} : PTs X [] (RT X w tTrue) := ⟨fun pins s σ H Q I ⟨W, E, eH, st, en, q⟩ => by
  subst eH
  exact pts_nil.run pins s σ W.H Q I (q W true (Ext.refl W) rfl st rfl)⟩
theorem mts_one {X : Cx} {w : WX} {c : Expr} {t : MT} (h : PT X c (RT X w t)) : PTs X [c] (RT X w t) := pts_one h
/-- the list that grows is ours, and nobody's else -/
structure Mid (K : PySem.W.Frag) (W1 : Wd) (Dl : Addr) (vs : List V) (acc : List D) (W2 : Wd) : Prop where
  st : StOk K W2
  own : W2.P = fun a => W1.P a ∨ a = Dl
  ext : Ext0 W1 W2
  priv : ∀ a o, W1.P a → W1.H a = some o → W2.H a = some o
  at_ : W2.H Dl = some (.lst vs)
  rep : Reps K W2 vs acc
theorem Mid.step {K : PySem.W.Frag} {W1 W2 W3 : Wd} {Dl : Addr} {vs : List V} {acc : List D} (m : Mid K W1 Dl vs acc W2) (e : Ext W2 W3) (s : StOk K W3) : Mid K W1 Dl vs acc W3 where
  st := s
  own := e.own.trans m.own
  ext := m.ext.trans e.toExt0
  priv := fun a o p h => e.priv a o (by rw [m.own]; exact .inl p) (m.priv a o p h)
  at_ := e.priv _ _ (by rw [m.own]; exact .inr rfl) m.at_
  rep := m.rep.mono e
theorem Mid.app {K : PySem.W.Frag} {W1 W2 : Wd} {Dl : Addr} {vs : List V} {acc : List D} (hD : W1.H Dl = none) (m : Mid K W1 Dl vs acc W2) {y : V} {d : D} (r : Rep K W2 y d) :
    Mid K W1 Dl (vs ++ [y]) (acc ++ [d]) ⟨W2.ρ, W2.S, upd W2.H Dl (.lst (vs ++ [y])), W2.P⟩ := by
  have hP : W2.P Dl := by rw [m.own]; exact .inr rfl
  have e0 : Ext0 W2 ⟨W2.ρ, W2.S, upd W2.H Dl (.lst (vs ++ [y])), W2.P⟩ := by
    refine ⟨fun a o e n => ?_, fun a l => .inl l, fun _ _ => rfl, Nat.le_refl _⟩
    show upd W2.H Dl _ a = some o
    rw [upd_ne (fun z => n (.inl (by rw [z]; exact hP)))]; exact e
  refine ⟨⟨fun i c e => ?_, m.st.inj, m.st.apart, fun a h => ?_⟩, m.own, m.ext.trans e0, fun a o p h => ?_, upd_same, (m.rep.mono0 e0).append (.cons (r.mono0 e0) .nil)⟩
  · obtain ⟨h1, o, z, rc⟩ := m.st.cell i c e
    refine ⟨h1, o, ?_, rc.mono0 e0⟩
    show upd W2.H Dl _ (W2.ρ i) = some o
    rw [upd_ne (fun q => m.st.apart i c e (by rw [q]; exact hP))]; exact z
  · show ∃ o, upd W2.H Dl _ a = some o
    by_cases ha : a = Dl
    · exact ⟨_, by rw [ha]; exact upd_same⟩
    · obtain ⟨o, z⟩ := m.st.ownd a h
      exact ⟨o, by rw [upd_ne ha]; exact z⟩
  · show upd W2.H Dl _ a = some o
    rw [upd_ne (ne_of_none h hD)]
    exact m.priv a o p h
theorem Mid.start {K : PySem.W.Frag} {W1 : Wd} {Dl : Addr} (hD : W1.H Dl = none) (s : StOk K W1) : Mid K W1 Dl [] [] ⟨W1.ρ, W1.S, upd W1.H Dl (.lst []), fun a => W1.P a ∨ a = Dl⟩ := by
  have e0 : Ext0 W1 ⟨W1.ρ, W1.S, upd W1.H Dl (.lst []), fun a => W1.P a ∨ a = Dl⟩ := by
    refine ⟨fun a o e n => ?_, fun a l => ?_, fun _ _ => rfl, Nat.le_refl _⟩
    · show upd W1.H Dl _ a = some o
      rw [upd_ne (ne_of_none e hD)]; exact e
    · rcases l with (l | l) | l
      · exact .inl (.inl l)
      · exact .inr (by rw [show a = Dl from l]; exact hD)
      · exact .inl (.inr l)
  refine ⟨⟨fun i c e => ?_, s.inj, fun i c e z => ?_, fun a h => ?_⟩, rfl, e0, fun a o p h => ?_, upd_same, .nil⟩
  · obtain ⟨h1, o, z, rc⟩ := s.cell i c e
    exact ⟨h1, o, by show upd W1.H Dl _ (W1.ρ i) = some o; rw [upd_ne (ne_of_none z hD)]; exact z, rc.mono0 e0⟩
  · rcases z with z | z
    · exact s.apart i c e z
    · obtain ⟨_, o, h, _⟩ := s.cell i c e
      have z' : W1.ρ i = Dl := z
      rw [z', hD] at h; cases h
  · show ∃ o, upd W1.H Dl _ a = some o
    by_cases ha : a = Dl
    · exact ⟨_, by rw [ha]; exact upd_same⟩
    · rcases h with h | h
      · obtain ⟨o, z⟩ := s.ownd a h
        exact ⟨o, by rw [upd_ne ha]; exact z⟩
      · exact absurd h ha
  · show upd W1.H Dl _ a = some o
    rw [upd_ne (ne_of_none h hD)]; exact h
/-- at the end it is a list as it stands, or a cell of the store -/
theorem Mid.fin {K : PySem.W.Frag} {mg : Str → Option Value} {w : Value → Option Addr → Hp → Prop} {W1 W2 : Wd} {Dl : Addr} {vs : List V} {acc : List D} (hD : W1.H Dl = none) (s1 : StOk K W1) (m : Mid K W1 Dl vs acc W2) {mm : Bool} {Q : VK}
    (q : PostE K mg (Rep K) w W1 (mkList mm acc W2.S) Q) : Q (.ref Dl) W2.H := by
  have notP : ¬ W1.P Dl := fun p => by
    obtain ⟨o, z⟩ := s1.ownd _ p
    rw [hD] at z; cases z
  have notC : ∀ i c, W2.S.get i = some c → W2.ρ i ≠ Dl := fun i c e z => m.st.apart i c e (by rw [z, m.own]; exact .inr rfl)
  cases mm with
  | false =>
    have e0 : Ext0 W2 ⟨W2.ρ, W2.S, W2.H, W1.P⟩ := ⟨fun _ _ e _ => e, fun a l => by
      rcases l with l | l
      · exact .inl (.inl (by rw [m.own]; exact .inl l))
      · exact .inl (.inr l), fun _ _ => rfl, Nat.le_refl _⟩
    refine q ⟨W2.ρ, W2.S, W2.H, W1.P⟩ _ ⟨m.ext.trans e0, rfl, m.priv⟩ rfl ⟨fun i c e => ?_, m.st.inj, fun i c e z => m.st.apart i c e (by rw [m.own]; exact .inl z), fun a h => m.st.ownd a (by rw [m.own]; exact .inl h)⟩ (.lst ⟨m.at_, ?_⟩ (m.rep.mono0 e0))
    · obtain ⟨h1, o, z, rc⟩ := m.st.cell i c e
      exact ⟨h1, o, z, rc.mono0 e0⟩
    · rintro (l | ⟨i, c, e, z⟩)
      · exact notP l
      · exact notC i c e z
  | true =>
    have e0 : Ext0 W2 ⟨fun i => if i = W2.S.next then Dl else W2.ρ i, W2.S.new (.ml acc), W2.H, W1.P⟩ := by
      refine ⟨fun _ _ e _ => e, fun a l => ?_, fun i hi => if_neg (Nat.ne_of_lt hi), Nat.le_succ _⟩
      rcases l with l | ⟨i, c, e, z⟩
      · exact .inl (.inl (by rw [m.own]; exact .inl l))
      · have e' : (if W2.S.next = i then some (Cell.ml acc) else W2.S.get i) = some c := e
        have z' : (if i = W2.S.next then Dl else W2.ρ i) = a := z
        by_cases hi : i = W2.S.next
        · rw [if_pos hi] at z'
          exact .inl (.inl (by rw [m.own]; exact .inr z'.symm))
        · rw [if_neg hi] at z'
          rw [if_neg (Ne.symm hi)] at e'
          exact .inl (.inr ⟨i, c, e', z'⟩)
    refine q ⟨fun i => if i = W2.S.next then Dl else W2.ρ i, W2.S.new (.ml acc), W2.H, W1.P⟩ _ ⟨m.ext.trans e0, rfl, m.priv⟩ rfl ⟨fun i c e => ?_, fun i j c d e e' z => ?_, fun i c e z => ?_, fun a h => m.st.ownd a (by rw [m.own]; exact .inl h)⟩ (.ref (Nat.lt_succ_self _) (if_pos rfl).symm)
    · have e' : (if W2.S.next = i then some (Cell.ml acc) else W2.S.get i) = some c := e
      show i < W2.S.next + 1 ∧ ∃ u, W2.H (if i = W2.S.next then Dl else W2.ρ i) = some u ∧ _
      by_cases hi : W2.S.next = i
      · rw [if_pos hi] at e'
        cases e'
        exact ⟨by omega, _, by rw [if_pos hi.symm]; exact m.at_, .ml (m.rep.mono0 e0)⟩
      · rw [if_neg hi] at e'
        obtain ⟨h1, o, z, rc⟩ := m.st.cell i c e'
        exact ⟨by omega, o, by rw [if_neg (Ne.symm hi)]; exact z, rc.mono0 e0⟩
    · have e1 : (if W2.S.next = i then some (Cell.ml acc) else W2.S.get i) = some c := e
      have e2 : (if W2.S.next = j then some (Cell.ml acc) else W2.S.get j) = some d := e'
      have z' : (if i = W2.S.next then Dl else W2.ρ i) = (if j = W2.S.next then Dl else W2.ρ j) := z
      by_cases hi : W2.S.next = i
      · by_cases hj : W2.S.next = j
        · exact hi.symm.trans hj
        · rw [if_neg hj] at e2
          rw [if_pos hi.symm, if_neg (Ne.symm hj)] at z'
          exact absurd z'.symm (notC j d e2)
      · by_cases hj : W2.S.next = j
        · rw [if_neg hi] at e1
          rw [if_neg (Ne.symm hi), if_pos hj.symm] at z'
          exact absurd z' (notC i c e1)
        · rw [if_neg hi] at e1
          rw [if_neg hj] at e2
          rw [if_neg (Ne.symm hi), if_neg (Ne.symm hj)] at z'
          exact m.st.inj i j c d e1 e2 z'
    · have e1 : (if W2.S.next = i then some (Cell.ml acc) else W2.S.get i) = some c := e
      have z' : W1.P (if i = W2.S.next then Dl else W2.ρ i) := z
      by_cases hi : W2.S.next = i
      · rw [if_pos hi.symm] at z'; exact notP z'
      · rw [if_neg hi] at e1
        rw [if_neg (Ne.symm hi)] at z'
        exact m.st.apart i c e1 (by rw [m.own]; exact .inl z')
/-- what is made is set ahead of what comes -/
def pre (acc : List D) (r : Res (List D)) : Res (List D) := r.bind0 fun ys S => .ok (acc ++ ys) S
theorem rd_comp {K : PySem.W.Frag} {mg : Str → Option Value} {w : WX} {mm : Bool} {it : MA} {b : BG} {t : MT} {f : ME} {vs : List Nat} (hb : ∀ d l, b d = some l → ∀ p ∈ l, p.1 ∈ vs) {σ : L2.St} {H : Hp} {Q : VK}
    (h : rdE K mg w (mComp mm it b t f vs) σ H Q) : tLc (rdI K mg w it) (rdG K b) (rdT K mg w0 t) (rdE K mg w0 f) vs σ H Q := by
  obtain ⟨W, E, eH, s, en, q⟩ := h
  refine ⟨W, E, eH, s, en, PostE.bind q fun W1 J ds e1 s1 iok q1 => ?_⟩
  cases hbig : big ds.length with
  | false => rw [hbig] at q1; exact q1.elim
  | true =>
  rw [hbig] at q1
  have en1 : EnvOk K W1 (wipe σ vs) (wipeE E vs) := (en.mono e1).wiped vs
  obtain ⟨G, Y, wk, hG, hY⟩ := iok.ex
  intro Dl hD
  generalize hr : lcLoop b t f (wipeE E vs) ds W1.S = r at q1
  have q1 : PostE K mg (Rep K) (fun c a H' => w c a σ H') W1 (r.bind0 fun ys S2 => mkList mm ys S2) Q := q1
  refine lc_it wk (fun i H' => ∃ W2 vs2 acc, W2.H = H' ∧ Mid K W1 Dl vs2 acc W2 ∧ acc.length ≤ i ∧ r = pre acc (lcLoop b t f (wipeE E vs) (ds.drop i) W2.S))
    ⟨⟨W1.ρ, W1.S, upd W1.H Dl (.lst []), fun a => W1.P a ∨ a = Dl⟩, [], [], rfl, Mid.start hD s1, Nat.le_refl _, ?_⟩ (fun i H' _ p => ?_) (fun i x H' H2 hi p y => ?_) (fun H' p => ?_)
  · rw [List.drop_zero]
    show r = pre [] (lcLoop b t f (wipeE E vs) ds W1.S)
    rw [hr]
    cases r <;> first | rfl | skip
    exact absurd hr (by
      have gen : ∀ (l : List D) (S : Sto) (x : Ex) (S' : Sto), lcLoop b t f (wipeE E vs) l S ≠ .exc x S' := by
        intro l
        induction l with
        | nil => intro S x S' h; cases h
        | cons d l ih =>
          intro S x S' h
          unfold lcLoop at h
          split at h
          · cases h
          · rename_i l' _
            cases ht : t (setE (wipeE E vs) l') S with
            | stuck => rw [ht] at h; cases h
            | exc _ _ => rw [ht] at h; cases h
            | ok k S1 =>
              rw [ht] at h
              cases k with
              | false => exact ih S1 x S' h
              | true =>
                have h : (f (setE (wipeE E vs) l') S1).bind0 _ = _ := h
                cases hf : f (setE (wipeE E vs) l') S1 with
                | stuck => rw [hf] at h; cases h
                | exc _ _ => rw [hf] at h; cases h
                | ok y S2 =>
                  rw [hf] at h
                  have h : (lcLoop b t f (wipeE E vs) l S2).bind0 _ = _ := h
                  cases hl : lcLoop b t f (wipeE E vs) l S2 with
                  | stuck => rw [hl] at h; cases h
                  | exc _ _ => rw [hl] at h; cases h
                  | ok ys S3 => rw [hl] at h; cases h
      exact gen _ _ _ _)
  · obtain ⟨W2, vs2, acc, rfl, m, _⟩ := p
    exact hG W2 m.ext m.st
  · obtain ⟨W2, vs2, acc, rfl, m, hlen, hr2⟩ := p
    obtain ⟨W3, d, hd, rfl, e3, eS, s3, rx⟩ := hY W2 i x H2 m.ext m.st hi y
    have m3 := m.step e3 s3
    have hdrop : ds.drop i = d :: ds.drop (i + 1) := by
      obtain ⟨h1, h2⟩ := List.getElem?_eq_some_iff.mp hd
      rw [List.drop_eq_getElem_cons h1, h2]
    rw [hdrop] at hr2
    unfold lcLoop at hr2
    -- what follows does not get stuck
    have ns : r ≠ .stuck := fun z => by rw [z] at q1; exact q1
    cases hbd : b d with
    | none => rw [hbd] at hr2; exact absurd hr2 ns
    | some l =>
      rw [hbd] at hr2
      have hr2 : r = pre acc ((t (setE (wipeE E vs) l) W2.S).bind0 fun k S1 => match k with
        | true => (f (setE (wipeE E vs) l) S1).bind0 fun y S2 => (lcLoop b t f (wipeE E vs) (ds.drop (i + 1)) S2).bind0 fun ys S3 => .ok (y :: ys) S3
        | false => lcLoop b t f (wipeE E vs) (ds.drop (i + 1)) S1) := hr2
      rw [← eS] at hr2
      refine ⟨W3, d, l, rfl, s3, rx, hbd, fun l' bn => ⟨?_, ?_⟩⟩
      · rw [wipe_setV fun p hp => ?_, wipe_wipe fun v hv => hv]
        have hk := bn.keys
        have : p.1 ∈ l'.map (·.1) := List.mem_map.mpr ⟨p, hp, rfl⟩
        rw [hk] at this
        obtain ⟨p', hp', e⟩ := List.mem_map.mp this
        rw [← e]
        exact hb d l hbd p' hp'
      · have en3 : EnvOk K W3 (setV (wipe σ vs) l') (setE (wipeE E vs) l) := EnvOk.setAll bn ⟨en1.len, fun j dj ej => by
          obtain ⟨v, a, rv⟩ := en1.at_ j dj ej
          exact ⟨v, a, rv.mono0 m3.ext⟩⟩
        refine ⟨W3, _, rfl, s3, en3, ?_⟩
        cases ht : t (setE (wipeE E vs) l) W3.S with
        | stuck => rw [ht] at hr2; exact absurd hr2 ns
        | exc _ _ => rw [ht] at hr2; exact absurd hr2 ns
        | ok k S1 =>
          rw [ht] at hr2
          intro W4 k' e4 hS4 s4 ek
          subst ek
          subst hS4
          have m4 := m3.step e4 s4
          cases k' with
          | false =>
            exact ⟨W4, vs2, acc, rfl, m4, Nat.le_succ_of_le hlen, hr2⟩
          | true =>
            have hr2 : r = pre acc ((f (setE (wipeE E vs) l) W4.S).bind0 fun y S2 => (lcLoop b t f (wipeE E vs) (ds.drop (i + 1)) S2).bind0 fun ys S3 => .ok (y :: ys) S3) := hr2
            refine ⟨W4, _, rfl, s4, en3.mono e4, ?_⟩
            cases hf : f (setE (wipeE E vs) l) W4.S with
            | stuck => rw [hf] at hr2; exact absurd hr2 ns
            | exc _ _ => rw [hf] at hr2; exact absurd hr2 ns
            | ok z S2 =>
              rw [hf] at hr2
              intro W5 y5 e5 hS5 s5 r5
              subst hS5
              have m5 := m4.step e5 s5
              refine ⟨vs2, m5.at_, ?_, _, _, acc ++ [z], rfl, m5.app hD r5, ?_, ?_⟩
              · rw [m5.rep.length]
                refine Nat.lt_of_le_of_lt hlen (Nat.lt_of_lt_of_le hi (big_le hbig))
              · rw [List.length_append, List.length_singleton]; omega
              · rw [hr2]
                show pre acc ((lcLoop b t f (wipeE E vs) (ds.drop (i + 1)) W5.S).bind0 fun ys S3 => .ok (z :: ys) S3) = pre (acc ++ [z]) (lcLoop b t f (wipeE E vs) (ds.drop (i + 1)) W5.S)
                cases lcLoop b t f (wipeE E vs) (ds.drop (i + 1)) W5.S with
                | stuck => rfl
                | exc _ _ => rfl
                | ok ys S3 =>
                  show Res.ok (acc ++ z :: ys) S3 = Res.ok ((acc ++ [z]) ++ ys) S3
                  rw [List.append_assoc]; rfl
  · obtain ⟨W2, vs2, acc, rfl, m, _, hr2⟩ := p
    rw [List.drop_length] at hr2
    have hr2 : r = .ok (acc ++ []) W2.S := hr2
    rw [List.append_nil] at hr2
    rw [hr2] at q1
    exact m.fin hD s1 q1
theorem m_comp {X : Cx} {w : WX} (mm : Bool) {elt tg iter : Expr} {ifs : List Expr} {scope : Scope} {own : List (Str × Nat)} {pos : Pos} {it : MA} {b : BG} {t : MT} {f : ME} (hc : X.calm = true) (hN : X.N.Nodup) (hi : PI X tg iter (rdI X.K X.mg w it)) (ok : BlkOk X.N X.env.scope scope own)
    (hg : ∀ (s : Shared) (H : Hp) (C : Addr) (cl : List (Str × Addr)) (fp : List Addr), PG (X.blk s H scope (compEnvC scope cl C X.env) fp) tg (rdG X.K b)) (ht : ∀ (s : Shared) (H : Hp) (C : Addr) (cl : List (Str × Addr)) (fp : List Addr), PTs (X.blk s H scope (compEnvC scope cl C X.env) fp) ifs (rdT X.K X.mg w0 t))
    (he : ∀ (s : Shared) (H : Hp) (C : Addr) (cl : List (Str × Addr)) (fp : List Addr), PE (X.blk s H scope (compEnvC scope cl C X.env) fp) elt (rdE X.K X.mg w0 f)) (hb : ∀ d l, b d = some l → ∀ p ∈ l, p.1 ∈ own.map (·.2)) (hs : ∀ x, foldedSetIterable iter X.env x = pure x := by intro _; rfl) :
    PE X (.ListComp elt [⟨tg, iter, ifs, 0⟩] scope pos) (RE X w (mComp mm it b t f (own.map (·.2)))) := PE.imp (pe_lc hc hN hi ok hg ht he hs) fun _ _ _ h => rd_comp hb h
end Mi

/-! Mi: statements, loops, defs. -/
namespace Mi
open PySem PySem.Spec PyProof.Rows L2

def sSeq (f g : MS) : MS := fun E S => match f E S with
  | .nx E' S' => g E' S'
  | r => r
def sNil : MS := fun E S => .nx E S
/-- an expression within a statement -/
def Res.st {α : Type} (r : Res α) (E : Env) (k : α → Sto → Fl) : Fl := match r with
  | .stuck => .stuck
  | .ok a S => k a S
  | .exc x S => .exc x E S
def sSet (i : Nat) (f : ME) : MS := fun E S => (f E S).st E fun d S' => .nx (E.set i (some d)) S'
def sAsg (b : BG) (f : ME) : MS := fun E S => (f E S).st E fun d S' => match b d with
  | some l => .nx (setE E l) S'
  | none => .stuck
def sPar (i j : Nat) (g : MA) : MS := fun E S => (g E S).st E fun ds S' => match ds with
  | [x, y] => .nx ((E.set i (some x)).set j (some y)) S'
  | _ => .stuck
def sDrop (f : ME) : MS := fun E S => (f E S).st E fun _ S' => .nx E S'
def sRet (f : ME) : MS := fun E S => (f E S).st E fun d S' => .rt d S'
def sRetN : MS := fun _ S => .rt .non S
def sIf (t : MT) (f g : MS) : MS := fun E S => (t E S).st E fun b S' => match b with
  | true => f E S'
  | false => g E S'
def sBreak : MS := fun E S => .bk E S
def sCont : MS := fun E S => .ct E S
def forLoop (b : BG) (body : MS) : List D → Env → Sto → Fl
  | [], E, S => .nx E S
  | d :: ds, E, S => match b d with
    | none => .stuck
    | some l => match body (setE E l) S with
      | .nx E' S' => forLoop b body ds E' S'
      | .ct E' S' => forLoop b body ds E' S'
      | .bk E' S' => .nx E' S'
      | r => r
def sFor (it : MA) (b : BG) (body : MS) : MS := fun E S => (it E S).st E fun ds S' => forLoop b body ds E S'
def whileLoop (t : MT) (body : MS) : Nat → Env → Sto → Fl
  | 0, _, _ => .stuck
  | n + 1, E, S => (t E S).st E fun k S1 => match k with
    | true => (match body E S1 with
      | .nx E' S' => whileLoop t body n E' S'
      | .ct E' S' => whileLoop t body n E' S'
      | .bk E' S' => .nx E' S'
      | r => r)
    | false => .nx E S1
def sWhile (n : Nat) (t : MT) (body : MS) : MS := fun E S => whileLoop t body n E S
section
variable {K : PySem.W.Frag} {mg : Str → Option Value} {w : WX} {W : Wd} {E : Env} {σ : L2.St} {D' : Ends}
theorem PostS.st {α β : Type} {R : Wd → β → α → Prop} {r : Res α} {k : α → Sto → Fl} (en : EnvOk K W σ E) (h : PostS K mg w W (r.st E k) D')
    {Q' : β → Hp → Prop} (g : ∀ W1 v d, Ext W W1 → StOk K W1 → R W1 v d → PostS K mg w W1 (k d W1.S) D' → Q' v W1.H) : PostE K mg R (fun c a H' => w c a σ H') W r Q' := by
  cases r with
  | stuck => exact h
  | ok d S' =>
    intro W1 v e hS s q
    refine g W1 v d e s q ?_
    rw [hS]
    exact PostS.ext e (show PostS K mg w W (k d S') D' from h)
  | exc x S' => exact fun W1 c a e hS s q => h W1 σ c a e hS s (en.mono e) q
theorem PostS.nx (en : EnvOk K W σ E) (s : StOk K W) (h : PostS K mg w W (.nx E W.S) D') : D'.nx σ W.H := h W σ (Ext.refl W) rfl s en
end
section
variable {X : Cx} {w : WX} {st : Stmt} {rest : List Stmt} {f g : MS} {e : Expr} {h : ME} {pos : Pos} {t : MT}
theorem ms_nil : PSs X [] (RS X w sNil) := PSs.imp pss_nil fun D σ H ⟨W, E, eH, s, en, q⟩ => by
  subst eH
  exact q.nx en s
theorem ms_cons (h1 : PS X st (RS X w f)) (h2 : PSs X rest (RS X w g)) : PSs X (st :: rest) (RS X w (sSeq f g)) := PSs.imp (pss_cons h1 h2) fun D σ H ⟨W, E, eH, s, en, q⟩ => by
  refine ⟨W, E, eH, s, en, ?_⟩
  unfold sSeq at q
  cases hf : f E W.S with
  | nx E' S' =>
    rw [hf] at q
    intro W' σ' e hS s' en'
    refine ⟨W', E', rfl, s', en', ?_⟩
    rw [hS]
    exact q.ext e
  | stuck => rw [hf] at q; exact q
  | rt d S' => rw [hf] at q; exact q
  | bk E' S' => rw [hf] at q; exact q
  | ct E' S' => rw [hf] at q; exact q
  | exc x E' S' => rw [hf] at q; exact q
theorem ms_one (h1 : PS X st (RS X w f)) : PSs X [st] (RS X w f) := pss_one h1
theorem m_set {i : Nat} (hp : PS X st (tAsg (RE X w h) (gName i))) : PS X st (RS X w (sSet i h)) := PS.imp hp fun D σ H ⟨W, E, eH, s, en, q⟩ =>
  ⟨W, E, eH, s, en, PostS.st en q fun W1 v d e1 s1 r1 q1 => q1.nx ((en.mono e1).set r1) s1⟩
theorem m_asg {b : BG} (hp : PS X st (tAsg (RE X w h) (rdG X.K b))) : PS X st (RS X w (sAsg b h)) := PS.imp hp fun D σ H ⟨W, E, eH, s, en, q⟩ =>
  ⟨W, E, eH, s, en, PostS.st en q fun W1 v d e1 s1 r1 q1 => by
    split at q1
    · rename_i l hl
      exact ⟨W1, d, l, rfl, s1, r1, hl, fun l' bn => q1.nx (EnvOk.setAll bn (en.mono e1)) s1⟩
    · exact q1.elim⟩
theorem m_par {i j : Nat} {a : MA} (hp : PS X st (tPar i j (RA X w a))) : PS X st (RS X w (sPar i j a)) := PS.imp hp fun D σ H ⟨W, E, eH, s, en, q⟩ =>
  ⟨W, E, eH, s, en, PostS.st en q fun W1 vs ds e1 s1 r1 q1 => by
    split at q1
    · obtain ⟨v, u, rfl, ra, rb⟩ := reps2 r1
      exact ⟨v, u, rfl, q1.nx (((en.mono e1).set ra).set rb) s1⟩
    · exact q1.elim⟩
theorem m_setLc {i : Nat} {mm : Bool} {it : MA} {b : BG} {t : MT} {f : ME} {vs : List Nat} (hb : ∀ d l, b d = some l → ∀ p ∈ l, p.1 ∈ vs) (hp : PS X st (tAsg (tLc (rdI X.K X.mg w it) (rdG X.K b) (rdT X.K X.mg w0 t) (rdE X.K X.mg w0 f) vs) (gName i))) : PS X st (RS X w (sSet i (mComp mm it b t f vs))) :=
  PS.imp hp fun D σ H ⟨W, E, eH, s, en, q⟩ => rd_comp hb ⟨W, E, eH, s, en, PostS.st en q fun W1 v d e1 s1 r1 q1 => q1.nx ((en.mono e1).set r1) s1⟩
theorem m_drop (he : PE X e (RE X w h)) (hs : swapsWith e none pos.line X.env = pure false := by rfl) : PS X (.Expr e pos) (RS X w (sDrop h)) := PS.imp (ps_expr he hs) fun D σ H ⟨W, E, eH, s, en, q⟩ =>
  ⟨W, E, eH, s, en, PostS.st en q fun W1 v d e1 s1 r1 q1 => q1.nx (en.mono e1) s1⟩
theorem m_ret (he : PE X e (RE X w h)) : PS X (.Return (some e) pos) (RS X w (sRet h)) := PS.imp (ps_ret he) fun D σ H ⟨W, E, eH, s, en, q⟩ =>
  ⟨W, E, eH, s, en, PostS.st en q fun W1 v d e1 s1 r1 q1 => q1 W1 v (Ext.refl _) rfl s1 r1⟩
theorem m_retN : PS X (.Return none pos) (RS X w sRetN) := PS.imp ps_retN fun D σ H ⟨W, E, eH, s, en, q⟩ => by
  subst eH
  exact q W .non (Ext.refl _) rfl s .non
theorem m_ifS {c : Expr} {a b : List Stmt} (hc : PT X c (RT X w t)) (ha : PSs X a (RS X w f)) (hb : PSs X b (RS X w g)) : PS X (.If c a b pos) (RS X w (sIf t f g)) := PS.imp (ps_if hc ha hb) fun D σ H ⟨W, E, eH, s, en, q⟩ =>
  ⟨W, E, eH, s, en, PostS.st en q fun W1 v d e1 s1 r1 q1 => by
    subst r1
    cases v with
    | true => exact ⟨W1, E, rfl, s1, en.mono e1, q1⟩
    | false => exact ⟨W1, E, rfl, s1, en.mono e1, q1⟩⟩
theorem m_pass : PS X (.Pass pos) (RS X w sNil) := PS.imp ps_pass fun D σ H ⟨W, E, eH, s, en, q⟩ => by
  subst eH
  exact q.nx en s
theorem m_break : PS X (.Break pos) (RS X w sBreak) := PS.imp ps_break fun D σ H ⟨W, E, eH, s, en, q⟩ => by
  subst eH
  exact q W σ (Ext.refl _) rfl s en
theorem m_continue : PS X (.Continue pos) (RS X w sCont) := PS.imp ps_continue fun D σ H ⟨W, E, eH, s, en, q⟩ => by
  subst eH
  exact q W σ (Ext.refl _) rfl s en
theorem m_for {tg iter : Expr} {body : List Stmt} {it : MA} {b : BG} (hp : PassesOwn (model X.prog X.w) X.A X.env X.xe) (hc : X.calm = true) (hi : PI X tg iter (rdI X.K X.mg w it)) (hg : PG X tg (rdG X.K b)) (hb : PSs X body (RS X w f))
    (hs : ∀ x, foldedSetIterable iter X.env x = pure x := by intro _; rfl) : PS X (.For tg iter body [] pos) (RS X w (sFor it b f)) := PS.imp (ps_for hp hc hi hg hb hs) fun D σ H ⟨W, E, eH, s, en, q⟩ =>
  ⟨W, E, eH, s, en, PostS.st en q fun W1 J ds e1 s1 iok q1 => by
    obtain ⟨G, Y, wk, hG, hY⟩ := iok.ex
    refine for_it wk (fun i σ' H' => ∃ W2 E2, W2.H = H' ∧ StOk X.K W2 ∧ Ext W1 W2 ∧ EnvOk X.K W2 σ' E2 ∧ PostS X.K X.mg w W2 (forLoop b f (ds.drop i) E2 W2.S) D) ⟨W1, E, rfl, s1, Ext.refl _, en.mono e1, by rw [List.drop_zero]; exact q1⟩
      (fun i σ' H' _ p => ?_) (fun i x σ' H' H2 hi p y => ?_) (fun σ' H' p => ?_)
    · obtain ⟨W2, E2, rfl, s2, e2, _⟩ := p
      exact hG W2 e2.toExt0 s2
    · obtain ⟨W2, E2, rfl, s2, e2, en2, q2⟩ := p
      obtain ⟨W3, d, hd, rfl, e3, eS, s3, rx⟩ := hY W2 i x H2 e2.toExt0 s2 hi y
      have hdrop : ds.drop i = d :: ds.drop (i + 1) := by
        obtain ⟨h1, h2⟩ := List.getElem?_eq_some_iff.mp hd
        rw [List.drop_eq_getElem_cons h1, h2]
      rw [hdrop] at q2
      unfold forLoop at q2
      cases hbd : b d with
      | none => rw [hbd] at q2; exact q2.elim
      | some l =>
        rw [hbd] at q2
        refine ⟨W3, d, l, rfl, s3, rx, hbd, fun l' bn => ⟨W3, setE E2 l, rfl, s3, EnvOk.setAll bn (en2.mono e3), ?_⟩⟩
        have q3 := PostS.ext e3 q2
        rw [← eS] at q3
        have q3 : PostS X.K X.mg w W3 (match f (setE E2 l) W3.S with
          | .nx E' S' => forLoop b f (ds.drop (i + 1)) E' S'
          | .ct E' S' => forLoop b f (ds.drop (i + 1)) E' S'
          | .bk E' S' => .nx E' S'
          | r => r) D := q3
        cases hf : f (setE E2 l) W3.S with
        | stuck => rw [hf] at q3; exact q3
        | nx E' S' =>
          rw [hf] at q3
          intro W4 σ4 e4 hS4 s4 en4
          exact ⟨W4, E', rfl, s4, (e2.trans e3).trans e4, en4, by rw [hS4]; exact PostS.ext e4 q3⟩
        | ct E' S' =>
          rw [hf] at q3
          intro W4 σ4 e4 hS4 s4 en4
          exact ⟨W4, E', rfl, s4, (e2.trans e3).trans e4, en4, by rw [hS4]; exact PostS.ext e4 q3⟩
        | bk E' S' =>
          rw [hf] at q3
          exact q3
        | rt d' S' => rw [hf] at q3; exact q3
        | exc x' E' S' => rw [hf] at q3; exact q3
    · obtain ⟨W2, E2, rfl, s2, e2, en2, q2⟩ := p
      rw [List.drop_length] at q2
      exact PostS.nx en2 s2 q2⟩
theorem m_while (n : Nat) {c : Expr} {body : List Stmt} (hp : PassesOwn (model X.prog X.w) X.A X.env X.xe) (hc : PT X c (RT X w t)) (hb : PSs X body (RS X w f)) : PS X (.While c body [] pos) (RS X w (sWhile n t f)) := PS.imp (ps_while hp hc hb) fun D σ H ⟨W, E, eH, s, en, q⟩ => by
  refine ⟨fun m σ' H' => ∃ W2 E2, W2.H = H' ∧ StOk X.K W2 ∧ EnvOk X.K W2 σ' E2 ∧ PostS X.K X.mg w W2 (whileLoop t f m E2 W2.S) D, ⟨n, W, E, eH, s, en, q⟩, ?_⟩
  rintro m σ1 H1 ⟨W2, E2, rfl, s2, en2, q2⟩
  cases m with
  | zero => exact q2.elim
  | succ m =>
    refine ⟨W2, E2, rfl, s2, en2, PostS.st (k := fun k S1 => match k with
      | true => (match f E2 S1 with
        | .nx E' S' => whileLoop t f m E' S'
        | .ct E' S' => whileLoop t f m E' S'
        | .bk E' S' => .nx E' S'
        | r => r)
      | false => .nx E2 S1) en2 q2 fun W3 v d e3 s3 r3 q3 => ?_⟩
    subst r3
    cases v with
    | false => exact PostS.nx (en2.mono e3) s3 q3
    | true =>
      refine ⟨fun σ' H' => ∃ W2 E2, W2.H = H' ∧ StOk X.K W2 ∧ EnvOk X.K W2 σ' E2 ∧ PostS X.K X.mg w W2 (whileLoop t f m E2 W2.S) D, fun σ' H' p => ⟨m, Nat.lt_succ_self _, p⟩, W3, E2, rfl, s3, en2.mono e3, ?_⟩
      have q3 : PostS X.K X.mg w W3 (match f E2 W3.S with
        | .nx E' S' => whileLoop t f m E' S'
        | .ct E' S' => whileLoop t f m E' S'
        | .bk E' S' => .nx E' S'
        | r => r) D := q3
      cases hf : f E2 W3.S with
      | stuck => rw [hf] at q3; exact q3
      | nx E' S' =>
        rw [hf] at q3
        intro W4 σ4 e4 hS4 s4 en4
        exact ⟨W4, E', rfl, s4, en4, by rw [hS4]; exact PostS.ext e4 q3⟩
      | ct E' S' =>
        rw [hf] at q3
        intro W4 σ4 e4 hS4 s4 en4
        exact ⟨W4, E', rfl, s4, en4, by rw [hS4]; exact PostS.ext e4 q3⟩
      | bk E' S' =>
        rw [hf] at q3
        exact q3
      | rt d' S' => rw [hf] at q3; exact q3
      | exc x' E' S' => rw [hf] at q3; exact q3
end
/-- o[i] = e -/
def sSub (fo fi fe : ME) : MS := fun E S => (fe E S).st E fun d S1 => (fo E S1).st E fun o S2 => (fi E S2).st E fun i S3 => match o, i with
  | .ref c, .int k => (match S3.get c with
    | some (.ml xs) => (match ixN xs.length k with
      | some j => .nx E (S3.put c (.ml (xs.set j d)))
      | none => .stuck)
    | _ => .stuck)
  | _, _ => .stuck
section
variable {X : Cx} {w : WX} {st : Stmt} {fo fi fe : ME}
theorem m_sub (hp : PS X st (tAsg (RE X w fe) (gSub (RE X w fo) (RE X w fi) rSetL))) : PS X st (RS X w (sSub fo fi fe)) := PS.imp hp fun D σ H ⟨W, E, eH, s, en, q⟩ =>
  ⟨W, E, eH, s, en, PostS.st en q fun W1 v d e1 s1 r1 q1 => ⟨W1, E, rfl, s1, en.mono e1, PostS.st (en.mono e1) q1 fun W2 v2 d2 e2 s2 r2 q2 => ⟨W2, E, rfl, s2, (en.mono e1).mono e2, PostS.st ((en.mono e1).mono e2) q2 fun W3 v3 d3 e3 s3 r3 q3 => by
    have r1' := (r1.mono e2).mono e3
    have r2' := r2.mono e3
    have en3 := ((en.mono e1).mono e2).mono e3
    split at q3
    · rename_i c k
      split at q3
      · rename_i xs hg
        split at q3
        · rename_i j hj
          cases r2' with
          | ref hc ha =>
            cases r3
            subst ha
            obtain ⟨_, o, ho, rc⟩ := s3.cell _ _ hg
            cases rc with
            | @ml vs _ rr =>
              refine ⟨_, vs, k, j, rfl, rfl, ho, by rw [rr.length]; exact hj, ?_⟩
              have rr' := Reps.set r1' j rr
              exact q3 (W3.wr c (.lst (vs.set j v)) (.ml (xs.set j d))) σ (Ext.wr s3 hg) rfl (s3.wr hg (.ml rr')) (en3.mono (Ext.wr s3 hg))
        · exact q3.elim
      · exact q3.elim
    · exact q3.elim⟩⟩⟩
end

/-! ### defs -/
def mDef (n np : Nat) (body : MS) : MF := fun ds S => match Nat.beq ds.length np with
  | false => .stuck
  | true => match body (ds.map some ++ List.replicate (n - np) none) S with
    | .nx _ S' => .ok .non S'
    | .rt d S' => .ok d S'
    | .exc x _ S' => .exc x S'
    | _ => .stuck
theorem env_start {K : PySem.W.Frag} {W : Wd} {vs : List V} {ds : List D} (r : Reps K W vs ds) (n : Nat) : EnvOk K W (vs.map some ++ List.replicate n none) (ds.map some ++ List.replicate n none) := by
  refine ⟨by rw [List.length_append, List.length_append, List.length_map, List.length_map, List.length_replicate, List.length_replicate, r.length], fun i d e => ?_⟩
  by_cases hi : i < ds.length
  · rw [List.getElem?_append_left (by rw [List.length_map]; exact hi), List.getElem?_map] at e
    cases hd : ds[i]? with
    | none => rw [hd] at e; cases e
    | some d' =>
      rw [hd] at e
      cases e
      obtain ⟨v, hv, rv⟩ := r.get hd
      exact ⟨v, by rw [List.getElem?_append_left (by rw [List.length_map, r.length]; exact hi), List.getElem?_map, hv]; rfl, rv⟩
  · rw [List.getElem?_append_right (by rw [List.length_map]; omega)] at e
    have := List.getElem?_eq_some_iff.mp e
    obtain ⟨h1, h2⟩ := this
    rw [List.getElem_replicate] at h2
    cases h2
section
variable {P : Program} {w : World} {K : PySem.W.Frag} {mg : Str → Option Value} {base : Heap}
abbrev wE (E : XK) : WX := fun cls d _ H => E cls d H
/-- what a def's body is shown with -/
structure Ctx (X : Cx) (k : Nat) (w : WX) : Prop where
  room : Room k X.A
  takes : Takes X w
  passes : PassesOwn (model X.prog X.w) X.A X.env X.xe
theorem ok_def {x qual : Str} {st : Stmt} {f : Addr} {fd : FuncData} {N ps : List Str} {k : Nat} {body : MS} (F : Fun K x qual st f fd) (S : FnScope N ps (defScope st))
    (hbody : ∀ (cdv : Value) (A : Around) (outer : List PySem.Env) (s : Shared) (H : Hp) (E : XK), Ctx (cxOf (L2.CX P w) P w K mg base N qual (defScope st) f cdv A outer s H E) k (wE E) →
      PSs (cxOf (L2.CX P w) P w K mg base N qual (defScope st) f cdv A outer s H E) (defBody st) (rdS K mg (wE E) body)) : FnOk P w K mg base (L2.CX P w) (k + 1) f fd ps (spF K mg (mDef N.length ps.length body)) := by
  refine F.okX S (fun vs H Q E h => ?_) (fun cdv A outer s H vs Q E hr h => ⟨_, hbody cdv A outer s H E ⟨hr, takes_of rfl rfl rfl rfl, passes_of rfl⟩, ?_⟩)
  · obtain ⟨W, ds, eH, so, r, q⟩ := h
    unfold mDef at q
    cases hb : Nat.beq ds.length ps.length with
    | false => rw [hb] at q; exact q.elim
    | true => rw [r.length]; exact Nat.eq_of_beq_eq_true hb
  · obtain ⟨W, ds, eH, so, r, q⟩ := h
    unfold mDef at q
    cases hb : Nat.beq ds.length ps.length with
    | false => rw [hb] at q; exact q.elim
    | true =>
      rw [hb] at q
      have hl : ds.length = ps.length := Nat.eq_of_beq_eq_true hb
      refine ⟨W, ds.map some ++ List.replicate (N.length - ps.length) none, eH, so, ?_, ?_⟩
      · show EnvOk K W (vs.map some ++ List.replicate (N.length - vs.length) none) _
        rw [r.length, hl]
        exact env_start r _
      · have q : PostE K mg (Rep K) E W (match body (ds.map some ++ List.replicate (N.length - ps.length) none) W.S with
          | .nx _ S' => .ok .non S'
          | .rt d S' => .ok d S'
          | .exc x _ S' => .exc x S'
          | _ => .stuck) Q := q
        cases hf : body (ds.map some ++ List.replicate (N.length - ps.length) none) W.S with
        | stuck => rw [hf] at q; exact q
        | nx E' S' => rw [hf] at q; exact fun W' σ' e hS s' _ => q W' .non e hS s' .non
        | rt d S' => rw [hf] at q; exact q
        | bk E' S' => rw [hf] at q; exact q.elim
        | ct E' S' => rw [hf] at q; exact q.elim
        | exc x E' S' => rw [hf] at q; exact fun W' σ' c a e hS s' _ rx => q W' c a e hS s' rx
end
def mCall (F : MF) (g : MA) : ME := fun E S => (g E S).bind fun ds S1 => F ds S1
section
variable {X : Cx} {w : WX} {k : Nat} {f : Addr} {fd : FuncData} {ps : List Str} {F : MF} {x : Str} {p pos : Pos} {e : Expr} {es : List Expr} {g : MA}
theorem m_call (G : FnOk X.prog X.w X.K X.mg X.base (L2.CX X.prog X.w) k f fd ps (spF X.K X.mg F)) (hr : Room k X.A) (tk : Takes X w) (hg : Gl X x) (hm : X.mg x = some (.ref f)) (hk : PySem.W.keepIn X.K (.ref f) = true) (hb : Binds X.K fd ps []) (ha : PA X (e :: es) (RA X w g))
    (hdb : (x == ("__debug__" : Str)) = false := by decide) (he : starEach (e :: es) X.env = (false, eval e X.env) :: starEach es X.env := by rfl) (hpl : (backTo pos (starEach es X.env)).any (·.1) = false := by rfl) :
    PE X (.Call (.Name x p) (e :: es) [] pos) (RE X w (mCall F g)) := PE.imp (pe_callS (E := WE w) G hr hg hm hk hb (passAt tk) ha hdb he hpl) fun σ H Q ⟨W, E, eH, s, en, q⟩ =>
  ⟨W, E, eH, s, en, PostE.bind q fun W1 vs ds e1 s1 r1 q1 => ⟨W1, ds, rfl, s1, r1, q1⟩⟩
end

/-! ### a def that leaves the store as it was -/
mutual
def flat : D → Bool
  | .ref _ => false
  | .tup xs => flats xs
  | .lst xs => flats xs
  | .scr xs => flats xs
  | _ => true
def flats : List D → Bool
  | [] => true
  | x :: xs => flat x && flats xs
end
section
variable {K : PySem.W.Frag} {W W' : Wd}
mutual
theorem Rep.flat (hH : ∀ a o, W.H a = some o → ¬ W.Live a → W'.H a = some o) (hL : ∀ a o, W.H a = some o → ¬ W.Live a → ¬ W'.Live a) : ∀ {v : V} {d : D}, flat d = true → Rep K W v d → Rep K W' v d
  | _, _, _, .non => .non
  | _, _, _, .bl b => .bl b
  | _, _, _, .int i => .int i
  | _, _, _, .str x => .str x
  | _, _, h, .tup (.inl ⟨a, n⟩) r => .tup (.inl ⟨hH _ _ a n, hL _ _ a n⟩) (Reps.flat hH hL h r)
  | _, _, h, .tup (.inr a) r => .tup (.inr a) (Reps.flat hH hL h r)
  | _, _, h, .lst ⟨a, n⟩ r => .lst ⟨hH _ _ a n, hL _ _ a n⟩ (Reps.flat hH hL h r)
  | _, _, h, .scr (.inl ⟨.inl a, n⟩) r => .scr (.inl ⟨.inl (hH _ _ a n), hL _ _ a n⟩) (Reps.flat hH hL h r)
  | _, _, h, .scr (.inl ⟨.inr ⟨o, a⟩, n⟩) r => .scr (.inl ⟨.inr ⟨o, hH _ _ a n⟩, hL _ _ a n⟩) (Reps.flat hH hL h r)
  | _, _, h, .scr (.inr a) r => .scr (.inr a) (Reps.flat hH hL h r)
  | _, _, h, .ref _ _ => nomatch h
  | _, _, _, .ty n => .ty n
  | _, _, _, .obj a => .obj a
theorem Reps.flat (hH : ∀ a o, W.H a = some o → ¬ W.Live a → W'.H a = some o) (hL : ∀ a o, W.H a = some o → ¬ W.Live a → ¬ W'.Live a) : ∀ {vs : List V} {ds : List D}, flats ds = true → Reps K W vs ds → Reps K W' vs ds
  | _, _, _, .nil => .nil
  | _, _, h, .cons r t => by
    rw [flats, Bool.and_eq_true] at h
    exact .cons (Rep.flat hH hL h.1 r) (Reps.flat hH hL h.2 t)
end
end
def flatX : Ex → Bool
  | .mk _ fs => flats (fs.map (·.2))
def pureF (F : MF) : MF := fun ds S => match F ds ⟨S.next, []⟩ with
  | .ok d _ => (match flat d with
    | true => .ok d S
    | false => .stuck)
  | .exc x _ => (match flatX x with
    | true => .exc x S
    | false => .stuck)
  | .stuck => .stuck
/-- all that is live is someone else's -/
def Wd.lend (W : Wd) : Wd := ⟨W.ρ, ⟨W.S.next, []⟩, W.H, W.Live⟩
theorem lend_live {W : Wd} {a : Addr} (l : W.lend.Live a) : W.Live a := by
  rcases l with l | ⟨i, c, e, _⟩
  · exact l
  · cases e
theorem lend_ext {W : Wd} : Ext0 W W.lend := ⟨fun _ _ h _ => h, fun a l => .inl (lend_live l), fun _ _ => rfl, Nat.le_refl _⟩
theorem lend_ok {K : PySem.W.Frag} {W : Wd} (s : StOk K W) : StOk K W.lend where
  cell := fun i c e => nomatch (show none = some c from e)
  inj := fun i j c d e => nomatch (show none = some c from e)
  apart := fun i c e => nomatch (show none = some c from e)
  ownd := fun a l => by
    have l : W.Live a := l
    rcases l with l | ⟨i, c, e, q⟩
    · exact s.ownd a l
    · obtain ⟨_, o, z, _⟩ := s.cell i c e
      exact ⟨o, by rw [← q]; exact z⟩
/-- back from there -/
def Wd.back (W W1 : Wd) : Wd := ⟨W.ρ, W.S, W1.H, W.P⟩
theorem back_ext {W W1 : Wd} (e : Ext W.lend W1) : Ext W (W.back W1) := by
  refine ⟨⟨fun a o h n => e.keep a o h fun l => n ?_, fun a l => .inl l, fun _ _ => rfl, Nat.le_refl _⟩, rfl, fun a o p h => e.priv a o (.inl p) h⟩
  rcases l with l | ⟨i, c, z, _⟩
  · exact l
  · cases z
theorem back_ok {K : PySem.W.Frag} {W W1 : Wd} (s : StOk K W) (e : Ext W.lend W1) : StOk K (W.back W1) := by
  refine ⟨fun i c h => ?_, s.inj, s.apart, fun a p => ?_⟩
  · obtain ⟨h1, o, z, rc⟩ := s.cell i c h
    exact ⟨h1, o, e.priv _ _ (.inr ⟨i, c, h, rfl⟩) z, rc.mono0 (back_ext e).toExt0⟩
  · obtain ⟨o, z⟩ := s.ownd a p
    exact ⟨o, e.priv a o (.inl p) z⟩
theorem back_rep {K : PySem.W.Frag} {W W1 : Wd} (e : Ext W.lend W1) {v : V} {d : D} (f : flat d = true) (r : Rep K W1 v d) : Rep K (W.back W1) v d :=
  Rep.flat (W := W1) (W' := W.back W1) (fun _ _ h _ => h) (fun a o h n l => n (.inl (by rw [e.own]; exact l))) f r
theorem sp_pure {K : PySem.W.Frag} {mg : Str → Option Value} {F : MF} {vs : List V} {H : Hp} {Q : VK} {E : XK} (h : spF K mg (pureF F) vs H Q E) : spF K mg F vs H Q E := by
  obtain ⟨W, ds, eH, s, r, q⟩ := h
  refine ⟨W.lend, ds, eH, lend_ok s, r.mono0 lend_ext, ?_⟩
  unfold pureF at q
  show PostE K mg (Rep K) E W.lend (F ds ⟨W.S.next, []⟩) Q
  cases hF : F ds ⟨W.S.next, []⟩ with
  | stuck => rw [hF] at q; exact q
  | ok d S' =>
    rw [hF] at q
    have q : PostE K mg (Rep K) E W (match flat d with | true => .ok d W.S | false => .stuck) Q := q
    cases hf : flat d with
    | false => rw [hf] at q; exact q.elim
    | true =>
      rw [hf] at q
      exact fun W1 v e hS s1 r1 => q (W.back W1) v (back_ext e) rfl (back_ok s e) (back_rep e hf r1)
  | exc x S' =>
    rw [hF] at q
    have q : PostE K mg (Rep K) E W (match flatX x with | true => .exc x W.S | false => .stuck) Q := q
    cases hf : flatX x with
    | false => rw [hf] at q; exact q.elim
    | true =>
      rw [hf] at q
      intro W1 cls a e hS s1 rx
      refine q (W.back W1) cls a (back_ext e) rfl (back_ok s e) ?_
      cases x with
      | mk y fs =>
        obtain ⟨hc, h2⟩ := rx
        refine ⟨hc, ?_⟩
        rcases h2 with h2 | ⟨d, vs', e1, e2, e3, e4, e5⟩
        · exact .inl h2
        · exact .inr ⟨d, vs', e1, e2, fun l => e3 (.inl (by rw [e.own]; exact l)), e4, Reps.flat (W := W1) (W' := W.back W1) (fun _ _ h _ => h) (fun a o h n l => n (.inl (by rw [e.own]; exact l))) hf e5⟩
theorem ok_pure {P : Program} {w : World} {K : PySem.W.Frag} {mg : Str → Option Value} {base : Heap} {CX : CXT} {k : Nat} {f : Addr} {fd : FuncData} {ps : List Str} {F : MF} (G : FnOk P w K mg base CX k f fd ps (spF K mg F)) : FnOk P w K mg base CX k f fd ps (spF K mg (pureF F)) :=
  G.imp fun _ _ _ _ h => sp_pure h
end Mi

/-! Mi: isinstance, list(..), sorted, sets, what the module's top has. -/
namespace Mi
open PySem PySem.Spec PyProof.Rows L2

/-! ### isinstance -/
def tyN (S : Sto) : D → Option Nat
  | .non => some 5
  | .bl _ => some 1
  | .int _ => some 0
  | .str _ => some 2
  | .tup _ => some 4
  | d => match lstR S d with
    | some _ => some 3
    | none => none
def isiB (a n : Nat) : Bool := Nat.beq a n || (Nat.beq a 1 && Nat.beq n 0)
def tyArg : D → Option Nat
  | .ty n => if Nat.ble n 4 then some n else none
  | _ => none
def isiAny (a : Nat) : List D → Option Bool
  | [] => some false
  | d :: r => match tyArg d with
    | none => none
    | some n => match isiAny a r with
      | none => none
      | some b => some (isiB a n || b)
def oIsi (xs : List D) (S : Sto) : Option D := match xs with
  | [x, .ty n] => match tyN S x with
    | some a => match isiAny a [.ty n] with
      | some b => some (.bl b)
      | none => none
    | none => none
  | [x, .tup ts] => match tyN S x with
    | some a => match isiAny a ts with
      | some b => some (.bl b)
      | none => none
    | none => none
  | _ => none
theorem kit_all : ∀ a < 6, ∀ n < 5, kitB (tyS a) (tyS n) = some (isiB a n) := by decide +kernel
theorem tyN_lt {S : Sto} {d : D} {a : Nat} (h : tyN S d = some a) : a < 6 := by
  unfold tyN at h
  split at h
  · cases h; decide
  · cases h; decide
  · cases h; decide
  · cases h; decide
  · cases h; decide
  · split at h
    · cases h; decide
    · cases h
theorem tyN_of {K : PySem.W.Frag} {W : Wd} {v : V} {d : D} {a : Nat} (s : StOk K W) (r : Rep K W v d) (h : tyN W.S d = some a) : TyX K W.H v (.type (tyS a)) := by
  unfold tyN at h
  split at h
  · cases h; cases r; exact .base .non
  · cases h; cases r; exact .base (.bl _)
  · cases h; cases r; exact .base (.int _)
  · cases h; cases r; exact .base (.str _)
  · cases h
    cases r with
    | tup ht _ =>
      rcases ht with ⟨ht, _⟩ | ⟨o, its, n, e, c, _⟩
      · exact .base (.tup ht)
      · exact .kTuple e c
  · split at h
    · rename_i xs hx
      cases h
      obtain ⟨b, vs, rfl, hl, _⟩ := lstR_of s r hx
      rcases hl with (hl | ⟨o, hl⟩) | ⟨o, its, n, e, c, _⟩
      · exact .base (.lst hl)
      · exact .base (.frz hl)
      · exact .kList e c
    · cases h
theorem isiAny_of {K : PySem.W.Frag} {W : Wd} {a : Nat} (ha : a < 6) : ∀ {vs : List V} {ds : List D} {b : Bool}, Reps K W vs ds → isiAny a ds = some b → ∃ us, Paired ClsV vs us ∧ PySem.W.kitAny K (.type (tyS a)) us = some b
  | _, _, _, .nil, h => by cases h; exact ⟨[], .nil, kitAny_nil⟩
  | _, _, b, .cons r t, h => by
    unfold isiAny at h
    split at h
    · cases h
    · rename_i n hn
      split at h
      · cases h
      · rename_i b' hb
        cases h
        obtain ⟨us, h1, h2⟩ := isiAny_of ha t hb
        unfold tyArg at hn
        split at hn
        · split at hn
          · rename_i n' hle
            cases hn
            cases r
            refine ⟨.type (tyS n) :: us, .cons (.ty _) h1, ?_⟩
            have hk := kit_all a ha n (Nat.lt_succ_of_le (Nat.le_of_ble_eq_true hle))
            refine kitAny_cons (kit_ty hk) (fun e => ?_) (fun e => ?_)
            · rw [e, Bool.false_or]; exact h2
            · rw [e, Bool.true_or]
          · cases hn
        · cases hn
theorem sc_isi {K : PySem.W.Frag} : SndC K (fun xs H Q => rIsi K xs H Q ∨ rIsiT K xs H Q ∨ rIsiK K xs H Q) oIsi := by
  intro W xs ds d Q s r h q
  unfold oIsi at h
  split at h
  · rename_i x n
    split at h
    · rename_i a ha
      split at h
      · rename_i b hb
        cases h
        obtain ⟨v, u, rfl, r1, r2⟩ := reps2 r
        cases r2
        obtain ⟨us, h1, h2⟩ := isiAny_of (K := K) (W := W) (vs := [.ty (tyS n)]) (tyN_lt ha) (.cons (.ty n) .nil) hb
        refine .inl ⟨v, .ty (tyS n), .type (tyS a), .type (tyS n), b, rfl, .ty _, tyN_of s r1 ha, ?_, q W _ (Ext.refl W) rfl s (.bl _)⟩
        cases h1 with
        | cons c1 c2 =>
          cases c2
          cases c1
          have h2 : (match PySem.W.kitOne K (.type (tyS a)) (.type (tyS n)) with | some true => some true | some false => PySem.W.kitAny K (.type (tyS a)) [] | none => none) = some b := by
            first | exact h2 | (unfold PySem.W.kitAny at h2; exact h2)
          cases hk : PySem.W.kitOne K (.type (tyS a)) (.type (tyS n)) with
          | none => rw [hk] at h2; cases h2
          | some k =>
            rw [hk] at h2
            cases k with
            | true => exact h2
            | false => cases h2; rfl
      · cases h
    · cases h
  · rename_i x ts
    split at h
    · rename_i a ha
      split at h
      · rename_i b hb
        cases h
        obtain ⟨v, u, rfl, r1, r2⟩ := reps2 r
        obtain ⟨p, vs, rfl, ht, _, rr⟩ := tup_of r2
        obtain ⟨us, h1, h2⟩ := isiAny_of (tyN_lt ha) rr hb
        rcases ht with ⟨ht, _⟩ | ht
        · exact .inr (.inl ⟨v, p, vs, .type (tyS a), us, b, rfl, ht, h1, tyN_of s r1 ha, h2, q W _ (Ext.refl W) rfl s (.bl _)⟩)
        · obtain ⟨⟨oc, od, dt, sl⟩, its, n, e, c, dd, _, rv⟩ := ht
          simp only at c dd
          subst c dd
          have e3 := ClsV.all h1 rv
          refine .inr (.inr ⟨v, p, od, us, n, sl, .type (tyS a), b, rfl, ?_, tyN_of s r1 ha, h2, q W _ (Ext.refl W) rfl s (.bl _)⟩)
          rw [← e3]
          exact e
      · cases h
    · cases h
  · cases h
/-! ### list(x), list(range(..)) -/
def mListOf (mm : Bool) (f : ME) : ME := fun E S => (f E S).bind fun x S1 => match seqOf S1 x with
  | some ys => mkList mm ys S1
  | none => .stuck
section
variable {X : Cx} {w : WX} {a e : Expr} {p pos : Pos} {f g : ME}
theorem m_listOf (mm : Bool) (hg : Gl X "list") (hm : X.mg "list" = none) (ha : PE X a (RE X w f)) (hs : starEach [a] X.env = (false, eval a X.env) :: starEach [] X.env := by rfl) (hpl : (backTo pos (starEach [] X.env)).any (·.1) = false := by rfl) : PE X (.Call (.Name "list" p) [a] [] pos) (RE X w (mListOf mm f)) :=
  PE.imp (pe_callTy call_list_of hg hm (by decide +kernel) (pa_cons ha pa_nil hs) (by decide) (by decide) hs hpl) fun σ H Q ⟨W, E, eH, s, en, q⟩ => ⟨W, E, eH, s, en, PostE.bind q fun W1 v d e1 s1 r1 q1 => by
    split at q1
    · rename_i ys hy
      obtain ⟨a, vs, rfl, ha, rr⟩ := seq_of s1 r1 hy
      exact ⟨a, vs, rfl, ha, fresh_q s1 rr q1⟩
    · exact q1.elim⟩
/-- range as a value -/
def RgE (X : Cx) (w : WX) (e : Expr) (g : MA) : Prop := ∃ te, PRg X e te ∧ ∀ σ H (Q : Int → Int → Hp → Prop), (∃ W E, W.H = H ∧ StOk X.K W ∧ EnvOk X.K W σ E ∧
  PostE X.K X.mg (fun _ (l : Int × Int) ds => ds = rng l.1 l.2 ∧ RgOk l.1 l.2) (fun c a H' => w c a σ H') W (g E W.S) fun l H' => Q l.1 l.2 H') → te σ H Q
def small24 (i : Int) : Bool := decide (-1000000 ≤ i) && decide (i ≤ 1000000)
theorem small24_iff {i : Int} (h : small24 i = true) : -1000000 ≤ i ∧ i ≤ 1000000 := by
  unfold small24 at h
  rw [Bool.and_eq_true] at h
  exact ⟨of_decide_eq_true h.1, of_decide_eq_true h.2⟩
def vRng1 (f : ME) : MA := fun E S => (f E S).bind fun x S1 => match x with
  | .int n => (match small24 n with
    | true => .ok (rng 0 n) S1
    | false => .stuck)
  | _ => .stuck
def vRng2 (f g : ME) : MA := fun E S => (f E S).bind fun x S1 => (g E S1).bind fun y S2 => match x, y with
  | .int i, .int j => (match small24 i && small24 j with
    | true => .ok (rng i j) S2
    | false => .stuck)
  | _, _ => .stuck
theorem rg_ok {i j : Int} (h : small24 i = true) (h' : small24 j = true) : RgOk i j := by
  obtain ⟨h1, h2⟩ := small24_iff h
  obtain ⟨h3, h4⟩ := small24_iff h'
  exact ⟨by omega, by omega, by omega, by omega, by omega⟩
theorem rg_1 (hg : Gl X "range") (hm : X.mg "range" = none) (ha : PE X a (RE X w f)) (na : starEach [a] X.env = (false, eval a X.env) :: starEach [] X.env := by rfl) : RgE X w (.Call (.Name "range" p) [a] [] pos) (vRng1 f) :=
  ⟨_, prg_1 hg hm ha na, fun σ H Q ⟨W, E, eH, s, en, q⟩ => ⟨W, E, eH, s, en, PostE.bind q fun W1 v d e1 s1 r1 q1 => by
    split at q1
    · rename_i n
      split at q1
      · rename_i hb
        cases r1
        exact ⟨n, rfl, q1 W1 (0, n) (Ext.refl _) rfl s1 ⟨rfl, rg_ok (i := 0) (by decide) hb⟩⟩
      · exact q1.elim
    · exact q1.elim⟩⟩
theorem rg_2 {b : Expr} (hg : Gl X "range") (hm : X.mg "range" = none) (ha : PE X a (RE X w f)) (hb : PE X b (RE X w g)) (na : starEach [a, b] X.env = (false, eval a X.env) :: starEach [b] X.env := by rfl) (nb : starEach [b] X.env = (false, eval b X.env) :: starEach [] X.env := by rfl) (hp : (backTo pos (starEach [b] X.env)).any (fun x => x.fst) = false := by rfl) :
    RgE X w (.Call (.Name "range" p) [a, b] [] pos) (vRng2 f g) :=
  ⟨_, prg_2 hg hm ha hb na nb hp, fun σ H Q ⟨W, E, eH, s, en, q⟩ => ⟨W, E, eH, s, en, PostE.bind q fun W1 v d e1 s1 r1 q1 => ⟨W1, E, rfl, s1, en.mono e1, PostE.bind q1 fun W2 v2 d2 e2 s2 r2 q2 => by
    split at q2
    · rename_i i j
      split at q2
      · rename_i hb
        rw [Bool.and_eq_true] at hb
        cases r1
        cases r2
        exact ⟨i, j, rfl, rfl, q2 W2 (i, j) (Ext.refl _) rfl s2 ⟨rfl, rg_ok hb.1 hb.2⟩⟩
      · exact q2.elim
    · exact q2.elim⟩⟩⟩
theorem rg_reps {K : PySem.W.Frag} {W : Wd} {a b : Int} : Reps K W (rgV a b) (rng a b) := by
  have gen : ∀ (n : Nat) (lo : Int), Reps K W ((List.range n).map fun i => V.int (lo + (i : Nat))) (rngFrom lo n) := by
    intro n
    induction n with
    | zero => intro lo; exact .nil
    | succ n ih =>
      intro lo
      rw [List.range_succ_eq_map, List.map_cons, List.map_map]
      refine .cons ?_ ?_
      · rw [show lo + ((0 : Nat) : Int) = lo from by omega]; exact .int lo
      · have := ih (lo + 1)
        refine cast (congrArg (fun l => Reps K W l (rngFrom (lo + 1) n)) ?_) this
        refine List.map_congr_left fun i _ => ?_
        show V.int (lo + 1 + (i : Nat)) = V.int (lo + ((i + 1 : Nat) : Int))
        rw [show lo + 1 + (i : Int) = lo + ((i + 1 : Nat) : Int) from by omega]
  exact gen _ _
def mListRg (mm : Bool) (g : MA) : ME := fun E S => (g E S).bind fun ys S1 => mkList mm ys S1
theorem m_listRg (mm : Bool) {g : MA} (hc : X.calm = true) (hg : Gl X "list") (hm : X.mg "list" = none) (he : RgE X w e g) (na : starEach [e] X.env = (false, eval e X.env) :: starEach [] X.env := by rfl) : PE X (.Call (.Name "list" p) [e] [] pos) (RE X w (mListRg mm g)) := by
  obtain ⟨te, h1, h2⟩ := he
  refine PE.imp (pe_listRg hc hg hm h1 na) fun σ H Q ⟨W, E, eH, s, en, q⟩ => h2 σ H _ ⟨W, E, eH, s, en, PostE.bind q fun W1 l ds e1 s1 r1 q1 => ?_⟩
  obtain ⟨rfl, ok⟩ := r1
  exact ⟨ok, fresh_q s1 rg_reps q1⟩
theorem m_tupRg {g : MA} (hc : X.calm = true) (hg : Gl X "tuple") (hm : X.mg "tuple" = none) (he : RgE X w e g) (na : starEach [e] X.env = (false, eval e X.env) :: starEach [] X.env := by rfl) : PE X (.Call (.Name "tuple" p) [e] [] pos) (RE X w (fun E S => (g E S).bind fun ys S1 => .ok (.tup ys) S1)) := by
  obtain ⟨te, h1, h2⟩ := he
  refine PE.imp (pe_tupRg hc hg hm h1 na) fun σ H Q ⟨W, E, eH, s, en, q⟩ => h2 σ H _ ⟨W, E, eH, s, en, PostE.bind q fun W1 l ds e1 s1 r1 q1 => ?_⟩
  obtain ⟨rfl, ok⟩ := r1
  exact ⟨ok, fun p hp => q1 (W1.lay p _) _ (Ext.lay hp) rfl (s1.lay hp) (lay_tup s1 hp rg_reps)⟩
end

/-! ### code that is never come to -/
def sStuck : MS := fun _ _ => .stuck
theorem m_never {X : Cx} {w : WX} {st : Stmt} : PS X st (RS X w sStuck) := PS.imp ps_never fun D σ H ⟨W, E, eH, s, en, q⟩ => q.elim
end Mi

/-! Mi: sorted, sets of ints, lists' methods. -/
namespace Mi
open PySem PySem.Spec PyProof.Rows L2
/-! ### sorting by insertion -/
section
variable {α : Type} (le : α → α → Bool)
def ins (x : α) : List α → List α
  | [] => [x]
  | y :: ys => match le x y with
    | true => x :: y :: ys
    | false => y :: ins x ys
def isort : List α → List α
  | [] => []
  | x :: xs => ins le x (isort xs)
variable {le}
theorem ins_mem {x z : α} : ∀ {l : List α}, z ∈ ins le x l → z = x ∨ z ∈ l
  | [], h => by
    rcases List.mem_cons.mp h with h | h
    · exact .inl h
    · exact .inr h
  | y :: ys, h => by
    unfold ins at h
    split at h
    · rcases List.mem_cons.mp h with h | h
      · exact .inl h
      · exact .inr h
    · rcases List.mem_cons.mp h with h | h
      · exact .inr (by rw [h]; exact List.mem_cons_self)
      · rcases ins_mem h with h | h
        · exact .inl h
        · exact .inr (List.mem_cons_of_mem _ h)
theorem ins_sorted (T : PySem.W.TotalLe le) {x : α} : ∀ {l : List α}, l.Pairwise (fun a b => le a b = true) → (ins le x l).Pairwise (fun a b => le a b = true)
  | [], _ => List.pairwise_singleton _ _
  | y :: ys, h => by
    obtain ⟨h1, h2⟩ := List.pairwise_cons.mp h
    unfold ins
    split
    · rename_i e
      refine List.pairwise_cons.mpr ⟨fun z hz => ?_, h⟩
      rcases List.mem_cons.mp hz with hz | hz
      · rw [hz]; exact e
      · exact T.trans x y z e (h1 z hz)
    · rename_i e
      refine List.pairwise_cons.mpr ⟨fun z hz => ?_, ins_sorted T h2⟩
      rcases ins_mem hz with hz | hz
      · rw [hz]
        rcases T.total x y with q | q
        · rw [q] at e; cases e
        · exact q
      · exact h1 z hz
theorem isort_sorted (T : PySem.W.TotalLe le) : ∀ l : List α, (isort le l).Pairwise (fun a b => le a b = true)
  | [] => .nil
  | _ :: xs => ins_sorted T (isort_sorted T xs)
theorem ins_filter (T : PySem.W.TotalLe le) {x c : α} : ∀ {l : List α}, (ins le x l).filter (PySem.W.sameRank le c) = (x :: l).filter (PySem.W.sameRank le c)
  | [] => rfl
  | y :: ys => by
    unfold ins
    split
    · rfl
    · rename_i e
      rw [List.filter_cons, ins_filter T, List.filter_cons, List.filter_cons, List.filter_cons]
      by_cases hx : PySem.W.sameRank le c x = true
      · by_cases hy : PySem.W.sameRank le c y = true
        · exfalso
          unfold PySem.W.sameRank at hx hy
          rw [Bool.and_eq_true] at hx hy
          rw [T.trans x c y hx.2 hy.1] at e
          cases e
        · rw [if_pos hx, if_neg hy, if_neg hy, if_pos hx]
      · rw [if_neg hx, if_neg hx]
theorem isort_filter (T : PySem.W.TotalLe le) {c : α} : ∀ l : List α, (isort le l).filter (PySem.W.sameRank le c) = l.filter (PySem.W.sameRank le c)
  | [] => rfl
  | x :: xs => by
    show (ins le x (isort le xs)).filter _ = _
    rw [ins_filter T, List.filter_cons, List.filter_cons, isort_filter T xs]
theorem isort_eq (T : PySem.W.TotalLe le) (l : List α) : isort le l = l.mergeSort le := PySem.W.sort_unique T (isort_sorted T l) fun _ => isort_filter T l
theorem isort_mem : ∀ {l : List α} {z : α}, z ∈ isort le l → z ∈ l
  | [], _, h => h
  | x :: xs, z, h => by
    rcases ins_mem h with h | h
    · rw [h]; exact List.mem_cons_self
    · exact List.mem_cons_of_mem _ (isort_mem h)
end
/-! ### sorted -/
def rSortedP (K : PySem.W.Frag) : List V → Hp → VK → Prop := fun vs H Q => ∃ (a : Addr) (bs : List (V × PyData)), vs = [.ref a] ∧ SqL K H a (bs.map (·.1)) ∧ (∀ b ∈ bs, Dp K H b.1 b.2 ∧ b.2.depth ≤ 60) ∧ PySem.W.AllAlike (bs.map (·.2)) ∧ PySem.W.Sortable (bs.map (·.2)) ∧ bs.length ≤ 10000000 ∧
  ∀ p, H p = none → Q (.ref p) (upd H p (.lst ((bs.mergeSort (PySem.W.dataLe false (·.2))).map (·.1))))
theorem each_of {K : PySem.W.Frag} {R : Value → V × PyData → Prop} : ∀ {bs : List (V × PyData)} {us : List Value}, Vals (bs.map (·.1)) us → (∀ b ∈ bs, ∀ u, RelV b.1 u → R u b) → PySem.W.EachIs R us bs
  | [], _, r, _ => by cases r; exact .nil
  | b :: bs, _, r, h => by
    cases r with
    | cons a t => exact .cons (h b List.mem_cons_self _ a) (each_of (K := K) t fun c hc => h c (List.mem_cons_of_mem _ hc))
theorem vals_each : ∀ {bs : List (V × PyData)} {us : List Value}, PySem.W.EachIs (fun (u : Value) (b : V × PyData) => RelV b.1 u) us bs → Vals (bs.map (·.1)) us
  | _, _, .nil => .nil
  | _, _, .cons a t => .cons a (vals_each t)
section
variable {X : Cx}
theorem cr_sortedP (hu : X.A.units + 64 < cLine) : CallR X (.builtin "sorted") (rSortedP X.K) := by
  intro pins s σ H vs us Q I r h
  obtain ⟨a, bs, rfl, hs, hd, hal, hk, hz, q⟩ := h
  obtain ⟨its, rv, hl, _⟩ := I.list hs
  rw [Vals.ref1 r]
  have hlen : bs.length ≤ sizeLine := Nat.le_trans hz (by decide)
  refine PySem.W.sorted_data (enc := fun b : V × PyData => b.2) (R := fun (u : Value) (b : V × PyData) => RelV b.1 u) hl.isList (each_of (K := X.K) rv fun b _ u hu => hu) (each_of (K := X.K) rv fun b hb u hu => Dp.reads I b.2 b.1 u (hd b hb).1 hu) hal hk hlen (fun b hb => by have := (hd b hb).2; omega) fun out h1 h2 => ?_
  obtain ⟨ep, he'⟩ := PyProof.Rows.sortedAll_at s.heap its (List.toArray out)
  have hv := vals_each h2
  refine ⟨.ref _, upd H (s.heap.objs.size + 1) (.lst _), I.laid (t' := s.toks) (fun _ _ => PyProof.Rows.sortedAll_old) (Nat.le_succ _) ⟨?_, (List.toArray out).toList, ep, by simpa using hv, he'⟩, rfl, q _ (I.hok.fresh (Nat.le_succ _))⟩
  rw [hv.length, h1]; exact hlen
end
def alikeAllB : List PyData → List PyData → Bool
  | [], _ => true
  | p :: ps, qs => qs.all (fun q => PySem.W.alike p q) && alikeAllB ps qs
theorem alikeAllB_of : ∀ {ps qs : List PyData}, alikeAllB ps qs = true → ∀ p ∈ ps, ∀ q ∈ qs, PySem.W.alike p q = true
  | [], _, _, p, hp, _, _ => nomatch hp
  | x :: ps, qs, h, p, hp, q, hq => by
    unfold alikeAllB at h
    rw [Bool.and_eq_true] at h
    rcases List.mem_cons.mp hp with e | hp
    · rw [e]; exact List.all_eq_true.mp h.1 q hq
    · exact alikeAllB_of h.2 p hp q hq
def tupNE : PyData → Bool
  | .tuple (_ :: _) => true
  | _ => false
def notTN : PyData → Bool
  | .none => false
  | .tuple _ => false
  | _ => true
def sortOkB (ps : List PyData) : Bool := alikeAllB ps ps && (ps.all tupNE || ps.all notTN)
theorem sortOk_of {ps : List PyData} (h : sortOkB ps = true) : PySem.W.AllAlike ps ∧ PySem.W.Sortable ps := by
  unfold sortOkB at h
  rw [Bool.and_eq_true, Bool.or_eq_true] at h
  refine ⟨fun d hd d' hd' => alikeAllB_of h.1 d hd d' hd', ?_⟩
  rcases h.2 with h | h
  · refine .inl fun d hd => ?_
    have := List.all_eq_true.mp h d hd
    unfold tupNE at this
    split at this
    · exact ⟨_, _, rfl⟩
    · cases this
  · refine .inr fun d hd => ?_
    have := List.all_eq_true.mp h d hd
    unfold notTN at this
    split at this
    · cases this
    · cases this
    · rename_i h1 h2
      exact ⟨h1, h2⟩
def leP (a b : D × PyData) : Bool := !PySem.W.dataLt b.2 a.2
def mSorted (mm : Bool) (f : ME) : ME := fun E S => (f E S).bind fun x S1 => match lstR S1 x with
  | some xs => (match mapO (toPy dep) xs with
    | some ps => (match big xs.length && sortOkB ps with
      | true => mkList mm ((isort leP (xs.zip ps)).map (·.1)) S1
      | false => .stuck)
    | none => .stuck)
  | none => .stuck
theorem mapO_len {α β : Type} {f : α → Option β} : ∀ {xs : List α} {ys : List β}, mapO f xs = some ys → ys.length = xs.length
  | [], _, h => by cases h; rfl
  | x :: xs, ys, h => by
    unfold mapO at h
    split at h
    · cases h
    · split at h
      · cases h
      · rename_i zs hz
        cases h
        rw [List.length_cons, List.length_cons, mapO_len hz]
theorem zip3_rep {K : PySem.W.Frag} {W : Wd} : ∀ {vs : List V} {xs : List D} {ps : List PyData}, Reps K W vs xs → mapO (toPy dep) xs = some ps →
    ∃ bs : List (V × (D × PyData)), bs.map (·.1) = vs ∧ bs.map (·.2) = xs.zip ps ∧ bs.map (·.2.2) = ps ∧ ∀ b ∈ bs, Rep K W b.1 b.2.1 ∧ Dp K W.H b.1 b.2.2 ∧ b.2.2.depth ≤ dep
  | _, _, _, .nil, h => by cases h; exact ⟨[], rfl, rfl, rfl, fun b hb => nomatch hb⟩
  | _, _, _, .cons (v := v) (d := d) r t, h => by
    unfold mapO at h
    split at h
    · cases h
    · rename_i y hy
      split at h
      · cases h
      · rename_i ys hys
        cases h
        obtain ⟨bs, h1, h2, h3, h4⟩ := zip3_rep t hys
        obtain ⟨a, b⟩ := toPy_ok _ _ _ _ r hy
        refine ⟨(v, (d, y)) :: bs, by rw [List.map_cons, h1], by rw [List.map_cons, h2]; rfl, by rw [List.map_cons, h3], fun c hc => ?_⟩
        rcases List.mem_cons.mp hc with e | hc
        · rw [e]; exact ⟨r, a, b⟩
        · exact h4 c hc
theorem leP_total : PySem.W.TotalLe leP := PySem.W.sortLe_total (PyProof.Rows.listOrd PyProof.Rows.itemOrd) false fun b : D × PyData => PySem.W.keyToks b.2
section
variable {X : Cx} {w : WX} {a e : Expr} {p p2 pos pos2 : Pos} {f g : ME}
theorem reps_map {K : PySem.W.Frag} {W : Wd} : ∀ {bs : List (V × (D × PyData))}, (∀ b ∈ bs, Rep K W b.1 b.2.1) → Reps K W (bs.map (·.1)) (bs.map (·.2.1))
  | [], _ => .nil
  | b :: bs, h => .cons (h b List.mem_cons_self) (reps_map fun c hc => h c (List.mem_cons_of_mem _ hc))
theorem m_sorted (mm : Bool) (hu : X.A.units + 64 < cLine) (hg : Gl X "sorted") (hm : X.mg "sorted" = none) (ha : PE X a (RE X w f)) (hs : starEach [a] X.env = (false, eval a X.env) :: starEach [] X.env := by rfl) (hpl : (backTo pos (starEach [] X.env)).any (·.1) = false := by rfl) : PE X (.Call (.Name "sorted" p) [a] [] pos) (RE X w (mSorted mm f)) :=
  PE.imp (pe_callB (cr_sortedP hu) hg hm (by decide +kernel) (pa_cons ha pa_nil hs) (by decide) (by decide) hs hpl) fun σ H Q ⟨W, E, eH, s, en, q⟩ => ⟨W, E, eH, s, en, PostE.bind q fun W1 v d e1 s1 r1 q1 => by
    split at q1
    · rename_i xs hx
      split at q1
      · rename_i ps hps
        split at q1
        · rename_i hb
          rw [Bool.and_eq_true] at hb
          obtain ⟨hb1, hb2⟩ := hb
          obtain ⟨hal, hsb⟩ := sortOk_of hb2
          obtain ⟨a, vs, rfl, hl, rr⟩ := lstR_of s1 r1 hx
          obtain ⟨bs, h1, h2, h3, h4⟩ := zip3_rep rr hps
          have e2 : (bs.map fun b : V × (D × PyData) => (b.1, b.2.2)).map (·.2) = ps := by rw [List.map_map]; exact h3
          have e1 : (bs.map fun b : V × (D × PyData) => (b.1, b.2.2)).map (·.1) = vs := by rw [List.map_map]; exact h1
          have hbl : bs.length = xs.length := by
            have h := congrArg List.length h1
            rw [List.length_map] at h
            rw [h, rr.length]
          refine ⟨a, bs.map fun b => (b.1, b.2.2), rfl, by rw [e1]; exact hl, fun b hb => ?_, by rw [e2]; exact hal, by rw [e2]; exact hsb, by rw [List.length_map, hbl]; exact Nat.le_of_ble_eq_true hb1, ?_⟩
          · obtain ⟨c, hc, rfl⟩ := List.mem_map.mp hb
            obtain ⟨_, a2, a3⟩ := h4 c hc
            exact ⟨a2, Nat.le_trans a3 (by decide)⟩
          · have k1 : (bs.map fun b : V × (D × PyData) => (b.1, b.2.2)).mergeSort (PySem.W.dataLe false (·.2)) = (bs.mergeSort fun b c => leP b.2 c.2).map fun b => (b.1, b.2.2) :=
              (PySem.W.sort_maps (r := fun b c : V × (D × PyData) => leP b.2 c.2) (fun b : V × (D × PyData) => (b.1, b.2.2)) fun _ _ _ _ => rfl).symm
            have k2 : (bs.mergeSort fun b c => leP b.2 c.2).map (·.2) = isort leP (xs.zip ps) := by
              rw [isort_eq leP_total, ← h2]
              exact PySem.W.sort_maps (r := fun b c : V × (D × PyData) => leP b.2 c.2) (s := leP) (·.2) fun _ _ _ _ => rfl
            rw [k1, List.map_map]
            have k3 : (isort leP (xs.zip ps)).map (·.1) = (bs.mergeSort fun b c => leP b.2 c.2).map (·.2.1) := by
              rw [← k2, List.map_map]; rfl
            rw [k3] at q1
            refine fresh_q s1 (reps_map fun b hb => (h4 b ?_).1) q1
            exact List.mem_mergeSort.mp hb
        · exact q1.elim
      · exact q1.elim
    · exact q1.elim⟩
end

/-! ### sorted(set(a tuple of ints)) -/
def rSetI (K : PySem.W.Frag) (w : World) : List V → Hp → VK → Prop := fun xs H Q => ∃ (a : Addr) (ns : List Int), xs = [.ref a] ∧ SqT K H a (ns.map V.int) ∧ ns.length < 60 ∧ ∀ p c, H p = none → c ≤ ns.length → Q (.ref p) (upd H p (SetO w p (fun j => decide (j ∈ ns)) c))
theorem cr_setI {X : Cx} (hc : X.calm = true) : CallR X (.type "set") (rSetI X.K X.w) := by
  intro pins s σ H vs us Q I r h
  obtain ⟨a, ns, rfl, hs, hz, q⟩ := h
  obtain ⟨its, rv, ht, _⟩ := I.tuple hs
  rw [Vals.ref1 r]
  refine call_set_tupI ns (I.ok.hd hc) ht (by simpa using rv.ints) (by unfold scanBound; omega) fun h' tk c hR hcl k => ?_
  have hn : H s.heap.objs.size = none := I.hok.fresh (Nat.le_refl _)
  exact ⟨.ref _, _, I.laid (t' := tk) k (Nat.le_refl _) (setO_new hR), rfl, q _ c hn hcl⟩
def insU (x : Int) : List Int → List Int
  | [] => [x]
  | y :: ys => if x < y then x :: y :: ys else if x = y then y :: ys else y :: insU x ys
def usort : List Int → List Int
  | [] => []
  | x :: xs => insU x (usort xs)
theorem insU_mem {x z : Int} : ∀ {l : List Int}, z ∈ insU x l ↔ z = x ∨ z ∈ l
  | [] => by unfold insU; simp
  | y :: ys => by
    unfold insU
    split
    · simp
    · split
      · rename_i h; subst h; simp
      · have := insU_mem (x := x) (z := z) (l := ys)
        simp only [List.mem_cons, this]
        constructor
        · rintro (h | h | h)
          · exact .inr (.inl h)
          · exact .inl h
          · exact .inr (.inr h)
        · rintro (h | h | h)
          · exact .inr (.inl h)
          · exact .inl h
          · exact .inr (.inr h)
theorem insU_sorted {x : Int} : ∀ {l : List Int}, l.Pairwise (· < ·) → (insU x l).Pairwise (· < ·)
  | [], _ => List.pairwise_singleton _ _
  | y :: ys, h => by
    obtain ⟨h1, h2⟩ := List.pairwise_cons.mp h
    unfold insU
    split
    · rename_i e
      refine List.pairwise_cons.mpr ⟨fun z hz => ?_, h⟩
      rcases List.mem_cons.mp hz with hz | hz
      · rw [hz]; exact e
      · have := h1 z hz; omega
    · split
      · exact h
      · rename_i e1 e2
        refine List.pairwise_cons.mpr ⟨fun z hz => ?_, insU_sorted h2⟩
        rcases insU_mem.mp hz with hz | hz
        · omega
        · exact h1 z hz
theorem usort_mem {z : Int} : ∀ {l : List Int}, z ∈ usort l ↔ z ∈ l
  | [] => Iff.rfl
  | x :: xs => by
    show z ∈ insU x (usort xs) ↔ _
    rw [insU_mem, usort_mem, List.mem_cons]
theorem usort_sorted : ∀ l : List Int, (usort l).Pairwise (· < ·)
  | [] => .nil
  | _ :: xs => insU_sorted (usort_sorted xs)
theorem sorted_ext : ∀ {l m : List Int}, l.Pairwise (· < ·) → m.Pairwise (· < ·) → (∀ z, z ∈ l ↔ z ∈ m) → l = m
  | [], [], _, _, _ => rfl
  | [], y :: m, _, _, h => nomatch (h y).mpr List.mem_cons_self
  | x :: l, [], _, _, h => nomatch (h x).mp List.mem_cons_self
  | x :: l, y :: m, hl, hm, h => by
    obtain ⟨l1, l2⟩ := List.pairwise_cons.mp hl
    obtain ⟨m1, m2⟩ := List.pairwise_cons.mp hm
    have e : x = y := by
      rcases List.mem_cons.mp ((h x).mp List.mem_cons_self) with e | e
      · exact e
      · rcases List.mem_cons.mp ((h y).mpr List.mem_cons_self) with e' | e'
        · exact e'.symm
        · have a := m1 x e
          have b := l1 y e'
          omega
    subst e
    congr 1
    refine sorted_ext l2 m2 fun z => ⟨fun hz => ?_, fun hz => ?_⟩
    · rcases List.mem_cons.mp ((h z).mp (List.mem_cons_of_mem _ hz)) with e | e
      · have := l1 z hz; omega
      · exact e
    · rcases List.mem_cons.mp ((h z).mpr (List.mem_cons_of_mem _ hz)) with e | e
      · have := m1 z hz; omega
      · exact e
def mSortSet (mm : Bool) (f : ME) : ME := fun E S => (f E S).bind fun x S1 => match x with
  | .tup xs => (match intsOf xs with
    | some ns => (match Nat.blt ns.length 60 with
      | true => mkList mm ((usort ns).map .int) S1
      | false => .stuck)
    | none => .stuck)
  | _ => .stuck
theorem ints_reps {K : PySem.W.Frag} {W : Wd} : ∀ ns : List Int, Reps K W (ns.map V.int) (ns.map D.int)
  | [] => .nil
  | i :: ns => .cons (.int i) (ints_reps ns)
section
variable {X : Cx} {w : WX} {a e : Expr} {p p2 pos pos2 : Pos} {f g : ME}
theorem m_sortSet (mm : Bool) (hc : X.calm = true) (hg : Gl X "sorted") (hm : X.mg "sorted" = none) (hg2 : Gl X "set") (hm2 : X.mg "set" = none) (ha : PE X a (RE X w f)) (hs : starEach [a] X.env = (false, eval a X.env) :: starEach [] X.env := by rfl) (hpl : (backTo pos2 (starEach [] X.env)).any (·.1) = false := by rfl)
    (hs2 : starEach [.Call (.Name "set" p2) [a] [] pos2] X.env = (false, eval (.Call (.Name "set" p2) [a] [] pos2) X.env) :: starEach [] X.env := by rfl) (hpl2 : (backTo pos (starEach [] X.env)).any (·.1) = false := by rfl) : PE X (.Call (.Name "sorted" p) [.Call (.Name "set" p2) [a] [] pos2] [] pos) (RE X w (mSortSet mm f)) :=
  PE.imp (pe_callB (cr_sortedSet hc) hg hm (by decide +kernel) (pa_cons (pe_callTy (cr_setI hc) hg2 hm2 (by decide +kernel) (pa_cons ha pa_nil hs) (by decide) (by decide) hs hpl) pa_nil hs2) (by decide) (by decide) hs2 hpl2) fun σ H Q ⟨W, E, eH, s, en, q⟩ => ⟨W, E, eH, s, en, PostE.bind q fun W1 v d e1 s1 r1 q1 => by
    split at q1
    · rename_i xs
      split at q1
      · rename_i ns hn
        split at q1
        · rename_i hb
          have hb := Nat.le_of_ble_eq_true hb
          obtain ⟨a, vs, rfl, _, ha, rr⟩ := tup_of r1
          have e := ints_of rr hn
          subst e
          refine ⟨a, ns, rfl, ha, hb, fun p c hp hcl => ⟨p, _, c, rfl, upd_same, by have : ns.length + 1 ≤ 60 := hb; omega, fun ms q hms hmem hlen hq => ?_⟩⟩
          have em : ms = usort ns := sorted_ext hms (usort_sorted ns) fun z => by rw [hmem, usort_mem, decide_eq_true_iff]
          subst em
          exact fresh_q (W := W1.lay p _) (s1.lay hp) (ints_reps _) (PostE.ext (Ext.lay hp) q1) q hq
        · exact q1.elim
      · exact q1.elim
    · exact q1.elim⟩
end

/-! ### methods of a list of the store -/
def isMl (S : Sto) : D → Bool
  | .ref c => (match S.get c with
    | some (.ml _) => true
    | _ => false)
  | _ => false
def appTo (o x : D) (S : Sto) : Res D := match o with
  | .ref c => (match S.get c with
    | some (.ml xs) => (match big xs.length with
      | true => .ok .non (S.put c (.ml (xs ++ [x])))
      | false => .stuck)
    | _ => .stuck)
  | _ => .stuck
def mAppend (f g : ME) : ME := fun E S => (f E S).bind fun o S1 => match isMl S1 o with
  | true => (g E S1).bind fun x S2 => appTo o x S2
  | false => .stuck
def mPop (f : ME) : ME := fun E S => (f E S).bind fun o S1 => match o with
  | .ref c => (match S1.get c with
    | some (.ml xs) => (match xs[xs.length - 1]? with
      | some x => .ok x (S1.put c (.ml xs.dropLast))
      | none => .stuck)
    | _ => .stuck)
  | _ => .stuck
theorem Reps.dropLast {K : PySem.W.Frag} {W : Wd} {vs : List V} {ds : List D} (h : Reps K W vs ds) : Reps K W vs.dropLast ds.dropLast := by
  rw [List.dropLast_eq_take, List.dropLast_eq_take, h.length]
  exact h.take _
section
variable {X : Cx} {w : WX} {o e : Expr} {pos : Pos} {f g : ME}
theorem ty_ml {K : PySem.W.Frag} {W : Wd} {v : V} {d : D} (s : StOk K W) (r : Rep K W v d) (h : isMl W.S d = true) : tyV K "list" v W.H := by
  unfold isMl at h
  split at h
  · rename_i c
    split at h
    · rename_i xs hg
      cases r with
      | ref hc ha =>
        obtain ⟨_, ob, ho, rc⟩ := s.cell _ _ hg
        cases rc with
        | @ml vs _ rr => exact .inl ⟨rfl, _, SqL.of (by rw [ha]; exact ho)⟩
    · cases h
  · cases h
theorem m_append (hp : PE X e (tBM X.K "list" rAppend (RE X w f) (tCons (RE X w g) tNil))) : PE X e (RE X w (mAppend f g)) := PE.imp hp fun σ H Q ⟨W, E, eH, s, en, q⟩ => ⟨W, E, eH, s, en, PostE.bind q fun W1 v d e1 s1 r1 q1 => by
  split at q1
  · rename_i hml
    refine ⟨ty_ml s1 r1 hml, W1, E, rfl, s1, en.mono e1, PostE.bind q1 fun W2 v2 d2 e2 s2 r2 q2 => ?_⟩
    have r1' := r1.mono e2
    unfold appTo at q2
    split at q2
    · rename_i c
      split at q2
      · rename_i xs hg
        split at q2
        · rename_i hb
          cases r1' with
          | ref hc ha =>
            obtain ⟨_, ob, ho, rc⟩ := s2.cell _ _ hg
            cases rc with
            | @ml vs _ rr =>
              refine ⟨_, vs, v2, rfl, rfl, by rw [ha]; exact ho, by rw [rr.length]; exact big_lt hb, ?_⟩
              have := q2 (W2.wr c (.lst (vs ++ [v2])) (.ml (xs ++ [d2]))) .non (Ext.wr s2 hg) rfl (s2.wr hg (.ml (rr.append (.cons r2 .nil)))) .non
              rw [ha]
              exact this
        · exact q2.elim
      · exact q2.elim
    · exact q2.elim
  · exact q1.elim⟩
theorem m_pop (hp : PE X e (tBM0 X.K "list" rPop (RE X w f))) : PE X e (RE X w (mPop f)) := PE.imp hp fun σ H Q ⟨W, E, eH, s, en, q⟩ => ⟨W, E, eH, s, en, PostE.bind q fun W1 v d e1 s1 r1 q1 => by
  split at q1
  · rename_i c
    split at q1
    · rename_i xs hg
      split at q1
      · rename_i x hx
        refine ⟨ty_ml s1 r1 (show (match W1.S.get c with | some (.ml _) => true | _ => false) = true from by rw [hg]), ?_⟩
        cases r1 with
        | ref hc ha =>
          obtain ⟨_, ob, ho, rc⟩ := s1.cell _ _ hg
          cases rc with
          | @ml vs _ rr =>
            obtain ⟨y, hy, ry⟩ := rr.get hx
            refine ⟨_, vs, y, rfl, rfl, by rw [ha]; exact ho, by rw [rr.length]; exact hy, ?_⟩
            have := q1 (W1.wr c (.lst vs.dropLast) (.ml xs.dropLast)) y (Ext.wr s1 hg) rfl (s1.wr hg (.ml rr.dropLast)) (ry.mono (Ext.wr s1 hg))
            rw [ha]
            exact this
      · exact q1.elim
    · exact q1.elim
  · exact q1.elim⟩
end

/-! ### a def that writes cells but leaves none behind -/
def flatC : Cell → Bool
  | .ml xs => flats xs
  | .ins _ fs => flats (fs.map (·.2))
def below (n : Nat) : List (Nat × Cell) → Option (List (Nat × Cell))
  | [] => some []
  | (i, c) :: r => match below n r with
    | none => none
    | some l => match Nat.blt i n with
      | true => (match flatC c with
        | true => some ((i, c) :: l)
        | false => none)
      | false => some l
/-- all cells that were there (and have nothing but data within) stay, the new ones are forgotten -/
def regF (F : MF) : MF := fun ds S => match F ds S with
  | .ok d S' => (match flat d with
    | true => (match below S.next S'.cells with
      | some l => .ok d ⟨S.next, l⟩
      | none => .stuck)
    | false => .stuck)
  | .exc x S' => .stuck
  | .stuck => .stuck
theorem below_get {n : Nat} : ∀ {l l' : List (Nat × Cell)} {i : Nat} {c : Cell}, below n l = some l' → getL i l' = some c → i < n ∧ getL i l = some c ∧ flatC c = true
  | [], _, i, c, h, g => by cases h; cases g
  | (j, d) :: r, l', i, c, h, g => by
    unfold below at h
    split at h
    · cases h
    · rename_i m hm
      split at h
      · rename_i hlt
        split at h
        · rename_i hf
          cases h
          unfold getL at g ⊢
          by_cases hj : j = i
          · rw [if_pos hj] at g ⊢
            cases g
            exact ⟨by rw [← hj]; exact Nat.le_of_ble_eq_true hlt, rfl, hf⟩
          · rw [if_neg hj] at g ⊢
            exact below_get hm g
        · cases h
      · rename_i hlt
        cases h
        obtain ⟨h1, h2, h3⟩ := below_get hm g
        refine ⟨h1, ?_, h3⟩
        unfold getL
        rw [if_neg ?_]
        · exact h2
        · rintro rfl
          have : Nat.blt j n = true := by
            rw [Nat.blt_eq]; exact h1
          rw [this] at hlt; cases hlt
theorem RepC.flat {K : PySem.W.Frag} {W W' : Wd} {o : HO} {c : Cell} (hH : ∀ a o, W.H a = some o → ¬ W.Live a → W'.H a = some o) (hL : ∀ a o, W.H a = some o → ¬ W.Live a → ¬ W'.Live a) (f : flatC c = true) (r : RepC K W o c) : RepC K W' o c := by
  cases r with
  | ml r => exact .ml (Reps.flat hH hL f r)
  | ins h r => exact .ins h (Reps.flat hH hL f r)
theorem sp_reg {K : PySem.W.Frag} {mg : Str → Option Value} {F : MF} {vs : List V} {H : Hp} {Q : VK} {E : XK} (h : spF K mg (regF F) vs H Q E) : spF K mg F vs H Q E := by
  obtain ⟨W, ds, eH, s, r, q⟩ := h
  refine ⟨W, ds, eH, s, r, ?_⟩
  unfold regF at q
  cases hF : F ds W.S with
  | stuck => rw [hF] at q; exact q
  | exc x S' => rw [hF] at q; exact q.elim
  | ok d S' =>
    rw [hF] at q
    have q : PostE K mg (Rep K) E W (match flat d with | true => (match below W.S.next S'.cells with | some l => .ok d ⟨W.S.next, l⟩ | none => .stuck) | false => .stuck) Q := q
    cases hf : flat d with
    | false => rw [hf] at q; exact q.elim
    | true =>
      rw [hf] at q
      have q : PostE K mg (Rep K) E W (match below W.S.next S'.cells with | some l => .ok d ⟨W.S.next, l⟩ | none => .stuck) Q := q
      cases hb : below W.S.next S'.cells with
      | none =>
        have q' : PostE K mg (Rep K) E W (match below W.S.next S'.cells with | some l => .ok d ⟨W.S.next, l⟩ | none => .stuck) Q := q
        rw [hb] at q'; exact q'.elim
      | some l =>
        have q3 : PostE K mg (Rep K) E W (.ok d ⟨W.S.next, l⟩) Q := by
          have q' : PostE K mg (Rep K) E W (match below W.S.next S'.cells with | some l => .ok d ⟨W.S.next, l⟩ | none => .stuck) Q := q
          rw [hb] at q'
          exact q'
        intro W1 v e hS s1 r1
        subst hS
        have hg : ∀ i c, getL i l = some c → i < W.S.next ∧ W1.S.get i = some c ∧ flatC c = true := fun i c g => below_get hb g
        have lv : ∀ a, (Wd.mk W1.ρ ⟨W.S.next, l⟩ W1.H W1.P).Live a → W1.Live a := fun a l' => by
          rcases l' with l' | ⟨i, c, g, z⟩
          · exact .inl l'
          · exact .inr ⟨i, c, (hg i c g).2.1, z⟩
        refine q3 ⟨W1.ρ, ⟨W.S.next, l⟩, W1.H, W1.P⟩ v ⟨⟨e.keep, fun a l' => e.live a (lv a l'), e.rho, Nat.le_refl _⟩, e.own, e.priv⟩ rfl ⟨fun i c g => ?_, fun i j c c' g g' z => ?_, fun i c g => ?_, s1.ownd⟩ ?_
        · obtain ⟨h1, h2, h3⟩ := hg i c g
          obtain ⟨_, o, ho, rc⟩ := s1.cell i c h2
          exact ⟨h1, o, ho, RepC.flat (W := W1) (fun _ _ h _ => h) (fun a o h n l' => n (lv a l')) h3 rc⟩
        · exact s1.inj i j c c' (hg i c g).2.1 (hg j c' g').2.1 z
        · exact s1.apart i c (hg i c g).2.1
        · exact Rep.flat (W := W1) (W' := ⟨W1.ρ, ⟨W.S.next, l⟩, W1.H, W1.P⟩) (fun _ _ h _ => h) (fun a o h n l' => n (lv a l')) hf r1
theorem ok_reg {P : Program} {w : World} {K : PySem.W.Frag} {mg : Str → Option Value} {base : Heap} {CX : CXT} {k : Nat} {f : Addr} {fd : FuncData} {ps : List Str} {F : MF} (G : FnOk P w K mg base CX k f fd ps (spF K mg F)) : FnOk P w K mg base CX k f fd ps (spF K mg (regF F)) :=
  G.imp fun _ _ _ _ h => sp_reg h
end Mi

/-! Mi: defs by name. -/
namespace Mi
open PySem PySem.Spec PyProof.Rows L2
structure Dfn (K : PySem.W.Frag) (mg : Str → Option Value) (x : Str) (st : Stmt) (ps : List Str) (f : Addr) (fd : FuncData) : Prop where
  F : Fun K x x st f fd
  g : mg x = some (.ref f)
  b : Binds K fd ps []
def Dfx (K : PySem.W.Frag) (mg : Str → Option Value) (x : Str) (st : Stmt) (ps : List Str) : Prop := ∃ f fd, Dfn K mg x st ps f fd
def Ok (P : Program) (w : World) (K : PySem.W.Frag) (mg : Str → Option Value) (base : Heap) (k : Nat) (x : Str) (st : Stmt) (ps : List Str) (F : MF) : Prop :=
  ∃ f fd, Dfn K mg x st ps f fd ∧ FnOk P w K mg base (L2.CX P w) k f fd ps (spF K mg F)
section
variable {P : Program} {w : World} {K : PySem.W.Frag} {mg : Str → Option Value} {base : Heap} {k j : Nat} {x : Str} {st : Stmt} {ps : List Str} {F : MF}
theorem Ok.mono (h : Ok P w K mg base j x st ps F) (hk : j ≤ k) : Ok P w K mg base k x st ps F := by
  obtain ⟨f, fd, d, G⟩ := h
  exact ⟨f, fd, d, G.mono hk⟩
theorem Ok.stuck (h : Dfx K mg x st ps) : Ok P w K mg base k x st ps (fun _ _ => .stuck) := by
  obtain ⟨f, fd, d⟩ := h
  exact ⟨f, fd, d, ⟨fun vs H Q E ⟨_, _, _, _, _, q⟩ => q.elim, fun A outer s H args us vs Q E _ _ _ _ ⟨_, _, _, _, _, q⟩ => q.elim⟩⟩
theorem Ok.mk {N : List Str} {body : MS} (h : Dfx K mg x st ps) (S : FnScope N ps (defScope st))
    (hbody : ∀ (f : Addr) (cdv : Value) (A : Around) (outer : List PySem.Env) (s : Shared) (H : Hp) (E : XK), Ctx (cxOf (L2.CX P w) P w K mg base N x (defScope st) f cdv A outer s H E) k (wE E) →
      PSs (cxOf (L2.CX P w) P w K mg base N x (defScope st) f cdv A outer s H E) (defBody st) (rdS K mg (wE E) body)) : Ok P w K mg base (k + 1) x st ps (mDef N.length ps.length body) := by
  obtain ⟨f, fd, d⟩ := h
  exact ⟨f, fd, d, ok_def d.F S fun cdv A outer s H E c => hbody f cdv A outer s H E c⟩
theorem Ok.pure (h : Ok P w K mg base k x st ps F) : Ok P w K mg base k x st ps (pureF F) := by
  obtain ⟨f, fd, d, G⟩ := h
  exact ⟨f, fd, d, ok_pure G⟩
theorem Ok.reg (h : Ok P w K mg base k x st ps F) : Ok P w K mg base k x st ps (regF F) := by
  obtain ⟨f, fd, d, G⟩ := h
  exact ⟨f, fd, d, ok_reg G⟩
end
section
variable {X : Cx} {w : WX} {k : Nat} {ps : List Str} {F : MF} {x : Str} {st : Stmt} {p pos : Pos} {e : Expr} {es : List Expr} {g : MA}
theorem m_callO (G : Ok X.prog X.w X.K X.mg X.base k x st ps F) (hr : Room k X.A) (tk : Takes X w) (hg : Gl X x) (ha : PA X (e :: es) (RA X w g))
    (hdb : (x == ("__debug__" : Str)) = false := by decide) (he : starEach (e :: es) X.env = (false, eval e X.env) :: starEach es X.env := by rfl) (hpl : (backTo pos (starEach es X.env)).any (·.1) = false := by rfl) :
    PE X (.Call (.Name x p) (e :: es) [] pos) (RE X w (mCall F g)) := by
  obtain ⟨f, fd, d, G⟩ := G
  exact m_call G hr tk hg d.g d.F.kp d.b ha hdb he hpl
end
/-! ### what a target binds -/
def BIn (b : BG) (vs : List Nat) : Prop := ∀ d l, b d = some l → ∀ p ∈ l, p.1 ∈ vs
def BsIn (b : BGs) (vs : List Nat) : Prop := ∀ d l, b d = some l → ∀ p ∈ l, p.1 ∈ vs
theorem bin_nm {i : Nat} {vs : List Nat} (h : i ∈ vs := by decide) : BIn (bNm i) vs := fun d l e p hp => by
  cases e
  rcases List.mem_singleton.mp hp with rfl
  exact h
theorem bsin_nil {vs : List Nat} : BsIn bNil vs := fun d l e p hp => by
  unfold bNil at e
  split at e
  · cases e; cases hp
  · cases e
theorem bsin_cons {b : BG} {c : BGs} {vs : List Nat} (h1 : BIn b vs) (h2 : BsIn c vs) : BsIn (bCons b c) vs := fun d l e p hp => by
  unfold bCons at e
  split at e
  · split at e
    · rename_i l1 e1
      split at e
      · rename_i l2 e2
        cases e
        rcases List.mem_append.mp hp with hp | hp
        · exact h1 _ _ e1 p hp
        · exact h2 _ _ e2 p hp
      · cases e
    · cases e
  · cases e
theorem bin_tup {n : Nat} {c : BGs} {vs : List Nat} (h : BsIn c vs) : BIn (bTup n c) vs := fun d l e p hp => by
  unfold bTup at e
  split at e
  · split at e
    · exact h _ _ e p hp
    · cases e
  · cases e
/-- a built-in class by its name -/
theorem m_ty {X : Cx} {w : WX} (n : Nat) {x : Str} {u : Value} {pos : Pos} (hg : Gl X x) (hm : X.mg x = none) (hv : bootBuiltins x = some u) (r : RelV (.ty (tyS n)) u) (hn : x ≠ "__name__" := by decide) (hd : (x == ("__debug__" : Str)) = false := by decide) :
    PE X (.Name x pos) (RE X w (mC (.ty n))) := m_c (pe_bltn hg hm hv r hn hd) fun _ => .ty n
theorem m_gint {X : Cx} {w : WX} {i : Int} {x : Str} {pos : Pos} (hg : Gl X x) (hm : ∃ t, X.mg x = some (.int i t)) (hd : (x == ("__debug__" : Str)) = false := by decide) :
    PE X (.Name x pos) (RE X w (mC (.int i))) := by
  obtain ⟨t, hm⟩ := hm
  exact m_c (v := .int i) (pe_glob (v := .int i) hg hm ⟨t, rfl⟩ hd) fun _ => .int i
end Mi

/-! Mi: ranges of any size. -/
namespace Mi
open PySem PySem.Spec PyProof.Rows L2
theorem turn_long {P : Program} {w : World} {K : PySem.W.Frag} {tg : Expr} (it : Addr) (lo : Int) (n : Nat) : Turn P w K tg (Itr lo n) [it] it (fun i h => IsLongIter h it (lo + (i : Nat) * 1) ((n : Int) - (i : Nat)) 1) where
  mem := by simp
  obj := fun i h st b hb => by
    have e : b = it := by simpa using hb
    subst e
    exact ⟨_, st, fun v z => by
      have z' : Data.fields _ = Data.cell v := z
      cases z'⟩
  keep := fun i h h' st k => k it (by simp) _ st
  item := by
    intro X hP hw hK hc i pins s σ H E I hf st hg
    subst hP hw hK
    obtain ⟨f0, f1, f2, f3, f4, f5⟩ := hf it (by simp)
    have W := Walks.longrange (prog := X.prog) (w := X.w) (I.ok.hd hc) it lo 1 n
    refine W.item i s _ _ hg st fun v h' tk hv st' kk => ?_
    obtain ⟨t, rfl⟩ := hv
    have I1 : Inv X pins σ H { s with heap := h', toks := tk } := I.turned (fun b o hb e => kk b o (by simpa using hb) e) f0 f1 f3 f4 f5
    refine ⟨_, rfl, go_of (s := { s with heap := h', toks := tk }) (n := "longrange_iterator") st' rfl rfl (by decide) ⟨.int (lo + i), H, I1, ⟨t, ?_⟩, ⟨rfl, rfl⟩, st', fun b hb => (hf b hb).1⟩⟩
    rw [Int.mul_one]
  done := by
    intro X hP hw hK hc i pins s σ H E I hf st hg
    subst hP hw hK
    obtain ⟨f0, f1, f2, f3, f4, f5⟩ := hf it (by simp)
    exact wpAny_pyNext_long_end (I.ok.hd hc) st (by have : n ≤ i := hg; omega) fun h' eb => ⟨rfl, I.turned (t' := s.toks) (fun b o hb e => eb b o hb e) f0 f1 f3 f4 f5⟩
  self := fun _ _ _ _ _ st h => wpAny_pyIter_longiter st h
theorem range_itA {X : Cx} {tg : Expr} {pins : List (Addr × Obj)} {σ : L2.St} {H : Hp} {s : Shared} {R : It → Hp → Prop} {E : Value → Shared → Prop} {lo hi : Int} {t u v : Tok} {tk : Nat} (I : Inv X pins σ H s)
    (q : R (Itr lo (hi - lo).toNat) H) : wpAny (model X.prog X.w) X.A (pyIter (.ref s.heap.objs.size)) (PIE X pins σ tg R) E { s with heap := s.heap.push { cls := .type "range", data := .fields #[.int lo t, .int hi u, .int 1 v] }, toks := tk } := by
  have I1 : Inv X pins σ H { s with heap := s.heap.push { cls := .type "range", data := .fields #[.int lo t, .int hi u, .int 1 v] }, toks := tk } := I.kept fun b o e => Heap.get?_push_of_some _ e
  have e1 : lo + ((0 : Nat) : Int) * 1 = lo := by simp
  have e2 : (((hi - lo).toNat : Nat) : Int) - ((0 : Nat) : Int) = Builtin.Range.rangeSize lo hi 1 := by rw [rangeSize_one]; split <;> omega
  by_cases hs : Builtin.Range.small lo hi 1 = true
  · refine wpAny_pyIter_range (IsRange.new ..) hs ?_
    refine ⟨(s.heap.push { cls := .type "range", data := .fields #[.int lo t, .int hi u, .int 1 v] }).objs.size, [(s.heap.push { cls := .type "range", data := .fields #[.int lo t, .int hi u, .int 1 v] }).objs.size], _, _, H, rfl,
      I1.kept (t' := tk) fun b o e => Heap.get?_push_of_some _ e, turn_range _ lo (hi - lo).toNat, ?_, fun b hb => ?_, q⟩
    · show IsRangeIter _ _ (lo + ((0 : Nat) : Int) * 1) ((((hi - lo).toNat : Nat) : Int) - ((0 : Nat) : Int)) 1
      rw [e1, e2]
      exact Heap.get?_push_size _ rfl
    · have e : b = (s.heap.push { cls := .type "range", data := .fields #[.int lo t, .int hi u, .int 1 v] }).objs.size := by simpa using hb
      subst e
      exact I1.fpOk (Nat.le_refl _) (I1.hok.fresh (Nat.le_refl _))
  · refine wpAny_pyIter_longrange (IsRange.new ..) (by simpa using hs) ?_
    refine ⟨(s.heap.push { cls := .type "range", data := .fields #[.int lo t, .int hi u, .int 1 v] }).objs.size, [(s.heap.push { cls := .type "range", data := .fields #[.int lo t, .int hi u, .int 1 v] }).objs.size], _, _, H, rfl,
      I1.kept (t' := tk) fun b o e => Heap.get?_push_of_some _ e, turn_long _ lo (hi - lo).toNat, ?_, fun b hb => ?_, q⟩
    · show IsLongIter _ _ (lo + ((0 : Nat) : Int) * 1) ((((hi - lo).toNat : Nat) : Int) - ((0 : Nat) : Int)) 1
      rw [e1, e2]
      exact Heap.get?_push_size _ rfl
    · have e : b = (s.heap.push { cls := .type "range", data := .fields #[.int lo t, .int hi u, .int 1 v] }).objs.size := by simpa using hb
      subst e
      exact I1.fpOk (Nat.le_refl _) (I1.hok.fresh (Nat.le_refl _))
def iRngB1 (ta : TA) : TI := fun σ H R => ta σ H fun vs H1 => ∃ j : Int, vs = [.int j] ∧ R (Itr 0 j.toNat) H1
def iRngB2 (ta : TA) : TI := fun σ H R => ta σ H fun vs H1 => ∃ i j : Int, vs = [.int i, .int j] ∧ R (Itr i (j - i).toNat) H1
section
variable {X : Cx} {tg : Expr}
theorem pi_rangeB1 {a : Expr} {ta : TA} {p pos : Pos} (hg : Gl X "range") (hm : X.mg "range" = none) (ha : PA X [a] ta) (hs : starEach [a] X.env = [(false, eval a X.env)] := by rfl) : PI X tg (.Call (.Name "range" p) [a] [] pos) (iRngB1 ta) := by
  refine ⟨fun pins s σ H R I h => ?_⟩
  refine Call_ (ld_blt I hg hm boot_range (PyProof.Rows.callWith_type1 (thn (ha.run pos pins s σ H _ I h) fun us s1 ⟨vs, H1, I1, r1, q1⟩ => ?_) hs rfl))
  obtain ⟨j, e, q⟩ := q1
  subst e
  cases r1 with
  | cons r rr =>
    cases rr
    obtain ⟨t, rfl⟩ := r
    exact call_range_1 (range_itA I1 (by simpa using q))
theorem pi_rangeB2 {a b : Expr} {ta : TA} {p pos : Pos} (hg : Gl X "range") (hm : X.mg "range" = none) (ha : PA X [a, b] ta) (hs : starEach [a, b] X.env = [(false, eval a X.env), (false, eval b X.env)] := by rfl) (hs2 : starEach [b] X.env = [(false, eval b X.env)] := by rfl) :
    PI X tg (.Call (.Name "range" p) [a, b] [] pos) (iRngB2 ta) := by
  refine ⟨fun pins s σ H R I h => ?_⟩
  refine Call_ (ld_blt I hg hm boot_range (PyProof.Rows.callWith_type1 (thn (ha.run pos pins s σ H _ I h) fun us s1 ⟨vs, H1, I1, r1, q1⟩ => ?_) (by rw [hs, hs2]) (by rw [hs2]; rfl)))
  obtain ⟨i, j, e, q⟩ := q1
  subst e
  cases r1 with
  | cons r rr =>
    cases rr with
    | cons r2 rr2 =>
      cases rr2
      obtain ⟨t, rfl⟩ := r
      obtain ⟨t2, rfl⟩ := r2
      exact call_range_2 (range_itA I1 q)
end
def jRng1 (g : ME) : MA := fun E S => (g E S).bind fun x S1 => match x with
  | .int n => .ok (rng 0 n) S1
  | _ => .stuck
def jRng2 (f g : ME) : MA := fun E S => (f E S).bind fun x S1 => (g E S1).bind fun y S2 => match x, y with
  | .int i, .int j => .ok (rng i j) S2
  | _, _ => .stuck
section
variable {X : Cx} {w : WX} {tg a b : Expr} {p pos : Pos} {f g : ME}
theorem mj_rng1 (hg : Gl X "range") (hm : X.mg "range" = none) (ha : PE X a (RE X w f)) (hs : starEach [a] X.env = [(false, eval a X.env)] := by rfl) : PI X tg (.Call (.Name "range" p) [a] [] pos) (rdI X.K X.mg w (jRng1 f)) :=
  PI.imp (pi_rangeB1 hg hm (pa1 ha hs) hs) fun σ H R ⟨W, E, eH, s, en, q⟩ => ⟨W, E, eH, s, en, PostE.bind q fun W1 v d e1 s1 r1 q1 => by
    split at q1
    · rename_i n
      cases r1
      refine ⟨n, rfl, ?_⟩
      have := q1 W1 (Itr 0 (n - 0).toNat) (Ext.refl _) rfl s1 iter_rng
      rwa [Int.sub_zero] at this
    · exact q1.elim⟩
theorem mj_rng2 (hg : Gl X "range") (hm : X.mg "range" = none) (ha : PE X a (RE X w f)) (hb : PE X b (RE X w g)) (hs : starEach [a, b] X.env = [(false, eval a X.env), (false, eval b X.env)] := by rfl) (hs2 : starEach [b] X.env = [(false, eval b X.env)] := by rfl) :
    PI X tg (.Call (.Name "range" p) [a, b] [] pos) (rdI X.K X.mg w (jRng2 f g)) :=
  PI.imp (pi_rangeB2 hg hm (pa_cons ha (pa1 hb hs2) (by rw [hs, hs2])) hs hs2) fun σ H R ⟨W, E, eH, s, en, q⟩ => ⟨W, E, eH, s, en, PostE.bind q fun W1 v d e1 s1 r1 q1 =>
    ⟨W1, E, rfl, s1, en.mono e1, PostE.bind q1 fun W2 v2 d2 e2 s2 r2 q2 => by
    split at q2
    · rename_i i j
      cases r1
      cases r2
      exact ⟨i, j, rfl, q2 W2 (Itr i (j - i).toNat) (Ext.refl _) rfl s2 iter_rng⟩
    · exact q2.elim⟩⟩
end
end Mi

/-! Mi: plain lemmas about readings. -/
namespace Mi
open PySem PySem.Spec PyProof.Rows L2
abbrev I (l : List Int) : D := .tup (l.map .int)
abbrev IL (l : List Int) : D := .lst (l.map .int)
theorem mapO_ints {n : Nat} : ∀ l : List Int, mapO (toPy n) (l.map D.int) = some (l.map PyData.int)
  | [] => rfl
  | x :: l => by
    rw [List.map_cons, List.map_cons]
    unfold mapO
    rw [mapO_ints l]
    cases n <;> rfl
theorem toPy_I {n : Nat} (l : List Int) : toPy (n + 1) (I l) = some (.tuple (l.map .int)) := by
  show (match mapO (toPy n) (l.map D.int) with | some ps => some (PyData.tuple ps) | none => none) = _
  rw [mapO_ints]
theorem toPyS_I {S : Sto} (l : List Int) : toPyS S (I l) = some (.tuple (l.map .int)) := toPy_I (n := 39) l
theorem eqvAll_ints : ∀ l m : List Int, PyData.eqvAll (l.map .int) (m.map .int) = decide (l = m)
  | [], [] => by simp [PyData.eqvAll]
  | [], y :: m => by simp [PyData.eqvAll]
  | x :: l, [] => by simp [PyData.eqvAll]
  | x :: l, y :: m => by
    rw [List.map_cons, List.map_cons]
    unfold PyData.eqvAll
    rw [eqvAll_ints l m]
    unfold PyData.eqv
    by_cases h : x = y
    · subst h; simp
    · simp [h]
theorem eqv_I (l m : List Int) : PyData.eqv (.tuple (l.map .int)) (.tuple (m.map .int)) = decide (l = m) := by
  unfold PyData.eqv
  exact eqvAll_ints l m
theorem opEq_I {neg : Bool} {S : Sto} (p q : List Int) : opEq neg (I p) (I q) S = some (.bl (if neg then !decide (p = q) else decide (p = q))) := by
  unfold opEq
  rw [toPyS_I, toPyS_I]
  simp only [eqv_I]
theorem opEq_int {neg : Bool} {S : Sto} (p q : Int) : opEq neg (.int p) (.int q) S = some (.bl (if neg then !decide (p = q) else decide (p = q))) := by
  show some (D.bl (if neg then !PyData.eqv (.int p) (.int q) else PyData.eqv (.int p) (.int q))) = _
  unfold PyData.eqv
  have : (p == q) = decide (p = q) := by by_cases h : p = q <;> simp [h]
  rw [this]
theorem opIn_I {neg : Bool} {S : Sto} (x : Int) (q : List Int) : opIn neg (.int x) (I q) S = some (.bl (if neg then !decide (x ∈ q) else decide (x ∈ q))) := by
  unfold opIn
  rw [toPyS_I]
  show some (D.bl (if neg then !((q.map PyData.int).any fun z => PyData.eqv z (.int x)) else (q.map PyData.int).any fun z => PyData.eqv z (.int x))) = _
  have e : ((q.map PyData.int).any fun z => PyData.eqv z (.int x)) = decide (x ∈ q) := by
    rw [List.any_map]
    induction q with
    | nil => simp
    | cons y q ih =>
      rw [List.any_cons, ih]
      simp only [Function.comp]
      unfold PyData.eqv
      by_cases h : x = y
      · subst h; simp
      · simp [h, Ne.symm h]
  rw [e]
/-- slices -/
theorem cut_to (xs : List D) (k : Nat) : cut xs none (some (k : Int)) = xs.take k := by
  unfold cut
  rw [HT.sIx_none, HT.sIx_nat, List.drop_zero, Nat.sub_zero]
  by_cases h : k ≤ xs.length
  · rw [Nat.min_eq_left h]
  · rw [Nat.min_eq_right (by omega), List.take_length, List.take_of_length_le (by omega)]
theorem cut_from (xs : List D) (k : Nat) : cut xs (some (k : Int)) none = xs.drop k := by
  unfold cut
  rw [HT.sIx_none, HT.sIx_nat]
  by_cases h : k ≤ xs.length
  · rw [Nat.min_eq_left h, List.take_of_length_le (by rw [List.length_drop]; omega)]
  · rw [Nat.min_eq_right (by omega), List.drop_length, List.drop_eq_nil_of_le (by omega), List.take_nil]
theorem cut_last (xs : List D) : cut xs none (some (-1)) = xs.dropLast := by
  unfold cut
  rw [HT.sIx_none, List.drop_zero, Nat.sub_zero, List.dropLast_eq_take]
  congr 1
  show (if (-1 : Int) < 0 then ((-1 : Int) + (xs.length : Int)).toNat else min (-1 : Int).toNat xs.length) = _
  rw [if_pos (by decide)]
  omega
theorem ixN_nat {n k : Nat} (h : k < n) : ixN n (k : Int) = some k := by
  unfold ixN
  rw [if_pos (by omega), if_pos (by omega), Int.toNat_natCast]
theorem ixN_last {n : Nat} (h : 0 < n) : ixN n (-1) = some (n - 1) := by
  unfold ixN
  rw [if_neg (by decide), if_pos (by omega)]
  congr 1
  omega
theorem opIx_I {S : Sto} {p : List Int} {k : Nat} {x : Int} (h : p[k]? = some x) : opIx (I p) (.int k) S = some (.int x) := by
  have hk : k < (p.map D.int).length := by
    rw [List.length_map]
    exact (List.getElem?_eq_some_iff.mp h).1
  show (match ixN (p.map D.int).length (k : Int) with | some j => (p.map D.int)[j]? | none => none) = _
  rw [ixN_nat hk]
  show (p.map D.int)[k]? = _
  rw [List.getElem?_map, h]; rfl
theorem opIx_Ilast {S : Sto} {p : List Int} {x : Int} (h : p.getLast? = some x) : opIx (I p) (.int (-1)) S = some (.int x) := by
  have hk : 0 < (p.map D.int).length := by
    rw [List.length_map]
    cases p with
    | nil => cases h
    | cons => exact Nat.succ_pos _
  show (match ixN (p.map D.int).length (-1) with | some j => (p.map D.int)[j]? | none => none) = _
  rw [ixN_last hk]
  show (p.map D.int)[(p.map D.int).length - 1]? = _
  rw [List.getElem?_map, List.length_map, ← List.getLast?_eq_getElem?, h]; rfl
/-- comprehensions that leave the store alone -/
theorem lcLoop_map {b : BG} {t : MT} {f : ME} {E : Env} {S : Sto} {g : D → D} : ∀ {ds : List D}, (∀ d ∈ ds, ∃ l, b d = some l ∧ t (setE E l) S = .ok true S ∧ f (setE E l) S = .ok (g d) S) → lcLoop b t f E ds S = .ok (ds.map g) S
  | [], _ => rfl
  | d :: ds, h => by
    obtain ⟨l, h1, h2, h3⟩ := h d List.mem_cons_self
    unfold lcLoop
    rw [h1]
    show (t (setE E l) S).bind0 _ = _
    rw [h2]
    show (f (setE E l) S).bind0 _ = _
    rw [h3]
    show (lcLoop b t f E ds S).bind0 _ = _
    rw [lcLoop_map fun d hd => h d (List.mem_cons_of_mem _ hd)]
    rfl
theorem lcLoop_filter {b : BG} {t : MT} {f : ME} {E : Env} {S : Sto} {p : D → Bool} {g : D → D} : ∀ {ds : List D}, (∀ d ∈ ds, ∃ l, b d = some l ∧ t (setE E l) S = .ok (p d) S ∧ (p d = true → f (setE E l) S = .ok (g d) S)) → lcLoop b t f E ds S = .ok ((ds.filter p).map g) S
  | [], _ => rfl
  | d :: ds, h => by
    obtain ⟨l, h1, h2, h3⟩ := h d List.mem_cons_self
    have ih := lcLoop_filter (b := b) (t := t) (f := f) (E := E) (S := S) (p := p) (g := g) (ds := ds) fun d hd => h d (List.mem_cons_of_mem _ hd)
    unfold lcLoop
    rw [h1]
    show (t (setE E l) S).bind0 _ = _
    rw [h2]
    cases hp : p d with
    | false =>
      rw [List.filter_cons_of_neg (by rw [hp]; decide)]
      exact ih
    | true =>
      rw [List.filter_cons_of_pos hp]
      show (f (setE E l) S).bind0 _ = _
      rw [h3 hp]
      show (lcLoop b t f E ds S).bind0 _ = _
      rw [ih]
      rfl
theorem big_of {n : Nat} (h : n ≤ 10000000) : big n = true := Nat.ble_eq_true_of_le h
theorem intsOf_map : ∀ l : List Int, intsOf (l.map .int) = some l
  | [] => rfl
  | x :: l => by
    rw [List.map_cons]
    unfold intsOf
    rw [intsOf_map l]
theorem blsOf_map : ∀ l : List Bool, blsOf (l.map .bl) = some l
  | [] => rfl
  | x :: l => by
    rw [List.map_cons]
    unfold blsOf
    rw [blsOf_map l]
/-- what the law's own comparing takes -/
def sameOk : Nat → D → Bool
  | _, .non => true
  | _, .bl _ => true
  | _, .int _ => true
  | _, .str _ => true
  | n + 1, .tup xs => big xs.length && xs.all (sameOk n)
  | n + 1, .lst xs => big xs.length && xs.all (sameOk n)
  | _, _ => false
theorem zip2_self : ∀ {xs : List D} {d : D}, d ∈ zip2 xs xs → ∃ x ∈ xs, d = .tup [x, x]
  | [], d, h => by cases h
  | x :: xs, d, h => by
    rcases List.mem_cons.mp h with h | h
    · exact ⟨x, List.mem_cons_self, h⟩
    · obtain ⟨y, hy, e⟩ := zip2_self h
      exact ⟨y, List.mem_cons_of_mem _ hy, e⟩
theorem opMod_int {a b : Int} {S : Sto} (h : b ≠ 0) : opMod (.int a) (.int b) S = some (.int (a.fmod b)) := by
  show (if decide (b ≠ 0) then some (D.int (a.fmod b)) else none) = _
  rw [if_pos (decide_eq_true h)]
theorem opMod_nat {a b : Nat} {S : Sto} (h : b ≠ 0) : opMod (.int a) (.int b) S = some (.int ((a % b : Nat) : Int)) := by
  rw [opMod_int (by omega), Int.fmod_eq_emod_of_nonneg _ (by omega)]
  rfl
theorem opDiv_int {a b : Int} {S : Sto} (h : b ≠ 0) (h2 : b.natAbs < 1073741824) : opDiv (.int a) (.int b) S = some (.int (a.fdiv b)) := by
  show (if (decide (b ≠ 0) && Nat.blt b.natAbs 1073741824) = true then some (D.int (a.fdiv b)) else none) = _
  rw [if_pos]
  rw [Bool.and_eq_true]
  exact ⟨decide_eq_true h, Nat.ble_eq_true_of_le h2⟩
theorem opDiv_nat {a b : Nat} {S : Sto} (h : b ≠ 0) (h2 : b < 1073741824) : opDiv (.int a) (.int b) S = some (.int ((a / b : Nat) : Int)) := by
  rw [opDiv_int (by omega) (by omega), Int.fdiv_eq_ediv_of_nonneg _ (by omega)]
  rfl
theorem opMul_int {a b : Int} {S : Sto} (h : (small64 a || small64 b) = true) : opMul (.int a) (.int b) S = some (.int (a * b)) := by
  show (if (small64 a || small64 b) = true then some (D.int (a * b)) else none) = _
  rw [if_pos h]
theorem small64_of {a : Int} (h : -(2 ^ 64) < a) (h2 : a < 2 ^ 64) : small64 a = true := by
  unfold small64
  rw [decide_eq_true h, decide_eq_true h2]; rfl
theorem opMul_r {a b : Int} {S : Sto} (h : -(2 ^ 64) < b) (h2 : b < 2 ^ 64) : opMul (.int a) (.int b) S = some (.int (a * b)) := opMul_int (by rw [small64_of h h2, Bool.or_true])
theorem opMul_l {a b : Int} {S : Sto} (h : -(2 ^ 64) < a) (h2 : a < 2 ^ 64) : opMul (.int a) (.int b) S = some (.int (a * b)) := opMul_int (by rw [small64_of h h2, Bool.true_or])
theorem opAdd_tup {xs ys : List D} {S : Sto} (h : xs.length + ys.length ≤ 10000000) : opAdd (.tup xs) (.tup ys) S = some (.tup (xs ++ ys)) := by
  show (if big (xs.length + ys.length) then some (D.tup (xs ++ ys)) else none) = _
  rw [if_pos (big_of h)]
theorem opAdd_I {p q : List Int} {S : Sto} (h : p.length + q.length ≤ 10000000) : opAdd (I p) (I q) S = some (I (p ++ q)) := by
  rw [opAdd_tup (by rw [List.length_map, List.length_map]; exact h)]
  simp only [I, List.map_append]
theorem cut_toI (l : List Int) (k : Nat) : D.tup (cut (l.map .int) none (some (k : Int))) = I (l.take k) := by rw [cut_to, I, List.map_take]
theorem cut_fromI (l : List Int) (k : Nat) : D.tup (cut (l.map .int) (some (k : Int)) none) = I (l.drop k) := by rw [cut_from, I, List.map_drop]
theorem map_dropLast' {α β : Type} (f : α → β) (l : List α) : l.dropLast.map f = (l.map f).dropLast := by rw [List.dropLast_eq_take, List.dropLast_eq_take, List.length_map, List.map_take]
theorem cut_lastI (l : List Int) : D.tup (cut (l.map .int) none (some (-1))) = I l.dropLast := by rw [cut_last, I, map_dropLast']
theorem opAdd_int {a b : Int} {S : Sto} : opAdd (.int a) (.int b) S = some (.int (a + b)) := rfl
theorem opSub_int {a b : Int} {S : Sto} : opSub (.int a) (.int b) S = some (.int (a - b)) := rfl
theorem opNeg_int {a : Int} {S : Sto} : opNeg (.int a) S = some (.int (-a)) := rfl
theorem opLt_int {a b : Int} {S : Sto} : opLt (.int a) (.int b) S = some (.bl (decide (a < b))) := rfl
theorem opLe_int {a b : Int} {S : Sto} : opLe (.int a) (.int b) S = some (.bl (decide (a ≤ b))) := rfl
theorem opGt_int {a b : Int} {S : Sto} : opGt (.int a) (.int b) S = some (.bl (decide (b < a))) := rfl
theorem opGe_int {a b : Int} {S : Sto} : opGe (.int a) (.int b) S = some (.bl (decide (b ≤ a))) := rfl
theorem beq_n {a : Nat} : Nat.beq a a = true := Nat.beq_refl a
/-! loops, turn by turn -/
section
variable {b : BG} {body : MS} {d v : D} {ds : List D} {E E' : Env} {S S' : Sto} {l : List (Nat × D)} {t : MT} {n : Nat}
theorem for_nx (hb : b d = some l) (h : body (setE E l) S = .nx E' S') : forLoop b body (d :: ds) E S = forLoop b body ds E' S' := by
  conv => lhs; unfold forLoop
  simp only [hb, h]
theorem for_rt (hb : b d = some l) (h : body (setE E l) S = .rt v S') : forLoop b body (d :: ds) E S = .rt v S' := by
  conv => lhs; unfold forLoop
  simp only [hb, h]
theorem while_go (ht : t E S = .ok true S) (h : body E S = .nx E' S') : whileLoop t body (n + 1) E S = whileLoop t body n E' S' := by
  conv => lhs; unfold whileLoop
  simp only [ht, Res.st, h]
theorem while_end (ht : t E S = .ok false S) : whileLoop t body (n + 1) E S = .nx E S := by
  conv => lhs; unfold whileLoop
  simp only [ht, Res.st]
end
end Mi

/-! K22: lassos in plain Lean. -/
namespace K22
def In3 (p : List Int) : Prop := ∀ x ∈ p, 1 ≤ x ∧ x ≤ 3
def words : Nat → List (List Int)
  | 0 => [[]]
  | n + 1 => (words n).flatMap fun l => [1 :: l, 2 :: l, 3 :: l]
theorem mem_words : ∀ {p : List Int}, In3 p → p ∈ words p.length
  | [], _ => List.mem_singleton.mpr rfl
  | x :: p, h => by
    have ih := mem_words (p := p) fun y hy => h y (List.mem_cons_of_mem _ hy)
    obtain ⟨h1, h2⟩ := h x List.mem_cons_self
    refine List.mem_flatMap.mpr ⟨p, ih, ?_⟩
    have : x = 1 ∨ x = 2 ∨ x = 3 := by omega
    rcases this with rfl | rfl | rfl <;> simp
theorem all_words {P : List Int → Bool} (n : Nat) (h : ((List.range n).all fun k => (words (k + 1)).all P) = true) {q : List Int} (hq : In3 q) (h0 : q ≠ []) (hn : q.length ≤ n) : P q = true := by
  have hl : 0 < q.length := List.length_pos_iff.mpr h0
  have h1 := List.all_eq_true.mp h (q.length - 1) (List.mem_range.mpr (by omega))
  rw [show q.length - 1 + 1 = q.length by omega] at h1
  exact List.all_eq_true.mp h1 q (mem_words hq)
/-! ### the word of a lasso -/
def cyc (q : List Int) (n : Nat) : Int := q.getD (n % q.length) 0
def at_ (a q : List Int) (n : Nat) : Int := if n < a.length then a.getD n 0 else cyc q (n - a.length)
def isPer (m : Nat) (q : List Int) : Bool := decide (q.length % m = 0) && decide ((List.replicate (q.length / m) (q.take m)).flatten = q)
def findPer (q : List Int) : Nat → Nat → Option Nat
  | _, 0 => none
  | k, n + 1 => if isPer k q then some k else findPer q (k + 1) n
def sr (q : List Int) : List Int := match findPer q 1 q.length with
  | some m => q.take m
  | none => q
def rotR (b : List Int) : List Int := b.getLastD 0 :: b.dropLast
def rotL (b : List Int) : List Int := b.drop 1 ++ b.take 1
def si : Nat → List Int → List Int → List Int × List Int
  | 0, f, b => (f, b)
  | n + 1, f, b => if f ≠ [] ∧ f.getLastD 0 = b.getLastD 0 then si n f.dropLast (rotR b) else (f, b)
def shortIn (a q : List Int) : List Int × List Int := si a.length a (sr q)
/-- what is told of the shortest round, by looking at all -/
def srOk (q : List Int) : Bool := decide (sr q ≠ []) && decide ((sr q).length ≤ q.length) && decide (q.length % (sr q).length = 0) && ((List.range q.length).all fun i => decide (q.getD i 0 = (sr q).getD (i % (sr q).length) 0)) && decide (sr (sr q) = sr q) && decide (sr (rotL q) = rotL (sr q)) && ((sr q).all fun x => decide (x ∈ q)) && (q.all fun x => decide (x ∈ sr q))
theorem srOk_all : ((List.range 5).all fun k => (words (k + 1)).all srOk) = true := by decide +kernel
structure SrOk (q : List Int) : Prop where
  ne : sr q ≠ []
  le : (sr q).length ≤ q.length
  dvd : q.length % (sr q).length = 0
  get : ∀ i, i < q.length → q.getD i 0 = (sr q).getD (i % (sr q).length) 0
  idem : sr (sr q) = sr q
  rot : sr (rotL q) = rotL (sr q)
  mem : ∀ x, x ∈ sr q ↔ x ∈ q
structure Rd (q : List Int) : Prop where
  in3 : In3 q
  ne : q ≠ []
  le : q.length ≤ 5
theorem sr_ok {q : List Int} (h : Rd q) : SrOk q := by
  have := all_words 5 srOk_all h.in3 h.ne h.le
  unfold srOk at this
  simp only [Bool.and_eq_true, decide_eq_true_eq, List.all_eq_true, List.mem_range] at this
  obtain ⟨⟨⟨⟨⟨⟨⟨h1, h2⟩, h3⟩, h4⟩, h5⟩, h6⟩, h7⟩, h8⟩ := this
  exact ⟨h1, h2, h3, h4, h5, h6, fun x => ⟨h7 x, h8 x⟩⟩
theorem Rd.sr {q : List Int} (h : Rd q) : Rd (sr q) := by
  have k := sr_ok h
  exact ⟨fun x hx => h.in3 x ((k.mem x).mp hx), k.ne, Nat.le_trans k.le h.le⟩
theorem cyc_sr {q : List Int} (h : Rd q) (n : Nat) : cyc (K22.sr q) n = cyc q n := by
  have k := sr_ok h
  have hp : 0 < q.length := List.length_pos_iff.mpr h.ne
  unfold cyc
  rw [k.get _ (Nat.mod_lt _ hp), Nat.mod_mod_of_dvd _ (Nat.dvd_of_mod_eq_zero k.dvd)]
theorem rotR_snoc (b : List Int) (x : Int) : rotR (b ++ [x]) = x :: b := by
  unfold rotR
  rw [List.getLastD_concat, List.dropLast_concat]
theorem snoc_of {b : List Int} (h : b ≠ []) : ∃ b' x, b = b' ++ [x] := ⟨b.dropLast, b.getLast h, (List.dropLast_concat_getLast h).symm⟩
theorem rotL_rotR {b : List Int} (h : b ≠ []) : rotL (rotR b) = b := by
  obtain ⟨b', x, rfl⟩ := snoc_of h
  rw [rotR_snoc]
  rfl
theorem rotR_rotL {b : List Int} (h : b ≠ []) : rotR (rotL b) = b := by
  cases b with
  | nil => exact absurd rfl h
  | cons x b => exact rotR_snoc b x
theorem Rd.rotR {b : List Int} (h : Rd b) : Rd (rotR b) := by
  obtain ⟨b', x, rfl⟩ := snoc_of h.ne
  rw [rotR_snoc]
  refine ⟨fun y hy => h.in3 y ?_, List.cons_ne_nil _ _, ?_⟩
  · rcases List.mem_cons.mp hy with e | hy
    · rw [e]; exact List.mem_append_right _ List.mem_cons_self
    · exact List.mem_append_left _ hy
  · have := h.le
    rw [List.length_append] at this
    exact this
theorem cyc_rot (b : List Int) (x : Int) (k : Nat) : cyc (x :: b) (k + 1) = cyc (b ++ [x]) k := by
  unfold cyc
  rw [List.length_append]
  show (x :: b).getD ((k + 1) % (b.length + 1)) 0 = (b ++ [x]).getD (k % (b.length + 1)) 0
  have hlt : k % (b.length + 1) < b.length + 1 := Nat.mod_lt _ (by omega)
  by_cases h : k % (b.length + 1) < b.length
  · rw [show (k + 1) % (b.length + 1) = k % (b.length + 1) + 1 by rw [Nat.add_mod, Nat.mod_eq_of_lt (show 1 < b.length + 1 by omega), Nat.mod_eq_of_lt (by omega)]]
    rw [List.getD_cons_succ, List.getD_eq_getElem?_getD, List.getD_eq_getElem?_getD, List.getElem?_append_left h]
  · have e : k % (b.length + 1) = b.length := by omega
    rw [show (k + 1) % (b.length + 1) = 0 by rw [Nat.add_mod, e]; cases hb : b.length with | zero => simp [Nat.mod_one] | succ m => rw [Nat.mod_eq_of_lt (show 1 < m + 1 + 1 by omega), Nat.mod_self]]
    rw [e, List.getD_eq_getElem?_getD, List.getD_eq_getElem?_getD, List.getElem?_append_right (Nat.le_refl _), Nat.sub_self]
    rfl
theorem at_roll (a b : List Int) (x : Int) (n : Nat) : at_ a (x :: b) n = at_ (a ++ [x]) (b ++ [x]) n := by
  unfold at_
  rw [List.length_append]
  show _ = if n < a.length + 1 then _ else cyc _ (n - (a.length + 1))
  by_cases h : n < a.length
  · rw [if_pos h, if_pos (by omega), List.getD_eq_getElem?_getD, List.getD_eq_getElem?_getD, List.getElem?_append_left h]
  · rw [if_neg h]
    by_cases h2 : n = a.length
    · subst h2
      rw [if_pos (by omega), Nat.sub_self, List.getD_eq_getElem?_getD, List.getElem?_append_right (Nat.le_refl _), Nat.sub_self]
      unfold cyc
      rw [Nat.zero_mod]
      rfl
    · rw [if_neg (by omega), ← cyc_rot]
      rw [show n - (a.length + 1) + 1 = n - a.length by omega]
theorem si_ok : ∀ (m : Nat) (f b : List Int), Rd b → f.length ≤ m → Rd (si m f b).2 ∧ (∀ n, at_ (si m f b).1 (si m f b).2 n = at_ f b n) ∧ (si m f b).1.length ≤ f.length ∧ (∀ x ∈ (si m f b).1, x ∈ f) ∧ ((si m f b).1 = [] ∨ (si m f b).1.getLastD 0 ≠ (si m f b).2.getLastD 0)
  | 0, f, b, hb, hm => ⟨hb, fun _ => rfl, Nat.le_refl _, fun _ h => h, .inl (List.length_eq_zero_iff.mp (by show f.length = 0; omega))⟩
  | m + 1, f, b, hb, hm => by
    unfold si
    by_cases h : f ≠ [] ∧ f.getLastD 0 = b.getLastD 0
    · rw [if_pos h]
      obtain ⟨h1, h2⟩ := h
      obtain ⟨f', x, rfl⟩ := snoc_of h1
      obtain ⟨b', y, rfl⟩ := snoc_of hb.ne
      rw [List.getLastD_concat, List.getLastD_concat] at h2
      subst h2
      rw [List.dropLast_concat]
      have hl : f'.length ≤ m := by rw [List.length_append] at hm; simp at hm; exact hm
      obtain ⟨a1, a2, a3, a4, a5⟩ := si_ok m f' (K22.rotR (b' ++ [x])) hb.rotR hl
      refine ⟨a1, fun n => ?_, ?_, fun z hz => List.mem_append_left _ (a4 z hz), a5⟩
      · rw [a2, rotR_snoc]; exact at_roll f' b' x n
      · rw [List.length_append]; omega
    · rw [if_neg h]
      refine ⟨hb, fun _ => rfl, Nat.le_refl _, fun _ h => h, ?_⟩
      by_cases hf : f = []
      · exact .inl hf
      · exact .inr fun z => h ⟨hf, z⟩
theorem at_sr {a q : List Int} (h : Rd q) (n : Nat) : at_ a (K22.sr q) n = at_ a q n := by
  unfold at_
  rw [cyc_sr h]
theorem shortIn_ok {a q : List Int} (h : Rd q) : Rd (shortIn a q).2 ∧ (∀ n, at_ (shortIn a q).1 (shortIn a q).2 n = at_ a q n) ∧ (shortIn a q).1.length ≤ a.length ∧ (∀ x ∈ (shortIn a q).1, x ∈ a) := by
  obtain ⟨a1, a2, a3, a4, _⟩ := si_ok a.length a (K22.sr q) h.sr (Nat.le_refl _)
  exact ⟨a1, fun n => (a2 n).trans (at_sr h n), a3, a4⟩
theorem shortIn_nil {q : List Int} : shortIn [] q = ([], K22.sr q) := rfl
/-- one turn of the round written out -/
theorem shortIn_roll {a : List Int} {x : Int} {r : List Int} (h : Rd (x :: r)) : shortIn (a ++ [x]) (r ++ [x]) = shortIn a (x :: r) := by
  have k := sr_ok h
  have e : K22.sr (r ++ [x]) = rotL (K22.sr (x :: r)) := k.rot
  have hs := h.sr
  unfold shortIn
  rw [e, List.length_append]
  show si (a.length + 1) (a ++ [x]) (rotL (K22.sr (x :: r))) = _
  have u : ∀ m f b, si (m + 1) f b = if f ≠ [] ∧ f.getLastD 0 = b.getLastD 0 then si m f.dropLast (K22.rotR b) else (f, b) := fun _ _ _ => rfl
  rw [u]
  have hx : (K22.sr (x :: r)).getD 0 0 = x := by
    have := k.get 0 (Nat.succ_pos _)
    rw [Nat.zero_mod] at this
    exact this.symm
  cases hq : K22.sr (x :: r) with
  | nil => exact absurd hq k.ne
  | cons y t =>
    rw [hq] at hx
    have hx : y = x := hx
    subst hx
    rw [if_pos ⟨by simp, by show (a ++ [y]).getLastD 0 = (t ++ [y]).getLastD 0; rw [List.getLastD_concat, List.getLastD_concat]⟩, List.dropLast_concat]
    rw [rotR_rotL (List.cons_ne_nil _ _)]
/-- two words that agree long enough agree for ever -/
theorem agree {a q a' q' : List Int} (hq : q ≠ []) (hq' : q' ≠ []) (h : ∀ n, n < max a.length a'.length + q.length + q'.length → at_ a q n = at_ a' q' n) (n : Nat) : at_ a q n = at_ a' q' n := by
  have hp : 0 < q.length := List.length_pos_iff.mpr hq
  have hp' : 0 < q'.length := List.length_pos_iff.mpr hq'
  have per : ∀ (a q : List Int) n, a.length ≤ n → at_ a q (n + q.length) = at_ a q n := fun a q n hn => by
    unfold at_
    rw [if_neg (by omega), if_neg (by omega)]
    unfold cyc
    rw [show n + q.length - a.length = (n - a.length) + q.length by omega, Nat.add_mod_right]
  induction n using Nat.strongRecOn with
  | _ n ih =>
    by_cases hn : n < max a.length a'.length + q.length + q'.length
    · exact h n hn
    · have m1 : a.length ≤ max a.length a'.length := Nat.le_max_left _ _
      have m2 : a'.length ≤ max a.length a'.length := Nat.le_max_right _ _
      have e1 := per a q (n - q.length) (by omega)
      have e2 := ih (n - q.length) (by omega)
      have e3 := per a' q' (n - q.length - q'.length) (by omega)
      have e4 := ih (n - q.length - q'.length) (by omega)
      have e5 := per a q (n - q.length - q'.length) (by omega)
      have e6 := ih (n - q'.length) (by omega)
      have e7 := per a' q' (n - q'.length) (by omega)
      rw [show n - q.length + q.length = n by omega] at e1
      rw [show n - q.length - q'.length + q'.length = n - q.length by omega] at e3
      rw [show n - q.length - q'.length + q.length = n - q'.length by omega] at e5
      rw [show n - q'.length + q'.length = n by omega] at e7
      rw [e1, e2, e3, ← e4, ← e5, e6, e7]
/-! ### counting -/
def cnt (p l : List Int) : Int := ((p.filter fun x => decide (x ∈ l)).length : Int)
theorem cnt_append (p r l : List Int) : cnt (p ++ r) l = cnt p l + cnt r l := by
  unfold cnt
  rw [List.filter_append, List.length_append, Int.natCast_add]
end K22

namespace K22
/-! ### the plain law -/
def hofP (a q l : List Int) (n : Nat) : Int := if n ≤ a.length then cnt (a.take n) l else cnt a l + (((n - a.length) / q.length : Nat) : Int) * cnt q l + cnt (q.take ((n - a.length) % q.length)) l
theorem cnt_one (x : Int) (l : List Int) : cnt [x] l = if x ∈ l then 1 else 0 := by
  unfold cnt
  by_cases h : x ∈ l
  · simp [h]
  · simp [h]
theorem take_succ' {q : List Int} {r : Nat} (h : r < q.length) : q.take (r + 1) = q.take r ++ [q.getD r 0] := by
  rw [List.take_add_one, List.getD_eq_getElem?_getD, List.getElem?_eq_getElem h]
  rfl
theorem div_mod_succ {n L : Nat} (hL : 0 < L) : (n % L + 1 < L ∧ (n + 1) / L = n / L ∧ (n + 1) % L = n % L + 1) ∨ (n % L + 1 = L ∧ (n + 1) / L = n / L + 1 ∧ (n + 1) % L = 0) := by
  have h1 := Nat.div_add_mod n L
  have h2 := Nat.mod_lt n hL
  by_cases h : n % L + 1 < L
  · refine .inl ⟨h, ?_, ?_⟩
    · rw [show n + 1 = (n % L + 1) + L * (n / L) by omega, Nat.add_mul_div_left _ _ hL, Nat.div_eq_of_lt h, Nat.zero_add]
    · rw [show n + 1 = (n % L + 1) + L * (n / L) by omega, Nat.add_mul_mod_self_left, Nat.mod_eq_of_lt h]
  · have e : n % L + 1 = L := by omega
    refine .inr ⟨e, ?_, ?_⟩
    · rw [show n + 1 = L * (n / L + 1) by rw [Nat.mul_add]; omega, Nat.mul_div_cancel_left _ hL]
    · rw [show n + 1 = L * (n / L + 1) by rw [Nat.mul_add]; omega, Nat.mul_mod_right]
theorem hof_step {a q l : List Int} {n : Nat} (hq : q ≠ []) (hn : a.length < n) : hofP a q l (n + 1) = hofP a q l n + if at_ a q n ∈ l then 1 else 0 := by
  have hL : 0 < q.length := List.length_pos_iff.mpr hq
  unfold hofP
  rw [if_neg (by omega), if_neg (by omega), show n + 1 - a.length = (n - a.length) + 1 by omega]
  have hat : at_ a q n = q.getD ((n - a.length) % q.length) 0 := by
    unfold at_ cyc
    rw [if_neg (by omega)]
  rw [hat]
  generalize n - a.length = m
  have hr := Nat.mod_lt m hL
  rcases div_mod_succ (n := m) hL with ⟨h1, h2, h3⟩ | ⟨h1, h2, h3⟩
  · rw [h2, h3, take_succ' hr, cnt_append, cnt_one]
    omega
  · rw [h2, h3]
    have e : q = q.take (m % q.length) ++ [q.getD (m % q.length) 0] := by
      rw [← take_succ' hr, h1, List.take_length]
    have e2 : cnt q l = cnt (q.take (m % q.length)) l + if q.getD (m % q.length) 0 ∈ l then 1 else 0 := by
      conv => lhs; rw [e]
      rw [cnt_append, cnt_one]
    have e3 : cnt (q.take 0) l = 0 := rfl
    rw [e3, Int.natCast_add, Int.add_mul]
    omega
theorem cnt_all {p : List Int} (h : In3 p) : cnt p [1, 2, 3] = p.length := by
  unfold cnt
  rw [List.filter_eq_self.mpr]
  intro x hx
  obtain ⟨h1, h2⟩ := h x hx
  have : x = 1 ∨ x = 2 ∨ x = 3 := by omega
  rcases this with rfl | rfl | rfl <;> decide
theorem In3.take {p : List Int} (h : In3 p) (n : Nat) : In3 (p.take n) := fun x hx => h x (List.mem_of_mem_take hx)
theorem In3.drop {p : List Int} (h : In3 p) (n : Nat) : In3 (p.drop n) := fun x hx => h x (List.mem_of_mem_drop hx)
theorem In3.append {p r : List Int} (h : In3 p) (h' : In3 r) : In3 (p ++ r) := fun x hx => by
  rcases List.mem_append.mp hx with hx | hx
  · exact h x hx
  · exact h' x hx
theorem hof_all {a q : List Int} {n : Nat} (ha : In3 a) (hq : In3 q) (h0 : q ≠ []) (hn : a.length < n) : hofP a q [1, 2, 3] n = n := by
  have hL : 0 < q.length := List.length_pos_iff.mpr h0
  unfold hofP
  rw [if_neg (by omega), cnt_all ha, cnt_all hq, cnt_all (hq.take _), List.length_take, Nat.min_eq_left (Nat.le_of_lt (Nat.mod_lt _ hL))]
  have h1 := Nat.div_add_mod (n - a.length) q.length
  have h2 : (((n - a.length) / q.length * q.length + (n - a.length) % q.length : Nat) : Int) = ((n - a.length : Nat) : Int) := by
    rw [Nat.mul_comm]
    exact congrArg _ h1
  rw [Int.natCast_add, Int.natCast_mul] at h2
  omega
theorem hof_zero (a q l : List Int) : hofP a q l 0 = 0 := by
  unfold hofP
  rw [if_pos (Nat.zero_le _)]
  rfl
/-! ### gaps -/
def fnextP (a q l : List Int) : Nat → Nat → Option Nat
  | _, 0 => none
  | k, m + 1 => if at_ a q k ∈ l then some k else fnextP a q l (k + 1) m
theorem fnext_find {a q l : List Int} : ∀ (m k : Nat), fnextP a q l k m = ((List.range' k m).find? fun j => decide (at_ a q j ∈ l))
  | 0, k => rfl
  | m + 1, k => by
    unfold fnextP
    rw [List.range'_succ, List.find?_cons]
    by_cases h : at_ a q k ∈ l
    · simp [h]
    · simp [h, fnext_find m (k + 1)]
theorem at_per {a q : List Int} {n : Nat} (hn : a.length ≤ n) : at_ a q (n + q.length) = at_ a q n := by
  unfold at_ cyc
  rw [if_neg (by omega), if_neg (by omega), show n + q.length - a.length = (n - a.length) + q.length by omega, Nat.add_mod_right]
theorem fnext_short {a q l : List Int} {k : Nat} (hq : q ≠ []) (hk : a.length ≤ k) (x : Nat) : fnextP a q l k (x + q.length) = fnextP a q l k q.length := by
  have hL : 0 < q.length := List.length_pos_iff.mpr hq
  rw [fnext_find, fnext_find, Nat.add_comm x, ← List.range'_append_1, List.find?_append]
  cases h : (List.range' k q.length).find? fun j => decide (at_ a q j ∈ l) with
  | some j => rfl
  | none =>
    rw [Option.none_or, List.find?_eq_none]
    have h0 := List.find?_eq_none.mp h
    have key : ∀ d, at_ a q (k + d) ∉ l := by
      intro d
      induction d using Nat.strongRecOn with
      | _ d ih =>
        by_cases hd : d < q.length
        · have := h0 (k + d) (List.mem_range'_1.mpr ⟨by omega, by omega⟩)
          simpa using this
        · have h1 := ih (d - q.length) (by omega)
          rw [← at_per (by omega), show k + (d - q.length) + q.length = k + d by omega] at h1
          exact h1
    intro j hj
    obtain ⟨h1, h2⟩ := List.mem_range'_1.mp hj
    have := key (j - k)
    rw [show k + (j - k) = j by omega] at this
    simpa using this
/-- the gaps -/
def gapsP (a q l : List Int) (n : Nat) : List Nat := ((List.range q.length).filter fun j => decide (at_ a q (n + j) ∈ l)).map (· + 1)
theorem gaps_head {a q l : List Int} {n : Nat} : (gapsP a q l n).head? = (fnextP a q l n q.length).map fun p => p + 1 - n := by
  unfold gapsP
  rw [List.head?_map, List.head?_filter, fnext_find, List.range'_eq_map_range, List.find?_map]
  have e : (fun j => decide (at_ a q (n + j) ∈ l)) = ((fun j => decide (at_ a q j ∈ l)) ∘ fun x => n + x) := rfl
  rw [← e]
  cases (List.range q.length).find? fun j => decide (at_ a q (n + j) ∈ l) with
  | none => rfl
  | some j =>
    show some (j + 1) = some (n + j + 1 - n)
    congr 1
    omega
theorem fnext_ge {a q l : List Int} {p : Nat} : ∀ {m k : Nat}, fnextP a q l k m = some p → k ≤ p
  | 0, k, h => by cases h
  | m + 1, k, h => by
    unfold fnextP at h
    by_cases hk : at_ a q k ∈ l
    · rw [if_pos hk] at h; cases h; exact Nat.le_refl _
    · rw [if_neg hk] at h; exact Nat.le_of_succ_le (fnext_ge h)
/-! ### moved on -/
theorem cyc_rotk {q : List Int} {r : Nat} (hr : r ≤ q.length) (hq : q ≠ []) (j : Nat) : cyc (q.drop r ++ q.take r) j = cyc q (r + j) := by
  have hL : 0 < q.length := List.length_pos_iff.mpr hq
  have hlen : (q.drop r ++ q.take r).length = q.length := by
    rw [List.length_append, List.length_drop, List.length_take]
    omega
  unfold cyc
  rw [hlen]
  have hj := Nat.mod_lt j hL
  have e : (r + j) % q.length = (r + j % q.length) % q.length := by rw [Nat.add_mod_mod]
  rw [e]
  generalize j % q.length = i at *
  rw [List.getD_eq_getElem?_getD, List.getD_eq_getElem?_getD]
  by_cases h : i < q.length - r
  · rw [List.getElem?_append_left (by rw [List.length_drop]; exact h), List.getElem?_drop, Nat.mod_eq_of_lt (by omega)]
  · rw [List.getElem?_append_right (by rw [List.length_drop]; omega), List.length_drop, List.getElem?_take, if_pos (by omega)]
    rw [show (r + i) % q.length = i - (q.length - r) by
      rw [show r + i = (i - (q.length - r)) + q.length by omega, Nat.add_mod_right, Nat.mod_eq_of_lt (by omega)]]
theorem Rd.rotk {q : List Int} (h : Rd q) {r : Nat} (hr : r ≤ q.length) : Rd (q.drop r ++ q.take r) := by
  refine ⟨(h.in3.drop r).append (h.in3.take r), fun z => ?_, ?_⟩
  · have := congrArg List.length z
    rw [List.length_append, List.length_drop, List.length_take, List.length_nil] at this
    have h1 : 0 < q.length := List.length_pos_iff.mpr h.ne
    omega
  · have := h.le
    rw [List.length_append, List.length_drop, List.length_take]
    omega
theorem mem_rotk {q : List Int} {r : Nat} (x : Int) : x ∈ q.drop r ++ q.take r ↔ x ∈ q := by
  rw [List.mem_append, or_comm, ← List.mem_append, List.take_append_drop]
/-! ### texts that are changed at a place -/
theorem at_pre {t a q : List Int} {n : Nat} (h : n < t.length) : at_ (t ++ a) q n = t.getD n 0 := by
  unfold at_
  rw [if_pos (by rw [List.length_append]; omega), List.getD_eq_getElem?_getD, List.getD_eq_getElem?_getD, List.getElem?_append_left h]
theorem at_in3 {a q : List Int} (ha : In3 a) (hq : Rd q) (n : Nat) : 1 ≤ at_ a q n ∧ at_ a q n ≤ 3 := by
  unfold at_
  by_cases h : n < a.length
  · rw [if_pos h, List.getD_eq_getElem?_getD, List.getElem?_eq_getElem h]
    exact ha _ (List.getElem_mem h)
  · rw [if_neg h]
    unfold cyc
    have hL : 0 < q.length := List.length_pos_iff.mpr hq.ne
    have := Nat.mod_lt (n - a.length) hL
    rw [List.getD_eq_getElem?_getD, List.getElem?_eq_getElem this]
    exact hq.in3 _ (List.getElem_mem this)
end K22

namespace K22
open PySem PySem.Spec PyProof.Rows L2 Mi
def topS (i : Nat) : Stmt := PySem.Challenge.pw_turnfingers_k22_whole_lassos_counted_at.main.body.getD i (.Pass ⟨0, 0, 0, 0⟩)
/-! ### tuple_of -/
abbrev s_tuple_of : Stmt := topS 4
theorem sc_tuple_of : FnScope ["thing", "part"] ["thing"] (defScope s_tuple_of) := ⟨rfl, rfl, rfl, by decide +kernel, rfl, by decide +kernel, by decide +kernel⟩
def b_tuple_of (m_tuple_of0 : MF) : MS := (sSeq (sIf (tTru (mCB oIsi (aCons (mVar 0) (aCons (mTup (aCons (mC (.ty 3)) (aCons (mC (.ty 4)) aNil))) aNil)))) (sRet (mCB oTuple (aCons (mComp false (iSeq (mVar 0)) (bNm 1) tTrue (mCall m_tuple_of0 (aCons (mVar 1) aNil)) [1]) aNil))) sNil)
  (sRet (mVar 0)))
def m_tuple_of : Nat → MF
  | 0 => fun _ _ => .stuck
  | n + 1 => mDef 2 1 (b_tuple_of (m_tuple_of n))
/-! ### is_number -/
abbrev s_is_number : Stmt := topS 3
theorem sc_is_number : FnScope ["thing"] ["thing"] (defScope s_is_number) := ⟨rfl, rfl, rfl, by decide +kernel, rfl, by decide +kernel, by decide +kernel⟩
def b_is_number : MS := (sRet (mAndT (mCB oIsi (aCons (mVar 0) (aCons (mC (.ty 0)) aNil))) (mNot (mCB oIsi (aCons (mVar 0) (aCons (mC (.ty 1)) aNil))))))
def m_is_number : MF := mDef 1 1 b_is_number
/-! ### sure_wide_of -/
abbrev s_sure_wide_of : Stmt := topS 14
theorem sc_sure_wide_of : FnScope ["wide"] ["wide"] (defScope s_sure_wide_of) := ⟨rfl, rfl, rfl, by decide +kernel, rfl, by decide +kernel, by decide +kernel⟩
def b_sure_wide_of : MS := (sIf (tOr2 (tNot1 (tTru (mCall m_is_number (aCons (mVar 0) aNil)))) (tNot1 (tBl (mChain opLe opLe (mC (.int 1)) (mVar 0) (mC (.int 3)))))) sStuck sNil)
def m_sure_wide_of : MF := mDef 1 1 b_sure_wide_of
/-! ### is_tuple_of -/
abbrev s_is_tuple_of : Stmt := topS 5
theorem sc_is_tuple_of : FnScope ["thing", "many"] ["thing", "many"] (defScope s_is_tuple_of) := ⟨rfl, rfl, rfl, by decide +kernel, rfl, by decide +kernel, by decide +kernel⟩
def b_is_tuple_of : MS := (sRet (mAndT (mCB oIsi (aCons (mVar 0) (aCons (mC (.ty 4)) aNil))) (mOp2 (opEq false) (mCB oLen (aCons (mVar 0) aNil)) (mVar 1))))
def m_is_tuple_of : MF := mDef 2 2 b_is_tuple_of
/-! ### is_letter -/
abbrev s_is_letter : Stmt := topS 8
theorem sc_is_letter : FnScope ["wide", "thing"] ["wide", "thing"] (defScope s_is_letter) := ⟨rfl, rfl, rfl, by decide +kernel, rfl, by decide +kernel, by decide +kernel⟩
def b_is_letter : MS := (sRet (mAndT (mCall m_is_number (aCons (mVar 1) aNil)) (mChain opLe opLe (mC (.int 1)) (mVar 1) (mVar 0))))
def m_is_letter : MF := mDef 2 2 b_is_letter
/-! ### is_text -/
abbrev s_is_text : Stmt := topS 9
theorem sc_is_text : FnScope ["wide", "thing", "own"] ["wide", "thing"] (defScope s_is_text) := ⟨rfl, rfl, rfl, by decide +kernel, rfl, by decide +kernel, by decide +kernel⟩
def b_is_text : MS := (sRet (mAndT (mCB oIsi (aCons (mVar 1) (aCons (mC (.ty 4)) aNil))) (mCB oAll (aCons (mComp false (iSeq (mVar 1)) (bNm 2) tTrue (mCall m_is_letter (aCons (mVar 0) (aCons (mVar 2) aNil))) [2]) aNil))))
def m_is_text : MF := mDef 3 2 b_is_text
/-! ### is_lasso_form -/
abbrev s_is_lasso_form : Stmt := topS 15
theorem sc_is_lasso_form : FnScope ["wide", "thing", "own"] ["wide", "thing"] (defScope s_is_lasso_form) := ⟨rfl, rfl, rfl, by decide +kernel, rfl, by decide +kernel, by decide +kernel⟩
def b_is_lasso_form : MS := (sRet (mAndT (mCall m_is_tuple_of (aCons (mVar 1) (aCons (mC (.int 2)) aNil))) (mAndT (mCB oAll (aCons (mComp false (iSeq (mVar 1)) (bNm 2) tTrue (mCall m_is_text (aCons (mVar 0) (aCons (mVar 2) aNil))) [2]) aNil)) (mOp2 (opEq true) (mOp2 opIx (mVar 1) (mC (.int 1))) (mTup aNil)))))
def m_is_lasso_form : MF := mDef 3 2 b_is_lasso_form
/-! ### sure_lasso -/
abbrev s_sure_lasso : Stmt := topS 16
theorem sc_sure_lasso : FnScope ["wide", "lasso", "own"] ["wide", "lasso"] (defScope s_sure_lasso) := ⟨rfl, rfl, rfl, by decide +kernel, rfl, by decide +kernel, by decide +kernel⟩
def b_sure_lasso : MS := (sSeq (sDrop (mCall m_sure_wide_of (aCons (mVar 0) aNil)))
  (sSeq (sSet 2 (mCall (m_tuple_of 4) (aCons (mVar 1) aNil)))
  (sSeq (sIf (tNot1 (tTru (mCall m_is_lasso_form (aCons (mVar 0) (aCons (mVar 2) aNil))))) sStuck sNil)
  (sRet (mVar 2)))))
def m_sure_lasso : MF := mDef 3 2 b_sure_lasso
/-! ### shortest_round -/
abbrev s_shortest_round : Stmt := topS 18
theorem sc_shortest_round : FnScope ["round_so", "many"] ["round_so"] (defScope s_shortest_round) := ⟨rfl, rfl, rfl, by decide +kernel, rfl, by decide +kernel, by decide +kernel⟩
def b_shortest_round : MS := (sSeq (sFor (jRng2 (mC (.int 1)) (mOp2 opAdd (mCB oLen (aCons (mVar 0) aNil)) (mC (.int 1)))) (bNm 1) (sIf (tAnd2 (tBl (mOp2 (opEq false) (mOp2 opMod (mCB oLen (aCons (mVar 0) aNil)) (mVar 1)) (mC (.int 0)))) (tBl (mOp2 (opEq false) (mOp2 opMul (mSl (mVar 0) mNoPart (mPart (mVar 1))) (mOp2 opDiv (mCB oLen (aCons (mVar 0) aNil)) (mVar 1))) (mVar 0)))) (sRet (mSl (mVar 0) mNoPart (mPart (mVar 1)))) sNil))
  (sRet (mVar 0)))
def m_shortest_round : MF := mDef 2 1 b_shortest_round
/-! ### short_in -/
abbrev s_short_in : Stmt := topS 19
theorem sc_short_in : FnScope ["ahead", "round_so", "front", "back"] ["ahead", "round_so"] (defScope s_short_in) := ⟨rfl, rfl, rfl, by decide +kernel, rfl, by decide +kernel, by decide +kernel⟩
def b_short_in : MS := (sSeq (sPar 2 3 (aCons (mVar 0) (aCons (mCall m_shortest_round (aCons (mVar 1) aNil)) aNil)))
  (sSeq (sWhile 100 (tAnd2 (tBl (mOp2 (opEq true) (mVar 2) (mTup aNil))) (tBl (mOp2 (opEq false) (mOp2 opIx (mVar 2) (mOp1 opNeg (mC (.int 1)))) (mOp2 opIx (mVar 3) (mOp1 opNeg (mC (.int 1))))))) (sPar 2 3 (aCons (mSl (mVar 2) mNoPart (mPart (mOp1 opNeg (mC (.int 1))))) (aCons (mTup (aCons (mOp2 opIx (mVar 3) (mOp1 opNeg (mC (.int 1)))) (aStar (mSl (mVar 3) mNoPart (mPart (mOp1 opNeg (mC (.int 1))))) aNil))) aNil))))
  (sRet (mTup (aCons (mVar 2) (aCons (mVar 3) aNil))))))
def m_short_in : MF := mDef 4 2 b_short_in
/-! ### lasso_short -/
abbrev s_lasso_short : Stmt := topS 20
theorem sc_lasso_short : FnScope ["lasso", "own"] ["lasso"] (defScope s_lasso_short) := ⟨rfl, rfl, rfl, by decide +kernel, rfl, by decide +kernel, by decide +kernel⟩
def b_lasso_short : MS := (sSeq (sSet 1 (mCall m_sure_lasso (aCons (mC (.int 3)) (aCons (mVar 0) aNil))))
  (sRet (mCall m_short_in (aCons (mOp2 opIx (mVar 1) (mC (.int 0))) (aCons (mOp2 opIx (mVar 1) (mC (.int 1))) aNil)))))
def m_lasso_short : MF := mDef 2 1 b_lasso_short
/-! ### is_short -/
abbrev s_is_short : Stmt := topS 21
theorem sc_is_short : FnScope ["lasso", "own"] ["lasso"] (defScope s_is_short) := ⟨rfl, rfl, rfl, by decide +kernel, rfl, by decide +kernel, by decide +kernel⟩
def b_is_short : MS := (sSeq (sSet 1 (mCall m_sure_lasso (aCons (mC (.int 3)) (aCons (mVar 0) aNil))))
  (sRet (mOp2 (opEq false) (mCall m_short_in (aCons (mOp2 opIx (mVar 1) (mC (.int 0))) (aCons (mOp2 opIx (mVar 1) (mC (.int 1))) aNil))) (mVar 1))))
def m_is_short : MF := mDef 2 1 b_is_short
/-! ### same_endless -/
abbrev s_same_endless : Stmt := topS 22
theorem sc_same_endless : FnScope ["one", "other", "near", "far"] ["one", "other"] (defScope s_same_endless) := ⟨rfl, rfl, rfl, by decide +kernel, rfl, by decide +kernel, by decide +kernel⟩
def b_same_endless : MS := (sSeq (sPar 2 3 (aCons (mCall m_sure_lasso (aCons (mC (.int 3)) (aCons (mVar 0) aNil))) (aCons (mCall m_sure_lasso (aCons (mC (.int 3)) (aCons (mVar 1) aNil))) aNil)))
  (sRet (mOp2 (opEq false) (mCall m_short_in (aCons (mOp2 opIx (mVar 2) (mC (.int 0))) (aCons (mOp2 opIx (mVar 2) (mC (.int 1))) aNil))) (mCall m_short_in (aCons (mOp2 opIx (mVar 3) (mC (.int 0))) (aCons (mOp2 opIx (mVar 3) (mC (.int 1))) aNil))))))
def m_same_endless : MF := mDef 4 2 b_same_endless
/-! ### entry_at -/
abbrev s_entry_at : Stmt := topS 23
theorem sc_entry_at : FnScope ["ahead", "round_so", "place"] ["ahead", "round_so", "place"] (defScope s_entry_at) := ⟨rfl, rfl, rfl, by decide +kernel, rfl, by decide +kernel, by decide +kernel⟩
def b_entry_at : MS := (sSeq (sIf (tBl (mOp2 opLe (mVar 2) (mCB oLen (aCons (mVar 0) aNil)))) (sRet (mOp2 opIx (mVar 0) (mOp2 opSub (mVar 2) (mC (.int 1))))) sNil)
  (sRet (mOp2 opIx (mVar 1) (mOp2 opMod (mOp2 opSub (mOp2 opSub (mVar 2) (mCB oLen (aCons (mVar 0) aNil))) (mC (.int 1))) (mCB oLen (aCons (mVar 1) aNil))))))
def m_entry_at : MF := mDef 3 3 b_entry_at
/-! ### sure_many -/
abbrev s_sure_many : Stmt := topS 17
theorem sc_sure_many : FnScope ["many", "most"] ["many", "most"] (defScope s_sure_many) := ⟨rfl, rfl, rfl, by decide +kernel, rfl, by decide +kernel, by decide +kernel⟩
def b_sure_many : MS := (sIf (tOr2 (tNot1 (tTru (mCall m_is_number (aCons (mVar 0) aNil)))) (tNot1 (tBl (mChain opLe opLe (mC (.int 0)) (mVar 0) (mVar 1))))) sStuck sNil)
def m_sure_many : MF := mDef 2 2 b_sure_many
/-! ### sure_spot -/
abbrev s_sure_spot : Stmt := topS 24
theorem sc_sure_spot : FnScope ["place"] ["place"] (defScope s_sure_spot) := ⟨rfl, rfl, rfl, by decide +kernel, rfl, by decide +kernel, by decide +kernel⟩
def b_sure_spot : MS := (sSeq (sDrop (mCall m_sure_many (aCons (mVar 0) (aCons (mC (.int 1000000000000000000000000000000)) aNil))))
  (sIf (tBl (mOp2 (opEq false) (mVar 0) (mC (.int 0)))) sStuck sNil))
def m_sure_spot : MF := mDef 1 1 b_sure_spot
/-! ### letter_at -/
abbrev s_letter_at : Stmt := topS 25
theorem sc_letter_at : FnScope ["lasso", "place", "own"] ["lasso", "place"] (defScope s_letter_at) := ⟨rfl, rfl, rfl, by decide +kernel, rfl, by decide +kernel, by decide +kernel⟩
def b_letter_at : MS := (sSeq (sSet 2 (mCall m_sure_lasso (aCons (mC (.int 3)) (aCons (mVar 0) aNil))))
  (sSeq (sDrop (mCall m_sure_spot (aCons (mVar 1) aNil)))
  (sRet (mCall m_entry_at (aCons (mOp2 opIx (mVar 2) (mC (.int 0))) (aCons (mOp2 opIx (mVar 2) (mC (.int 1))) (aCons (mVar 1) aNil)))))))
def m_letter_at : MF := mDef 3 2 b_letter_at
/-! ### first_letters -/
abbrev s_first_letters : Stmt := topS 26
theorem sc_first_letters : FnScope ["own", "many", "place"] ["own", "many"] (defScope s_first_letters) := ⟨rfl, rfl, rfl, by decide +kernel, rfl, by decide +kernel, by decide +kernel⟩
def b_first_letters : MS := (sRet (mCB oTuple (aCons (mComp false (jRng2 (mC (.int 1)) (mOp2 opAdd (mVar 1) (mC (.int 1)))) (bNm 2) tTrue (mCall m_entry_at (aCons (mOp2 opIx (mVar 0) (mC (.int 0))) (aCons (mOp2 opIx (mVar 0) (mC (.int 1))) (aCons (mVar 2) aNil)))) [2]) aNil)))
def m_first_letters : MF := mDef 3 2 b_first_letters
/-! ### beginning -/
abbrev s_beginning : Stmt := topS 27
theorem sc_beginning : FnScope ["lasso", "many", "own"] ["lasso", "many"] (defScope s_beginning) := ⟨rfl, rfl, rfl, by decide +kernel, rfl, by decide +kernel, by decide +kernel⟩
def b_beginning : MS := (sSeq (sSet 2 (mCall m_sure_lasso (aCons (mC (.int 3)) (aCons (mVar 0) aNil))))
  (sSeq (sDrop (mCall m_sure_many (aCons (mVar 1) (aCons (mC (.int 2000)) aNil))))
  (sRet (mCall m_first_letters (aCons (mVar 2) (aCons (mVar 1) aNil))))))
def m_beginning : MF := mDef 3 2 b_beginning
/-! ### moved_on -/
abbrev s_moved_on : Stmt := topS 28
theorem sc_moved_on : FnScope ["lasso", "many", "own", "ahead", "round_so", "rest"] ["lasso", "many"] (defScope s_moved_on) := ⟨rfl, rfl, rfl, by decide +kernel, rfl, by decide +kernel, by decide +kernel⟩
def b_moved_on : MS := (sSeq (sSet 2 (mCall m_sure_lasso (aCons (mC (.int 3)) (aCons (mVar 0) aNil))))
  (sSeq (sDrop (mCall m_sure_many (aCons (mVar 1) (aCons (mC (.int 1000000000000000000000000000000)) aNil))))
  (sSeq (sAsg (bTup 2 (bCons (bNm 3) (bCons (bNm 4) bNil))) (mVar 2))
  (sSeq (sIf (tBl (mOp2 opLe (mVar 1) (mCB oLen (aCons (mVar 3) aNil)))) (sRet (mCall m_short_in (aCons (mSl (mVar 3) (mPart (mVar 1)) mNoPart) (aCons (mVar 4) aNil)))) sNil)
  (sSeq (sSet 5 (mOp2 opMod (mOp2 opSub (mVar 1) (mCB oLen (aCons (mVar 3) aNil))) (mCB oLen (aCons (mVar 4) aNil))))
  (sRet (mCall m_short_in (aCons (mTup aNil) (aCons (mOp2 opAdd (mSl (mVar 4) (mPart (mVar 5)) mNoPart) (mSl (mVar 4) mNoPart (mPart (mVar 5)))) aNil)))))))))
def m_moved_on : MF := mDef 6 2 b_moved_on
/-! ### put_ahead -/
abbrev s_put_ahead : Stmt := topS 29
theorem sc_put_ahead : FnScope ["text", "lasso", "own", "told"] ["text", "lasso"] (defScope s_put_ahead) := ⟨rfl, rfl, rfl, by decide +kernel, rfl, by decide +kernel, by decide +kernel⟩
def b_put_ahead : MS := (sSeq (sPar 2 3 (aCons (mCall m_sure_lasso (aCons (mC (.int 3)) (aCons (mVar 1) aNil))) (aCons (mCall (m_tuple_of 4) (aCons (mVar 0) aNil)) aNil)))
  (sSeq (sIf (tNot1 (tTru (mCall m_is_text (aCons (mC (.int 3)) (aCons (mVar 3) aNil))))) sStuck sNil)
  (sRet (mCall m_short_in (aCons (mOp2 opAdd (mVar 3) (mOp2 opIx (mVar 2) (mC (.int 0)))) (aCons (mOp2 opIx (mVar 2) (mC (.int 1))) aNil))))))
def m_put_ahead : MF := mDef 4 2 b_put_ahead
/-! ### first_apart -/
abbrev s_first_apart : Stmt := topS 30
theorem sc_first_apart : FnScope ["one", "other", "near", "far", "most", "place"] ["one", "other"] (defScope s_first_apart) := ⟨rfl, rfl, rfl, by decide +kernel, rfl, by decide +kernel, by decide +kernel⟩
def b_first_apart : MS := (sSeq (sPar 2 3 (aCons (mCall m_sure_lasso (aCons (mC (.int 3)) (aCons (mVar 0) aNil))) (aCons (mCall m_sure_lasso (aCons (mC (.int 3)) (aCons (mVar 1) aNil))) aNil)))
  (sSeq (sSet 4 (mOp2 opAdd (mOp2 opAdd (mCB oMax2 (aCons (mCB oLen (aCons (mOp2 opIx (mVar 2) (mC (.int 0))) aNil)) (aCons (mCB oLen (aCons (mOp2 opIx (mVar 3) (mC (.int 0))) aNil)) aNil))) (mCB oLen (aCons (mOp2 opIx (mVar 2) (mC (.int 1))) aNil))) (mCB oLen (aCons (mOp2 opIx (mVar 3) (mC (.int 1))) aNil))))
  (sSeq (sFor (jRng2 (mC (.int 1)) (mOp2 opAdd (mVar 4) (mC (.int 1)))) (bNm 5) (sIf (tBl (mOp2 (opEq true) (mCall m_entry_at (aCons (mOp2 opIx (mVar 2) (mC (.int 0))) (aCons (mOp2 opIx (mVar 2) (mC (.int 1))) (aCons (mVar 5) aNil)))) (mCall m_entry_at (aCons (mOp2 opIx (mVar 3) (mC (.int 0))) (aCons (mOp2 opIx (mVar 3) (mC (.int 1))) (aCons (mVar 5) aNil)))))) (sRet (mVar 5)) sNil))
  (sRet (mC .non)))))
def m_first_apart : MF := mDef 6 2 b_first_apart
/-! ### endless_letters -/
abbrev s_endless_letters : Stmt := topS 31
theorem sc_endless_letters : FnScope ["lasso", "own"] ["lasso"] (defScope s_endless_letters) := ⟨rfl, rfl, rfl, by decide +kernel, rfl, by decide +kernel, by decide +kernel⟩
def b_endless_letters : MS := (sSeq (sSet 1 (mCall m_sure_lasso (aCons (mC (.int 3)) (aCons (mVar 0) aNil))))
  (sRet (mTup (aCons (mCB oTuple (aCons (mSortSet false (mOp2 opAdd (mOp2 opIx (mVar 1) (mC (.int 0))) (mOp2 opIx (mVar 1) (mC (.int 1))))) aNil)) (aCons (mCB oTuple (aCons (mSortSet false (mOp2 opIx (mVar 1) (mC (.int 1)))) aNil)) aNil)))))
def m_endless_letters : MF := mDef 2 1 b_endless_letters
/-! ### is_letters -/
abbrev s_is_letters : Stmt := topS 10
theorem sc_is_letters : FnScope ["wide", "thing", "near", "far"] ["wide", "thing"] (defScope s_is_letters) := ⟨rfl, rfl, rfl, by decide +kernel, rfl, by decide +kernel, by decide +kernel⟩
def b_is_letters : MS := (sRet (mAndT (mCall m_is_text (aCons (mVar 0) (aCons (mVar 1) aNil))) (mAndT (mOp2 (opEq true) (mVar 1) (mTup aNil)) (mCB oAll (aCons (mComp false (iZip2 (mVar 1) (mSl (mVar 1) (mPart (mC (.int 1))) mNoPart)) (bTup 2 (bCons (bNm 2) (bCons (bNm 3) bNil))) tTrue (mOp2 opLt (mVar 2) (mVar 3)) [2, 3]) aNil)))))
def m_is_letters : MF := mDef 4 2 b_is_letters
/-! ### sure_letters -/
abbrev s_sure_letters : Stmt := topS 32
theorem sc_sure_letters : FnScope ["letters", "own"] ["letters"] (defScope s_sure_letters) := ⟨rfl, rfl, rfl, by decide +kernel, rfl, by decide +kernel, by decide +kernel⟩
def b_sure_letters : MS := (sSeq (sSet 1 (mCall (m_tuple_of 4) (aCons (mVar 0) aNil)))
  (sSeq (sIf (tNot1 (tTru (mCall m_is_letters (aCons (mC (.int 3)) (aCons (mVar 1) aNil))))) sStuck sNil)
  (sRet (mVar 1))))
def m_sure_letters : MF := mDef 2 1 b_sure_letters
/-! ### count_in -/
abbrev s_count_in : Stmt := topS 33
theorem sc_count_in : FnScope ["row", "some", "own"] ["row", "some"] (defScope s_count_in) := ⟨rfl, rfl, rfl, by decide +kernel, rfl, by decide +kernel, by decide +kernel⟩
def b_count_in : MS := (sRet (mCB oLen (aCons (mComp false (iSeq (mVar 0)) (bNm 2) (tBl (mOp2 (opIn false) (mVar 2) (mVar 1))) (mVar 2) [2]) aNil)))
def m_count_in : MF := mDef 3 2 b_count_in
/-! ### how_often_to -/
abbrev s_how_often_to : Stmt := topS 34
theorem sc_how_often_to : FnScope ["lasso", "letters", "many", "own", "some", "ahead", "round_so", "rounds", "rest"] ["lasso", "letters", "many"] (defScope s_how_often_to) := ⟨rfl, rfl, rfl, by decide +kernel, rfl, by decide +kernel, by decide +kernel⟩
def b_how_often_to : MS := (sSeq (sPar 3 4 (aCons (mCall m_sure_lasso (aCons (mC (.int 3)) (aCons (mVar 0) aNil))) (aCons (mCall m_sure_letters (aCons (mVar 1) aNil)) aNil)))
  (sSeq (sDrop (mCall m_sure_many (aCons (mVar 2) (aCons (mC (.int 1000000000000000000000000000000)) aNil))))
  (sSeq (sAsg (bTup 2 (bCons (bNm 5) (bCons (bNm 6) bNil))) (mVar 3))
  (sSeq (sIf (tBl (mOp2 opLe (mVar 2) (mCB oLen (aCons (mVar 5) aNil)))) (sRet (mCall m_count_in (aCons (mSl (mVar 5) mNoPart (mPart (mVar 2))) (aCons (mVar 4) aNil)))) sNil)
  (sSeq (sPar 7 8 (aCons (mOp2 opDiv (mOp2 opSub (mVar 2) (mCB oLen (aCons (mVar 5) aNil))) (mCB oLen (aCons (mVar 6) aNil))) (aCons (mOp2 opMod (mOp2 opSub (mVar 2) (mCB oLen (aCons (mVar 5) aNil))) (mCB oLen (aCons (mVar 6) aNil))) aNil)))
  (sRet (mOp2 opAdd (mOp2 opAdd (mCall m_count_in (aCons (mVar 5) (aCons (mVar 4) aNil))) (mOp2 opMul (mVar 7) (mCall m_count_in (aCons (mVar 6) (aCons (mVar 4) aNil))))) (mCall m_count_in (aCons (mSl (mVar 6) mNoPart (mPart (mVar 8))) (aCons (mVar 4) aNil))))))))))
def m_how_often_to : MF := mDef 9 3 b_how_often_to
/-! ### next_with -/
abbrev s_next_with : Stmt := topS 35
theorem sc_next_with : FnScope ["lasso", "letters", "place", "own", "some", "later"] ["lasso", "letters", "place"] (defScope s_next_with) := ⟨rfl, rfl, rfl, by decide +kernel, rfl, by decide +kernel, by decide +kernel⟩
def b_next_with : MS := (sSeq (sPar 3 4 (aCons (mCall m_sure_lasso (aCons (mC (.int 3)) (aCons (mVar 0) aNil))) (aCons (mCall m_sure_letters (aCons (mVar 1) aNil)) aNil)))
  (sSeq (sDrop (mCall m_sure_many (aCons (mVar 2) (aCons (mC (.int 1000000000000000000000000000000)) aNil))))
  (sSeq (sFor (jRng2 (mOp2 opAdd (mVar 2) (mC (.int 1))) (mOp2 opAdd (mOp2 opAdd (mOp2 opAdd (mVar 2) (mCB oLen (aCons (mOp2 opIx (mVar 3) (mC (.int 0))) aNil))) (mCB oLen (aCons (mOp2 opIx (mVar 3) (mC (.int 1))) aNil))) (mC (.int 1)))) (bNm 5) (sIf (tBl (mOp2 (opIn false) (mCall m_entry_at (aCons (mOp2 opIx (mVar 3) (mC (.int 0))) (aCons (mOp2 opIx (mVar 3) (mC (.int 1))) (aCons (mVar 5) aNil)))) (mVar 4))) (sRet (mVar 5)) sNil))
  (sRet (mC .non)))))
def m_next_with : MF := mDef 6 3 b_next_with
/-! ### _law_box -/
abbrev s__law_box : Stmt := topS 37
theorem sc__law_box : FnScope ["script", "k", "cell"] ["script", "k"] (defScope s__law_box) := ⟨rfl, rfl, rfl, by decide +kernel, rfl, by decide +kernel, by decide +kernel⟩
def b__law_box : MS := (sSeq (sSet 2 (mIf (tBl (mOp2 opLt (mVar 1) (mCB oLen (aCons (mVar 0) aNil)))) (mOp2 opIx (mVar 0) (mVar 1)) (mC (.int 0))))
  (sRet (mLst true (aCons (mOp2 opMul (mCB oAbs (aCons (mVar 2) aNil)) (mCB oInt (aCons (mOp2 opGe (mCB oAbs (aCons (mVar 2) aNil)) (mOp2 opPow (mC (.int 10)) (mC (.int 18)))) aNil))) (aCons (mOp2 opAdd (mOp2 opAdd (mOp2 opMod (mCB oInt (aCons (mVar 2) aNil)) (mC (.int 2305843009213693951))) (mOp2 opMul (mC (.int 39373)) (mVar 1))) (mC (.int 2518279))) (aCons (mC (.int 0)) aNil))))))
def m__law_box : MF := mDef 3 2 b__law_box
/-! ### _law_take -/
abbrev s__law_take : Stmt := topS 38
theorem sc__law_take : FnScope ["tin", "below", "drawn", "once", "broad", "twice"] ["tin", "below"] (defScope s__law_take) := ⟨rfl, rfl, rfl, by decide +kernel, rfl, by decide +kernel, by decide +kernel⟩
def b__law_take : MS := (sSeq (sIf (tBl (mOp2 opGt (mOp2 opIx (mVar 0) (mC (.int 0))) (mC (.int 0)))) (sSeq (sSet 2 (mOp2 opMod (mCB oInt (aCons (mOp2 opIx (mVar 0) (mC (.int 0))) aNil)) (mVar 1)))
  (sSeq (sSub (mVar 0) (mC (.int 0)) (mOp2 opDiv (mOp2 opIx (mVar 0) (mC (.int 0))) (mVar 1)))
  (sRet (mVar 2)))) sNil)
  (sSeq (sSub (mVar 0) (mC (.int 2)) (mOp2 opAdd (mOp2 opIx (mVar 0) (mC (.int 2))) (mC (.int 1))))
  (sSeq (sSet 3 (mOp2 opMod (mCB oInt (aCons (mOp2 opMul (mOp2 opAdd (mOp2 opIx (mVar 0) (mC (.int 1))) (mOp2 opMul (mC (.int 48271)) (mOp2 opIx (mVar 0) (mC (.int 2))))) (mOp2 opAdd (mC (.int 39373)) (mOp2 opIx (mVar 0) (mC (.int 2))))) aNil)) (mC (.int 2147483647))))
  (sSeq (sSet 4 (mOp2 opAdd (mOp2 opMod (mCB oInt (aCons (mVar 3) aNil)) (mC (.int 40009))) (mC (.int 7))))
  (sSeq (sSet 5 (mOp2 opMod (mCB oInt (aCons (mOp2 opMul (mOp2 opAdd (mOp2 opAdd (mVar 3) (mOp2 opIx (mVar 0) (mC (.int 2)))) (mOp2 opDiv (mOp2 opIx (mVar 0) (mC (.int 1))) (mC (.int 1000003)))) (mVar 4)) aNil)) (mC (.int 2147483629))))
  (sRet (mOp2 opMod (mCB oInt (aCons (mOp2 opDiv (mOp2 opMod (mCB oInt (aCons (mOp2 opAdd (mOp2 opMul (mVar 5) (mC (.int 48271))) (mVar 3)) aNil)) (mC (.int 2147483587))) (mC (.int 64))) aNil)) (mVar 1))))))))
def m__law_take : MF := mDef 6 2 b__law_take
/-! ### _law_cells -/
abbrev s__law_cells : Stmt := topS 39
theorem sc__law_cells : FnScope ["script", "most", "cells", "k", "cell", "spot"] ["script", "most"] (defScope s__law_cells) := ⟨rfl, rfl, rfl, by decide +kernel, rfl, by decide +kernel, by decide +kernel⟩
def b__law_cells : MS := (sSeq (sSet 2 (mOrT (mListOf true (mSl (mVar 0) mNoPart (mPart (mVar 1)))) (mLst true (aCons (mC (.int 0)) aNil))))
  (sSeq (sFor (iEnum1 (mSl (mVar 0) (mPart (mVar 1)) (mPart (mC (.int 63))))) (bTup 2 (bCons (bNm 3) (bCons (bNm 4) bNil))) (sSeq (sSet 5 (mOp2 opMod (mCB oInt (aCons (mVar 3) aNil)) (mVar 1)))
  (sSub (mVar 2) (mVar 5) (mOp2 opAdd (mOp2 opIx (mVar 2) (mVar 5)) (mOp2 opMul (mVar 4) (mOp2 opAdd (mVar 3) (mC (.int 2))))))))
  (sRet (mVar 2))))
def m__law_cells : MF := mDef 6 2 b__law_cells
/-! ### _law_same -/
abbrev s__law_same : Stmt := topS 40
theorem sc__law_same : FnScope ["got", "goal", "mine", "own"] ["got", "goal"] (defScope s__law_same) := ⟨rfl, rfl, rfl, by decide +kernel, rfl, by decide +kernel, by decide +kernel⟩
def b__law_same (m__law_same0 : MF) : MS := (sSeq (sIf (tTru (mCB oIsi (aCons (mVar 1) (aCons (mTup (aCons (mC (.ty 3)) (aCons (mC (.ty 4)) aNil))) aNil)))) (sSeq (sIf (tOr2 (tBl (mOp2 (opEq true) (mCB oIsi (aCons (mVar 0) (aCons (mC (.ty 3)) aNil))) (mCB oIsi (aCons (mVar 1) (aCons (mC (.ty 3)) aNil))))) (tBl (mOp2 (opEq true) (mCB oIsi (aCons (mVar 0) (aCons (mC (.ty 4)) aNil))) (mCB oIsi (aCons (mVar 1) (aCons (mC (.ty 4)) aNil)))))) (sRet (mC (.bl false))) sNil)
  (sRet (mAndT (mOp2 (opEq false) (mCB oLen (aCons (mVar 0) aNil)) (mCB oLen (aCons (mVar 1) aNil))) (mCB oAll (aCons (mComp false (iZip2 (mVar 0) (mVar 1)) (bTup 2 (bCons (bNm 2) (bCons (bNm 3) bNil))) tTrue (mCall m__law_same0 (aCons (mVar 2) (aCons (mVar 3) aNil))) [2, 3]) aNil))))) sNil)
  (sSeq (sIf (tOr2 (tBl (mOp2 opIsN (mVar 1) (mC .non))) (tTru (mCB oIsi (aCons (mVar 1) (aCons (mTup (aCons (mC (.ty 1)) (aCons (mC (.ty 2)) aNil))) aNil))))) (sRet (mAndT (mOp2 (opEq false) (mVar 0) (mVar 1)) (mAndT (mOp2 (opEq false) (mCB oIsi (aCons (mVar 0) (aCons (mC (.ty 1)) aNil))) (mCB oIsi (aCons (mVar 1) (aCons (mC (.ty 1)) aNil)))) (mOp2 (opEq false) (mOp2 opIsN (mVar 0) (mC .non)) (mOp2 opIsN (mVar 1) (mC .non)))))) sNil)
  (sRet (mAndT (mCB oIsi (aCons (mVar 0) (aCons (mC (.ty 0)) aNil))) (mAndT (mNot (mCB oIsi (aCons (mVar 0) (aCons (mC (.ty 1)) aNil)))) (mOp2 (opEq false) (mVar 0) (mVar 1)))))))
def m__law_same : Nat → MF
  | 0 => fun _ _ => .stuck
  | n + 1 => mDef 4 2 (b__law_same (m__law_same n))
/-! ### _law_lists -/
abbrev s__law_lists : Stmt := topS 41
theorem sc__law_lists : FnScope ["matter", "own"] ["matter"] (defScope s__law_lists) := ⟨rfl, rfl, rfl, by decide +kernel, rfl, by decide +kernel, by decide +kernel⟩
def b__law_lists (m__law_lists0 : MF) : MS := (sRet (mIf (tTru (mCB oIsi (aCons (mVar 0) (aCons (mTup (aCons (mC (.ty 3)) (aCons (mC (.ty 4)) aNil))) aNil)))) (mComp false (iSeq (mVar 0)) (bNm 1) tTrue (mCall m__law_lists0 (aCons (mVar 1) aNil)) [1]) (mVar 0)))
def m__law_lists : Nat → MF
  | 0 => fun _ _ => .stuck
  | n + 1 => mDef 2 1 (b__law_lists (m__law_lists n))
/-! ### _law_of -/
abbrev s__law_of : Stmt := topS 42
theorem sc__law_of : FnScope ["tin", "goods"] ["tin", "goods"] (defScope s__law_of) := ⟨rfl, rfl, rfl, by decide +kernel, rfl, by decide +kernel, by decide +kernel⟩
def b__law_of : MS := (sRet (mOp2 opIx (mVar 1) (mCall m__law_take (aCons (mVar 0) (aCons (mCB oLen (aCons (mVar 1) aNil)) aNil)))))
def m__law_of : MF := mDef 2 2 b__law_of
/-! ### _law_row -/
abbrev s__law_row : Stmt := topS 44
theorem sc__law_row : FnScope ["tin", "wide", "many", "lap"] ["tin", "wide", "many"] (defScope s__law_row) := ⟨rfl, rfl, rfl, by decide +kernel, rfl, by decide +kernel, by decide +kernel⟩
def b__law_row : MS := (sRet (mCB oTuple (aCons (mComp false (jRng1 (mVar 2)) (bNm 3) tTrue (mOp2 opAdd (mC (.int 1)) (mCall m__law_take (aCons (mVar 0) (aCons (mVar 1) aNil)))) [3]) aNil)))
def m__law_row : MF := mDef 4 3 b__law_row
/-! ### _law_lasso -/
abbrev s__law_lasso : Stmt := topS 45
theorem sc__law_lasso : FnScope ["tin", "wide", "ahead", "back"] ["tin", "wide", "ahead", "back"] (defScope s__law_lasso) := ⟨rfl, rfl, rfl, by decide +kernel, rfl, by decide +kernel, by decide +kernel⟩
def b__law_lasso : MS := (sRet (mTup (aCons (mCall m__law_row (aCons (mVar 0) (aCons (mVar 1) (aCons (mCall m__law_take (aCons (mVar 0) (aCons (mOp2 opAdd (mVar 2) (mC (.int 1))) aNil))) aNil)))) (aCons (mCall m__law_row (aCons (mVar 0) (aCons (mVar 1) (aCons (mOp2 opAdd (mC (.int 1)) (mCall m__law_take (aCons (mVar 0) (aCons (mVar 3) aNil)))) aNil)))) aNil))))
def m__law_lasso : MF := mDef 4 4 b__law_lasso
/-! ### _law_gap_subsets -/
abbrev s__law_gap_subsets : Stmt := topS 43
theorem sc__law_gap_subsets : FnScope ["some", "found", "own", "one"] ["some"] (defScope s__law_gap_subsets) := ⟨rfl, rfl, rfl, by decide +kernel, rfl, by decide +kernel, by decide +kernel⟩
def b__law_gap_subsets : MS := (sSeq (sSet 1 (mLst false (aCons (mTup aNil) aNil)))
  (sSeq (sFor (iSeq (mVar 0)) (bNm 2) (sSet 1 (mOp2 opAdd (mVar 1) (mComp false (iSeq (mVar 1)) (bNm 3) tTrue (mOp2 opAdd (mVar 3) (mTup (aCons (mVar 2) aNil))) [3]))))
  (sRet (mVar 1))))
def m__law_gap_subsets : MF := mDef 4 1 b__law_gap_subsets
/-! ### _law_sets -/
abbrev s__law_sets : Stmt := topS 46
theorem sc__law_sets : FnScope ["wide", "own"] ["wide"] (defScope s__law_sets) := ⟨rfl, rfl, rfl, by decide +kernel, rfl, by decide +kernel, by decide +kernel⟩
def b__law_sets : MS := (sRet (mSorted false (mComp false (iSeq (mCall m__law_gap_subsets (aCons (mListRg false (vRng2 (mC (.int 1)) (mOp2 opAdd (mVar 0) (mC (.int 1))))) aNil))) (bNm 1) (tBl (mOp2 (opEq true) (mVar 1) (mTup aNil))) (mCB oTuple (aCons (mVar 1) aNil)) [1])))
def m__law_sets : MF := mDef 2 1 b__law_sets
/-! ### law -/
abbrev s_law : Stmt := topS 47
theorem sc_law : FnScope ["script", "tin", "lasso", "letters", "far", "ahead", "back", "whole", "rest", "many", "there", "got", "gaps", "behind", "other", "place", "text", "unlike", "step", "own"] ["script"] (defScope s_law) := ⟨rfl, rfl, rfl, by decide +kernel, rfl, by decide +kernel, by decide +kernel⟩
def b_law : MS := (sSeq (sSet 1 (mCall m__law_box (aCons (mCall m__law_cells (aCons (mVar 0) (aCons (mC (.int 1)) aNil))) (aCons (mC (.int 0)) aNil))))
  (sSeq (sAsg (bTup 2 (bCons (bNm 2) (bCons (bNm 3) bNil))) (mTup (aCons (mCall m__law_lasso (aCons (mVar 1) (aCons (mC (.int 3)) (aCons (mC (.int 6)) (aCons (mC (.int 5)) aNil))))) (aCons (mCall m__law_of (aCons (mVar 1) (aCons (mCall m__law_sets (aCons (mC (.int 3)) aNil)) aNil))) aNil))))
  (sSeq (sSet 4 (mOp2 opAdd (mOp2 opMul (mOp2 opPow (mC (.int 10)) (mC (.int 20))) (mOp2 opAdd (mC (.int 1)) (mCall m__law_take (aCons (mVar 1) (aCons (mC (.int 99)) aNil))))) (mCall m__law_take (aCons (mVar 1) (aCons (mOp2 opPow (mC (.int 10)) (mC (.int 6))) aNil)))))
  (sSeq (sAsg (bTup 2 (bCons (bNm 5) (bCons (bNm 6) bNil))) (mVar 2))
  (sSeq (sPar 7 8 (aCons (mOp2 opDiv (mOp2 opSub (mVar 4) (mCB oLen (aCons (mVar 5) aNil))) (mCB oLen (aCons (mVar 6) aNil))) (aCons (mOp2 opMod (mOp2 opSub (mVar 4) (mCB oLen (aCons (mVar 5) aNil))) (mCB oLen (aCons (mVar 6) aNil))) aNil)))
  (sSeq (sSet 9 (mOp2 opAdd (mOp2 opAdd (mCB oLen (aCons (mComp false (iSeq (mVar 5)) (bNm 19) (tBl (mOp2 (opIn false) (mVar 19) (mVar 3))) (mC (.int 1)) [19]) aNil)) (mOp2 opMul (mVar 7) (mCB oLen (aCons (mComp false (iSeq (mVar 6)) (bNm 19) (tBl (mOp2 (opIn false) (mVar 19) (mVar 3))) (mC (.int 1)) [19]) aNil)))) (mCB oLen (aCons (mComp false (iSeq (mSl (mVar 6) mNoPart (mPart (mVar 8)))) (bNm 19) (tBl (mOp2 (opIn false) (mVar 19) (mVar 3))) (mC (.int 1)) [19]) aNil))))
  (sSeq (sSet 10 (mOp2 opIx (mVar 6) (mOp2 opMod (mOp2 opSub (mOp2 opSub (mVar 4) (mCB oLen (aCons (mVar 5) aNil))) (mC (.int 1))) (mCB oLen (aCons (mVar 6) aNil)))))
  (sSeq (sSet 11 (mLst false (aCons (mCall m_how_often_to (aCons (mVar 2) (aCons (mCall (m__law_lists 4) (aCons (mVar 3) aNil)) (aCons (mVar 4) aNil)))) (aCons (mCall m_letter_at (aCons (mCall (m__law_lists 4) (aCons (mVar 2) aNil)) (aCons (mVar 4) aNil))) (aCons (mCall m_how_often_to (aCons (mVar 2) (aCons (mVar 3) (aCons (mOp2 opSub (mVar 4) (mC (.int 1))) aNil)))) (aCons (mCall m_how_often_to (aCons (mVar 2) (aCons (mTup (aCons (mC (.int 1)) (aCons (mC (.int 2)) (aCons (mC (.int 3)) aNil)))) (aCons (mVar 4) aNil)))) aNil))))))
  (sSeq (sSet 11 (mOp2 opAdd (mVar 11) (mLst false (aCons (mCall m_how_often_to (aCons (mVar 2) (aCons (mVar 3) (aCons (mC (.int 0)) aNil)))) aNil))))
  (sSeq (sIf (tNot1 (tTru (mCall (m__law_same 4) (aCons (mVar 11) (aCons (mLst false (aCons (mVar 9) (aCons (mVar 10) (aCons (mOp2 opSub (mVar 9) (mCB oInt (aCons (mOp2 (opIn false) (mVar 10) (mVar 3)) aNil))) (aCons (mVar 4) (aCons (mC (.int 0)) aNil)))))) aNil))))) (sRet (mC (.bl false))) sNil)
  (sSeq (sSet 12 (mComp false (jRng2 (mC (.int 1)) (mOp2 opAdd (mCB oLen (aCons (mVar 6) aNil)) (mC (.int 1)))) (bNm 18) (tBl (mOp2 (opIn false) (mOp2 opIx (mVar 6) (mOp2 opMod (mOp2 opAdd (mOp2 opSub (mOp2 opSub (mVar 4) (mCB oLen (aCons (mVar 5) aNil))) (mC (.int 1))) (mVar 18)) (mCB oLen (aCons (mVar 6) aNil)))) (mVar 3))) (mVar 18) [18]))
  (sSeq (sIf (tNot1 (tTru (mCall (m__law_same 4) (aCons (mCall m_next_with (aCons (mVar 2) (aCons (mVar 3) (aCons (mVar 4) aNil)))) (aCons (mIf (tBl (mOp2 (opEq true) (mVar 12) (mLst false aNil))) (mOp2 opAdd (mVar 4) (mOp2 opIx (mVar 12) (mC (.int 0)))) (mC .non)) aNil))))) (sRet (mC (.bl false))) sNil)
  (sSeq (sSet 13 (mCall m_moved_on (aCons (mVar 2) (aCons (mVar 4) aNil))))
  (sSeq (sIf (tNot1 (tTru (mCall (m__law_same 4) (aCons (mLst false (aCons (mCall m_beginning (aCons (mVar 13) (aCons (mC (.int 12)) aNil))) (aCons (mCall m_is_short (aCons (mVar 13) aNil)) (aCons (mCall m_put_ahead (aCons (mVar 5) (aCons (mTup (aCons (mTup aNil) (aCons (mVar 6) aNil))) aNil))) aNil)))) (aCons (mLst false (aCons (mCB oTuple (aCons (mComp false (jRng2 (mC (.int 1)) (mC (.int 13))) (bNm 19) tTrue (mCall m_letter_at (aCons (mVar 2) (aCons (mOp2 opAdd (mVar 4) (mVar 19)) aNil))) [19]) aNil)) (aCons (mC (.bl true)) (aCons (mCall m_lasso_short (aCons (mVar 2) aNil)) aNil)))) aNil))))) (sRet (mC (.bl false))) sNil)
  (sSeq (sIf (tOr2 (tBl (mOp2 (opEq true) (mCall m_endless_letters (aCons (mVar 13) aNil)) (mOp2 opMul (mTup (aCons (mOp2 opIx (mCall m_endless_letters (aCons (mVar 2) aNil)) (mC (.int 1))) aNil)) (mC (.int 2))))) (tBl (mOp2 (opEq true) (mCall m_endless_letters (aCons (mVar 2) aNil)) (mTup (aCons (mCB oTuple (aCons (mSortSet false (mOp2 opAdd (mVar 5) (mVar 6))) aNil)) (aCons (mCB oTuple (aCons (mSortSet false (mVar 6)) aNil)) aNil)))))) (sRet (mC (.bl false))) sNil)
  (sSeq (sSet 14 (mTup (aCons (mOp2 opAdd (mVar 5) (mSl (mVar 6) mNoPart (mPart (mC (.int 1))))) (aCons (mOp2 opAdd (mSl (mVar 6) (mPart (mC (.int 1))) mNoPart) (mSl (mVar 6) mNoPart (mPart (mC (.int 1))))) aNil))))
  (sSeq (sSet 15 (mCall m__law_take (aCons (mVar 1) (aCons (mC (.int 12)) aNil))))
  (sSeq (sSet 16 (mListOf true (mCall m_beginning (aCons (mVar 2) (aCons (mOp2 opAdd (mVar 15) (mC (.int 1))) aNil)))))
  (sSeq (sSub (mVar 16) (mVar 15) (mOp2 opAdd (mC (.int 1)) (mOp2 opMod (mOp2 opIx (mVar 16) (mVar 15)) (mC (.int 3)))))
  (sSeq (sSet 17 (mCall m_put_ahead (aCons (mCB oTuple (aCons (mVar 16) aNil)) (aCons (mCall m_moved_on (aCons (mVar 2) (aCons (mOp2 opAdd (mVar 15) (mC (.int 1))) aNil))) aNil))))
  (sSeq (sSet 11 (mLst false (aCons (mCall m_same_endless (aCons (mVar 2) (aCons (mVar 14) aNil))) (aCons (mCall m_first_apart (aCons (mVar 2) (aCons (mVar 14) aNil))) (aCons (mCall m_first_apart (aCons (mVar 2) (aCons (mVar 17) aNil))) (aCons (mCall m_same_endless (aCons (mVar 17) (aCons (mVar 2) aNil))) (aCons (mCall m_first_apart (aCons (mVar 17) (aCons (mVar 17) aNil))) aNil)))))))
  (sRet (mCall (m__law_same 4) (aCons (mVar 11) (aCons (mLst false (aCons (mC (.bl true)) (aCons (mC .non) (aCons (mOp2 opAdd (mVar 15) (mC (.int 1))) (aCons (mC (.bl false)) (aCons (mC .non) aNil)))))) aNil)))))))))))))))))))))))))
def m_law : MF := mDef 20 1 b_law
structure Fs (K : PySem.W.Frag) (mg : Str → Option Value) : Prop where
  d_tuple_of : Dfx K mg "tuple_of" s_tuple_of ["thing"]
  d_is_number : Dfx K mg "is_number" s_is_number ["thing"]
  d_sure_wide_of : Dfx K mg "sure_wide_of" s_sure_wide_of ["wide"]
  d_is_tuple_of : Dfx K mg "is_tuple_of" s_is_tuple_of ["thing", "many"]
  d_is_letter : Dfx K mg "is_letter" s_is_letter ["wide", "thing"]
  d_is_text : Dfx K mg "is_text" s_is_text ["wide", "thing"]
  d_is_lasso_form : Dfx K mg "is_lasso_form" s_is_lasso_form ["wide", "thing"]
  d_sure_lasso : Dfx K mg "sure_lasso" s_sure_lasso ["wide", "lasso"]
  d_shortest_round : Dfx K mg "shortest_round" s_shortest_round ["round_so"]
  d_short_in : Dfx K mg "short_in" s_short_in ["ahead", "round_so"]
  d_lasso_short : Dfx K mg "lasso_short" s_lasso_short ["lasso"]
  d_is_short : Dfx K mg "is_short" s_is_short ["lasso"]
  d_same_endless : Dfx K mg "same_endless" s_same_endless ["one", "other"]
  d_entry_at : Dfx K mg "entry_at" s_entry_at ["ahead", "round_so", "place"]
  d_sure_many : Dfx K mg "sure_many" s_sure_many ["many", "most"]
  d_sure_spot : Dfx K mg "sure_spot" s_sure_spot ["place"]
  d_letter_at : Dfx K mg "letter_at" s_letter_at ["lasso", "place"]
  d_first_letters : Dfx K mg "first_letters" s_first_letters ["own", "many"]
  d_beginning : Dfx K mg "beginning" s_beginning ["lasso", "many"]
  d_moved_on : Dfx K mg "moved_on" s_moved_on ["lasso", "many"]
  d_put_ahead : Dfx K mg "put_ahead" s_put_ahead ["text", "lasso"]
  d_first_apart : Dfx K mg "first_apart" s_first_apart ["one", "other"]
  d_endless_letters : Dfx K mg "endless_letters" s_endless_letters ["lasso"]
  d_is_letters : Dfx K mg "is_letters" s_is_letters ["wide", "thing"]
  d_sure_letters : Dfx K mg "sure_letters" s_sure_letters ["letters"]
  d_count_in : Dfx K mg "count_in" s_count_in ["row", "some"]
  d_how_often_to : Dfx K mg "how_often_to" s_how_often_to ["lasso", "letters", "many"]
  d_next_with : Dfx K mg "next_with" s_next_with ["lasso", "letters", "place"]
  d__law_box : Dfx K mg "_law_box" s__law_box ["script", "k"]
  d__law_take : Dfx K mg "_law_take" s__law_take ["tin", "below"]
  d__law_cells : Dfx K mg "_law_cells" s__law_cells ["script", "most"]
  d__law_same : Dfx K mg "_law_same" s__law_same ["got", "goal"]
  d__law_lists : Dfx K mg "_law_lists" s__law_lists ["matter"]
  d__law_of : Dfx K mg "_law_of" s__law_of ["tin", "goods"]
  d__law_row : Dfx K mg "_law_row" s__law_row ["tin", "wide", "many"]
  d__law_lasso : Dfx K mg "_law_lasso" s__law_lasso ["tin", "wide", "ahead", "back"]
  d__law_gap_subsets : Dfx K mg "_law_gap_subsets" s__law_gap_subsets ["some"]
  d__law_sets : Dfx K mg "_law_sets" s__law_sets ["wide"]
  d_law : Dfx K mg "law" s_law ["script"]
  z_abs : mg "abs" = none
  z_all : mg "all" = none
  z_bool : mg "bool" = none
  z_enumerate : mg "enumerate" = none
  z_int : mg "int" = none
  z_isinstance : mg "isinstance" = none
  z_len : mg "len" = none
  z_list : mg "list" = none
  z_max : mg "max" = none
  z_range : mg "range" = none
  z_set : mg "set" = none
  z_sorted : mg "sorted" = none
  z_str : mg "str" = none
  z_tuple : mg "tuple" = none
  z_zip : mg "zip" = none
  c_MOST_BEGINNING : ∃ t, mg "MOST_BEGINNING" = some (.int 2000 t)
  c_MOST_PLACE : ∃ t, mg "MOST_PLACE" = some (.int 1000000000000000000000000000000 t)
  c_MOST_WIDE : ∃ t, mg "MOST_WIDE" = some (.int 3 t)
section
variable {P : Program} {w : World} {K : PySem.W.Frag} {mg : Str → Option Value} {base : Heap}
theorem ok_tuple_of (h : Fs K mg) : ∀ n : Nat, Ok P w K mg base (0 + n) "tuple_of" s_tuple_of ["thing"] (m_tuple_of n)
  | 0 => Ok.stuck h.d_tuple_of
  | n + 1 => Ok.mk (k := 0 + n) h.d_tuple_of sc_tuple_of fun f cdv A outer s H E c => by
    have sc := sc_tuple_of
    have hu := c.room.units
    exact (ms_cons (m_ifS (mt_tru (m_callB (call_isi.or (call_isiT.or call_isiK)) sc_isi (by rfl) h.z_isinstance (by decide +kernel) (ma_cons (m_var 0 (pv 0)) (ma_cons (m_tup (ma_cons (m_ty 3 (by rfl) h.z_list (by decide +kernel) rfl) (ma_cons (m_ty 4 (by rfl) h.z_tuple (by decide +kernel) rfl) ma_nil))) ma_nil)))) (ms_one (m_ret (m_callTy call_tuple_of sc_tuple (by rfl) h.z_tuple (by decide +kernel) (ma_cons (m_comp false rfl sc.nd (mi_seq (m_var 0 (pv 0))) (blkOk_by (own := [("part", 1)]) (by first | decide +kernel | rfl)) (fun _ _ _ _ _ => (mg_nm (i := 1) sc.nd rfl (by first | exact Or.inl rfl | exact Or.inr rfl))) (fun _ _ _ _ _ => mts_nil) (fun _ _ _ _ _ => (m_callO (ok_tuple_of h n) c.room takes0 (by rfl) (ma_cons (m_var 1 (pv 1)) ma_nil))) bin_nm) ma_nil)))) ms_nil)
    (ms_one (m_ret (m_var 0 (pv 0)))))
theorem ok_is_number (h : Fs K mg) : Ok P w K mg base 1 "is_number" s_is_number ["thing"] m_is_number :=
  Ok.mk (k := 0) h.d_is_number sc_is_number fun f cdv A outer s H E c => by
    have sc := sc_is_number
    have hu := c.room.units
    exact (ms_one (m_ret (m_and (m_callB (call_isi.or (call_isiT.or call_isiK)) sc_isi (by rfl) h.z_isinstance (by decide +kernel) (ma_cons (m_var 0 (pv 0)) (ma_cons (m_ty 0 (by rfl) h.z_int (by decide +kernel) rfl) ma_nil))) (m_one (m_not (m_callB (call_isi.or (call_isiT.or call_isiK)) sc_isi (by rfl) h.z_isinstance (by decide +kernel) (ma_cons (m_var 0 (pv 0)) (ma_cons (m_ty 1 (by rfl) h.z_bool (by decide +kernel) rfl) ma_nil))))))))
theorem ok_sure_wide_of (h : Fs K mg) : Ok P w K mg base 2 "sure_wide_of" s_sure_wide_of ["wide"] m_sure_wide_of :=
  Ok.mk (k := 1) h.d_sure_wide_of sc_sure_wide_of fun f cdv A outer s H E c => by
    have sc := sc_sure_wide_of
    have hu := c.room.units
    exact (ms_one (m_ifS (mt_w (mw_or (mt_not (mt_tru (m_callO ((ok_is_number h).mono (by omega)) c.room c.takes (by rfl) (ma_cons (m_var 0 (pv 0)) ma_nil)))) (mw_or1 (mt_not (mt_chain op_le op_le sn_le sn_le (by rfl) m_int (m_var 0 (pv 0)) (m_gint (by rfl) h.c_MOST_WIDE)))))) (ms_one m_never) ms_nil))
theorem ok_is_tuple_of (h : Fs K mg) : Ok P w K mg base 1 "is_tuple_of" s_is_tuple_of ["thing", "many"] m_is_tuple_of :=
  Ok.mk (k := 0) h.d_is_tuple_of sc_is_tuple_of fun f cdv A outer s H E c => by
    have sc := sc_is_tuple_of
    have hu := c.room.units
    exact (ms_one (m_ret (m_and (m_callB (call_isi.or (call_isiT.or call_isiK)) sc_isi (by rfl) h.z_isinstance (by decide +kernel) (ma_cons (m_var 0 (pv 0)) (ma_cons (m_ty 4 (by rfl) h.z_tuple (by decide +kernel) rfl) ma_nil))) (m_one (m_cmp (or_eqP hu) sn_eq (nomark _) (m_callB call_len_seq sc_len (by rfl) h.z_len (by decide +kernel) (ma_cons (m_var 0 (pv 0)) ma_nil)) (m_var 1 (pv 1)))))))
theorem ok_is_letter (h : Fs K mg) : Ok P w K mg base 2 "is_letter" s_is_letter ["wide", "thing"] m_is_letter :=
  Ok.mk (k := 1) h.d_is_letter sc_is_letter fun f cdv A outer s H E c => by
    have sc := sc_is_letter
    have hu := c.room.units
    exact (ms_one (m_ret (m_and (m_callO ((ok_is_number h).mono (by omega)) c.room c.takes (by rfl) (ma_cons (m_var 1 (pv 1)) ma_nil)) (m_one (m_chain op_le op_le sn_le sn_le (by rfl) m_int (m_var 1 (pv 1)) (m_var 0 (pv 0)))))))
theorem ok_is_text (h : Fs K mg) : Ok P w K mg base 3 "is_text" s_is_text ["wide", "thing"] m_is_text :=
  Ok.mk (k := 2) h.d_is_text sc_is_text fun f cdv A outer s H E c => by
    have sc := sc_is_text
    have hu := c.room.units
    exact (ms_one (m_ret (m_and (m_callB (call_isi.or (call_isiT.or call_isiK)) sc_isi (by rfl) h.z_isinstance (by decide +kernel) (ma_cons (m_var 1 (pv 1)) (ma_cons (m_ty 4 (by rfl) h.z_tuple (by decide +kernel) rfl) ma_nil))) (m_one (m_callB (cr_all rfl) sc_all (by rfl) h.z_all (by decide +kernel) (ma_cons (m_comp false rfl sc.nd (mi_seq (m_var 1 (pv 1))) (blkOk_by (own := [("own", 2)]) (by first | decide +kernel | rfl)) (fun _ _ _ _ _ => (mg_nm (i := 2) sc.nd rfl (by first | exact Or.inl rfl | exact Or.inr rfl))) (fun _ _ _ _ _ => mts_nil) (fun _ _ _ _ _ => (m_callO ((ok_is_letter h).mono (by omega)) c.room takes0 (by rfl) (ma_cons (m_var 0 (pv 0)) (ma_cons (m_var 2 (pv 2)) ma_nil)))) bin_nm) ma_nil))))))
theorem ok_is_lasso_form (h : Fs K mg) : Ok P w K mg base 4 "is_lasso_form" s_is_lasso_form ["wide", "thing"] m_is_lasso_form :=
  Ok.mk (k := 3) h.d_is_lasso_form sc_is_lasso_form fun f cdv A outer s H E c => by
    have sc := sc_is_lasso_form
    have hu := c.room.units
    exact (ms_one (m_ret (m_and (m_callO ((ok_is_tuple_of h).mono (by omega)) c.room c.takes (by rfl) (ma_cons (m_var 1 (pv 1)) (ma_cons m_int ma_nil))) (m_and (m_callB (cr_all rfl) sc_all (by rfl) h.z_all (by decide +kernel) (ma_cons (m_comp false rfl sc.nd (mi_seq (m_var 1 (pv 1))) (blkOk_by (own := [("own", 2)]) (by first | decide +kernel | rfl)) (fun _ _ _ _ _ => (mg_nm (i := 2) sc.nd rfl (by first | exact Or.inl rfl | exact Or.inr rfl))) (fun _ _ _ _ _ => mts_nil) (fun _ _ _ _ _ => (m_callO ((ok_is_text h).mono (by omega)) c.room takes0 (by rfl) (ma_cons (m_var 0 (pv 0)) (ma_cons (m_var 2 (pv 2)) ma_nil)))) bin_nm) ma_nil)) (m_one (m_cmp (or_neP hu) sn_eq (nomark _) (m_ix (m_var 1 (pv 1)) m_int) (m_tup ma_nil)))))))
theorem ok_sure_lasso (h : Fs K mg) : Ok P w K mg base 5 "sure_lasso" s_sure_lasso ["wide", "lasso"] m_sure_lasso :=
  Ok.mk (k := 4) h.d_sure_lasso sc_sure_lasso fun f cdv A outer s H E c => by
    have sc := sc_sure_lasso
    have hu := c.room.units
    exact (ms_cons (m_drop (m_callO ((ok_sure_wide_of h).mono (by omega)) c.room c.takes (by rfl) (ma_cons (m_var 0 (pv 0)) ma_nil)))
    (ms_cons (m_set (i := 2) (ps_set (i := 2) sc.nd rfl (Or.inl rfl) (m_callO ((ok_tuple_of h 4).mono (by omega)) c.room c.takes (by rfl) (ma_cons (m_var 1 (pv 1)) ma_nil))))
    (ms_cons (m_ifS (mt_not (mt_tru (m_callO ((ok_is_lasso_form h).mono (by omega)) c.room c.takes (by rfl) (ma_cons (m_var 0 (pv 0)) (ma_cons (m_var 2 (pv 2)) ma_nil))))) (ms_one m_never) ms_nil)
    (ms_one (m_ret (m_var 2 (pv 2)))))))
theorem ok_shortest_round (h : Fs K mg) : Ok P w K mg base 1 "shortest_round" s_shortest_round ["round_so"] m_shortest_round :=
  Ok.mk (k := 0) h.d_shortest_round sc_shortest_round fun f cdv A outer s H E c => by
    have sc := sc_shortest_round
    have hu := c.room.units
    exact (ms_cons (m_for c.passes rfl (mj_rng2 (by rfl) h.z_range m_int (m_op or_add sn_add (m_callB call_len_seq sc_len (by rfl) h.z_len (by decide +kernel) (ma_cons (m_var 0 (pv 0)) ma_nil)) m_int)) (mg_nm (i := 1) sc.nd rfl (by first | exact Or.inl rfl | exact Or.inr rfl)) (ms_one (m_ifS (mt_w (mw_and (mt_cmp (or_eqP hu) sn_eq (nomark _) (m_op op_modN sn_mod (m_callB call_len_seq sc_len (by rfl) h.z_len (by decide +kernel) (ma_cons (m_var 0 (pv 0)) ma_nil)) (m_var 1 (pv 1))) m_int) (mw_and1 (mt_cmp (or_eqP hu) sn_eq (nomark _) (m_op or_mul sn_mul (m_sl (m_var 0 (pv 0)) m_nopart (m_part (m_var 1 (pv 1)))) (m_op op_fdivN sn_div (m_callB call_len_seq sc_len (by rfl) h.z_len (by decide +kernel) (ma_cons (m_var 0 (pv 0)) ma_nil)) (m_var 1 (pv 1)))) (m_var 0 (pv 0)))))) (ms_one (m_ret (m_sl (m_var 0 (pv 0)) m_nopart (m_part (m_var 1 (pv 1)))))) ms_nil)))
    (ms_one (m_ret (m_var 0 (pv 0)))))
theorem ok_short_in (h : Fs K mg) : Ok P w K mg base 2 "short_in" s_short_in ["ahead", "round_so"] m_short_in :=
  Ok.mk (k := 1) h.d_short_in sc_short_in fun f cdv A outer s H E c => by
    have sc := sc_short_in
    have hu := c.room.units
    exact (ms_cons (m_par (i := 2) (j := 3) (ps_par rfl sc.nd rfl rfl (by decide) rfl rfl (ma_cons (m_var 0 (pv 0)) (ma_cons (m_callO ((ok_shortest_round h).mono (by omega)) c.room c.takes (by rfl) (ma_cons (m_var 1 (pv 1)) ma_nil)) ma_nil)) rfl))
    (ms_cons (m_while 100 c.passes (mt_w (mw_and (mt_cmp (or_neP hu) sn_eq (nomark _) (m_var 2 (pv 2)) (m_tup ma_nil)) (mw_and1 (mt_cmp (or_eqP hu) sn_eq (nomark _) (m_ix (m_var 2 (pv 2)) (m_un un_neg sn_neg m_int)) (m_ix (m_var 3 (pv 3)) (m_un un_neg sn_neg m_int)))))) (ms_one (m_par (i := 2) (j := 3) (ps_par rfl sc.nd rfl rfl (by decide) rfl rfl (ma_cons (m_sl (m_var 2 (pv 2)) m_nopart (m_part (m_un un_neg sn_neg m_int))) (ma_cons (m_tup (ma_cons (m_ix (m_var 3 (pv 3)) (m_un un_neg sn_neg m_int)) (ma_star (m_sl (m_var 3 (pv 3)) m_nopart (m_part (m_un un_neg sn_neg m_int))) ma_nil))) ma_nil)) rfl))))
    (ms_one (m_ret (m_tup (ma_cons (m_var 2 (pv 2)) (ma_cons (m_var 3 (pv 3)) ma_nil)))))))
theorem ok_lasso_short (h : Fs K mg) : Ok P w K mg base 6 "lasso_short" s_lasso_short ["lasso"] m_lasso_short :=
  Ok.mk (k := 5) h.d_lasso_short sc_lasso_short fun f cdv A outer s H E c => by
    have sc := sc_lasso_short
    have hu := c.room.units
    exact (ms_cons (m_set (i := 1) (ps_set (i := 1) sc.nd rfl (Or.inl rfl) (m_callO ((ok_sure_lasso h).mono (by omega)) c.room c.takes (by rfl) (ma_cons (m_gint (by rfl) h.c_MOST_WIDE) (ma_cons (m_var 0 (pv 0)) ma_nil)))))
    (ms_one (m_ret (m_callO ((ok_short_in h).mono (by omega)) c.room c.takes (by rfl) (ma_cons (m_ix (m_var 1 (pv 1)) m_int) (ma_cons (m_ix (m_var 1 (pv 1)) m_int) ma_nil))))))
theorem ok_is_short (h : Fs K mg) : Ok P w K mg base 6 "is_short" s_is_short ["lasso"] m_is_short :=
  Ok.mk (k := 5) h.d_is_short sc_is_short fun f cdv A outer s H E c => by
    have sc := sc_is_short
    have hu := c.room.units
    exact (ms_cons (m_set (i := 1) (ps_set (i := 1) sc.nd rfl (Or.inl rfl) (m_callO ((ok_sure_lasso h).mono (by omega)) c.room c.takes (by rfl) (ma_cons (m_gint (by rfl) h.c_MOST_WIDE) (ma_cons (m_var 0 (pv 0)) ma_nil)))))
    (ms_one (m_ret (m_cmp (or_eqP hu) sn_eq (nomark _) (m_callO ((ok_short_in h).mono (by omega)) c.room c.takes (by rfl) (ma_cons (m_ix (m_var 1 (pv 1)) m_int) (ma_cons (m_ix (m_var 1 (pv 1)) m_int) ma_nil))) (m_var 1 (pv 1))))))
theorem ok_same_endless (h : Fs K mg) : Ok P w K mg base 6 "same_endless" s_same_endless ["one", "other"] m_same_endless :=
  Ok.mk (k := 5) h.d_same_endless sc_same_endless fun f cdv A outer s H E c => by
    have sc := sc_same_endless
    have hu := c.room.units
    exact (ms_cons (m_par (i := 2) (j := 3) (ps_par rfl sc.nd rfl rfl (by decide) rfl rfl (ma_cons (m_callO ((ok_sure_lasso h).mono (by omega)) c.room c.takes (by rfl) (ma_cons (m_gint (by rfl) h.c_MOST_WIDE) (ma_cons (m_var 0 (pv 0)) ma_nil))) (ma_cons (m_callO ((ok_sure_lasso h).mono (by omega)) c.room c.takes (by rfl) (ma_cons (m_gint (by rfl) h.c_MOST_WIDE) (ma_cons (m_var 1 (pv 1)) ma_nil))) ma_nil)) rfl))
    (ms_one (m_ret (m_cmp (or_eqP hu) sn_eq (nomark _) (m_callO ((ok_short_in h).mono (by omega)) c.room c.takes (by rfl) (ma_cons (m_ix (m_var 2 (pv 2)) m_int) (ma_cons (m_ix (m_var 2 (pv 2)) m_int) ma_nil))) (m_callO ((ok_short_in h).mono (by omega)) c.room c.takes (by rfl) (ma_cons (m_ix (m_var 3 (pv 3)) m_int) (ma_cons (m_ix (m_var 3 (pv 3)) m_int) ma_nil)))))))
theorem ok_entry_at (h : Fs K mg) : Ok P w K mg base 1 "entry_at" s_entry_at ["ahead", "round_so", "place"] m_entry_at :=
  Ok.mk (k := 0) h.d_entry_at sc_entry_at fun f cdv A outer s H E c => by
    have sc := sc_entry_at
    have hu := c.room.units
    exact (ms_cons (m_ifS (mt_cmp op_le sn_le (nomark _) (m_var 2 (pv 2)) (m_callB call_len_seq sc_len (by rfl) h.z_len (by decide +kernel) (ma_cons (m_var 0 (pv 0)) ma_nil))) (ms_one (m_ret (m_ix (m_var 0 (pv 0)) (m_op op_sub sn_sub (m_var 2 (pv 2)) m_int)))) ms_nil)
    (ms_one (m_ret (m_ix (m_var 1 (pv 1)) (m_op op_modN sn_mod (m_op op_sub sn_sub (m_op op_sub sn_sub (m_var 2 (pv 2)) (m_callB call_len_seq sc_len (by rfl) h.z_len (by decide +kernel) (ma_cons (m_var 0 (pv 0)) ma_nil))) m_int) (m_callB call_len_seq sc_len (by rfl) h.z_len (by decide +kernel) (ma_cons (m_var 1 (pv 1)) ma_nil)))))))
theorem ok_sure_many (h : Fs K mg) : Ok P w K mg base 2 "sure_many" s_sure_many ["many", "most"] m_sure_many :=
  Ok.mk (k := 1) h.d_sure_many sc_sure_many fun f cdv A outer s H E c => by
    have sc := sc_sure_many
    have hu := c.room.units
    exact (ms_one (m_ifS (mt_w (mw_or (mt_not (mt_tru (m_callO ((ok_is_number h).mono (by omega)) c.room c.takes (by rfl) (ma_cons (m_var 0 (pv 0)) ma_nil)))) (mw_or1 (mt_not (mt_chain op_le op_le sn_le sn_le (by rfl) m_int (m_var 0 (pv 0)) (m_var 1 (pv 1))))))) (ms_one m_never) ms_nil))
theorem ok_sure_spot (h : Fs K mg) : Ok P w K mg base 3 "sure_spot" s_sure_spot ["place"] m_sure_spot :=
  Ok.mk (k := 2) h.d_sure_spot sc_sure_spot fun f cdv A outer s H E c => by
    have sc := sc_sure_spot
    have hu := c.room.units
    exact (ms_cons (m_drop (m_callO ((ok_sure_many h).mono (by omega)) c.room c.takes (by rfl) (ma_cons (m_var 0 (pv 0)) (ma_cons (m_gint (by rfl) h.c_MOST_PLACE) ma_nil))))
    (ms_one (m_ifS (mt_cmp (or_eqP hu) sn_eq (nomark _) (m_var 0 (pv 0)) m_int) (ms_one m_never) ms_nil)))
theorem ok_letter_at (h : Fs K mg) : Ok P w K mg base 6 "letter_at" s_letter_at ["lasso", "place"] m_letter_at :=
  Ok.mk (k := 5) h.d_letter_at sc_letter_at fun f cdv A outer s H E c => by
    have sc := sc_letter_at
    have hu := c.room.units
    exact (ms_cons (m_set (i := 2) (ps_set (i := 2) sc.nd rfl (Or.inl rfl) (m_callO ((ok_sure_lasso h).mono (by omega)) c.room c.takes (by rfl) (ma_cons (m_gint (by rfl) h.c_MOST_WIDE) (ma_cons (m_var 0 (pv 0)) ma_nil)))))
    (ms_cons (m_drop (m_callO ((ok_sure_spot h).mono (by omega)) c.room c.takes (by rfl) (ma_cons (m_var 1 (pv 1)) ma_nil)))
    (ms_one (m_ret (m_callO ((ok_entry_at h).mono (by omega)) c.room c.takes (by rfl) (ma_cons (m_ix (m_var 2 (pv 2)) m_int) (ma_cons (m_ix (m_var 2 (pv 2)) m_int) (ma_cons (m_var 1 (pv 1)) ma_nil))))))))
theorem ok_first_letters (h : Fs K mg) : Ok P w K mg base 2 "first_letters" s_first_letters ["own", "many"] m_first_letters :=
  Ok.mk (k := 1) h.d_first_letters sc_first_letters fun f cdv A outer s H E c => by
    have sc := sc_first_letters
    have hu := c.room.units
    exact (ms_one (m_ret (m_callTy call_tuple_of sc_tuple (by rfl) h.z_tuple (by decide +kernel) (ma_cons (m_comp false rfl sc.nd (mj_rng2 (by rfl) h.z_range m_int (m_op or_add sn_add (m_var 1 (pv 1)) m_int)) (blkOk_by (own := [("place", 2)]) (by first | decide +kernel | rfl)) (fun _ _ _ _ _ => (mg_nm (i := 2) sc.nd rfl (by first | exact Or.inl rfl | exact Or.inr rfl))) (fun _ _ _ _ _ => mts_nil) (fun _ _ _ _ _ => (m_callO ((ok_entry_at h).mono (by omega)) c.room takes0 (by rfl) (ma_cons (m_ix (m_var 0 (pv 0)) m_int) (ma_cons (m_ix (m_var 0 (pv 0)) m_int) (ma_cons (m_var 2 (pv 2)) ma_nil))))) bin_nm) ma_nil))))
theorem ok_beginning (h : Fs K mg) : Ok P w K mg base 6 "beginning" s_beginning ["lasso", "many"] m_beginning :=
  Ok.mk (k := 5) h.d_beginning sc_beginning fun f cdv A outer s H E c => by
    have sc := sc_beginning
    have hu := c.room.units
    exact (ms_cons (m_set (i := 2) (ps_set (i := 2) sc.nd rfl (Or.inl rfl) (m_callO ((ok_sure_lasso h).mono (by omega)) c.room c.takes (by rfl) (ma_cons (m_gint (by rfl) h.c_MOST_WIDE) (ma_cons (m_var 0 (pv 0)) ma_nil)))))
    (ms_cons (m_drop (m_callO ((ok_sure_many h).mono (by omega)) c.room c.takes (by rfl) (ma_cons (m_var 1 (pv 1)) (ma_cons (m_gint (by rfl) h.c_MOST_BEGINNING) ma_nil))))
    (ms_one (m_ret (m_callO ((ok_first_letters h).mono (by omega)) c.room c.takes (by rfl) (ma_cons (m_var 2 (pv 2)) (ma_cons (m_var 1 (pv 1)) ma_nil)))))))
theorem ok_moved_on (h : Fs K mg) : Ok P w K mg base 6 "moved_on" s_moved_on ["lasso", "many"] m_moved_on :=
  Ok.mk (k := 5) h.d_moved_on sc_moved_on fun f cdv A outer s H E c => by
    have sc := sc_moved_on
    have hu := c.room.units
    exact (ms_cons (m_set (i := 2) (ps_set (i := 2) sc.nd rfl (Or.inl rfl) (m_callO ((ok_sure_lasso h).mono (by omega)) c.room c.takes (by rfl) (ma_cons (m_gint (by rfl) h.c_MOST_WIDE) (ma_cons (m_var 0 (pv 0)) ma_nil)))))
    (ms_cons (m_drop (m_callO ((ok_sure_many h).mono (by omega)) c.room c.takes (by rfl) (ma_cons (m_var 1 (pv 1)) (ma_cons (m_gint (by rfl) h.c_MOST_PLACE) ma_nil))))
    (ms_cons (m_asg (ps_asg (m_var 2 (pv 2)) (mg_tup rfl (mgs_cons (mg_nm (i := 3) sc.nd rfl (by first | exact Or.inl rfl | exact Or.inr rfl)) (mgs_cons (mg_nm (i := 4) sc.nd rfl (by first | exact Or.inl rfl | exact Or.inr rfl)) mgs_nil)))))
    (ms_cons (m_ifS (mt_cmp op_le sn_le (nomark _) (m_var 1 (pv 1)) (m_callB call_len_seq sc_len (by rfl) h.z_len (by decide +kernel) (ma_cons (m_var 3 (pv 3)) ma_nil))) (ms_one (m_ret (m_callO ((ok_short_in h).mono (by omega)) c.room c.takes (by rfl) (ma_cons (m_sl (m_var 3 (pv 3)) (m_part (m_var 1 (pv 1))) m_nopart) (ma_cons (m_var 4 (pv 4)) ma_nil))))) ms_nil)
    (ms_cons (m_set (i := 5) (ps_set (i := 5) sc.nd rfl (Or.inl rfl) (m_op op_modN sn_mod (m_op op_sub sn_sub (m_var 1 (pv 1)) (m_callB call_len_seq sc_len (by rfl) h.z_len (by decide +kernel) (ma_cons (m_var 3 (pv 3)) ma_nil))) (m_callB call_len_seq sc_len (by rfl) h.z_len (by decide +kernel) (ma_cons (m_var 4 (pv 4)) ma_nil)))))
    (ms_one (m_ret (m_callO ((ok_short_in h).mono (by omega)) c.room c.takes (by rfl) (ma_cons (m_tup ma_nil) (ma_cons (m_op or_add sn_add (m_sl (m_var 4 (pv 4)) (m_part (m_var 5 (pv 5))) m_nopart) (m_sl (m_var 4 (pv 4)) m_nopart (m_part (m_var 5 (pv 5))))) ma_nil))))))))))
theorem ok_put_ahead (h : Fs K mg) : Ok P w K mg base 6 "put_ahead" s_put_ahead ["text", "lasso"] m_put_ahead :=
  Ok.mk (k := 5) h.d_put_ahead sc_put_ahead fun f cdv A outer s H E c => by
    have sc := sc_put_ahead
    have hu := c.room.units
    exact (ms_cons (m_par (i := 2) (j := 3) (ps_par rfl sc.nd rfl rfl (by decide) rfl rfl (ma_cons (m_callO ((ok_sure_lasso h).mono (by omega)) c.room c.takes (by rfl) (ma_cons (m_gint (by rfl) h.c_MOST_WIDE) (ma_cons (m_var 1 (pv 1)) ma_nil))) (ma_cons (m_callO ((ok_tuple_of h 4).mono (by omega)) c.room c.takes (by rfl) (ma_cons (m_var 0 (pv 0)) ma_nil)) ma_nil)) rfl))
    (ms_cons (m_ifS (mt_not (mt_tru (m_callO ((ok_is_text h).mono (by omega)) c.room c.takes (by rfl) (ma_cons (m_gint (by rfl) h.c_MOST_WIDE) (ma_cons (m_var 3 (pv 3)) ma_nil))))) (ms_one m_never) ms_nil)
    (ms_one (m_ret (m_callO ((ok_short_in h).mono (by omega)) c.room c.takes (by rfl) (ma_cons (m_op or_add sn_add (m_var 3 (pv 3)) (m_ix (m_var 2 (pv 2)) m_int)) (ma_cons (m_ix (m_var 2 (pv 2)) m_int) ma_nil)))))))
theorem ok_first_apart (h : Fs K mg) : Ok P w K mg base 6 "first_apart" s_first_apart ["one", "other"] m_first_apart :=
  Ok.mk (k := 5) h.d_first_apart sc_first_apart fun f cdv A outer s H E c => by
    have sc := sc_first_apart
    have hu := c.room.units
    exact (ms_cons (m_par (i := 2) (j := 3) (ps_par rfl sc.nd rfl rfl (by decide) rfl rfl (ma_cons (m_callO ((ok_sure_lasso h).mono (by omega)) c.room c.takes (by rfl) (ma_cons (m_gint (by rfl) h.c_MOST_WIDE) (ma_cons (m_var 0 (pv 0)) ma_nil))) (ma_cons (m_callO ((ok_sure_lasso h).mono (by omega)) c.room c.takes (by rfl) (ma_cons (m_gint (by rfl) h.c_MOST_WIDE) (ma_cons (m_var 1 (pv 1)) ma_nil))) ma_nil)) rfl))
    (ms_cons (m_set (i := 4) (ps_set (i := 4) sc.nd rfl (Or.inl rfl) (m_op or_add sn_add (m_op or_add sn_add (m_callB (call_max2 rfl) sc_max2 (by rfl) h.z_max (by decide +kernel) (ma_cons (m_callB call_len_seq sc_len (by rfl) h.z_len (by decide +kernel) (ma_cons (m_ix (m_var 2 (pv 2)) m_int) ma_nil)) (ma_cons (m_callB call_len_seq sc_len (by rfl) h.z_len (by decide +kernel) (ma_cons (m_ix (m_var 3 (pv 3)) m_int) ma_nil)) ma_nil))) (m_callB call_len_seq sc_len (by rfl) h.z_len (by decide +kernel) (ma_cons (m_ix (m_var 2 (pv 2)) m_int) ma_nil))) (m_callB call_len_seq sc_len (by rfl) h.z_len (by decide +kernel) (ma_cons (m_ix (m_var 3 (pv 3)) m_int) ma_nil)))))
    (ms_cons (m_for c.passes rfl (mj_rng2 (by rfl) h.z_range m_int (m_op or_add sn_add (m_var 4 (pv 4)) m_int)) (mg_nm (i := 5) sc.nd rfl (by first | exact Or.inl rfl | exact Or.inr rfl)) (ms_one (m_ifS (mt_cmp (or_neP hu) sn_eq (nomark _) (m_callO ((ok_entry_at h).mono (by omega)) c.room c.takes (by rfl) (ma_cons (m_ix (m_var 2 (pv 2)) m_int) (ma_cons (m_ix (m_var 2 (pv 2)) m_int) (ma_cons (m_var 5 (pv 5)) ma_nil)))) (m_callO ((ok_entry_at h).mono (by omega)) c.room c.takes (by rfl) (ma_cons (m_ix (m_var 3 (pv 3)) m_int) (ma_cons (m_ix (m_var 3 (pv 3)) m_int) (ma_cons (m_var 5 (pv 5)) ma_nil))))) (ms_one (m_ret (m_var 5 (pv 5)))) ms_nil)))
    (ms_one (m_ret m_non)))))
theorem ok_endless_letters (h : Fs K mg) : Ok P w K mg base 6 "endless_letters" s_endless_letters ["lasso"] m_endless_letters :=
  Ok.mk (k := 5) h.d_endless_letters sc_endless_letters fun f cdv A outer s H E c => by
    have sc := sc_endless_letters
    have hu := c.room.units
    exact (ms_cons (m_set (i := 1) (ps_set (i := 1) sc.nd rfl (Or.inl rfl) (m_callO ((ok_sure_lasso h).mono (by omega)) c.room c.takes (by rfl) (ma_cons (m_gint (by rfl) h.c_MOST_WIDE) (ma_cons (m_var 0 (pv 0)) ma_nil)))))
    (ms_one (m_ret (m_tup (ma_cons (m_callTy call_tuple_of sc_tuple (by rfl) h.z_tuple (by decide +kernel) (ma_cons (m_sortSet false rfl (by rfl) h.z_sorted (by rfl) h.z_set (m_op or_add sn_add (m_ix (m_var 1 (pv 1)) m_int) (m_ix (m_var 1 (pv 1)) m_int))) ma_nil)) (ma_cons (m_callTy call_tuple_of sc_tuple (by rfl) h.z_tuple (by decide +kernel) (ma_cons (m_sortSet false rfl (by rfl) h.z_sorted (by rfl) h.z_set (m_ix (m_var 1 (pv 1)) m_int)) ma_nil)) ma_nil))))))
theorem ok_is_letters (h : Fs K mg) : Ok P w K mg base 4 "is_letters" s_is_letters ["wide", "thing"] m_is_letters :=
  Ok.mk (k := 3) h.d_is_letters sc_is_letters fun f cdv A outer s H E c => by
    have sc := sc_is_letters
    have hu := c.room.units
    exact (ms_one (m_ret (m_and (m_callO ((ok_is_text h).mono (by omega)) c.room c.takes (by rfl) (ma_cons (m_var 0 (pv 0)) (ma_cons (m_var 1 (pv 1)) ma_nil))) (m_and (m_cmp (or_neP hu) sn_eq (nomark _) (m_var 1 (pv 1)) (m_tup ma_nil)) (m_one (m_callB (cr_all rfl) sc_all (by rfl) h.z_all (by decide +kernel) (ma_cons (m_comp false rfl sc.nd (mi_zip (by rfl) h.z_zip (m_var 1 (pv 1)) (m_sl (m_var 1 (pv 1)) (m_part m_int) m_nopart)) (blkOk_by (own := [("near", 2), ("far", 3)]) (by first | decide +kernel | rfl)) (fun _ _ _ _ _ => (mg_tup rfl (mgs_cons (mg_nm (i := 2) sc.nd rfl (by first | exact Or.inl rfl | exact Or.inr rfl)) (mgs_cons (mg_nm (i := 3) sc.nd rfl (by first | exact Or.inl rfl | exact Or.inr rfl)) mgs_nil)))) (fun _ _ _ _ _ => mts_nil) (fun _ _ _ _ _ => (m_cmp op_lt sn_lt (nomark _) (m_var 2 (pv 2)) (m_var 3 (pv 3)))) (bin_tup (bsin_cons bin_nm (bsin_cons bin_nm bsin_nil)))) ma_nil)))))))
theorem ok_sure_letters (h : Fs K mg) : Ok P w K mg base 5 "sure_letters" s_sure_letters ["letters"] m_sure_letters :=
  Ok.mk (k := 4) h.d_sure_letters sc_sure_letters fun f cdv A outer s H E c => by
    have sc := sc_sure_letters
    have hu := c.room.units
    exact (ms_cons (m_set (i := 1) (ps_set (i := 1) sc.nd rfl (Or.inl rfl) (m_callO ((ok_tuple_of h 4).mono (by omega)) c.room c.takes (by rfl) (ma_cons (m_var 0 (pv 0)) ma_nil))))
    (ms_cons (m_ifS (mt_not (mt_tru (m_callO ((ok_is_letters h).mono (by omega)) c.room c.takes (by rfl) (ma_cons (m_gint (by rfl) h.c_MOST_WIDE) (ma_cons (m_var 1 (pv 1)) ma_nil))))) (ms_one m_never) ms_nil)
    (ms_one (m_ret (m_var 1 (pv 1))))))
theorem ok_count_in (h : Fs K mg) : Ok P w K mg base 1 "count_in" s_count_in ["row", "some"] m_count_in :=
  Ok.mk (k := 0) h.d_count_in sc_count_in fun f cdv A outer s H E c => by
    have sc := sc_count_in
    have hu := c.room.units
    exact (ms_one (m_ret (m_callB call_len_seq sc_len (by rfl) h.z_len (by decide +kernel) (ma_cons (m_comp false rfl sc.nd (mi_seq (m_var 0 (pv 0))) (blkOk_by (own := [("own", 2)]) (by first | decide +kernel | rfl)) (fun _ _ _ _ _ => (mg_nm (i := 2) sc.nd rfl (by first | exact Or.inl rfl | exact Or.inr rfl))) (fun _ _ _ _ _ => (mts_one (mt_cmp (or_inP hu) sn_in (by rfl) (m_var 2 (pv 2)) (m_var 1 (pv 1))))) (fun _ _ _ _ _ => (m_var 2 (pv 2))) bin_nm) ma_nil))))
theorem ok_how_often_to (h : Fs K mg) : Ok P w K mg base 6 "how_often_to" s_how_often_to ["lasso", "letters", "many"] m_how_often_to :=
  Ok.mk (k := 5) h.d_how_often_to sc_how_often_to fun f cdv A outer s H E c => by
    have sc := sc_how_often_to
    have hu := c.room.units
    exact (ms_cons (m_par (i := 3) (j := 4) (ps_par rfl sc.nd rfl rfl (by decide) rfl rfl (ma_cons (m_callO ((ok_sure_lasso h).mono (by omega)) c.room c.takes (by rfl) (ma_cons (m_gint (by rfl) h.c_MOST_WIDE) (ma_cons (m_var 0 (pv 0)) ma_nil))) (ma_cons (m_callO ((ok_sure_letters h).mono (by omega)) c.room c.takes (by rfl) (ma_cons (m_var 1 (pv 1)) ma_nil)) ma_nil)) rfl))
    (ms_cons (m_drop (m_callO ((ok_sure_many h).mono (by omega)) c.room c.takes (by rfl) (ma_cons (m_var 2 (pv 2)) (ma_cons (m_gint (by rfl) h.c_MOST_PLACE) ma_nil))))
    (ms_cons (m_asg (ps_asg (m_var 3 (pv 3)) (mg_tup rfl (mgs_cons (mg_nm (i := 5) sc.nd rfl (by first | exact Or.inl rfl | exact Or.inr rfl)) (mgs_cons (mg_nm (i := 6) sc.nd rfl (by first | exact Or.inl rfl | exact Or.inr rfl)) mgs_nil)))))
    (ms_cons (m_ifS (mt_cmp op_le sn_le (nomark _) (m_var 2 (pv 2)) (m_callB call_len_seq sc_len (by rfl) h.z_len (by decide +kernel) (ma_cons (m_var 5 (pv 5)) ma_nil))) (ms_one (m_ret (m_callO ((ok_count_in h).mono (by omega)) c.room c.takes (by rfl) (ma_cons (m_sl (m_var 5 (pv 5)) m_nopart (m_part (m_var 2 (pv 2)))) (ma_cons (m_var 4 (pv 4)) ma_nil))))) ms_nil)
    (ms_cons (m_par (i := 7) (j := 8) (ps_par rfl sc.nd rfl rfl (by decide) rfl rfl (ma_cons (m_op op_fdivN sn_div (m_op op_sub sn_sub (m_var 2 (pv 2)) (m_callB call_len_seq sc_len (by rfl) h.z_len (by decide +kernel) (ma_cons (m_var 5 (pv 5)) ma_nil))) (m_callB call_len_seq sc_len (by rfl) h.z_len (by decide +kernel) (ma_cons (m_var 6 (pv 6)) ma_nil))) (ma_cons (m_op op_modN sn_mod (m_op op_sub sn_sub (m_var 2 (pv 2)) (m_callB call_len_seq sc_len (by rfl) h.z_len (by decide +kernel) (ma_cons (m_var 5 (pv 5)) ma_nil))) (m_callB call_len_seq sc_len (by rfl) h.z_len (by decide +kernel) (ma_cons (m_var 6 (pv 6)) ma_nil))) ma_nil)) rfl))
    (ms_one (m_ret (m_op or_add sn_add (m_op or_add sn_add (m_callO ((ok_count_in h).mono (by omega)) c.room c.takes (by rfl) (ma_cons (m_var 5 (pv 5)) (ma_cons (m_var 4 (pv 4)) ma_nil))) (m_op or_mul sn_mul (m_var 7 (pv 7)) (m_callO ((ok_count_in h).mono (by omega)) c.room c.takes (by rfl) (ma_cons (m_var 6 (pv 6)) (ma_cons (m_var 4 (pv 4)) ma_nil))))) (m_callO ((ok_count_in h).mono (by omega)) c.room c.takes (by rfl) (ma_cons (m_sl (m_var 6 (pv 6)) m_nopart (m_part (m_var 8 (pv 8)))) (ma_cons (m_var 4 (pv 4)) ma_nil)))))))))))
theorem ok_next_with (h : Fs K mg) : Ok P w K mg base 6 "next_with" s_next_with ["lasso", "letters", "place"] m_next_with :=
  Ok.mk (k := 5) h.d_next_with sc_next_with fun f cdv A outer s H E c => by
    have sc := sc_next_with
    have hu := c.room.units
    exact (ms_cons (m_par (i := 3) (j := 4) (ps_par rfl sc.nd rfl rfl (by decide) rfl rfl (ma_cons (m_callO ((ok_sure_lasso h).mono (by omega)) c.room c.takes (by rfl) (ma_cons (m_gint (by rfl) h.c_MOST_WIDE) (ma_cons (m_var 0 (pv 0)) ma_nil))) (ma_cons (m_callO ((ok_sure_letters h).mono (by omega)) c.room c.takes (by rfl) (ma_cons (m_var 1 (pv 1)) ma_nil)) ma_nil)) rfl))
    (ms_cons (m_drop (m_callO ((ok_sure_many h).mono (by omega)) c.room c.takes (by rfl) (ma_cons (m_var 2 (pv 2)) (ma_cons (m_gint (by rfl) h.c_MOST_PLACE) ma_nil))))
    (ms_cons (m_for c.passes rfl (mj_rng2 (by rfl) h.z_range (m_op or_add sn_add (m_var 2 (pv 2)) m_int) (m_op or_add sn_add (m_op or_add sn_add (m_op or_add sn_add (m_var 2 (pv 2)) (m_callB call_len_seq sc_len (by rfl) h.z_len (by decide +kernel) (ma_cons (m_ix (m_var 3 (pv 3)) m_int) ma_nil))) (m_callB call_len_seq sc_len (by rfl) h.z_len (by decide +kernel) (ma_cons (m_ix (m_var 3 (pv 3)) m_int) ma_nil))) m_int)) (mg_nm (i := 5) sc.nd rfl (by first | exact Or.inl rfl | exact Or.inr rfl)) (ms_one (m_ifS (mt_cmp (or_inP hu) sn_in (by rfl) (m_callO ((ok_entry_at h).mono (by omega)) c.room c.takes (by rfl) (ma_cons (m_ix (m_var 3 (pv 3)) m_int) (ma_cons (m_ix (m_var 3 (pv 3)) m_int) (ma_cons (m_var 5 (pv 5)) ma_nil)))) (m_var 4 (pv 4))) (ms_one (m_ret (m_var 5 (pv 5)))) ms_nil)))
    (ms_one (m_ret m_non)))))
theorem ok__law_box (h : Fs K mg) : Ok P w K mg base 1 "_law_box" s__law_box ["script", "k"] m__law_box :=
  Ok.mk (k := 0) h.d__law_box sc__law_box fun f cdv A outer s H E c => by
    have sc := sc__law_box
    have hu := c.room.units
    exact (ms_cons (m_set (i := 2) (ps_set (i := 2) sc.nd rfl (Or.inl rfl) (m_if (mt_cmp op_lt sn_lt (nomark _) (m_var 1 (pv 1)) (m_callB call_len_seq sc_len (by rfl) h.z_len (by decide +kernel) (ma_cons (m_var 0 (pv 0)) ma_nil))) (m_ix (m_var 0 (pv 0)) (m_var 1 (pv 1))) m_int)))
    (ms_one (m_ret (m_lst true (ma_cons (m_op or_mul sn_mul (m_callB call_abs sc_abs (by rfl) h.z_abs (by decide +kernel) (ma_cons (m_var 2 (pv 2)) ma_nil)) (m_callTy call_int1 sc_int (by rfl) h.z_int (by decide +kernel) (ma_cons (m_cmp op_ge sn_ge (nomark _) (m_callB call_abs sc_abs (by rfl) h.z_abs (by decide +kernel) (ma_cons (m_var 2 (pv 2)) ma_nil)) (m_op op_pow sn_pow m_int m_int)) ma_nil))) (ma_cons (m_op or_add sn_add (m_op or_add sn_add (m_op op_modN sn_mod (m_callTy call_int1 sc_int (by rfl) h.z_int (by decide +kernel) (ma_cons (m_var 2 (pv 2)) ma_nil)) m_int) (m_op or_mul sn_mul m_int (m_var 1 (pv 1)))) m_int) (ma_cons m_int ma_nil)))))))
theorem ok__law_take (h : Fs K mg) : Ok P w K mg base 1 "_law_take" s__law_take ["tin", "below"] m__law_take :=
  Ok.mk (k := 0) h.d__law_take sc__law_take fun f cdv A outer s H E c => by
    have sc := sc__law_take
    have hu := c.room.units
    exact (ms_cons (m_ifS (mt_cmp op_gt sn_gt (nomark _) (m_ix (m_var 0 (pv 0)) m_int) m_int) (ms_cons (m_set (i := 2) (ps_set (i := 2) sc.nd rfl (Or.inl rfl) (m_op op_modN sn_mod (m_callTy call_int1 sc_int (by rfl) h.z_int (by decide +kernel) (ma_cons (m_ix (m_var 0 (pv 0)) m_int) ma_nil)) (m_var 1 (pv 1)))))
    (ms_cons (m_sub (ps_asg (m_op op_fdivN sn_div (m_ix (m_var 0 (pv 0)) m_int) (m_var 1 (pv 1))) (pg_sub (m_var 0 (pv 0)) m_int set_list)))
    (ms_one (m_ret (m_var 2 (pv 2)))))) ms_nil)
    (ms_cons (m_sub (ps_asg (m_op or_add sn_add (m_ix (m_var 0 (pv 0)) m_int) m_int) (pg_sub (m_var 0 (pv 0)) m_int set_list)))
    (ms_cons (m_set (i := 3) (ps_set (i := 3) sc.nd rfl (Or.inl rfl) (m_op op_modN sn_mod (m_callTy call_int1 sc_int (by rfl) h.z_int (by decide +kernel) (ma_cons (m_op or_mul sn_mul (m_op or_add sn_add (m_ix (m_var 0 (pv 0)) m_int) (m_op or_mul sn_mul m_int (m_ix (m_var 0 (pv 0)) m_int))) (m_op or_add sn_add m_int (m_ix (m_var 0 (pv 0)) m_int))) ma_nil)) m_int)))
    (ms_cons (m_set (i := 4) (ps_set (i := 4) sc.nd rfl (Or.inl rfl) (m_op or_add sn_add (m_op op_modN sn_mod (m_callTy call_int1 sc_int (by rfl) h.z_int (by decide +kernel) (ma_cons (m_var 3 (pv 3)) ma_nil)) m_int) m_int)))
    (ms_cons (m_set (i := 5) (ps_set (i := 5) sc.nd rfl (Or.inl rfl) (m_op op_modN sn_mod (m_callTy call_int1 sc_int (by rfl) h.z_int (by decide +kernel) (ma_cons (m_op or_mul sn_mul (m_op or_add sn_add (m_op or_add sn_add (m_var 3 (pv 3)) (m_ix (m_var 0 (pv 0)) m_int)) (m_op op_fdivN sn_div (m_ix (m_var 0 (pv 0)) m_int) m_int)) (m_var 4 (pv 4))) ma_nil)) m_int)))
    (ms_one (m_ret (m_op op_modN sn_mod (m_callTy call_int1 sc_int (by rfl) h.z_int (by decide +kernel) (ma_cons (m_op op_fdivN sn_div (m_op op_modN sn_mod (m_callTy call_int1 sc_int (by rfl) h.z_int (by decide +kernel) (ma_cons (m_op or_add sn_add (m_op or_mul sn_mul (m_var 5 (pv 5)) m_int) (m_var 3 (pv 3))) ma_nil)) m_int) m_int) ma_nil)) (m_var 1 (pv 1))))))))))
theorem ok__law_cells (h : Fs K mg) : Ok P w K mg base 1 "_law_cells" s__law_cells ["script", "most"] m__law_cells :=
  Ok.mk (k := 0) h.d__law_cells sc__law_cells fun f cdv A outer s H E c => by
    have sc := sc__law_cells
    have hu := c.room.units
    exact (ms_cons (m_set (i := 2) (ps_set (i := 2) sc.nd rfl (Or.inl rfl) (m_or (m_listOf true (by rfl) h.z_list (m_sl (m_var 0 (pv 0)) m_nopart (m_part (m_var 1 (pv 1))))) (m_one (m_lst true (ma_cons m_int ma_nil))))))
    (ms_cons (m_for c.passes rfl (mi_enum (by rfl) h.z_enumerate (m_sl (m_var 0 (pv 0)) (m_part (m_var 1 (pv 1))) (m_part m_int))) (mg_tup rfl (mgs_cons (mg_nm (i := 3) sc.nd rfl (by first | exact Or.inl rfl | exact Or.inr rfl)) (mgs_cons (mg_nm (i := 4) sc.nd rfl (by first | exact Or.inl rfl | exact Or.inr rfl)) mgs_nil))) (ms_cons (m_set (i := 5) (ps_set (i := 5) sc.nd rfl (Or.inl rfl) (m_op op_modN sn_mod (m_callTy call_int1 sc_int (by rfl) h.z_int (by decide +kernel) (ma_cons (m_var 3 (pv 3)) ma_nil)) (m_var 1 (pv 1)))))
    (ms_one (m_sub (ps_asg (m_op or_add sn_add (m_ix (m_var 2 (pv 2)) (m_var 5 (pv 5))) (m_op or_mul sn_mul (m_var 4 (pv 4)) (m_op or_add sn_add (m_var 3 (pv 3)) m_int))) (pg_sub (m_var 2 (pv 2)) (m_var 5 (pv 5)) set_list))))))
    (ms_one (m_ret (m_var 2 (pv 2))))))
theorem ok__law_same (h : Fs K mg) : ∀ n : Nat, Ok P w K mg base (0 + n) "_law_same" s__law_same ["got", "goal"] (m__law_same n)
  | 0 => Ok.stuck h.d__law_same
  | n + 1 => Ok.mk (k := 0 + n) h.d__law_same sc__law_same fun f cdv A outer s H E c => by
    have sc := sc__law_same
    have hu := c.room.units
    exact (ms_cons (m_ifS (mt_tru (m_callB (call_isi.or (call_isiT.or call_isiK)) sc_isi (by rfl) h.z_isinstance (by decide +kernel) (ma_cons (m_var 1 (pv 1)) (ma_cons (m_tup (ma_cons (m_ty 3 (by rfl) h.z_list (by decide +kernel) rfl) (ma_cons (m_ty 4 (by rfl) h.z_tuple (by decide +kernel) rfl) ma_nil))) ma_nil)))) (ms_cons (m_ifS (mt_w (mw_or (mt_cmp (or_neP hu) sn_eq (nomark _) (m_callB (call_isi.or (call_isiT.or call_isiK)) sc_isi (by rfl) h.z_isinstance (by decide +kernel) (ma_cons (m_var 0 (pv 0)) (ma_cons (m_ty 3 (by rfl) h.z_list (by decide +kernel) rfl) ma_nil))) (m_callB (call_isi.or (call_isiT.or call_isiK)) sc_isi (by rfl) h.z_isinstance (by decide +kernel) (ma_cons (m_var 1 (pv 1)) (ma_cons (m_ty 3 (by rfl) h.z_list (by decide +kernel) rfl) ma_nil)))) (mw_or1 (mt_cmp (or_neP hu) sn_eq (nomark _) (m_callB (call_isi.or (call_isiT.or call_isiK)) sc_isi (by rfl) h.z_isinstance (by decide +kernel) (ma_cons (m_var 0 (pv 0)) (ma_cons (m_ty 4 (by rfl) h.z_tuple (by decide +kernel) rfl) ma_nil))) (m_callB (call_isi.or (call_isiT.or call_isiK)) sc_isi (by rfl) h.z_isinstance (by decide +kernel) (ma_cons (m_var 1 (pv 1)) (ma_cons (m_ty 4 (by rfl) h.z_tuple (by decide +kernel) rfl) ma_nil))))))) (ms_one (m_ret m_bl)) ms_nil)
    (ms_one (m_ret (m_and (m_cmp (or_eqP hu) sn_eq (nomark _) (m_callB call_len_seq sc_len (by rfl) h.z_len (by decide +kernel) (ma_cons (m_var 0 (pv 0)) ma_nil)) (m_callB call_len_seq sc_len (by rfl) h.z_len (by decide +kernel) (ma_cons (m_var 1 (pv 1)) ma_nil))) (m_one (m_callB (cr_all rfl) sc_all (by rfl) h.z_all (by decide +kernel) (ma_cons (m_comp false rfl sc.nd (mi_zip (by rfl) h.z_zip (m_var 0 (pv 0)) (m_var 1 (pv 1))) (blkOk_by (own := [("mine", 2), ("own", 3)]) (by first | decide +kernel | rfl)) (fun _ _ _ _ _ => (mg_tup rfl (mgs_cons (mg_nm (i := 2) sc.nd rfl (by first | exact Or.inl rfl | exact Or.inr rfl)) (mgs_cons (mg_nm (i := 3) sc.nd rfl (by first | exact Or.inl rfl | exact Or.inr rfl)) mgs_nil)))) (fun _ _ _ _ _ => mts_nil) (fun _ _ _ _ _ => (m_callO (ok__law_same h n) c.room takes0 (by rfl) (ma_cons (m_var 2 (pv 2)) (ma_cons (m_var 3 (pv 3)) ma_nil)))) (bin_tup (bsin_cons bin_nm (bsin_cons bin_nm bsin_nil)))) ma_nil))))))) ms_nil)
    (ms_cons (m_ifS (mt_w (mw_or (mt_cmp op_isN sn_isN (nomark _) (m_var 1 (pv 1)) m_non) (mw_or1 (mt_tru (m_callB (call_isi.or (call_isiT.or call_isiK)) sc_isi (by rfl) h.z_isinstance (by decide +kernel) (ma_cons (m_var 1 (pv 1)) (ma_cons (m_tup (ma_cons (m_ty 1 (by rfl) h.z_bool (by decide +kernel) rfl) (ma_cons (m_ty 2 (by rfl) h.z_str (by decide +kernel) rfl) ma_nil))) ma_nil))))))) (ms_one (m_ret (m_and (m_cmp (or_eqP hu) sn_eq (nomark _) (m_var 0 (pv 0)) (m_var 1 (pv 1))) (m_and (m_cmp (or_eqP hu) sn_eq (nomark _) (m_callB (call_isi.or (call_isiT.or call_isiK)) sc_isi (by rfl) h.z_isinstance (by decide +kernel) (ma_cons (m_var 0 (pv 0)) (ma_cons (m_ty 1 (by rfl) h.z_bool (by decide +kernel) rfl) ma_nil))) (m_callB (call_isi.or (call_isiT.or call_isiK)) sc_isi (by rfl) h.z_isinstance (by decide +kernel) (ma_cons (m_var 1 (pv 1)) (ma_cons (m_ty 1 (by rfl) h.z_bool (by decide +kernel) rfl) ma_nil)))) (m_one (m_cmp (or_eqP hu) sn_eq (nomark _) (m_cmp op_isN sn_isN (nomark _) (m_var 0 (pv 0)) m_non) (m_cmp op_isN sn_isN (nomark _) (m_var 1 (pv 1)) m_non))))))) ms_nil)
    (ms_one (m_ret (m_and (m_callB (call_isi.or (call_isiT.or call_isiK)) sc_isi (by rfl) h.z_isinstance (by decide +kernel) (ma_cons (m_var 0 (pv 0)) (ma_cons (m_ty 0 (by rfl) h.z_int (by decide +kernel) rfl) ma_nil))) (m_and (m_not (m_callB (call_isi.or (call_isiT.or call_isiK)) sc_isi (by rfl) h.z_isinstance (by decide +kernel) (ma_cons (m_var 0 (pv 0)) (ma_cons (m_ty 1 (by rfl) h.z_bool (by decide +kernel) rfl) ma_nil)))) (m_one (m_cmp (or_eqP hu) sn_eq (nomark _) (m_var 0 (pv 0)) (m_var 1 (pv 1))))))))))
theorem ok__law_lists (h : Fs K mg) : ∀ n : Nat, Ok P w K mg base (0 + n) "_law_lists" s__law_lists ["matter"] (m__law_lists n)
  | 0 => Ok.stuck h.d__law_lists
  | n + 1 => Ok.mk (k := 0 + n) h.d__law_lists sc__law_lists fun f cdv A outer s H E c => by
    have sc := sc__law_lists
    have hu := c.room.units
    exact (ms_one (m_ret (m_if (mt_tru (m_callB (call_isi.or (call_isiT.or call_isiK)) sc_isi (by rfl) h.z_isinstance (by decide +kernel) (ma_cons (m_var 0 (pv 0)) (ma_cons (m_tup (ma_cons (m_ty 3 (by rfl) h.z_list (by decide +kernel) rfl) (ma_cons (m_ty 4 (by rfl) h.z_tuple (by decide +kernel) rfl) ma_nil))) ma_nil)))) (m_comp false rfl sc.nd (mi_seq (m_var 0 (pv 0))) (blkOk_by (own := [("own", 1)]) (by first | decide +kernel | rfl)) (fun _ _ _ _ _ => (mg_nm (i := 1) sc.nd rfl (by first | exact Or.inl rfl | exact Or.inr rfl))) (fun _ _ _ _ _ => mts_nil) (fun _ _ _ _ _ => (m_callO (ok__law_lists h n) c.room takes0 (by rfl) (ma_cons (m_var 1 (pv 1)) ma_nil))) bin_nm) (m_var 0 (pv 0)))))
theorem ok__law_of (h : Fs K mg) : Ok P w K mg base 2 "_law_of" s__law_of ["tin", "goods"] m__law_of :=
  Ok.mk (k := 1) h.d__law_of sc__law_of fun f cdv A outer s H E c => by
    have sc := sc__law_of
    have hu := c.room.units
    exact (ms_one (m_ret (m_ix (m_var 1 (pv 1)) (m_callO ((ok__law_take h).mono (by omega)) c.room c.takes (by rfl) (ma_cons (m_var 0 (pv 0)) (ma_cons (m_callB call_len_seq sc_len (by rfl) h.z_len (by decide +kernel) (ma_cons (m_var 1 (pv 1)) ma_nil)) ma_nil))))))
theorem ok__law_row (h : Fs K mg) : Ok P w K mg base 2 "_law_row" s__law_row ["tin", "wide", "many"] m__law_row :=
  Ok.mk (k := 1) h.d__law_row sc__law_row fun f cdv A outer s H E c => by
    have sc := sc__law_row
    have hu := c.room.units
    exact (ms_one (m_ret (m_callTy call_tuple_of sc_tuple (by rfl) h.z_tuple (by decide +kernel) (ma_cons (m_comp false rfl sc.nd (mj_rng1 (by rfl) h.z_range (m_var 2 (pv 2))) (blkOk_by (own := [("lap", 3)]) (by first | decide +kernel | rfl)) (fun _ _ _ _ _ => (mg_nm (i := 3) sc.nd rfl (by first | exact Or.inl rfl | exact Or.inr rfl))) (fun _ _ _ _ _ => mts_nil) (fun _ _ _ _ _ => (m_op or_add sn_add m_int (m_callO ((ok__law_take h).mono (by omega)) c.room takes0 (by rfl) (ma_cons (m_var 0 (pv 0)) (ma_cons (m_var 1 (pv 1)) ma_nil))))) bin_nm) ma_nil))))
theorem ok__law_lasso (h : Fs K mg) : Ok P w K mg base 3 "_law_lasso" s__law_lasso ["tin", "wide", "ahead", "back"] m__law_lasso :=
  Ok.mk (k := 2) h.d__law_lasso sc__law_lasso fun f cdv A outer s H E c => by
    have sc := sc__law_lasso
    have hu := c.room.units
    exact (ms_one (m_ret (m_tup (ma_cons (m_callO ((ok__law_row h).mono (by omega)) c.room c.takes (by rfl) (ma_cons (m_var 0 (pv 0)) (ma_cons (m_var 1 (pv 1)) (ma_cons (m_callO ((ok__law_take h).mono (by omega)) c.room c.takes (by rfl) (ma_cons (m_var 0 (pv 0)) (ma_cons (m_op or_add sn_add (m_var 2 (pv 2)) m_int) ma_nil))) ma_nil)))) (ma_cons (m_callO ((ok__law_row h).mono (by omega)) c.room c.takes (by rfl) (ma_cons (m_var 0 (pv 0)) (ma_cons (m_var 1 (pv 1)) (ma_cons (m_op or_add sn_add m_int (m_callO ((ok__law_take h).mono (by omega)) c.room c.takes (by rfl) (ma_cons (m_var 0 (pv 0)) (ma_cons (m_var 3 (pv 3)) ma_nil)))) ma_nil)))) ma_nil)))))
theorem ok__law_gap_subsets (h : Fs K mg) : Ok P w K mg base 1 "_law_gap_subsets" s__law_gap_subsets ["some"] m__law_gap_subsets :=
  Ok.mk (k := 0) h.d__law_gap_subsets sc__law_gap_subsets fun f cdv A outer s H E c => by
    have sc := sc__law_gap_subsets
    have hu := c.room.units
    exact (ms_cons (m_set (i := 1) (ps_set (i := 1) sc.nd rfl (Or.inl rfl) (m_lst false (ma_cons (m_tup ma_nil) ma_nil))))
    (ms_cons (m_for c.passes rfl (mi_seq (m_var 0 (pv 0))) (mg_nm (i := 2) sc.nd rfl (by first | exact Or.inl rfl | exact Or.inr rfl)) (ms_one (m_set (i := 1) (ps_set (i := 1) sc.nd rfl (Or.inl rfl) (m_op or_add sn_add (m_var 1 (pv 1)) (m_comp false rfl sc.nd (mi_seq (m_var 1 (pv 1))) (blkOk_by (own := [("one", 3)]) (by first | decide +kernel | rfl)) (fun _ _ _ _ _ => (mg_nm (i := 3) sc.nd rfl (by first | exact Or.inl rfl | exact Or.inr rfl))) (fun _ _ _ _ _ => mts_nil) (fun _ _ _ _ _ => (m_op or_add sn_add (m_var 3 (pv 3)) (m_tup (ma_cons (m_var 2 (pv 2)) ma_nil)))) bin_nm))))))
    (ms_one (m_ret (m_var 1 (pv 1))))))
theorem ok__law_sets (h : Fs K mg) : Ok P w K mg base 2 "_law_sets" s__law_sets ["wide"] m__law_sets :=
  Ok.mk (k := 1) h.d__law_sets sc__law_sets fun f cdv A outer s H E c => by
    have sc := sc__law_sets
    have hu := c.room.units
    exact (ms_one (m_ret (m_sorted false hu (by rfl) h.z_sorted (m_comp false rfl sc.nd (mi_seq (m_callO ((ok__law_gap_subsets h).mono (by omega)) c.room c.takes (by rfl) (ma_cons (m_listRg false rfl (by rfl) h.z_list (rg_2 (by rfl) h.z_range m_int (m_op or_add sn_add (m_var 0 (pv 0)) m_int))) ma_nil))) (blkOk_by (own := [("own", 1)]) (by first | decide +kernel | rfl)) (fun _ _ _ _ _ => (mg_nm (i := 1) sc.nd rfl (by first | exact Or.inl rfl | exact Or.inr rfl))) (fun _ _ _ _ _ => (mts_one (mt_cmp (or_neP hu) sn_eq (nomark _) (m_var 1 (pv 1)) (m_tup ma_nil)))) (fun _ _ _ _ _ => (m_callTy call_tuple_of sc_tuple (by rfl) h.z_tuple (by decide +kernel) (ma_cons (m_var 1 (pv 1)) ma_nil))) bin_nm))))
theorem ok_law (h : Fs K mg) : Ok P w K mg base 7 "law" s_law ["script"] m_law :=
  Ok.mk (k := 6) h.d_law sc_law fun f cdv A outer s H E c => by
    have sc := sc_law
    have hu := c.room.units
    exact (ms_cons (m_set (i := 1) (ps_set (i := 1) sc.nd rfl (Or.inl rfl) (m_callO ((ok__law_box h).mono (by omega)) c.room c.takes (by rfl) (ma_cons (m_callO ((ok__law_cells h).mono (by omega)) c.room c.takes (by rfl) (ma_cons (m_var 0 (pv 0)) (ma_cons m_int ma_nil))) (ma_cons m_int ma_nil)))))
    (ms_cons (m_asg (ps_asg (m_tup (ma_cons (m_callO ((ok__law_lasso h).mono (by omega)) c.room c.takes (by rfl) (ma_cons (m_var 1 (pv 1)) (ma_cons m_int (ma_cons m_int (ma_cons m_int ma_nil))))) (ma_cons (m_callO ((ok__law_of h).mono (by omega)) c.room c.takes (by rfl) (ma_cons (m_var 1 (pv 1)) (ma_cons (m_callO ((ok__law_sets h).mono (by omega)) c.room c.takes (by rfl) (ma_cons m_int ma_nil)) ma_nil))) ma_nil))) (mg_tup rfl (mgs_cons (mg_nm (i := 2) sc.nd rfl (by first | exact Or.inl rfl | exact Or.inr rfl)) (mgs_cons (mg_nm (i := 3) sc.nd rfl (by first | exact Or.inl rfl | exact Or.inr rfl)) mgs_nil)))))
    (ms_cons (m_set (i := 4) (ps_set (i := 4) sc.nd rfl (Or.inr rfl) (m_op or_add sn_add (m_op or_mul sn_mul (m_op op_pow sn_pow m_int m_int) (m_op or_add sn_add m_int (m_callO ((ok__law_take h).mono (by omega)) c.room c.takes (by rfl) (ma_cons (m_var 1 (pv 1)) (ma_cons m_int ma_nil))))) (m_callO ((ok__law_take h).mono (by omega)) c.room c.takes (by rfl) (ma_cons (m_var 1 (pv 1)) (ma_cons (m_op op_pow sn_pow m_int m_int) ma_nil))))))
    (ms_cons (m_asg (ps_asg (m_var 2 (pv 2)) (mg_tup rfl (mgs_cons (mg_nm (i := 5) sc.nd rfl (by first | exact Or.inl rfl | exact Or.inr rfl)) (mgs_cons (mg_nm (i := 6) sc.nd rfl (by first | exact Or.inl rfl | exact Or.inr rfl)) mgs_nil)))))
    (ms_cons (m_par (i := 7) (j := 8) (ps_par rfl sc.nd rfl rfl (by decide) rfl rfl (ma_cons (m_op op_fdivN sn_div (m_op op_sub sn_sub (m_var 4 (pv 4)) (m_callB call_len_seq sc_len (by rfl) h.z_len (by decide +kernel) (ma_cons (m_var 5 (pv 5)) ma_nil))) (m_callB call_len_seq sc_len (by rfl) h.z_len (by decide +kernel) (ma_cons (m_var 6 (pv 6)) ma_nil))) (ma_cons (m_op op_modN sn_mod (m_op op_sub sn_sub (m_var 4 (pv 4)) (m_callB call_len_seq sc_len (by rfl) h.z_len (by decide +kernel) (ma_cons (m_var 5 (pv 5)) ma_nil))) (m_callB call_len_seq sc_len (by rfl) h.z_len (by decide +kernel) (ma_cons (m_var 6 (pv 6)) ma_nil))) ma_nil)) rfl))
    (ms_cons (m_set (i := 9) (ps_set (i := 9) sc.nd rfl (Or.inl rfl) (m_op or_add sn_add (m_op or_add sn_add (m_callB call_len_seq sc_len (by rfl) h.z_len (by decide +kernel) (ma_cons (m_comp false rfl sc.nd (mi_seq (m_var 5 (pv 5))) (blkOk_by (own := [("own", 19)]) (by first | decide +kernel | rfl)) (fun _ _ _ _ _ => (mg_nm (i := 19) sc.nd rfl (by first | exact Or.inl rfl | exact Or.inr rfl))) (fun _ _ _ _ _ => (mts_one (mt_cmp (or_inP hu) sn_in (by rfl) (m_var 19 (pv 19)) (m_var 3 (pv 3))))) (fun _ _ _ _ _ => m_int) bin_nm) ma_nil)) (m_op or_mul sn_mul (m_var 7 (pv 7)) (m_callB call_len_seq sc_len (by rfl) h.z_len (by decide +kernel) (ma_cons (m_comp false rfl sc.nd (mi_seq (m_var 6 (pv 6))) (blkOk_by (own := [("own", 19)]) (by first | decide +kernel | rfl)) (fun _ _ _ _ _ => (mg_nm (i := 19) sc.nd rfl (by first | exact Or.inl rfl | exact Or.inr rfl))) (fun _ _ _ _ _ => (mts_one (mt_cmp (or_inP hu) sn_in (by rfl) (m_var 19 (pv 19)) (m_var 3 (pv 3))))) (fun _ _ _ _ _ => m_int) bin_nm) ma_nil)))) (m_callB call_len_seq sc_len (by rfl) h.z_len (by decide +kernel) (ma_cons (m_comp false rfl sc.nd (mi_seq (m_sl (m_var 6 (pv 6)) m_nopart (m_part (m_var 8 (pv 8))))) (blkOk_by (own := [("own", 19)]) (by first | decide +kernel | rfl)) (fun _ _ _ _ _ => (mg_nm (i := 19) sc.nd rfl (by first | exact Or.inl rfl | exact Or.inr rfl))) (fun _ _ _ _ _ => (mts_one (mt_cmp (or_inP hu) sn_in (by rfl) (m_var 19 (pv 19)) (m_var 3 (pv 3))))) (fun _ _ _ _ _ => m_int) bin_nm) ma_nil)))))
    (ms_cons (m_set (i := 10) (ps_set (i := 10) sc.nd rfl (Or.inl rfl) (m_ix (m_var 6 (pv 6)) (m_op op_modN sn_mod (m_op op_sub sn_sub (m_op op_sub sn_sub (m_var 4 (pv 4)) (m_callB call_len_seq sc_len (by rfl) h.z_len (by decide +kernel) (ma_cons (m_var 5 (pv 5)) ma_nil))) m_int) (m_callB call_len_seq sc_len (by rfl) h.z_len (by decide +kernel) (ma_cons (m_var 6 (pv 6)) ma_nil))))))
    (ms_cons (m_set (i := 11) (ps_set (i := 11) sc.nd rfl (Or.inl rfl) (m_lst false (ma_cons (m_callO ((ok_how_often_to h).mono (by omega)) c.room c.takes (by rfl) (ma_cons (m_var 2 (pv 2)) (ma_cons (m_callO ((ok__law_lists h 4).mono (by omega)) c.room c.takes (by rfl) (ma_cons (m_var 3 (pv 3)) ma_nil)) (ma_cons (m_var 4 (pv 4)) ma_nil)))) (ma_cons (m_callO ((ok_letter_at h).mono (by omega)) c.room c.takes (by rfl) (ma_cons (m_callO ((ok__law_lists h 4).mono (by omega)) c.room c.takes (by rfl) (ma_cons (m_var 2 (pv 2)) ma_nil)) (ma_cons (m_var 4 (pv 4)) ma_nil))) (ma_cons (m_callO ((ok_how_often_to h).mono (by omega)) c.room c.takes (by rfl) (ma_cons (m_var 2 (pv 2)) (ma_cons (m_var 3 (pv 3)) (ma_cons (m_op op_sub sn_sub (m_var 4 (pv 4)) m_int) ma_nil)))) (ma_cons (m_callO ((ok_how_often_to h).mono (by omega)) c.room c.takes (by rfl) (ma_cons (m_var 2 (pv 2)) (ma_cons (m_tup (ma_cons m_int (ma_cons m_int (ma_cons m_int ma_nil)))) (ma_cons (m_var 4 (pv 4)) ma_nil)))) ma_nil)))))))
    (ms_cons (m_set (i := 11) (ps_set (i := 11) sc.nd rfl (Or.inl rfl) (m_op or_add sn_add (m_var 11 (pv 11)) (m_lst false (ma_cons (m_callO ((ok_how_often_to h).mono (by omega)) c.room c.takes (by rfl) (ma_cons (m_var 2 (pv 2)) (ma_cons (m_var 3 (pv 3)) (ma_cons m_int ma_nil)))) ma_nil)))))
    (ms_cons (m_ifS (mt_not (mt_tru (m_callO ((ok__law_same h 4).mono (by omega)) c.room c.takes (by rfl) (ma_cons (m_var 11 (pv 11)) (ma_cons (m_lst false (ma_cons (m_var 9 (pv 9)) (ma_cons (m_var 10 (pv 10)) (ma_cons (m_op op_sub sn_sub (m_var 9 (pv 9)) (m_callTy call_int1 sc_int (by rfl) h.z_int (by decide +kernel) (ma_cons (m_cmp (or_inP hu) sn_in (by rfl) (m_var 10 (pv 10)) (m_var 3 (pv 3))) ma_nil))) (ma_cons (m_var 4 (pv 4)) (ma_cons m_int ma_nil)))))) ma_nil))))) (ms_one (m_ret m_bl)) ms_nil)
    (ms_cons (m_setLc bin_nm (ps_setLc (i := 12) rfl sc.nd rfl rfl (sw_true rfl rfl rfl (by decide +kernel)) (mj_rng2 (by rfl) h.z_range m_int (m_op or_add sn_add (m_callB call_len_seq sc_len (by rfl) h.z_len (by decide +kernel) (ma_cons (m_var 6 (pv 6)) ma_nil)) m_int)) (blkOk_by (own := [("step", 18)]) (by first | decide +kernel | rfl)) (fun _ _ _ _ _ => (mg_nm (i := 18) sc.nd rfl (by first | exact Or.inl rfl | exact Or.inr rfl))) (fun _ _ _ _ _ => (mts_one (mt_cmp (or_inP hu) sn_in (by rfl) (m_ix (m_var 6 (pv 6)) (m_op op_modN sn_mod (m_op or_add sn_add (m_op op_sub sn_sub (m_op op_sub sn_sub (m_var 4 (pv 4)) (m_callB call_len_seq sc_len (by rfl) h.z_len (by decide +kernel) (ma_cons (m_var 5 (pv 5)) ma_nil))) m_int) (m_var 18 (pv 18))) (m_callB call_len_seq sc_len (by rfl) h.z_len (by decide +kernel) (ma_cons (m_var 6 (pv 6)) ma_nil)))) (m_var 3 (pv 3))))) (fun _ _ _ _ _ => (m_var 18 (pv 18))) ))
    (ms_cons (m_ifS (mt_not (mt_tru (m_callO ((ok__law_same h 4).mono (by omega)) c.room c.takes (by rfl) (ma_cons (m_callO ((ok_next_with h).mono (by omega)) c.room c.takes (by rfl) (ma_cons (m_var 2 (pv 2)) (ma_cons (m_var 3 (pv 3)) (ma_cons (m_var 4 (pv 4)) ma_nil)))) (ma_cons (m_if (mt_cmp (or_neP hu) sn_eq (nomark _) (m_var 12 (pv 12)) (m_lst false ma_nil)) (m_op or_add sn_add (m_var 4 (pv 4)) (m_ix (m_var 12 (pv 12)) m_int)) m_non) ma_nil))))) (ms_one (m_ret m_bl)) ms_nil)
    (ms_cons (m_set (i := 13) (ps_set (i := 13) sc.nd rfl (Or.inl rfl) (m_callO ((ok_moved_on h).mono (by omega)) c.room c.takes (by rfl) (ma_cons (m_var 2 (pv 2)) (ma_cons (m_var 4 (pv 4)) ma_nil)))))
    (ms_cons (m_ifS (mt_not (mt_tru (m_callO ((ok__law_same h 4).mono (by omega)) c.room c.takes (by rfl) (ma_cons (m_lst false (ma_cons (m_callO ((ok_beginning h).mono (by omega)) c.room c.takes (by rfl) (ma_cons (m_var 13 (pv 13)) (ma_cons m_int ma_nil))) (ma_cons (m_callO ((ok_is_short h).mono (by omega)) c.room c.takes (by rfl) (ma_cons (m_var 13 (pv 13)) ma_nil)) (ma_cons (m_callO ((ok_put_ahead h).mono (by omega)) c.room c.takes (by rfl) (ma_cons (m_var 5 (pv 5)) (ma_cons (m_tup (ma_cons (m_tup ma_nil) (ma_cons (m_var 6 (pv 6)) ma_nil))) ma_nil))) ma_nil)))) (ma_cons (m_lst false (ma_cons (m_callTy call_tuple_of sc_tuple (by rfl) h.z_tuple (by decide +kernel) (ma_cons (m_comp false rfl sc.nd (mj_rng2 (by rfl) h.z_range m_int m_int) (blkOk_by (own := [("own", 19)]) (by first | decide +kernel | rfl)) (fun _ _ _ _ _ => (mg_nm (i := 19) sc.nd rfl (by first | exact Or.inl rfl | exact Or.inr rfl))) (fun _ _ _ _ _ => mts_nil) (fun _ _ _ _ _ => (m_callO ((ok_letter_at h).mono (by omega)) c.room takes0 (by rfl) (ma_cons (m_var 2 (pv 2)) (ma_cons (m_op or_add sn_add (m_var 4 (pv 4)) (m_var 19 (pv 19))) ma_nil)))) bin_nm) ma_nil)) (ma_cons m_bl (ma_cons (m_callO ((ok_lasso_short h).mono (by omega)) c.room c.takes (by rfl) (ma_cons (m_var 2 (pv 2)) ma_nil)) ma_nil)))) ma_nil))))) (ms_one (m_ret m_bl)) ms_nil)
    (ms_cons (m_ifS (mt_w (mw_or (mt_cmp (or_neP hu) sn_eq (nomark _) (m_callO ((ok_endless_letters h).mono (by omega)) c.room c.takes (by rfl) (ma_cons (m_var 13 (pv 13)) ma_nil)) (m_op or_mul sn_mul (m_tup (ma_cons (m_ix (m_callO ((ok_endless_letters h).mono (by omega)) c.room c.takes (by rfl) (ma_cons (m_var 2 (pv 2)) ma_nil)) m_int) ma_nil)) m_int)) (mw_or1 (mt_cmp (or_neP hu) sn_eq (nomark _) (m_callO ((ok_endless_letters h).mono (by omega)) c.room c.takes (by rfl) (ma_cons (m_var 2 (pv 2)) ma_nil)) (m_tup (ma_cons (m_callTy call_tuple_of sc_tuple (by rfl) h.z_tuple (by decide +kernel) (ma_cons (m_sortSet false rfl (by rfl) h.z_sorted (by rfl) h.z_set (m_op or_add sn_add (m_var 5 (pv 5)) (m_var 6 (pv 6)))) ma_nil)) (ma_cons (m_callTy call_tuple_of sc_tuple (by rfl) h.z_tuple (by decide +kernel) (ma_cons (m_sortSet false rfl (by rfl) h.z_sorted (by rfl) h.z_set (m_var 6 (pv 6))) ma_nil)) ma_nil))))))) (ms_one (m_ret m_bl)) ms_nil)
    (ms_cons (m_set (i := 14) (ps_set (i := 14) sc.nd rfl (Or.inl rfl) (m_tup (ma_cons (m_op or_add sn_add (m_var 5 (pv 5)) (m_sl (m_var 6 (pv 6)) m_nopart (m_part m_int))) (ma_cons (m_op or_add sn_add (m_sl (m_var 6 (pv 6)) (m_part m_int) m_nopart) (m_sl (m_var 6 (pv 6)) m_nopart (m_part m_int))) ma_nil)))))
    (ms_cons (m_set (i := 15) (ps_set (i := 15) sc.nd rfl (Or.inl rfl) (m_callO ((ok__law_take h).mono (by omega)) c.room c.takes (by rfl) (ma_cons (m_var 1 (pv 1)) (ma_cons m_int ma_nil)))))
    (ms_cons (m_set (i := 16) (ps_set (i := 16) sc.nd rfl (Or.inl rfl) (m_listOf true (by rfl) h.z_list (m_callO ((ok_beginning h).mono (by omega)) c.room c.takes (by rfl) (ma_cons (m_var 2 (pv 2)) (ma_cons (m_op or_add sn_add (m_var 15 (pv 15)) m_int) ma_nil))))))
    (ms_cons (m_sub (ps_asg (m_op or_add sn_add m_int (m_op op_modN sn_mod (m_ix (m_var 16 (pv 16)) (m_var 15 (pv 15))) m_int)) (pg_sub (m_var 16 (pv 16)) (m_var 15 (pv 15)) set_list)))
    (ms_cons (m_set (i := 17) (ps_set (i := 17) sc.nd rfl (Or.inl rfl) (m_callO ((ok_put_ahead h).mono (by omega)) c.room c.takes (by rfl) (ma_cons (m_callTy call_tuple_of sc_tuple (by rfl) h.z_tuple (by decide +kernel) (ma_cons (m_var 16 (pv 16)) ma_nil)) (ma_cons (m_callO ((ok_moved_on h).mono (by omega)) c.room c.takes (by rfl) (ma_cons (m_var 2 (pv 2)) (ma_cons (m_op or_add sn_add (m_var 15 (pv 15)) m_int) ma_nil))) ma_nil)))))
    (ms_cons (m_set (i := 11) (ps_set (i := 11) sc.nd rfl (Or.inl rfl) (m_lst false (ma_cons (m_callO ((ok_same_endless h).mono (by omega)) c.room c.takes (by rfl) (ma_cons (m_var 2 (pv 2)) (ma_cons (m_var 14 (pv 14)) ma_nil))) (ma_cons (m_callO ((ok_first_apart h).mono (by omega)) c.room c.takes (by rfl) (ma_cons (m_var 2 (pv 2)) (ma_cons (m_var 14 (pv 14)) ma_nil))) (ma_cons (m_callO ((ok_first_apart h).mono (by omega)) c.room c.takes (by rfl) (ma_cons (m_var 2 (pv 2)) (ma_cons (m_var 17 (pv 17)) ma_nil))) (ma_cons (m_callO ((ok_same_endless h).mono (by omega)) c.room c.takes (by rfl) (ma_cons (m_var 17 (pv 17)) (ma_cons (m_var 2 (pv 2)) ma_nil))) (ma_cons (m_callO ((ok_first_apart h).mono (by omega)) c.room c.takes (by rfl) (ma_cons (m_var 17 (pv 17)) (ma_cons (m_var 17 (pv 17)) ma_nil))) ma_nil))))))))
    (ms_one (m_ret (m_callO ((ok__law_same h 4).mono (by omega)) c.room c.takes (by rfl) (ma_cons (m_var 11 (pv 11)) (ma_cons (m_lst false (ma_cons m_bl (ma_cons m_non (ma_cons (m_op or_add sn_add (m_var 15 (pv 15)) m_int) (ma_cons m_bl (ma_cons m_non ma_nil)))))) ma_nil))))))))))))))))))))))))))
end
end K22

namespace K22
open PySem PySem.Spec PyProof.Rows L2 Mi
theorem u_tuple_of {n : Nat} : m_tuple_of (n + 1) = mDef 2 1 (sSeq (sIf (tTru (mCB oIsi (aCons (mVar 0) (aCons (mTup (aCons (mC (.ty 3)) (aCons (mC (.ty 4)) aNil))) aNil)))) (sRet (mCB oTuple (aCons (mComp false (iSeq (mVar 0)) (bNm 1) tTrue (mCall (m_tuple_of n) (aCons (mVar 1) aNil)) [1]) aNil))) sNil)
  (sRet (mVar 0))) := rfl
theorem u_is_number : m_is_number = mDef 1 1 (sRet (mAndT (mCB oIsi (aCons (mVar 0) (aCons (mC (.ty 0)) aNil))) (mNot (mCB oIsi (aCons (mVar 0) (aCons (mC (.ty 1)) aNil)))))) := rfl
theorem u_sure_wide_of : m_sure_wide_of = mDef 1 1 (sIf (tOr2 (tNot1 (tTru (mCall m_is_number (aCons (mVar 0) aNil)))) (tNot1 (tBl (mChain opLe opLe (mC (.int 1)) (mVar 0) (mC (.int 3)))))) sStuck sNil) := rfl
theorem u_is_tuple_of : m_is_tuple_of = mDef 2 2 (sRet (mAndT (mCB oIsi (aCons (mVar 0) (aCons (mC (.ty 4)) aNil))) (mOp2 (opEq false) (mCB oLen (aCons (mVar 0) aNil)) (mVar 1)))) := rfl
theorem u_is_letter : m_is_letter = mDef 2 2 (sRet (mAndT (mCall m_is_number (aCons (mVar 1) aNil)) (mChain opLe opLe (mC (.int 1)) (mVar 1) (mVar 0)))) := rfl
theorem u_is_text : m_is_text = mDef 3 2 (sRet (mAndT (mCB oIsi (aCons (mVar 1) (aCons (mC (.ty 4)) aNil))) (mCB oAll (aCons (mComp false (iSeq (mVar 1)) (bNm 2) tTrue (mCall m_is_letter (aCons (mVar 0) (aCons (mVar 2) aNil))) [2]) aNil)))) := rfl
theorem u_is_lasso_form : m_is_lasso_form = mDef 3 2 (sRet (mAndT (mCall m_is_tuple_of (aCons (mVar 1) (aCons (mC (.int 2)) aNil))) (mAndT (mCB oAll (aCons (mComp false (iSeq (mVar 1)) (bNm 2) tTrue (mCall m_is_text (aCons (mVar 0) (aCons (mVar 2) aNil))) [2]) aNil)) (mOp2 (opEq true) (mOp2 opIx (mVar 1) (mC (.int 1))) (mTup aNil))))) := rfl
theorem u_sure_lasso : m_sure_lasso = mDef 3 2 (sSeq (sDrop (mCall m_sure_wide_of (aCons (mVar 0) aNil)))
  (sSeq (sSet 2 (mCall (m_tuple_of 4) (aCons (mVar 1) aNil)))
  (sSeq (sIf (tNot1 (tTru (mCall m_is_lasso_form (aCons (mVar 0) (aCons (mVar 2) aNil))))) sStuck sNil)
  (sRet (mVar 2))))) := rfl
theorem u_shortest_round : m_shortest_round = mDef 2 1 (sSeq (sFor (jRng2 (mC (.int 1)) (mOp2 opAdd (mCB oLen (aCons (mVar 0) aNil)) (mC (.int 1)))) (bNm 1) (sIf (tAnd2 (tBl (mOp2 (opEq false) (mOp2 opMod (mCB oLen (aCons (mVar 0) aNil)) (mVar 1)) (mC (.int 0)))) (tBl (mOp2 (opEq false) (mOp2 opMul (mSl (mVar 0) mNoPart (mPart (mVar 1))) (mOp2 opDiv (mCB oLen (aCons (mVar 0) aNil)) (mVar 1))) (mVar 0)))) (sRet (mSl (mVar 0) mNoPart (mPart (mVar 1)))) sNil))
  (sRet (mVar 0))) := rfl
theorem u_short_in : m_short_in = mDef 4 2 (sSeq (sPar 2 3 (aCons (mVar 0) (aCons (mCall m_shortest_round (aCons (mVar 1) aNil)) aNil)))
  (sSeq (sWhile 100 (tAnd2 (tBl (mOp2 (opEq true) (mVar 2) (mTup aNil))) (tBl (mOp2 (opEq false) (mOp2 opIx (mVar 2) (mOp1 opNeg (mC (.int 1)))) (mOp2 opIx (mVar 3) (mOp1 opNeg (mC (.int 1))))))) (sPar 2 3 (aCons (mSl (mVar 2) mNoPart (mPart (mOp1 opNeg (mC (.int 1))))) (aCons (mTup (aCons (mOp2 opIx (mVar 3) (mOp1 opNeg (mC (.int 1)))) (aStar (mSl (mVar 3) mNoPart (mPart (mOp1 opNeg (mC (.int 1))))) aNil))) aNil))))
  (sRet (mTup (aCons (mVar 2) (aCons (mVar 3) aNil)))))) := rfl
theorem u_lasso_short : m_lasso_short = mDef 2 1 (sSeq (sSet 1 (mCall m_sure_lasso (aCons (mC (.int 3)) (aCons (mVar 0) aNil))))
  (sRet (mCall m_short_in (aCons (mOp2 opIx (mVar 1) (mC (.int 0))) (aCons (mOp2 opIx (mVar 1) (mC (.int 1))) aNil))))) := rfl
theorem u_is_short : m_is_short = mDef 2 1 (sSeq (sSet 1 (mCall m_sure_lasso (aCons (mC (.int 3)) (aCons (mVar 0) aNil))))
  (sRet (mOp2 (opEq false) (mCall m_short_in (aCons (mOp2 opIx (mVar 1) (mC (.int 0))) (aCons (mOp2 opIx (mVar 1) (mC (.int 1))) aNil))) (mVar 1)))) := rfl
theorem u_same_endless : m_same_endless = mDef 4 2 (sSeq (sPar 2 3 (aCons (mCall m_sure_lasso (aCons (mC (.int 3)) (aCons (mVar 0) aNil))) (aCons (mCall m_sure_lasso (aCons (mC (.int 3)) (aCons (mVar 1) aNil))) aNil)))
  (sRet (mOp2 (opEq false) (mCall m_short_in (aCons (mOp2 opIx (mVar 2) (mC (.int 0))) (aCons (mOp2 opIx (mVar 2) (mC (.int 1))) aNil))) (mCall m_short_in (aCons (mOp2 opIx (mVar 3) (mC (.int 0))) (aCons (mOp2 opIx (mVar 3) (mC (.int 1))) aNil)))))) := rfl
theorem u_entry_at : m_entry_at = mDef 3 3 (sSeq (sIf (tBl (mOp2 opLe (mVar 2) (mCB oLen (aCons (mVar 0) aNil)))) (sRet (mOp2 opIx (mVar 0) (mOp2 opSub (mVar 2) (mC (.int 1))))) sNil)
  (sRet (mOp2 opIx (mVar 1) (mOp2 opMod (mOp2 opSub (mOp2 opSub (mVar 2) (mCB oLen (aCons (mVar 0) aNil))) (mC (.int 1))) (mCB oLen (aCons (mVar 1) aNil)))))) := rfl
theorem u_sure_many : m_sure_many = mDef 2 2 (sIf (tOr2 (tNot1 (tTru (mCall m_is_number (aCons (mVar 0) aNil)))) (tNot1 (tBl (mChain opLe opLe (mC (.int 0)) (mVar 0) (mVar 1))))) sStuck sNil) := rfl
theorem u_sure_spot : m_sure_spot = mDef 1 1 (sSeq (sDrop (mCall m_sure_many (aCons (mVar 0) (aCons (mC (.int 1000000000000000000000000000000)) aNil))))
  (sIf (tBl (mOp2 (opEq false) (mVar 0) (mC (.int 0)))) sStuck sNil)) := rfl
theorem u_letter_at : m_letter_at = mDef 3 2 (sSeq (sSet 2 (mCall m_sure_lasso (aCons (mC (.int 3)) (aCons (mVar 0) aNil))))
  (sSeq (sDrop (mCall m_sure_spot (aCons (mVar 1) aNil)))
  (sRet (mCall m_entry_at (aCons (mOp2 opIx (mVar 2) (mC (.int 0))) (aCons (mOp2 opIx (mVar 2) (mC (.int 1))) (aCons (mVar 1) aNil))))))) := rfl
theorem u_first_letters : m_first_letters = mDef 3 2 (sRet (mCB oTuple (aCons (mComp false (jRng2 (mC (.int 1)) (mOp2 opAdd (mVar 1) (mC (.int 1)))) (bNm 2) tTrue (mCall m_entry_at (aCons (mOp2 opIx (mVar 0) (mC (.int 0))) (aCons (mOp2 opIx (mVar 0) (mC (.int 1))) (aCons (mVar 2) aNil)))) [2]) aNil))) := rfl
theorem u_beginning : m_beginning = mDef 3 2 (sSeq (sSet 2 (mCall m_sure_lasso (aCons (mC (.int 3)) (aCons (mVar 0) aNil))))
  (sSeq (sDrop (mCall m_sure_many (aCons (mVar 1) (aCons (mC (.int 2000)) aNil))))
  (sRet (mCall m_first_letters (aCons (mVar 2) (aCons (mVar 1) aNil)))))) := rfl
theorem u_moved_on : m_moved_on = mDef 6 2 (sSeq (sSet 2 (mCall m_sure_lasso (aCons (mC (.int 3)) (aCons (mVar 0) aNil))))
  (sSeq (sDrop (mCall m_sure_many (aCons (mVar 1) (aCons (mC (.int 1000000000000000000000000000000)) aNil))))
  (sSeq (sAsg (bTup 2 (bCons (bNm 3) (bCons (bNm 4) bNil))) (mVar 2))
  (sSeq (sIf (tBl (mOp2 opLe (mVar 1) (mCB oLen (aCons (mVar 3) aNil)))) (sRet (mCall m_short_in (aCons (mSl (mVar 3) (mPart (mVar 1)) mNoPart) (aCons (mVar 4) aNil)))) sNil)
  (sSeq (sSet 5 (mOp2 opMod (mOp2 opSub (mVar 1) (mCB oLen (aCons (mVar 3) aNil))) (mCB oLen (aCons (mVar 4) aNil))))
  (sRet (mCall m_short_in (aCons (mTup aNil) (aCons (mOp2 opAdd (mSl (mVar 4) (mPart (mVar 5)) mNoPart) (mSl (mVar 4) mNoPart (mPart (mVar 5)))) aNil))))))))) := rfl
theorem u_put_ahead : m_put_ahead = mDef 4 2 (sSeq (sPar 2 3 (aCons (mCall m_sure_lasso (aCons (mC (.int 3)) (aCons (mVar 1) aNil))) (aCons (mCall (m_tuple_of 4) (aCons (mVar 0) aNil)) aNil)))
  (sSeq (sIf (tNot1 (tTru (mCall m_is_text (aCons (mC (.int 3)) (aCons (mVar 3) aNil))))) sStuck sNil)
  (sRet (mCall m_short_in (aCons (mOp2 opAdd (mVar 3) (mOp2 opIx (mVar 2) (mC (.int 0)))) (aCons (mOp2 opIx (mVar 2) (mC (.int 1))) aNil)))))) := rfl
theorem u_first_apart : m_first_apart = mDef 6 2 (sSeq (sPar 2 3 (aCons (mCall m_sure_lasso (aCons (mC (.int 3)) (aCons (mVar 0) aNil))) (aCons (mCall m_sure_lasso (aCons (mC (.int 3)) (aCons (mVar 1) aNil))) aNil)))
  (sSeq (sSet 4 (mOp2 opAdd (mOp2 opAdd (mCB oMax2 (aCons (mCB oLen (aCons (mOp2 opIx (mVar 2) (mC (.int 0))) aNil)) (aCons (mCB oLen (aCons (mOp2 opIx (mVar 3) (mC (.int 0))) aNil)) aNil))) (mCB oLen (aCons (mOp2 opIx (mVar 2) (mC (.int 1))) aNil))) (mCB oLen (aCons (mOp2 opIx (mVar 3) (mC (.int 1))) aNil))))
  (sSeq (sFor (jRng2 (mC (.int 1)) (mOp2 opAdd (mVar 4) (mC (.int 1)))) (bNm 5) (sIf (tBl (mOp2 (opEq true) (mCall m_entry_at (aCons (mOp2 opIx (mVar 2) (mC (.int 0))) (aCons (mOp2 opIx (mVar 2) (mC (.int 1))) (aCons (mVar 5) aNil)))) (mCall m_entry_at (aCons (mOp2 opIx (mVar 3) (mC (.int 0))) (aCons (mOp2 opIx (mVar 3) (mC (.int 1))) (aCons (mVar 5) aNil)))))) (sRet (mVar 5)) sNil))
  (sRet (mC .non))))) := rfl
theorem u_endless_letters : m_endless_letters = mDef 2 1 (sSeq (sSet 1 (mCall m_sure_lasso (aCons (mC (.int 3)) (aCons (mVar 0) aNil))))
  (sRet (mTup (aCons (mCB oTuple (aCons (mSortSet false (mOp2 opAdd (mOp2 opIx (mVar 1) (mC (.int 0))) (mOp2 opIx (mVar 1) (mC (.int 1))))) aNil)) (aCons (mCB oTuple (aCons (mSortSet false (mOp2 opIx (mVar 1) (mC (.int 1)))) aNil)) aNil))))) := rfl
theorem u_is_letters : m_is_letters = mDef 4 2 (sRet (mAndT (mCall m_is_text (aCons (mVar 0) (aCons (mVar 1) aNil))) (mAndT (mOp2 (opEq true) (mVar 1) (mTup aNil)) (mCB oAll (aCons (mComp false (iZip2 (mVar 1) (mSl (mVar 1) (mPart (mC (.int 1))) mNoPart)) (bTup 2 (bCons (bNm 2) (bCons (bNm 3) bNil))) tTrue (mOp2 opLt (mVar 2) (mVar 3)) [2, 3]) aNil))))) := rfl
theorem u_sure_letters : m_sure_letters = mDef 2 1 (sSeq (sSet 1 (mCall (m_tuple_of 4) (aCons (mVar 0) aNil)))
  (sSeq (sIf (tNot1 (tTru (mCall m_is_letters (aCons (mC (.int 3)) (aCons (mVar 1) aNil))))) sStuck sNil)
  (sRet (mVar 1)))) := rfl
theorem u_count_in : m_count_in = mDef 3 2 (sRet (mCB oLen (aCons (mComp false (iSeq (mVar 0)) (bNm 2) (tBl (mOp2 (opIn false) (mVar 2) (mVar 1))) (mVar 2) [2]) aNil))) := rfl
theorem u_how_often_to : m_how_often_to = mDef 9 3 (sSeq (sPar 3 4 (aCons (mCall m_sure_lasso (aCons (mC (.int 3)) (aCons (mVar 0) aNil))) (aCons (mCall m_sure_letters (aCons (mVar 1) aNil)) aNil)))
  (sSeq (sDrop (mCall m_sure_many (aCons (mVar 2) (aCons (mC (.int 1000000000000000000000000000000)) aNil))))
  (sSeq (sAsg (bTup 2 (bCons (bNm 5) (bCons (bNm 6) bNil))) (mVar 3))
  (sSeq (sIf (tBl (mOp2 opLe (mVar 2) (mCB oLen (aCons (mVar 5) aNil)))) (sRet (mCall m_count_in (aCons (mSl (mVar 5) mNoPart (mPart (mVar 2))) (aCons (mVar 4) aNil)))) sNil)
  (sSeq (sPar 7 8 (aCons (mOp2 opDiv (mOp2 opSub (mVar 2) (mCB oLen (aCons (mVar 5) aNil))) (mCB oLen (aCons (mVar 6) aNil))) (aCons (mOp2 opMod (mOp2 opSub (mVar 2) (mCB oLen (aCons (mVar 5) aNil))) (mCB oLen (aCons (mVar 6) aNil))) aNil)))
  (sRet (mOp2 opAdd (mOp2 opAdd (mCall m_count_in (aCons (mVar 5) (aCons (mVar 4) aNil))) (mOp2 opMul (mVar 7) (mCall m_count_in (aCons (mVar 6) (aCons (mVar 4) aNil))))) (mCall m_count_in (aCons (mSl (mVar 6) mNoPart (mPart (mVar 8))) (aCons (mVar 4) aNil)))))))))) := rfl
theorem u_next_with : m_next_with = mDef 6 3 (sSeq (sPar 3 4 (aCons (mCall m_sure_lasso (aCons (mC (.int 3)) (aCons (mVar 0) aNil))) (aCons (mCall m_sure_letters (aCons (mVar 1) aNil)) aNil)))
  (sSeq (sDrop (mCall m_sure_many (aCons (mVar 2) (aCons (mC (.int 1000000000000000000000000000000)) aNil))))
  (sSeq (sFor (jRng2 (mOp2 opAdd (mVar 2) (mC (.int 1))) (mOp2 opAdd (mOp2 opAdd (mOp2 opAdd (mVar 2) (mCB oLen (aCons (mOp2 opIx (mVar 3) (mC (.int 0))) aNil))) (mCB oLen (aCons (mOp2 opIx (mVar 3) (mC (.int 1))) aNil))) (mC (.int 1)))) (bNm 5) (sIf (tBl (mOp2 (opIn false) (mCall m_entry_at (aCons (mOp2 opIx (mVar 3) (mC (.int 0))) (aCons (mOp2 opIx (mVar 3) (mC (.int 1))) (aCons (mVar 5) aNil)))) (mVar 4))) (sRet (mVar 5)) sNil))
  (sRet (mC .non))))) := rfl
theorem u__law_box : m__law_box = mDef 3 2 (sSeq (sSet 2 (mIf (tBl (mOp2 opLt (mVar 1) (mCB oLen (aCons (mVar 0) aNil)))) (mOp2 opIx (mVar 0) (mVar 1)) (mC (.int 0))))
  (sRet (mLst true (aCons (mOp2 opMul (mCB oAbs (aCons (mVar 2) aNil)) (mCB oInt (aCons (mOp2 opGe (mCB oAbs (aCons (mVar 2) aNil)) (mOp2 opPow (mC (.int 10)) (mC (.int 18)))) aNil))) (aCons (mOp2 opAdd (mOp2 opAdd (mOp2 opMod (mCB oInt (aCons (mVar 2) aNil)) (mC (.int 2305843009213693951))) (mOp2 opMul (mC (.int 39373)) (mVar 1))) (mC (.int 2518279))) (aCons (mC (.int 0)) aNil)))))) := rfl
theorem u__law_take : m__law_take = mDef 6 2 (sSeq (sIf (tBl (mOp2 opGt (mOp2 opIx (mVar 0) (mC (.int 0))) (mC (.int 0)))) (sSeq (sSet 2 (mOp2 opMod (mCB oInt (aCons (mOp2 opIx (mVar 0) (mC (.int 0))) aNil)) (mVar 1)))
  (sSeq (sSub (mVar 0) (mC (.int 0)) (mOp2 opDiv (mOp2 opIx (mVar 0) (mC (.int 0))) (mVar 1)))
  (sRet (mVar 2)))) sNil)
  (sSeq (sSub (mVar 0) (mC (.int 2)) (mOp2 opAdd (mOp2 opIx (mVar 0) (mC (.int 2))) (mC (.int 1))))
  (sSeq (sSet 3 (mOp2 opMod (mCB oInt (aCons (mOp2 opMul (mOp2 opAdd (mOp2 opIx (mVar 0) (mC (.int 1))) (mOp2 opMul (mC (.int 48271)) (mOp2 opIx (mVar 0) (mC (.int 2))))) (mOp2 opAdd (mC (.int 39373)) (mOp2 opIx (mVar 0) (mC (.int 2))))) aNil)) (mC (.int 2147483647))))
  (sSeq (sSet 4 (mOp2 opAdd (mOp2 opMod (mCB oInt (aCons (mVar 3) aNil)) (mC (.int 40009))) (mC (.int 7))))
  (sSeq (sSet 5 (mOp2 opMod (mCB oInt (aCons (mOp2 opMul (mOp2 opAdd (mOp2 opAdd (mVar 3) (mOp2 opIx (mVar 0) (mC (.int 2)))) (mOp2 opDiv (mOp2 opIx (mVar 0) (mC (.int 1))) (mC (.int 1000003)))) (mVar 4)) aNil)) (mC (.int 2147483629))))
  (sRet (mOp2 opMod (mCB oInt (aCons (mOp2 opDiv (mOp2 opMod (mCB oInt (aCons (mOp2 opAdd (mOp2 opMul (mVar 5) (mC (.int 48271))) (mVar 3)) aNil)) (mC (.int 2147483587))) (mC (.int 64))) aNil)) (mVar 1)))))))) := rfl
theorem u__law_cells : m__law_cells = mDef 6 2 (sSeq (sSet 2 (mOrT (mListOf true (mSl (mVar 0) mNoPart (mPart (mVar 1)))) (mLst true (aCons (mC (.int 0)) aNil))))
  (sSeq (sFor (iEnum1 (mSl (mVar 0) (mPart (mVar 1)) (mPart (mC (.int 63))))) (bTup 2 (bCons (bNm 3) (bCons (bNm 4) bNil))) (sSeq (sSet 5 (mOp2 opMod (mCB oInt (aCons (mVar 3) aNil)) (mVar 1)))
  (sSub (mVar 2) (mVar 5) (mOp2 opAdd (mOp2 opIx (mVar 2) (mVar 5)) (mOp2 opMul (mVar 4) (mOp2 opAdd (mVar 3) (mC (.int 2))))))))
  (sRet (mVar 2)))) := rfl
theorem u__law_same {n : Nat} : m__law_same (n + 1) = mDef 4 2 (sSeq (sIf (tTru (mCB oIsi (aCons (mVar 1) (aCons (mTup (aCons (mC (.ty 3)) (aCons (mC (.ty 4)) aNil))) aNil)))) (sSeq (sIf (tOr2 (tBl (mOp2 (opEq true) (mCB oIsi (aCons (mVar 0) (aCons (mC (.ty 3)) aNil))) (mCB oIsi (aCons (mVar 1) (aCons (mC (.ty 3)) aNil))))) (tBl (mOp2 (opEq true) (mCB oIsi (aCons (mVar 0) (aCons (mC (.ty 4)) aNil))) (mCB oIsi (aCons (mVar 1) (aCons (mC (.ty 4)) aNil)))))) (sRet (mC (.bl false))) sNil)
  (sRet (mAndT (mOp2 (opEq false) (mCB oLen (aCons (mVar 0) aNil)) (mCB oLen (aCons (mVar 1) aNil))) (mCB oAll (aCons (mComp false (iZip2 (mVar 0) (mVar 1)) (bTup 2 (bCons (bNm 2) (bCons (bNm 3) bNil))) tTrue (mCall (m__law_same n) (aCons (mVar 2) (aCons (mVar 3) aNil))) [2, 3]) aNil))))) sNil)
  (sSeq (sIf (tOr2 (tBl (mOp2 opIsN (mVar 1) (mC .non))) (tTru (mCB oIsi (aCons (mVar 1) (aCons (mTup (aCons (mC (.ty 1)) (aCons (mC (.ty 2)) aNil))) aNil))))) (sRet (mAndT (mOp2 (opEq false) (mVar 0) (mVar 1)) (mAndT (mOp2 (opEq false) (mCB oIsi (aCons (mVar 0) (aCons (mC (.ty 1)) aNil))) (mCB oIsi (aCons (mVar 1) (aCons (mC (.ty 1)) aNil)))) (mOp2 (opEq false) (mOp2 opIsN (mVar 0) (mC .non)) (mOp2 opIsN (mVar 1) (mC .non)))))) sNil)
  (sRet (mAndT (mCB oIsi (aCons (mVar 0) (aCons (mC (.ty 0)) aNil))) (mAndT (mNot (mCB oIsi (aCons (mVar 0) (aCons (mC (.ty 1)) aNil)))) (mOp2 (opEq false) (mVar 0) (mVar 1))))))) := rfl
theorem u__law_lists {n : Nat} : m__law_lists (n + 1) = mDef 2 1 (sRet (mIf (tTru (mCB oIsi (aCons (mVar 0) (aCons (mTup (aCons (mC (.ty 3)) (aCons (mC (.ty 4)) aNil))) aNil)))) (mComp false (iSeq (mVar 0)) (bNm 1) tTrue (mCall (m__law_lists n) (aCons (mVar 1) aNil)) [1]) (mVar 0))) := rfl
theorem u__law_of : m__law_of = mDef 2 2 (sRet (mOp2 opIx (mVar 1) (mCall m__law_take (aCons (mVar 0) (aCons (mCB oLen (aCons (mVar 1) aNil)) aNil))))) := rfl
theorem u__law_row : m__law_row = mDef 4 3 (sRet (mCB oTuple (aCons (mComp false (jRng1 (mVar 2)) (bNm 3) tTrue (mOp2 opAdd (mC (.int 1)) (mCall m__law_take (aCons (mVar 0) (aCons (mVar 1) aNil)))) [3]) aNil))) := rfl
theorem u__law_lasso : m__law_lasso = mDef 4 4 (sRet (mTup (aCons (mCall m__law_row (aCons (mVar 0) (aCons (mVar 1) (aCons (mCall m__law_take (aCons (mVar 0) (aCons (mOp2 opAdd (mVar 2) (mC (.int 1))) aNil))) aNil)))) (aCons (mCall m__law_row (aCons (mVar 0) (aCons (mVar 1) (aCons (mOp2 opAdd (mC (.int 1)) (mCall m__law_take (aCons (mVar 0) (aCons (mVar 3) aNil)))) aNil)))) aNil)))) := rfl
theorem u__law_gap_subsets : m__law_gap_subsets = mDef 4 1 (sSeq (sSet 1 (mLst false (aCons (mTup aNil) aNil)))
  (sSeq (sFor (iSeq (mVar 0)) (bNm 2) (sSet 1 (mOp2 opAdd (mVar 1) (mComp false (iSeq (mVar 1)) (bNm 3) tTrue (mOp2 opAdd (mVar 3) (mTup (aCons (mVar 2) aNil))) [3]))))
  (sRet (mVar 1)))) := rfl
theorem u__law_sets : m__law_sets = mDef 2 1 (sRet (mSorted false (mComp false (iSeq (mCall m__law_gap_subsets (aCons (mListRg false (vRng2 (mC (.int 1)) (mOp2 opAdd (mVar 0) (mC (.int 1))))) aNil))) (bNm 1) (tBl (mOp2 (opEq true) (mVar 1) (mTup aNil))) (mCB oTuple (aCons (mVar 1) aNil)) [1]))) := rfl
theorem u_law : m_law = mDef 20 1 (sSeq (sSet 1 (mCall m__law_box (aCons (mCall m__law_cells (aCons (mVar 0) (aCons (mC (.int 1)) aNil))) (aCons (mC (.int 0)) aNil))))
  (sSeq (sAsg (bTup 2 (bCons (bNm 2) (bCons (bNm 3) bNil))) (mTup (aCons (mCall m__law_lasso (aCons (mVar 1) (aCons (mC (.int 3)) (aCons (mC (.int 6)) (aCons (mC (.int 5)) aNil))))) (aCons (mCall m__law_of (aCons (mVar 1) (aCons (mCall m__law_sets (aCons (mC (.int 3)) aNil)) aNil))) aNil))))
  (sSeq (sSet 4 (mOp2 opAdd (mOp2 opMul (mOp2 opPow (mC (.int 10)) (mC (.int 20))) (mOp2 opAdd (mC (.int 1)) (mCall m__law_take (aCons (mVar 1) (aCons (mC (.int 99)) aNil))))) (mCall m__law_take (aCons (mVar 1) (aCons (mOp2 opPow (mC (.int 10)) (mC (.int 6))) aNil)))))
  (sSeq (sAsg (bTup 2 (bCons (bNm 5) (bCons (bNm 6) bNil))) (mVar 2))
  (sSeq (sPar 7 8 (aCons (mOp2 opDiv (mOp2 opSub (mVar 4) (mCB oLen (aCons (mVar 5) aNil))) (mCB oLen (aCons (mVar 6) aNil))) (aCons (mOp2 opMod (mOp2 opSub (mVar 4) (mCB oLen (aCons (mVar 5) aNil))) (mCB oLen (aCons (mVar 6) aNil))) aNil)))
  (sSeq (sSet 9 (mOp2 opAdd (mOp2 opAdd (mCB oLen (aCons (mComp false (iSeq (mVar 5)) (bNm 19) (tBl (mOp2 (opIn false) (mVar 19) (mVar 3))) (mC (.int 1)) [19]) aNil)) (mOp2 opMul (mVar 7) (mCB oLen (aCons (mComp false (iSeq (mVar 6)) (bNm 19) (tBl (mOp2 (opIn false) (mVar 19) (mVar 3))) (mC (.int 1)) [19]) aNil)))) (mCB oLen (aCons (mComp false (iSeq (mSl (mVar 6) mNoPart (mPart (mVar 8)))) (bNm 19) (tBl (mOp2 (opIn false) (mVar 19) (mVar 3))) (mC (.int 1)) [19]) aNil))))
  (sSeq (sSet 10 (mOp2 opIx (mVar 6) (mOp2 opMod (mOp2 opSub (mOp2 opSub (mVar 4) (mCB oLen (aCons (mVar 5) aNil))) (mC (.int 1))) (mCB oLen (aCons (mVar 6) aNil)))))
  (sSeq (sSet 11 (mLst false (aCons (mCall m_how_often_to (aCons (mVar 2) (aCons (mCall (m__law_lists 4) (aCons (mVar 3) aNil)) (aCons (mVar 4) aNil)))) (aCons (mCall m_letter_at (aCons (mCall (m__law_lists 4) (aCons (mVar 2) aNil)) (aCons (mVar 4) aNil))) (aCons (mCall m_how_often_to (aCons (mVar 2) (aCons (mVar 3) (aCons (mOp2 opSub (mVar 4) (mC (.int 1))) aNil)))) (aCons (mCall m_how_often_to (aCons (mVar 2) (aCons (mTup (aCons (mC (.int 1)) (aCons (mC (.int 2)) (aCons (mC (.int 3)) aNil)))) (aCons (mVar 4) aNil)))) aNil))))))
  (sSeq (sSet 11 (mOp2 opAdd (mVar 11) (mLst false (aCons (mCall m_how_often_to (aCons (mVar 2) (aCons (mVar 3) (aCons (mC (.int 0)) aNil)))) aNil))))
  (sSeq (sIf (tNot1 (tTru (mCall (m__law_same 4) (aCons (mVar 11) (aCons (mLst false (aCons (mVar 9) (aCons (mVar 10) (aCons (mOp2 opSub (mVar 9) (mCB oInt (aCons (mOp2 (opIn false) (mVar 10) (mVar 3)) aNil))) (aCons (mVar 4) (aCons (mC (.int 0)) aNil)))))) aNil))))) (sRet (mC (.bl false))) sNil)
  (sSeq (sSet 12 (mComp false (jRng2 (mC (.int 1)) (mOp2 opAdd (mCB oLen (aCons (mVar 6) aNil)) (mC (.int 1)))) (bNm 18) (tBl (mOp2 (opIn false) (mOp2 opIx (mVar 6) (mOp2 opMod (mOp2 opAdd (mOp2 opSub (mOp2 opSub (mVar 4) (mCB oLen (aCons (mVar 5) aNil))) (mC (.int 1))) (mVar 18)) (mCB oLen (aCons (mVar 6) aNil)))) (mVar 3))) (mVar 18) [18]))
  (sSeq (sIf (tNot1 (tTru (mCall (m__law_same 4) (aCons (mCall m_next_with (aCons (mVar 2) (aCons (mVar 3) (aCons (mVar 4) aNil)))) (aCons (mIf (tBl (mOp2 (opEq true) (mVar 12) (mLst false aNil))) (mOp2 opAdd (mVar 4) (mOp2 opIx (mVar 12) (mC (.int 0)))) (mC .non)) aNil))))) (sRet (mC (.bl false))) sNil)
  (sSeq (sSet 13 (mCall m_moved_on (aCons (mVar 2) (aCons (mVar 4) aNil))))
  (sSeq (sIf (tNot1 (tTru (mCall (m__law_same 4) (aCons (mLst false (aCons (mCall m_beginning (aCons (mVar 13) (aCons (mC (.int 12)) aNil))) (aCons (mCall m_is_short (aCons (mVar 13) aNil)) (aCons (mCall m_put_ahead (aCons (mVar 5) (aCons (mTup (aCons (mTup aNil) (aCons (mVar 6) aNil))) aNil))) aNil)))) (aCons (mLst false (aCons (mCB oTuple (aCons (mComp false (jRng2 (mC (.int 1)) (mC (.int 13))) (bNm 19) tTrue (mCall m_letter_at (aCons (mVar 2) (aCons (mOp2 opAdd (mVar 4) (mVar 19)) aNil))) [19]) aNil)) (aCons (mC (.bl true)) (aCons (mCall m_lasso_short (aCons (mVar 2) aNil)) aNil)))) aNil))))) (sRet (mC (.bl false))) sNil)
  (sSeq (sIf (tOr2 (tBl (mOp2 (opEq true) (mCall m_endless_letters (aCons (mVar 13) aNil)) (mOp2 opMul (mTup (aCons (mOp2 opIx (mCall m_endless_letters (aCons (mVar 2) aNil)) (mC (.int 1))) aNil)) (mC (.int 2))))) (tBl (mOp2 (opEq true) (mCall m_endless_letters (aCons (mVar 2) aNil)) (mTup (aCons (mCB oTuple (aCons (mSortSet false (mOp2 opAdd (mVar 5) (mVar 6))) aNil)) (aCons (mCB oTuple (aCons (mSortSet false (mVar 6)) aNil)) aNil)))))) (sRet (mC (.bl false))) sNil)
  (sSeq (sSet 14 (mTup (aCons (mOp2 opAdd (mVar 5) (mSl (mVar 6) mNoPart (mPart (mC (.int 1))))) (aCons (mOp2 opAdd (mSl (mVar 6) (mPart (mC (.int 1))) mNoPart) (mSl (mVar 6) mNoPart (mPart (mC (.int 1))))) aNil))))
  (sSeq (sSet 15 (mCall m__law_take (aCons (mVar 1) (aCons (mC (.int 12)) aNil))))
  (sSeq (sSet 16 (mListOf true (mCall m_beginning (aCons (mVar 2) (aCons (mOp2 opAdd (mVar 15) (mC (.int 1))) aNil)))))
  (sSeq (sSub (mVar 16) (mVar 15) (mOp2 opAdd (mC (.int 1)) (mOp2 opMod (mOp2 opIx (mVar 16) (mVar 15)) (mC (.int 3)))))
  (sSeq (sSet 17 (mCall m_put_ahead (aCons (mCB oTuple (aCons (mVar 16) aNil)) (aCons (mCall m_moved_on (aCons (mVar 2) (aCons (mOp2 opAdd (mVar 15) (mC (.int 1))) aNil))) aNil))))
  (sSeq (sSet 11 (mLst false (aCons (mCall m_same_endless (aCons (mVar 2) (aCons (mVar 14) aNil))) (aCons (mCall m_first_apart (aCons (mVar 2) (aCons (mVar 14) aNil))) (aCons (mCall m_first_apart (aCons (mVar 2) (aCons (mVar 17) aNil))) (aCons (mCall m_same_endless (aCons (mVar 17) (aCons (mVar 2) aNil))) (aCons (mCall m_first_apart (aCons (mVar 17) (aCons (mVar 17) aNil))) aNil)))))))
  (sRet (mCall (m__law_same 4) (aCons (mVar 11) (aCons (mLst false (aCons (mC (.bl true)) (aCons (mC .non) (aCons (mOp2 opAdd (mVar 15) (mC (.int 1))) (aCons (mC (.bl false)) (aCons (mC .non) aNil)))))) aNil))))))))))))))))))))))))) := rfl
end K22

namespace K22
open PySem PySem.Spec PyProof.Rows L2 Mi
/-! ### what the defs compute -/
abbrev PD (p : List Int × List Int) : D := .tup [I p.1, I p.2]
abbrev PL (a q : List Int) : D := .lst [IL a, IL q]
theorem e_number (i : Int) (S : Sto) : m_is_number [.int i] S = .ok (.bl true) S := rfl
theorem e_letter (w i : Int) (S : Sto) : m_is_letter [.int w, .int i] S = .ok (.bl (decide (1 ≤ i) && decide (i ≤ w))) S := by
  simp only [m_is_letter, b_is_letter, mDef, Nat.beq, List.length_cons, List.length_nil, List.map_cons, List.map_nil, List.replicate, List.append_nil, List.cons_append, List.nil_append, sSeq, sNil, sSet, sAsg, sPar, sDrop, sRet, sRetN, sIf, sFor, sWhile, sSub, sStuck, sBreak, sCont, Res.st, Res.bind, Res.bind0, mVar, mC, mOp2, mOp1, liftO, mIf, mAndT, mOrT, mNot, truD, tTru, liftB, tBl, blOf, mChain, tAnd2, tOr2, tNot1, tTrue, aNil, aCons, aStar, mTup, mLst, mkList, mCB, mCall, oLen, oAbs, oInt, oMax2, oMin2, oTuple, oAll, oSum, oAny, seqOf, lstR, lstOf, mSl, mPart, mNoPart, opSl, mComp, iSeq, iZip2, iEnum1, jRng1, jRng2, fixOf, fixL, mListOf, mListRg, vRng1, vRng2, bNm, setE, wipeE, List.getElem?_cons_zero, List.getElem?_cons_succ, List.set_cons_zero, List.set_cons_succ, opIsN, opNotN, isNone, opAdd_int, opSub_int, opNeg_int, opLt_int, opLe_int, opGt_int, opGe_int, bTup, bCons, bNil, if_true, beq_n, Bool.not_true, Bool.not_false, Int.reduceNeg, e_number]
  by_cases h : 1 ≤ i
  · simp [h]
  · simp [h]
theorem e_text {p : List Int} (h : In3 p) (hl : p.length ≤ 10000) (S : Sto) : m_is_text [.int 3, I p] S = .ok (.bl true) S := by
  have hl : big p.length = true := big_of (by omega)
  have e : ∀ E S, lcLoop (bNm 2) tTrue (mCall m_is_letter (aCons (mVar 0) (aCons (mVar 2) aNil))) (some (.int 3) :: E :: [none]) (p.map .int) S = .ok (p.map fun _ => .bl true) S := by
    intro E S
    rw [lcLoop_map (g := fun _ => .bl true)]
    · rw [List.map_map]; rfl
    · intro d hd
      obtain ⟨x, hx, rfl⟩ := List.mem_map.mp hd
      obtain ⟨h1, h2⟩ := h x hx
      refine ⟨_, rfl, rfl, ?_⟩
      simp only [mDef, Nat.beq, List.length_cons, List.length_nil, List.map_cons, List.map_nil, List.replicate, List.append_nil, List.cons_append, List.nil_append, sSeq, sNil, sSet, sAsg, sPar, sDrop, sRet, sRetN, sIf, sFor, sWhile, sSub, sStuck, sBreak, sCont, Res.st, Res.bind, Res.bind0, mVar, mC, mOp2, mOp1, liftO, mIf, mAndT, mOrT, mNot, truD, tTru, liftB, tBl, blOf, mChain, tAnd2, tOr2, tNot1, tTrue, aNil, aCons, aStar, mTup, mLst, mkList, mCB, mCall, oLen, oAbs, oInt, oMax2, oMin2, oTuple, oAll, oSum, oAny, seqOf, lstR, lstOf, mSl, mPart, mNoPart, opSl, mComp, iSeq, iZip2, iEnum1, jRng1, jRng2, fixOf, fixL, mListOf, mListRg, vRng1, vRng2, bNm, setE, wipeE, List.getElem?_cons_zero, List.getElem?_cons_succ, List.set_cons_zero, List.set_cons_succ, opIsN, opNotN, isNone, opAdd_int, opSub_int, opNeg_int, opLt_int, opLe_int, opGt_int, opGe_int, bTup, bCons, bNil, if_true, beq_n, Bool.not_true, Bool.not_false, Int.reduceNeg, e_letter, h1, h2]
      simp
  have e2 : (p.map fun _ => D.bl true) = (p.map fun _ => true).map .bl := by rw [List.map_map]; rfl
  have e3 : (p.map fun _ => true).all id = true := by simp
  simp only [m_is_text, b_is_text, mDef, Nat.beq, List.length_cons, List.length_nil, List.map_cons, List.map_nil, List.replicate, List.append_nil, List.cons_append, List.nil_append, sSeq, sNil, sSet, sAsg, sPar, sDrop, sRet, sRetN, sIf, sFor, sWhile, sSub, sStuck, sBreak, sCont, Res.st, Res.bind, Res.bind0, mVar, mC, mOp2, mOp1, liftO, mIf, mAndT, mOrT, mNot, truD, tTru, liftB, tBl, blOf, mChain, tAnd2, tOr2, tNot1, tTrue, aNil, aCons, aStar, mTup, mLst, mkList, mCB, mCall, oLen, oAbs, oInt, oMax2, oMin2, oTuple, oAll, oSum, oAny, seqOf, lstR, lstOf, mSl, mPart, mNoPart, opSl, mComp, iSeq, iZip2, iEnum1, jRng1, jRng2, fixOf, fixL, mListOf, mListRg, vRng1, vRng2, bNm, setE, wipeE, List.getElem?_cons_zero, List.getElem?_cons_succ, List.set_cons_zero, List.set_cons_succ, opIsN, opNotN, isNone, opAdd_int, opSub_int, opNeg_int, opLt_int, opLe_int, opGt_int, opGe_int, bTup, bCons, bNil, if_true, beq_n, Bool.not_true, Bool.not_false, Int.reduceNeg, I, oIsi, tyN, isiAny, tyArg, e, List.length_map, hl, e2, blsOf_map, e3]
  rfl
theorem e_tuple_int (n : Nat) (i : Int) (S : Sto) : m_tuple_of (n + 1) [.int i] S = .ok (.int i) S := rfl
theorem tup_loop (n : Nat) (x : Option D) (l : List Int) (S : Sto) : lcLoop (bNm 1) tTrue (mCall (m_tuple_of (n + 1)) (aCons (mVar 1) aNil)) [x, none] (l.map .int) S = .ok (l.map .int) S := by
  rw [lcLoop_map (g := fun d => d)]
  · simp
  · intro d hd
    obtain ⟨y, hy, rfl⟩ := List.mem_map.mp hd
    exact ⟨_, rfl, rfl, rfl⟩
theorem e_tuple_I (n : Nat) (l : List Int) (hl : l.length ≤ 10000) (S : Sto) : m_tuple_of (n + 2) [I l] S = .ok (I l) S := by
  have hl : big l.length = true := big_of (by omega)
  have u : m_tuple_of (n + 2) = mDef 2 1 (b_tuple_of (m_tuple_of (n + 1))) := rfl
  rw [u]
  simp only [b_tuple_of, mDef, Nat.beq, List.length_cons, List.length_nil, List.map_cons, List.map_nil, List.replicate, List.append_nil, List.cons_append, List.nil_append, sSeq, sNil, sSet, sAsg, sPar, sDrop, sRet, sRetN, sIf, sFor, sWhile, sSub, sStuck, sBreak, sCont, Res.st, Res.bind, Res.bind0, mVar, mC, mOp2, mOp1, liftO, mIf, mAndT, mOrT, mNot, truD, tTru, liftB, tBl, blOf, mChain, tAnd2, tOr2, tNot1, tTrue, aNil, aCons, aStar, mTup, mLst, mkList, mCB, mCall, oLen, oAbs, oInt, oMax2, oMin2, oTuple, oAll, oSum, oAny, seqOf, lstR, lstOf, mSl, mPart, mNoPart, opSl, mComp, iSeq, iZip2, iEnum1, jRng1, jRng2, fixOf, fixL, mListOf, mListRg, vRng1, vRng2, bNm, setE, wipeE, List.getElem?_cons_zero, List.getElem?_cons_succ, List.set_cons_zero, List.set_cons_succ, opIsN, opNotN, isNone, opAdd_int, opSub_int, opNeg_int, opLt_int, opLe_int, opGt_int, opGe_int, bTup, bCons, bNil, if_true, beq_n, Bool.not_true, Bool.not_false, Int.reduceNeg, I, oIsi, tyN, isiAny, tyArg, List.length_map, hl, tup_loop]
  rfl
theorem e_tuple_IL (n : Nat) (l : List Int) (hl : l.length ≤ 10000) (S : Sto) : m_tuple_of (n + 2) [IL l] S = .ok (I l) S := by
  have hl : big l.length = true := big_of (by omega)
  have u : m_tuple_of (n + 2) = mDef 2 1 (b_tuple_of (m_tuple_of (n + 1))) := rfl
  rw [u]
  simp only [b_tuple_of, mDef, Nat.beq, List.length_cons, List.length_nil, List.map_cons, List.map_nil, List.replicate, List.append_nil, List.cons_append, List.nil_append, sSeq, sNil, sSet, sAsg, sPar, sDrop, sRet, sRetN, sIf, sFor, sWhile, sSub, sStuck, sBreak, sCont, Res.st, Res.bind, Res.bind0, mVar, mC, mOp2, mOp1, liftO, mIf, mAndT, mOrT, mNot, truD, tTru, liftB, tBl, blOf, mChain, tAnd2, tOr2, tNot1, tTrue, aNil, aCons, aStar, mTup, mLst, mkList, mCB, mCall, oLen, oAbs, oInt, oMax2, oMin2, oTuple, oAll, oSum, oAny, seqOf, lstR, lstOf, mSl, mPart, mNoPart, opSl, mComp, iSeq, iZip2, iEnum1, jRng1, jRng2, fixOf, fixL, mListOf, mListRg, vRng1, vRng2, bNm, setE, wipeE, List.getElem?_cons_zero, List.getElem?_cons_succ, List.set_cons_zero, List.set_cons_succ, opIsN, opNotN, isNone, opAdd_int, opSub_int, opNeg_int, opLt_int, opLe_int, opGt_int, opGe_int, bTup, bCons, bNil, if_true, beq_n, Bool.not_true, Bool.not_false, Int.reduceNeg, IL, oIsi, tyN, isiAny, tyArg, List.length_map, hl, tup_loop]
  rfl
theorem e_tuple_P (n : Nat) (a q : List Int) (ha : a.length ≤ 10000) (hq : q.length ≤ 10000) (S : Sto) : m_tuple_of (n + 3) [PD (a, q)] S = .ok (PD (a, q)) S := by
  have u : m_tuple_of (n + 3) = mDef 2 1 (b_tuple_of (m_tuple_of (n + 2))) := rfl
  rw [u]
  simp only [b_tuple_of, mDef, Nat.beq, List.length_cons, List.length_nil, List.map_cons, List.map_nil, List.replicate, List.append_nil, List.cons_append, List.nil_append, sSeq, sNil, sSet, sAsg, sPar, sDrop, sRet, sRetN, sIf, sFor, sWhile, sSub, sStuck, sBreak, sCont, Res.st, Res.bind, Res.bind0, mVar, mC, mOp2, mOp1, liftO, mIf, mAndT, mOrT, mNot, truD, tTru, liftB, tBl, blOf, mChain, tAnd2, tOr2, tNot1, tTrue, aNil, aCons, aStar, mTup, mLst, mkList, mCB, mCall, oLen, oAbs, oInt, oMax2, oMin2, oTuple, oAll, oSum, oAny, seqOf, lstR, lstOf, mSl, mPart, mNoPart, opSl, mComp, iSeq, iZip2, iEnum1, jRng1, jRng2, fixOf, fixL, mListOf, mListRg, vRng1, vRng2, bNm, setE, wipeE, List.getElem?_cons_zero, List.getElem?_cons_succ, List.set_cons_zero, List.set_cons_succ, opIsN, opNotN, isNone, opAdd_int, opSub_int, opNeg_int, opLt_int, opLe_int, opGt_int, opGe_int, bTup, bCons, bNil, if_true, beq_n, Bool.not_true, Bool.not_false, Int.reduceNeg, PD, oIsi, tyN, isiAny, tyArg, lcLoop, e_tuple_I n a ha, e_tuple_I n q hq]
  rfl
theorem e_tuple_PL (n : Nat) (a q : List Int) (ha : a.length ≤ 10000) (hq : q.length ≤ 10000) (S : Sto) : m_tuple_of (n + 3) [PL a q] S = .ok (PD (a, q)) S := by
  have u : m_tuple_of (n + 3) = mDef 2 1 (b_tuple_of (m_tuple_of (n + 2))) := rfl
  rw [u]
  simp only [b_tuple_of, mDef, Nat.beq, List.length_cons, List.length_nil, List.map_cons, List.map_nil, List.replicate, List.append_nil, List.cons_append, List.nil_append, sSeq, sNil, sSet, sAsg, sPar, sDrop, sRet, sRetN, sIf, sFor, sWhile, sSub, sStuck, sBreak, sCont, Res.st, Res.bind, Res.bind0, mVar, mC, mOp2, mOp1, liftO, mIf, mAndT, mOrT, mNot, truD, tTru, liftB, tBl, blOf, mChain, tAnd2, tOr2, tNot1, tTrue, aNil, aCons, aStar, mTup, mLst, mkList, mCB, mCall, oLen, oAbs, oInt, oMax2, oMin2, oTuple, oAll, oSum, oAny, seqOf, lstR, lstOf, mSl, mPart, mNoPart, opSl, mComp, iSeq, iZip2, iEnum1, jRng1, jRng2, fixOf, fixL, mListOf, mListRg, vRng1, vRng2, bNm, setE, wipeE, List.getElem?_cons_zero, List.getElem?_cons_succ, List.set_cons_zero, List.set_cons_succ, opIsN, opNotN, isNone, opAdd_int, opSub_int, opNeg_int, opLt_int, opLe_int, opGt_int, opGe_int, bTup, bCons, bNil, if_true, beq_n, Bool.not_true, Bool.not_false, Int.reduceNeg, PL, PD, oIsi, tyN, isiAny, tyArg, lcLoop, e_tuple_IL n a ha, e_tuple_IL n q hq]
  rfl
theorem e_wide (S : Sto) : m_sure_wide_of [.int 3] S = .ok .non S := rfl
theorem e_is_tuple_of (x y : D) (S : Sto) : m_is_tuple_of [.tup [x, y], .int 2] S = .ok (.bl true) S := rfl
structure La (a q : List Int) : Prop where
  a3 : In3 a
  q3 : In3 q
  ne : q ≠ []
  la : a.length ≤ 5000
  lq : q.length ≤ 5000
theorem e_form {a q : List Int} (h : La a q) (S : Sto) : m_is_lasso_form [.int 3, PD (a, q)] S = .ok (.bl true) S := by
  have hq : ¬ q = [] := h.ne
  have l1 := h.la
  have l2 := h.lq
  have e1 : opEq true (I q) (D.tup []) S = some (.bl true) := by
    have := opEq_I (neg := true) (S := S) q []
    show opEq true (I q) (I []) S = _
    rw [this]
    simp [hq]
  have t1 := e_text h.a3 (by omega)
  have t2 := e_text h.q3 (by omega)
  simp only [m_is_lasso_form, b_is_lasso_form, PD, mDef, Nat.beq, List.length_cons, List.length_nil, List.map_cons, List.map_nil, List.replicate, List.append_nil, List.cons_append, List.nil_append, sSeq, sNil, sSet, sAsg, sPar, sDrop, sRet, sRetN, sIf, sFor, sWhile, sSub, sStuck, sBreak, sCont, Res.st, Res.bind, Res.bind0, mVar, mC, mOp2, mOp1, liftO, mIf, mAndT, mOrT, mNot, truD, tTru, liftB, tBl, blOf, mChain, tAnd2, tOr2, tNot1, tTrue, aNil, aCons, aStar, mTup, mLst, mkList, mCB, mCall, oLen, oAbs, oInt, oMax2, oMin2, oTuple, oAll, oSum, oAny, seqOf, lstR, lstOf, mSl, mPart, mNoPart, opSl, mComp, iSeq, iZip2, iEnum1, jRng1, jRng2, fixOf, fixL, mListOf, mListRg, vRng1, vRng2, bNm, setE, wipeE, List.getElem?_cons_zero, List.getElem?_cons_succ, List.set_cons_zero, List.set_cons_succ, opIsN, opNotN, isNone, opAdd_int, opSub_int, opNeg_int, opLt_int, opLe_int, opGt_int, opGe_int, bTup, bCons, bNil, if_true, beq_n, Bool.not_true, Bool.not_false, Int.reduceNeg, e_is_tuple_of, lcLoop, t1, t2]
  have b2 : big (0 + 1 + 1) = true := rfl
  have i2 : opIx (D.tup [I a, I q]) (D.int 1) S = some (I q) := rfl
  have b0 : big 0 = true := rfl
  simp only [b2, b0, i2, e1, blsOf]
  rfl
theorem e_sure {a q : List Int} (h : La a q) (S : Sto) : m_sure_lasso [.int 3, PD (a, q)] S = .ok (PD (a, q)) S := by
  have l1 := h.la
  have l2 := h.lq
  simp only [m_sure_lasso, b_sure_lasso, mDef, Nat.beq, List.length_cons, List.length_nil, List.map_cons, List.map_nil, List.replicate, List.append_nil, List.cons_append, List.nil_append, sSeq, sNil, sSet, sAsg, sPar, sDrop, sRet, sRetN, sIf, sFor, sWhile, sSub, sStuck, sBreak, sCont, Res.st, Res.bind, Res.bind0, mVar, mC, mOp2, mOp1, liftO, mIf, mAndT, mOrT, mNot, truD, tTru, liftB, tBl, blOf, mChain, tAnd2, tOr2, tNot1, tTrue, aNil, aCons, aStar, mTup, mLst, mkList, mCB, mCall, oLen, oAbs, oInt, oMax2, oMin2, oTuple, oAll, oSum, oAny, seqOf, lstR, lstOf, mSl, mPart, mNoPart, opSl, mComp, iSeq, iZip2, iEnum1, jRng1, jRng2, fixOf, fixL, mListOf, mListRg, vRng1, vRng2, bNm, setE, wipeE, List.getElem?_cons_zero, List.getElem?_cons_succ, List.set_cons_zero, List.set_cons_succ, opIsN, opNotN, isNone, opAdd_int, opSub_int, opNeg_int, opLt_int, opLe_int, opGt_int, opGe_int, bTup, bCons, bNil, if_true, beq_n, Bool.not_true, Bool.not_false, Int.reduceNeg, e_wide, e_tuple_P 1 a q (by omega) (by omega), e_form h]
theorem e_sureL {a q : List Int} (h : La a q) (S : Sto) : m_sure_lasso [.int 3, PL a q] S = .ok (PD (a, q)) S := by
  have l1 := h.la
  have l2 := h.lq
  simp only [m_sure_lasso, b_sure_lasso, mDef, Nat.beq, List.length_cons, List.length_nil, List.map_cons, List.map_nil, List.replicate, List.append_nil, List.cons_append, List.nil_append, sSeq, sNil, sSet, sAsg, sPar, sDrop, sRet, sRetN, sIf, sFor, sWhile, sSub, sStuck, sBreak, sCont, Res.st, Res.bind, Res.bind0, mVar, mC, mOp2, mOp1, liftO, mIf, mAndT, mOrT, mNot, truD, tTru, liftB, tBl, blOf, mChain, tAnd2, tOr2, tNot1, tTrue, aNil, aCons, aStar, mTup, mLst, mkList, mCB, mCall, oLen, oAbs, oInt, oMax2, oMin2, oTuple, oAll, oSum, oAny, seqOf, lstR, lstOf, mSl, mPart, mNoPart, opSl, mComp, iSeq, iZip2, iEnum1, jRng1, jRng2, fixOf, fixL, mListOf, mListRg, vRng1, vRng2, bNm, setE, wipeE, List.getElem?_cons_zero, List.getElem?_cons_succ, List.set_cons_zero, List.set_cons_succ, opIsN, opNotN, isNone, opAdd_int, opSub_int, opNeg_int, opLt_int, opLe_int, opGt_int, opGe_int, bTup, bCons, bNil, if_true, beq_n, Bool.not_true, Bool.not_false, Int.reduceNeg, e_wide, e_tuple_PL 1 a q (by omega) (by omega), e_form h]
theorem e_many {m k : Int} (h0 : 0 ≤ m) (h1 : m ≤ k) (S : Sto) : m_sure_many [.int m, .int k] S = .ok .non S := by
  simp only [m_sure_many, b_sure_many, mDef, Nat.beq, List.length_cons, List.length_nil, List.map_cons, List.map_nil, List.replicate, List.append_nil, List.cons_append, List.nil_append, sSeq, sNil, sSet, sAsg, sPar, sDrop, sRet, sRetN, sIf, sFor, sWhile, sSub, sStuck, sBreak, sCont, Res.st, Res.bind, Res.bind0, mVar, mC, mOp2, mOp1, liftO, mIf, mAndT, mOrT, mNot, truD, tTru, liftB, tBl, blOf, mChain, tAnd2, tOr2, tNot1, tTrue, aNil, aCons, aStar, mTup, mLst, mkList, mCB, mCall, oLen, oAbs, oInt, oMax2, oMin2, oTuple, oAll, oSum, oAny, seqOf, lstR, lstOf, mSl, mPart, mNoPart, opSl, mComp, iSeq, iZip2, iEnum1, jRng1, jRng2, fixOf, fixL, mListOf, mListRg, vRng1, vRng2, bNm, setE, wipeE, List.getElem?_cons_zero, List.getElem?_cons_succ, List.set_cons_zero, List.set_cons_succ, opIsN, opNotN, isNone, opAdd_int, opSub_int, opNeg_int, opLt_int, opLe_int, opGt_int, opGe_int, bTup, bCons, bNil, if_true, beq_n, Bool.not_true, Bool.not_false, Int.reduceNeg, e_number, h0, h1]
  simp
theorem e_spot {m : Int} (h0 : 1 ≤ m) (h1 : m ≤ 1000000000000000000000000000000) (S : Sto) : m_sure_spot [.int m] S = .ok .non S := by
  have h2 := e_many (m := m) (k := 1000000000000000000000000000000) (by omega) (by omega)
  have h3 : ¬ m = 0 := by omega
  simp only [m_sure_spot, b_sure_spot, mDef, Nat.beq, List.length_cons, List.length_nil, List.map_cons, List.map_nil, List.replicate, List.append_nil, List.cons_append, List.nil_append, sSeq, sNil, sSet, sAsg, sPar, sDrop, sRet, sRetN, sIf, sFor, sWhile, sSub, sStuck, sBreak, sCont, Res.st, Res.bind, Res.bind0, mVar, mC, mOp2, mOp1, liftO, mIf, mAndT, mOrT, mNot, truD, tTru, liftB, tBl, blOf, mChain, tAnd2, tOr2, tNot1, tTrue, aNil, aCons, aStar, mTup, mLst, mkList, mCB, mCall, oLen, oAbs, oInt, oMax2, oMin2, oTuple, oAll, oSum, oAny, seqOf, lstR, lstOf, mSl, mPart, mNoPart, opSl, mComp, iSeq, iZip2, iEnum1, jRng1, jRng2, fixOf, fixL, mListOf, mListRg, vRng1, vRng2, bNm, setE, wipeE, List.getElem?_cons_zero, List.getElem?_cons_succ, List.set_cons_zero, List.set_cons_succ, opIsN, opNotN, isNone, opAdd_int, opSub_int, opNeg_int, opLt_int, opLe_int, opGt_int, opGe_int, bTup, bCons, bNil, if_true, beq_n, Bool.not_true, Bool.not_false, Int.reduceNeg, h2, opEq_int, h3]
  simp
/-! ### the shortest round -/
theorem rep_mul {q : List Int} {k : Nat} (S : Sto) (hq : q.length ≤ 1000) (hk : 1 ≤ k) (hkq : k ≤ q.length) : opMul (I (q.take k)) (.int ((q.length / k : Nat) : Int)) S = some (I (List.replicate (q.length / k) (q.take k)).flatten) := by
  have hd : 1 ≤ q.length / k := Nat.div_pos hkq hk
  have hd2 : q.length / k ≤ q.length := Nat.div_le_self _ _
  have hl : (q.take k).length = k := by rw [List.length_take]; omega
  unfold opMul
  simp only [I]
  by_cases h1 : ((q.length / k : Nat) : Int) = 1
  · have h2 : q.length / k = 1 := by omega
    rw [if_pos (decide_eq_true h1), h2]
    simp
  · rw [if_neg (by rw [decide_eq_false h1]; decide), if_pos]
    · congr 1
      show D.tup _ = D.tup _
      rw [Int.toNat_natCast, List.map_flatten, List.map_replicate]
    · rw [Bool.and_eq_true, Bool.and_eq_true, Bool.and_eq_true]
      refine ⟨⟨⟨?_, decide_eq_true (by omega)⟩, decide_eq_true (by omega)⟩, Nat.ble_eq_true_of_le (by rw [List.length_map]; omega)⟩
      cases he : q.take k with
      | nil => rw [he] at hl; simp at hl; omega
      | cons => rfl
def srBody : MS := sIf (tAnd2 (tBl (mOp2 (opEq false) (mOp2 opMod (mCB oLen (aCons (mVar 0) aNil)) (mVar 1)) (mC (.int 0)))) (tBl (mOp2 (opEq false) (mOp2 opMul (mSl (mVar 0) mNoPart (mPart (mVar 1))) (mOp2 opDiv (mCB oLen (aCons (mVar 0) aNil)) (mVar 1))) (mVar 0)))) (sRet (mSl (mVar 0) mNoPart (mPart (mVar 1)))) sNil
theorem sr_body {q : List Int} {k : Nat} (S : Sto) (hq : q.length ≤ 1000) (hk : 1 ≤ k) (hkq : k ≤ q.length) : srBody [some (I q), some (.int k)] S = if isPer k q then .rt (I (q.take k)) S else .nx [some (I q), some (.int k)] S := by
  have em := opMod_nat (a := q.length) (b := k) (S := S) (by omega)
  have ed := opDiv_nat (a := q.length) (b := k) (S := S) (by omega) (by omega)
  have eu := rep_mul S hq hk hkq
  have ec := cut_toI q k
  have e1 := opEq_int (neg := false) (S := S) ((q.length % k : Nat) : Int) 0
  have e2 := opEq_I (neg := false) (S := S) (List.replicate (q.length / k) (q.take k)).flatten q
  have eb : isPer k q = (decide (((q.length % k : Nat) : Int) = 0) && decide ((List.replicate (q.length / k) (q.take k)).flatten = q)) := by
    unfold isPer
    congr 1
    by_cases h : q.length % k = 0
    · rw [decide_eq_true h, decide_eq_true (by omega)]
    · rw [decide_eq_false h, decide_eq_false (by omega)]
  rw [eb]
  have ec' : D.tup (cut (q.map D.int) none (some (k : Int))) = I (q.take k) := ec
  simp only [srBody, mDef, Nat.beq, List.length_cons, List.length_nil, List.map_cons, List.map_nil, List.replicate, List.append_nil, List.cons_append, List.nil_append, sSeq, sNil, sSet, sAsg, sPar, sDrop, sRet, sRetN, sIf, sFor, sWhile, sSub, sStuck, sBreak, sCont, Res.st, Res.bind, Res.bind0, mVar, mC, mOp2, mOp1, liftO, mIf, mAndT, mOrT, mNot, truD, tTru, liftB, tBl, blOf, mChain, tAnd2, tOr2, tNot1, tTrue, aNil, aCons, aStar, mTup, mLst, mkList, mCB, mCall, oLen, oAbs, oInt, oMax2, oMin2, oTuple, oAll, oSum, oAny, seqOf, lstR, lstOf, mSl, mPart, mNoPart, opSl, mComp, iSeq, iZip2, iEnum1, jRng1, jRng2, fixOf, fixL, mListOf, mListRg, vRng1, vRng2, bNm, setE, wipeE, List.getElem?_cons_zero, List.getElem?_cons_succ, List.set_cons_zero, List.set_cons_succ, opIsN, opNotN, isNone, opAdd_int, opSub_int, opNeg_int, opLt_int, opLe_int, opGt_int, opGe_int, bTup, bCons, bNil, if_true, beq_n, Bool.not_true, Bool.not_false, Int.reduceNeg, I, List.length_map] at em ed eu ec' e1 e2 ⊢
  simp only [em, e1]
  by_cases h1 : ((q.length % k : Nat) : Int) = 0
  · simp only [decide_eq_true h1, ec', ed, eu, e2]
    by_cases h2 : (List.replicate (q.length / k) (q.take k)).flatten = q
    · simp only [decide_eq_true h2]
      rfl
    · simp only [decide_eq_false h2]
      rfl
  · simp only [decide_eq_false h1]
    rfl
theorem sr_loop (q : List Int) (hq : q.length ≤ 1000) (S : Sto) : ∀ (n k : Nat) (x : Option D), 1 ≤ k → k + n = q.length + 1 → ∃ y, forLoop (bNm 1) srBody (rngFrom k n) [some (I q), x] S =
    match findPer q k n with
    | some m => .rt (I (q.take m)) S
    | none => .nx [some (I q), y] S
  | 0, k, x, _, _ => ⟨x, rfl⟩
  | n + 1, k, x, hk, hn => by
    obtain ⟨y, ih⟩ := sr_loop q hq S n (k + 1) (some (.int k)) (by omega) (by omega)
    refine ⟨y, ?_⟩
    have hb := sr_body S hq hk (show k ≤ q.length by omega)
    show forLoop (bNm 1) srBody (.int k :: rngFrom ((k : Int) + 1) n) [some (I q), x] S = _
    unfold findPer
    cases hp : isPer k q with
    | true =>
      rw [hp] at hb
      rw [for_rt (l := [(1, .int k)]) rfl hb]
      rfl
    | false =>
      rw [hp] at hb
      rw [for_nx (l := [(1, .int k)]) rfl hb]
      exact ih
theorem e_sr {q : List Int} (hq : q.length ≤ 1000) (S : Sto) : m_shortest_round [I q] S = .ok (I (sr q)) S := by
  obtain ⟨y, h⟩ := sr_loop q hq S q.length 1 none (Nat.le_refl _) (by omega)
  have hr : rng 1 ((q.length : Int) + 1) = rngFrom (1 : Nat) q.length := by
    unfold rng
    congr 1
    omega
  have hb : b_shortest_round = sSeq (sFor (jRng2 (mC (.int 1)) (mOp2 opAdd (mCB oLen (aCons (mVar 0) aNil)) (mC (.int 1)))) (bNm 1) srBody) (sRet (mVar 0)) := rfl
  simp only [m_shortest_round, hb, mDef, Nat.beq, List.length_cons, List.length_nil, List.map_cons, List.map_nil, List.replicate, List.append_nil, List.cons_append, List.nil_append, sSeq, sNil, sSet, sAsg, sPar, sDrop, sRet, sRetN, sIf, sFor, sWhile, sSub, sStuck, sBreak, sCont, Res.st, Res.bind, Res.bind0, mVar, mC, mOp2, mOp1, liftO, mIf, mAndT, mOrT, mNot, truD, tTru, liftB, tBl, blOf, mChain, tAnd2, tOr2, tNot1, tTrue, aNil, aCons, aStar, mTup, mLst, mkList, mCB, mCall, oLen, oAbs, oInt, oMax2, oMin2, oTuple, oAll, oSum, oAny, seqOf, lstR, lstOf, mSl, mPart, mNoPart, opSl, mComp, iSeq, iZip2, iEnum1, jRng1, jRng2, fixOf, fixL, mListOf, mListRg, vRng1, vRng2, bNm, setE, wipeE, List.getElem?_cons_zero, List.getElem?_cons_succ, List.set_cons_zero, List.set_cons_succ, opIsN, opNotN, isNone, opAdd_int, opSub_int, opNeg_int, opLt_int, opLe_int, opGt_int, opGe_int, bTup, bCons, bNil, if_true, beq_n, Bool.not_true, Bool.not_false, Int.reduceNeg, I, List.length_map, hr] at h ⊢
  rw [h]
  unfold sr
  cases findPer q 1 q.length <;> rfl
/-! ### the short form -/
def siTest : MT := tAnd2 (tBl (mOp2 (opEq true) (mVar 2) (mTup aNil))) (tBl (mOp2 (opEq false) (mOp2 opIx (mVar 2) (mOp1 opNeg (mC (.int 1)))) (mOp2 opIx (mVar 3) (mOp1 opNeg (mC (.int 1))))))
def siBody : MS := sPar 2 3 (aCons (mSl (mVar 2) mNoPart (mPart (mOp1 opNeg (mC (.int 1))))) (aCons (mTup (aCons (mOp2 opIx (mVar 3) (mOp1 opNeg (mC (.int 1)))) (aStar (mSl (mVar 3) mNoPart (mPart (mOp1 opNeg (mC (.int 1))))) aNil))) aNil))
theorem si_test {x y : Option D} {f b : List Int} (hb : b ≠ []) (S : Sto) : siTest [x, y, some (I f), some (I b)] S = .ok (decide (f ≠ [] ∧ f.getLastD 0 = b.getLastD 0)) S := by
  have e0 := opEq_I (neg := true) (S := S) f []
  obtain ⟨b', z, rfl⟩ := snoc_of hb
  have e1 := opIx_Ilast (S := S) (p := b' ++ [z]) (x := z) (by simp)
  by_cases hf : f = []
  · subst hf
    simp only [siTest, mDef, Nat.beq, List.length_cons, List.length_nil, List.map_cons, List.map_nil, List.replicate, List.append_nil, List.cons_append, List.nil_append, sSeq, sNil, sSet, sAsg, sPar, sDrop, sRet, sRetN, sIf, sFor, sWhile, sSub, sStuck, sBreak, sCont, Res.st, Res.bind, Res.bind0, mVar, mC, mOp2, mOp1, liftO, mIf, mAndT, mOrT, mNot, truD, tTru, liftB, tBl, blOf, mChain, tAnd2, tOr2, tNot1, tTrue, aNil, aCons, aStar, mTup, mLst, mkList, mCB, mCall, oLen, oAbs, oInt, oMax2, oMin2, oTuple, oAll, oSum, oAny, seqOf, lstR, lstOf, mSl, mPart, mNoPart, opSl, mComp, iSeq, iZip2, iEnum1, jRng1, jRng2, fixOf, fixL, mListOf, mListRg, vRng1, vRng2, bNm, setE, wipeE, List.getElem?_cons_zero, List.getElem?_cons_succ, List.set_cons_zero, List.set_cons_succ, opIsN, opNotN, isNone, opAdd_int, opSub_int, opNeg_int, opLt_int, opLe_int, opGt_int, opGe_int, bTup, bCons, bNil, if_true, beq_n, Bool.not_true, Bool.not_false, Int.reduceNeg, I, big] at e0 e1 ⊢
    simp only [Nat.ble, e0]
    rfl
  · obtain ⟨f', u, rfl⟩ := snoc_of hf
    have e2 := opIx_Ilast (S := S) (p := f' ++ [u]) (x := u) (by simp)
    have e3 := opEq_int (neg := false) (S := S) u z
    rw [decide_eq_false hf] at e0
    simp only [siTest, mDef, Nat.beq, List.length_cons, List.length_nil, List.map_cons, List.map_nil, List.replicate, List.append_nil, List.cons_append, List.nil_append, sSeq, sNil, sSet, sAsg, sPar, sDrop, sRet, sRetN, sIf, sFor, sWhile, sSub, sStuck, sBreak, sCont, Res.st, Res.bind, Res.bind0, mVar, mC, mOp2, mOp1, liftO, mIf, mAndT, mOrT, mNot, truD, tTru, liftB, tBl, blOf, mChain, tAnd2, tOr2, tNot1, tTrue, aNil, aCons, aStar, mTup, mLst, mkList, mCB, mCall, oLen, oAbs, oInt, oMax2, oMin2, oTuple, oAll, oSum, oAny, seqOf, lstR, lstOf, mSl, mPart, mNoPart, opSl, mComp, iSeq, iZip2, iEnum1, jRng1, jRng2, fixOf, fixL, mListOf, mListRg, vRng1, vRng2, bNm, setE, wipeE, List.getElem?_cons_zero, List.getElem?_cons_succ, List.set_cons_zero, List.set_cons_succ, opIsN, opNotN, isNone, opAdd_int, opSub_int, opNeg_int, opLt_int, opLe_int, opGt_int, opGe_int, bTup, bCons, bNil, if_true, beq_n, Bool.not_true, Bool.not_false, Int.reduceNeg, I, big, List.map_append] at e0 e1 e2 e3 ⊢
    simp only [Nat.ble, e0, Bool.not_false, if_true, Int.reduceNeg, e1, e2, e3]
    by_cases h : u = z
    · subst h
      simp
    · simp [h]
theorem si_body {x y : Option D} {f b : List Int} (hb : b ≠ []) (hl : b.length ≤ 1000) (S : Sto) : siBody [x, y, some (I f), some (I b)] S = .nx [x, y, some (I f.dropLast), some (I (rotR b))] S := by
  obtain ⟨b', z, rfl⟩ := snoc_of hb
  have e1 := opIx_Ilast (S := S) (p := b' ++ [z]) (x := z) (by simp)
  have e2 := cut_lastI f
  have e3 := cut_lastI (b' ++ [z])
  rw [List.dropLast_concat] at e3
  have hbig : big (b'.length + 1) = true := big_of (by rw [List.length_append] at hl; simp at hl; omega)
  have e4 : cut ((b' ++ [z]).map D.int) none (some (-1)) = b'.map D.int := by
    injection e3
  rw [rotR_snoc]
  simp only [siBody, mDef, Nat.beq, List.length_cons, List.length_nil, List.map_cons, List.map_nil, List.replicate, List.append_nil, List.cons_append, List.nil_append, sSeq, sNil, sSet, sAsg, sPar, sDrop, sRet, sRetN, sIf, sFor, sWhile, sSub, sStuck, sBreak, sCont, Res.st, Res.bind, Res.bind0, mVar, mC, mOp2, mOp1, liftO, mIf, mAndT, mOrT, mNot, truD, tTru, liftB, tBl, blOf, mChain, tAnd2, tOr2, tNot1, tTrue, aNil, aCons, aStar, mTup, mLst, mkList, mCB, mCall, oLen, oAbs, oInt, oMax2, oMin2, oTuple, oAll, oSum, oAny, seqOf, lstR, lstOf, mSl, mPart, mNoPart, opSl, mComp, iSeq, iZip2, iEnum1, jRng1, jRng2, fixOf, fixL, mListOf, mListRg, vRng1, vRng2, bNm, setE, wipeE, List.getElem?_cons_zero, List.getElem?_cons_succ, List.set_cons_zero, List.set_cons_succ, opIsN, opNotN, isNone, opAdd_int, opSub_int, opNeg_int, opLt_int, opLe_int, opGt_int, opGe_int, bTup, bCons, bNil, if_true, beq_n, Bool.not_true, Bool.not_false, Int.reduceNeg, Int.reduceNeg, I] at e1 e2 ⊢
  simp only [e1, e2, e4]
  have hbig2 : big (D.int z :: b'.map D.int).length = true := by rw [List.length_cons, List.length_map]; exact hbig
  simp only [hbig2, List.map_cons]
theorem si_loop (x y : Option D) (S : Sto) : ∀ (m : Nat) (f b : List Int) (n : Nat), Rd b → f.length ≤ m → m < n → whileLoop siTest siBody n [x, y, some (I f), some (I b)] S = .nx [x, y, some (I (si m f b).1), some (I (si m f b).2)] S
  | 0, f, b, n + 1, hb, hm, hn => by
    have hf : f = [] := List.length_eq_zero_iff.mp (by omega)
    subst hf
    exact while_end (si_test hb.ne S)
  | m + 1, f, b, n + 1, hb, hm, hn => by
    have ht := si_test (x := x) (y := y) (f := f) hb.ne S
    unfold si
    by_cases h : f ≠ [] ∧ f.getLastD 0 = b.getLastD 0
    · rw [decide_eq_true h] at ht
      rw [while_go ht (si_body hb.ne (by have := hb.le; omega) S), if_pos h]
      exact si_loop x y S m f.dropLast (rotR b) n hb.rotR (by rw [List.length_dropLast]; omega) (by omega)
    · rw [decide_eq_false h] at ht
      rw [while_end ht, if_neg h]
theorem e_short {a q : List Int} (hq : Rd q) (ha : a.length < 100) (S : Sto) : m_short_in [I a, I q] S = .ok (PD (shortIn a q)) S := by
  have h1 := e_sr (q := q) (by have := hq.le; omega)
  have h2 := si_loop (some (I a)) (some (I q)) S a.length a (sr q) 100 hq.sr (Nat.le_refl _) ha
  have hb : b_short_in = sSeq (sPar 2 3 (aCons (mVar 0) (aCons (mCall m_shortest_round (aCons (mVar 1) aNil)) aNil))) (sSeq (sWhile 100 siTest siBody) (sRet (mTup (aCons (mVar 2) (aCons (mVar 3) aNil))))) := rfl
  simp only [m_short_in, hb, mDef, Nat.beq, List.length_cons, List.length_nil, List.map_cons, List.map_nil, List.replicate, List.append_nil, List.cons_append, List.nil_append, sSeq, sNil, sSet, sAsg, sPar, sDrop, sRet, sRetN, sIf, sFor, sWhile, sSub, sStuck, sBreak, sCont, Res.st, Res.bind, Res.bind0, mVar, mC, mOp2, mOp1, liftO, mIf, mAndT, mOrT, mNot, truD, tTru, liftB, tBl, blOf, mChain, tAnd2, tOr2, tNot1, tTrue, aNil, aCons, aStar, mTup, mLst, mkList, mCB, mCall, oLen, oAbs, oInt, oMax2, oMin2, oTuple, oAll, oSum, oAny, seqOf, lstR, lstOf, mSl, mPart, mNoPart, opSl, mComp, iSeq, iZip2, iEnum1, jRng1, jRng2, fixOf, fixL, mListOf, mListRg, vRng1, vRng2, bNm, setE, wipeE, List.getElem?_cons_zero, List.getElem?_cons_succ, List.set_cons_zero, List.set_cons_succ, opIsN, opNotN, isNone, opAdd_int, opSub_int, opNeg_int, opLt_int, opLe_int, opGt_int, opGe_int, bTup, bCons, bNil, if_true, beq_n, Bool.not_true, Bool.not_false, Int.reduceNeg, h1, h2]
  rfl
/-! ### entries -/
theorem e_entry {a q : List Int} (hq : q ≠ []) (n : Nat) (S : Sto) : m_entry_at [I a, I q, .int ((n : Int) + 1)] S = .ok (.int (at_ a q n)) S := by
  have hp : 0 < q.length := List.length_pos_iff.mpr hq
  unfold at_
  by_cases h : n < a.length
  · have e1 := opIx_I (S := S) (p := a) (k := n) (x := a.getD n 0) (by rw [List.getElem?_eq_getElem h, List.getD_eq_getElem?_getD, List.getElem?_eq_getElem h]; rfl)
    have hd : decide ((n : Int) + 1 ≤ (a.length : Int)) = true := decide_eq_true (by omega)
    simp only [m_entry_at, b_entry_at, mDef, Nat.beq, List.length_cons, List.length_nil, List.map_cons, List.map_nil, List.replicate, List.append_nil, List.cons_append, List.nil_append, sSeq, sNil, sSet, sAsg, sPar, sDrop, sRet, sRetN, sIf, sFor, sWhile, sSub, sStuck, sBreak, sCont, Res.st, Res.bind, Res.bind0, mVar, mC, mOp2, mOp1, liftO, mIf, mAndT, mOrT, mNot, truD, tTru, liftB, tBl, blOf, mChain, tAnd2, tOr2, tNot1, tTrue, aNil, aCons, aStar, mTup, mLst, mkList, mCB, mCall, oLen, oAbs, oInt, oMax2, oMin2, oTuple, oAll, oSum, oAny, seqOf, lstR, lstOf, mSl, mPart, mNoPart, opSl, mComp, iSeq, iZip2, iEnum1, jRng1, jRng2, fixOf, fixL, mListOf, mListRg, vRng1, vRng2, bNm, setE, wipeE, List.getElem?_cons_zero, List.getElem?_cons_succ, List.set_cons_zero, List.set_cons_succ, opIsN, opNotN, isNone, opAdd_int, opSub_int, opNeg_int, opLt_int, opLe_int, opGt_int, opGe_int, bTup, bCons, bNil, if_true, beq_n, Bool.not_true, Bool.not_false, Int.reduceNeg, I, List.length_map, hd, Int.add_sub_cancel] at e1 ⊢
    simp only [e1, if_pos h]
  · have hm : (n - a.length) % q.length < q.length := Nat.mod_lt _ hp
    have e1 := opIx_I (S := S) (p := q) (k := (n - a.length) % q.length) (x := cyc q (n - a.length)) (by unfold cyc; rw [List.getElem?_eq_getElem hm, List.getD_eq_getElem?_getD, List.getElem?_eq_getElem hm]; rfl)
    have hd : decide ((n : Int) + 1 ≤ (a.length : Int)) = false := decide_eq_false (by omega)
    have e2 := opMod_nat (a := n - a.length) (b := q.length) (S := S) (by omega)
    rw [show ((n - a.length : Nat) : Int) = (n : Int) + 1 - (a.length : Int) - 1 by omega] at e2
    simp only [m_entry_at, b_entry_at, mDef, Nat.beq, List.length_cons, List.length_nil, List.map_cons, List.map_nil, List.replicate, List.append_nil, List.cons_append, List.nil_append, sSeq, sNil, sSet, sAsg, sPar, sDrop, sRet, sRetN, sIf, sFor, sWhile, sSub, sStuck, sBreak, sCont, Res.st, Res.bind, Res.bind0, mVar, mC, mOp2, mOp1, liftO, mIf, mAndT, mOrT, mNot, truD, tTru, liftB, tBl, blOf, mChain, tAnd2, tOr2, tNot1, tTrue, aNil, aCons, aStar, mTup, mLst, mkList, mCB, mCall, oLen, oAbs, oInt, oMax2, oMin2, oTuple, oAll, oSum, oAny, seqOf, lstR, lstOf, mSl, mPart, mNoPart, opSl, mComp, iSeq, iZip2, iEnum1, jRng1, jRng2, fixOf, fixL, mListOf, mListRg, vRng1, vRng2, bNm, setE, wipeE, List.getElem?_cons_zero, List.getElem?_cons_succ, List.set_cons_zero, List.set_cons_succ, opIsN, opNotN, isNone, opAdd_int, opSub_int, opNeg_int, opLt_int, opLe_int, opGt_int, opGe_int, bTup, bCons, bNil, if_true, beq_n, Bool.not_true, Bool.not_false, Int.reduceNeg, I, List.length_map, hd] at e1 ⊢
    simp only [e2, e1, if_neg h]
def pref (a q : List Int) (m : Nat) : List Int := (List.range m).map (at_ a q)
theorem rng1_map : ∀ (m k : Nat), rngFrom ((k : Int) + 1) m = (List.range' k m).map fun i : Nat => D.int ((i : Int) + 1)
  | 0, k => rfl
  | m + 1, k => by
    show D.int ((k : Int) + 1) :: rngFrom ((k : Int) + 1 + 1) m = _
    rw [List.range'_succ, List.map_cons]
    congr 1
    exact rng1_map m (k + 1)
theorem rng_1 (m : Nat) : rng 1 ((m : Int) + 1) = (List.range m).map fun i : Nat => D.int ((i : Int) + 1) := by
  have := rng1_map m 0
  rw [List.range_eq_range', ← this]
  unfold rng
  congr 1
  omega
theorem e_first {a q : List Int} (hq : q ≠ []) {m : Nat} (hm : m ≤ 100000) (S : Sto) : m_first_letters [PD (a, q), .int m] S = .ok (I (pref a q m)) S := by
  have e : lcLoop (bNm 2) tTrue (mCall m_entry_at (aCons (mOp2 opIx (mVar 0) (mC (D.int 0))) (aCons (mOp2 opIx (mVar 0) (mC (D.int 1))) (aCons (mVar 2) aNil)))) [some (PD (a, q)), some (.int m), none] (rng 1 ((m : Int) + 1)) S = .ok ((pref a q m).map .int) S := by
    rw [rng_1]
    rw [lcLoop_map (g := fun d => match d with | .int i => .int (at_ a q (i - 1).toNat) | d => d)]
    · rw [List.map_map]
      unfold pref
      rw [List.map_map]
      congr 1
      refine List.map_congr_left fun i _ => ?_
      show D.int (at_ a q ((i : Int) + 1 - 1).toNat) = D.int (at_ a q i)
      rw [Int.add_sub_cancel, Int.toNat_natCast]
    · intro d hd
      obtain ⟨i, hi, rfl⟩ := List.mem_map.mp hd
      refine ⟨_, rfl, rfl, ?_⟩
      have h0 : opIx (D.tup [I a, I q]) (D.int 0) S = some (I a) := rfl
      have h1 : opIx (D.tup [I a, I q]) (D.int 1) S = some (I q) := rfl
      have h2 := e_entry (a := a) hq i S
      simp only [mDef, Nat.beq, List.length_cons, List.length_nil, List.map_cons, List.map_nil, List.replicate, List.append_nil, List.cons_append, List.nil_append, sSeq, sNil, sSet, sAsg, sPar, sDrop, sRet, sRetN, sIf, sFor, sWhile, sSub, sStuck, sBreak, sCont, Res.st, Res.bind, Res.bind0, mVar, mC, mOp2, mOp1, liftO, mIf, mAndT, mOrT, mNot, truD, tTru, liftB, tBl, blOf, mChain, tAnd2, tOr2, tNot1, tTrue, aNil, aCons, aStar, mTup, mLst, mkList, mCB, mCall, oLen, oAbs, oInt, oMax2, oMin2, oTuple, oAll, oSum, oAny, seqOf, lstR, lstOf, mSl, mPart, mNoPart, opSl, mComp, iSeq, iZip2, iEnum1, jRng1, jRng2, fixOf, fixL, mListOf, mListRg, vRng1, vRng2, bNm, setE, wipeE, List.getElem?_cons_zero, List.getElem?_cons_succ, List.set_cons_zero, List.set_cons_succ, opIsN, opNotN, isNone, opAdd_int, opSub_int, opNeg_int, opLt_int, opLe_int, opGt_int, opGe_int, bTup, bCons, bNil, if_true, beq_n, Bool.not_true, Bool.not_false, Int.reduceNeg, PD, h0, h1, h2, Int.add_sub_cancel, Int.toNat_natCast]
  have hb : big (rng 1 ((m : Int) + 1)).length = true := big_of (by rw [rng_1, List.length_map, List.length_range]; omega)
  simp only [m_first_letters, b_first_letters, mDef, Nat.beq, List.length_cons, List.length_nil, List.map_cons, List.map_nil, List.replicate, List.append_nil, List.cons_append, List.nil_append, sSeq, sNil, sSet, sAsg, sPar, sDrop, sRet, sRetN, sIf, sFor, sWhile, sSub, sStuck, sBreak, sCont, Res.st, Res.bind, Res.bind0, mVar, mC, mOp2, mOp1, liftO, mIf, mAndT, mOrT, mNot, truD, tTru, liftB, tBl, blOf, mChain, tAnd2, tOr2, tNot1, tTrue, aNil, aCons, aStar, mTup, mLst, mkList, mCB, mCall, oLen, oAbs, oInt, oMax2, oMin2, oTuple, oAll, oSum, oAny, seqOf, lstR, lstOf, mSl, mPart, mNoPart, opSl, mComp, iSeq, iZip2, iEnum1, jRng1, jRng2, fixOf, fixL, mListOf, mListRg, vRng1, vRng2, bNm, setE, wipeE, List.getElem?_cons_zero, List.getElem?_cons_succ, List.set_cons_zero, List.set_cons_succ, opIsN, opNotN, isNone, opAdd_int, opSub_int, opNeg_int, opLt_int, opLe_int, opGt_int, opGe_int, bTup, bCons, bNil, if_true, beq_n, Bool.not_true, Bool.not_false, Int.reduceNeg, PD] at e ⊢
  simp only [hb, e]
theorem e_begin {a q : List Int} (h : La a q) {m : Nat} (hm : m ≤ 2000) (S : Sto) : m_beginning [PD (a, q), .int m] S = .ok (I (pref a q m)) S := by
  have h1 := e_sure h
  have h2 := e_many (m := (m : Int)) (k := 2000) (by omega) (by omega)
  have h3 := e_first (a := a) h.ne (m := m) (by omega)
  simp only [m_beginning, b_beginning, mDef, Nat.beq, List.length_cons, List.length_nil, List.map_cons, List.map_nil, List.replicate, List.append_nil, List.cons_append, List.nil_append, sSeq, sNil, sSet, sAsg, sPar, sDrop, sRet, sRetN, sIf, sFor, sWhile, sSub, sStuck, sBreak, sCont, Res.st, Res.bind, Res.bind0, mVar, mC, mOp2, mOp1, liftO, mIf, mAndT, mOrT, mNot, truD, tTru, liftB, tBl, blOf, mChain, tAnd2, tOr2, tNot1, tTrue, aNil, aCons, aStar, mTup, mLst, mkList, mCB, mCall, oLen, oAbs, oInt, oMax2, oMin2, oTuple, oAll, oSum, oAny, seqOf, lstR, lstOf, mSl, mPart, mNoPart, opSl, mComp, iSeq, iZip2, iEnum1, jRng1, jRng2, fixOf, fixL, mListOf, mListRg, vRng1, vRng2, bNm, setE, wipeE, List.getElem?_cons_zero, List.getElem?_cons_succ, List.set_cons_zero, List.set_cons_succ, opIsN, opNotN, isNone, opAdd_int, opSub_int, opNeg_int, opLt_int, opLe_int, opGt_int, opGe_int, bTup, bCons, bNil, if_true, beq_n, Bool.not_true, Bool.not_false, Int.reduceNeg, h1, h2, h3]
theorem e_letter_at0 {a q : List Int} {d k v : D} (hd : ∀ S, m_sure_lasso [.int 3, d] S = .ok (PD (a, q)) S) (h2 : ∀ S, m_sure_spot [k] S = .ok .non S) (h3 : ∀ S, m_entry_at [I a, I q, k] S = .ok v S) (S : Sto) : m_letter_at [d, k] S = .ok v S := by
  have i0 : opIx (D.tup [I a, I q]) (D.int 0) S = some (I a) := rfl
  have i1 : opIx (D.tup [I a, I q]) (D.int 1) S = some (I q) := rfl
  simp only [m_letter_at, b_letter_at, mDef, Nat.beq, List.length_cons, List.length_nil, List.map_cons, List.map_nil, List.replicate, List.append_nil, List.cons_append, List.nil_append, sSeq, sNil, sSet, sAsg, sPar, sDrop, sRet, sRetN, sIf, sFor, sWhile, sSub, sStuck, sBreak, sCont, Res.st, Res.bind, Res.bind0, mVar, mC, mOp2, mOp1, liftO, mIf, mAndT, mOrT, mNot, truD, tTru, liftB, tBl, blOf, mChain, tAnd2, tOr2, tNot1, tTrue, aNil, aCons, aStar, mTup, mLst, mkList, mCB, mCall, oLen, oAbs, oInt, oMax2, oMin2, oTuple, oAll, oSum, oAny, seqOf, lstR, lstOf, mSl, mPart, mNoPart, opSl, mComp, iSeq, iZip2, iEnum1, jRng1, jRng2, fixOf, fixL, mListOf, mListRg, vRng1, vRng2, bNm, setE, wipeE, List.getElem?_cons_zero, List.getElem?_cons_succ, List.set_cons_zero, List.set_cons_succ, opIsN, opNotN, isNone, opAdd_int, opSub_int, opNeg_int, opLt_int, opLe_int, opGt_int, opGe_int, bTup, bCons, bNil, if_true, beq_n, Bool.not_true, Bool.not_false, Int.reduceNeg, hd, h2, PD, i0, i1, h3]
theorem e_letter_at {a q : List Int} {d : D} (hd : ∀ S, m_sure_lasso [.int 3, d] S = .ok (PD (a, q)) S) (hq : q ≠ []) {n : Nat} (hm : (n : Int) + 1 ≤ 1000000000000000000000000000000) (S : Sto) : m_letter_at [d, .int ((n : Int) + 1)] S = .ok (.int (at_ a q n)) S :=
  e_letter_at0 hd (e_spot (m := (n : Int) + 1) (by have := Int.natCast_nonneg n; clear hm; omega) hm) (e_entry (a := a) hq n) S
theorem e_lasso_short {a q : List Int} (h : La a q) (hq : Rd q) (ha : a.length < 100) (S : Sto) : m_lasso_short [PD (a, q)] S = .ok (PD (shortIn a q)) S := by
  have h1 := e_sure h
  have h2 := e_short hq ha
  have i0 : opIx (D.tup [I a, I q]) (D.int 0) S = some (I a) := rfl
  have i1 : opIx (D.tup [I a, I q]) (D.int 1) S = some (I q) := rfl
  simp only [m_lasso_short, b_lasso_short, mDef, Nat.beq, List.length_cons, List.length_nil, List.map_cons, List.map_nil, List.replicate, List.append_nil, List.cons_append, List.nil_append, sSeq, sNil, sSet, sAsg, sPar, sDrop, sRet, sRetN, sIf, sFor, sWhile, sSub, sStuck, sBreak, sCont, Res.st, Res.bind, Res.bind0, mVar, mC, mOp2, mOp1, liftO, mIf, mAndT, mOrT, mNot, truD, tTru, liftB, tBl, blOf, mChain, tAnd2, tOr2, tNot1, tTrue, aNil, aCons, aStar, mTup, mLst, mkList, mCB, mCall, oLen, oAbs, oInt, oMax2, oMin2, oTuple, oAll, oSum, oAny, seqOf, lstR, lstOf, mSl, mPart, mNoPart, opSl, mComp, iSeq, iZip2, iEnum1, jRng1, jRng2, fixOf, fixL, mListOf, mListRg, vRng1, vRng2, bNm, setE, wipeE, List.getElem?_cons_zero, List.getElem?_cons_succ, List.set_cons_zero, List.set_cons_succ, opIsN, opNotN, isNone, opAdd_int, opSub_int, opNeg_int, opLt_int, opLe_int, opGt_int, opGe_int, bTup, bCons, bNil, if_true, beq_n, Bool.not_true, Bool.not_false, Int.reduceNeg, h1, PD, i0, i1] at h2 ⊢
  simp only [h2]
theorem eqv_P (p r : List Int × List Int) : PyData.eqv (.tuple [.tuple (p.1.map .int), .tuple (p.2.map .int)]) (.tuple [.tuple (r.1.map .int), .tuple (r.2.map .int)]) = decide (p = r) := by
  obtain ⟨a, q⟩ := p
  obtain ⟨a', q'⟩ := r
  unfold PyData.eqv PyData.eqvAll PyData.eqvAll PyData.eqvAll
  rw [eqv_I, eqv_I]
  by_cases h1 : a = a'
  · by_cases h2 : q = q'
    · simp [h1, h2]
    · simp [h1, h2]
  · simp [h1]
theorem opEq_P {neg : Bool} {S : Sto} (p r : List Int × List Int) : opEq neg (PD p) (PD r) S = some (.bl (if neg then !decide (p = r) else decide (p = r))) := by
  have t : ∀ p : List Int × List Int, toPyS S (PD p) = some (.tuple [.tuple (p.1.map .int), .tuple (p.2.map .int)]) := fun p => by
    show (match mapO (toPy 39) [I p.1, I p.2] with | some ps => some (PyData.tuple ps) | none => none) = _
    unfold mapO mapO mapO
    rw [toPy_I, toPy_I]
  unfold opEq
  rw [t, t]
  simp only [eqv_P]
theorem e_is_short {a q : List Int} (h : La a q) (hq : Rd q) (ha : a.length < 100) (S : Sto) : m_is_short [PD (a, q)] S = .ok (.bl (decide (shortIn a q = (a, q)))) S := by
  have h1 := e_sure h
  have h2 := e_short hq ha
  have i0 : opIx (D.tup [I a, I q]) (D.int 0) S = some (I a) := rfl
  have i1 : opIx (D.tup [I a, I q]) (D.int 1) S = some (I q) := rfl
  have h3 := opEq_P (neg := false) (S := S) (shortIn a q) (a, q)
  simp only [PD] at h3
  simp only [m_is_short, b_is_short, mDef, Nat.beq, List.length_cons, List.length_nil, List.map_cons, List.map_nil, List.replicate, List.append_nil, List.cons_append, List.nil_append, sSeq, sNil, sSet, sAsg, sPar, sDrop, sRet, sRetN, sIf, sFor, sWhile, sSub, sStuck, sBreak, sCont, Res.st, Res.bind, Res.bind0, mVar, mC, mOp2, mOp1, liftO, mIf, mAndT, mOrT, mNot, truD, tTru, liftB, tBl, blOf, mChain, tAnd2, tOr2, tNot1, tTrue, aNil, aCons, aStar, mTup, mLst, mkList, mCB, mCall, oLen, oAbs, oInt, oMax2, oMin2, oTuple, oAll, oSum, oAny, seqOf, lstR, lstOf, mSl, mPart, mNoPart, opSl, mComp, iSeq, iZip2, iEnum1, jRng1, jRng2, fixOf, fixL, mListOf, mListRg, vRng1, vRng2, bNm, setE, wipeE, List.getElem?_cons_zero, List.getElem?_cons_succ, List.set_cons_zero, List.set_cons_succ, opIsN, opNotN, isNone, opAdd_int, opSub_int, opNeg_int, opLt_int, opLe_int, opGt_int, opGe_int, bTup, bCons, bNil, if_true, beq_n, Bool.not_true, Bool.not_false, Int.reduceNeg, h1, PD, i0, i1] at h2 ⊢
  simp only [h2, h3]
  rfl
theorem e_same {a q a' q' : List Int} (h : La a q) (hq : Rd q) (ha : a.length < 100) (h' : La a' q') (hq' : Rd q') (ha' : a'.length < 100) (S : Sto) : m_same_endless [PD (a, q), PD (a', q')] S = .ok (.bl (decide (shortIn a q = shortIn a' q'))) S := by
  have h1 := e_sure h
  have h1' := e_sure h'
  have h2 := e_short hq ha
  have h2' := e_short hq' ha'
  have i0 : ∀ x y S, opIx (D.tup [x, y]) (D.int 0) S = some x := fun _ _ _ => rfl
  have i1 : ∀ x y S, opIx (D.tup [x, y]) (D.int 1) S = some y := fun _ _ _ => rfl
  have h3 := opEq_P (neg := false) (S := S) (shortIn a q) (shortIn a' q')
  simp only [PD] at h3
  simp only [m_same_endless, b_same_endless, mDef, Nat.beq, List.length_cons, List.length_nil, List.map_cons, List.map_nil, List.replicate, List.append_nil, List.cons_append, List.nil_append, sSeq, sNil, sSet, sAsg, sPar, sDrop, sRet, sRetN, sIf, sFor, sWhile, sSub, sStuck, sBreak, sCont, Res.st, Res.bind, Res.bind0, mVar, mC, mOp2, mOp1, liftO, mIf, mAndT, mOrT, mNot, truD, tTru, liftB, tBl, blOf, mChain, tAnd2, tOr2, tNot1, tTrue, aNil, aCons, aStar, mTup, mLst, mkList, mCB, mCall, oLen, oAbs, oInt, oMax2, oMin2, oTuple, oAll, oSum, oAny, seqOf, lstR, lstOf, mSl, mPart, mNoPart, opSl, mComp, iSeq, iZip2, iEnum1, jRng1, jRng2, fixOf, fixL, mListOf, mListRg, vRng1, vRng2, bNm, setE, wipeE, List.getElem?_cons_zero, List.getElem?_cons_succ, List.set_cons_zero, List.set_cons_succ, opIsN, opNotN, isNone, opAdd_int, opSub_int, opNeg_int, opLt_int, opLe_int, opGt_int, opGe_int, bTup, bCons, bNil, if_true, beq_n, Bool.not_true, Bool.not_false, Int.reduceNeg, h1, h1', PD, i0, i1] at h2 h2' ⊢
  simp only [h2, h2', h3]
  rfl
/-! ### moved on, put ahead -/
def movIn (a q : List Int) (n : Nat) : List Int × List Int := if n ≤ a.length then (a.drop n, q) else ([], q.drop ((n - a.length) % q.length) ++ q.take ((n - a.length) % q.length))
theorem e_moved {a q : List Int} (h : La a q) (hq : Rd q) (ha : a.length < 100) {n : Nat} (hn : (n : Int) ≤ 1000000000000000000000000000000) (S : Sto) : m_moved_on [PD (a, q), .int n] S = .ok (PD (shortIn (movIn a q n).1 (movIn a q n).2)) S := by
  have hp : 0 < q.length := List.length_pos_iff.mpr h.ne
  have h1 := e_sure h
  have h2 := e_many (m := (n : Int)) (k := 1000000000000000000000000000000) (by omega) (by omega)
  unfold movIn
  by_cases hle : n ≤ a.length
  · have hd : decide ((n : Int) ≤ (a.length : Int)) = true := decide_eq_true (by omega)
    have h3 := e_short (a := a.drop n) hq (by rw [List.length_drop]; omega)
    have h4 := cut_fromI a n
    rw [if_pos hle]
    simp only [m_moved_on, b_moved_on, mDef, Nat.beq, List.length_cons, List.length_nil, List.map_cons, List.map_nil, List.replicate, List.append_nil, List.cons_append, List.nil_append, sSeq, sNil, sSet, sAsg, sPar, sDrop, sRet, sRetN, sIf, sFor, sWhile, sSub, sStuck, sBreak, sCont, Res.st, Res.bind, Res.bind0, mVar, mC, mOp2, mOp1, liftO, mIf, mAndT, mOrT, mNot, truD, tTru, liftB, tBl, blOf, mChain, tAnd2, tOr2, tNot1, tTrue, aNil, aCons, aStar, mTup, mLst, mkList, mCB, mCall, oLen, oAbs, oInt, oMax2, oMin2, oTuple, oAll, oSum, oAny, seqOf, lstR, lstOf, mSl, mPart, mNoPart, opSl, mComp, iSeq, iZip2, iEnum1, jRng1, jRng2, fixOf, fixL, mListOf, mListRg, vRng1, vRng2, bNm, setE, wipeE, List.getElem?_cons_zero, List.getElem?_cons_succ, List.set_cons_zero, List.set_cons_succ, opIsN, opNotN, isNone, opAdd_int, opSub_int, opNeg_int, opLt_int, opLe_int, opGt_int, opGe_int, bTup, bCons, bNil, if_true, beq_n, Bool.not_true, Bool.not_false, Int.reduceNeg, h1, h2, PD, I] at h3 h4 ⊢
    simp only [mDef, Nat.beq, List.length_cons, List.length_nil, List.map_cons, List.map_nil, List.replicate, List.append_nil, List.cons_append, List.nil_append, sSeq, sNil, sSet, sAsg, sPar, sDrop, sRet, sRetN, sIf, sFor, sWhile, sSub, sStuck, sBreak, sCont, Res.st, Res.bind, Res.bind0, mVar, mC, mOp2, mOp1, liftO, mIf, mAndT, mOrT, mNot, truD, tTru, liftB, tBl, blOf, mChain, tAnd2, tOr2, tNot1, tTrue, aNil, aCons, aStar, mTup, mLst, mkList, mCB, mCall, oLen, oAbs, oInt, oMax2, oMin2, oTuple, oAll, oSum, oAny, seqOf, lstR, lstOf, mSl, mPart, mNoPart, opSl, mComp, iSeq, iZip2, iEnum1, jRng1, jRng2, fixOf, fixL, mListOf, mListRg, vRng1, vRng2, bNm, setE, wipeE, List.getElem?_cons_zero, List.getElem?_cons_succ, List.set_cons_zero, List.set_cons_succ, opIsN, opNotN, isNone, opAdd_int, opSub_int, opNeg_int, opLt_int, opLe_int, opGt_int, opGe_int, bTup, bCons, bNil, if_true, beq_n, Bool.not_true, Bool.not_false, Int.reduceNeg, List.length_map, hd, h4, h3]
  · have hd : decide ((n : Int) ≤ (a.length : Int)) = false := decide_eq_false (by omega)
    have hm : (n - a.length) % q.length < q.length := Nat.mod_lt _ hp
    have hr : Rd (q.drop ((n - a.length) % q.length) ++ q.take ((n - a.length) % q.length)) := by
      refine ⟨fun x hx => hq.in3 x ?_, ?_, ?_⟩
      · rcases List.mem_append.mp hx with hx | hx
        · exact List.mem_of_mem_drop hx
        · exact List.mem_of_mem_take hx
      · intro z
        have := congrArg List.length z
        rw [List.length_append, List.length_drop, List.length_take] at this
        simp at this
        omega
      · have := hq.le
        rw [List.length_append, List.length_drop, List.length_take]
        omega
    have h3 := e_short (a := []) hr (by decide)
    have h4 := cut_fromI q ((n - a.length) % q.length)
    have h5 := cut_toI q ((n - a.length) % q.length)
    have h6 := opAdd_I (S := S) (p := q.drop ((n - a.length) % q.length)) (q := q.take ((n - a.length) % q.length)) (by have := hq.le; rw [List.length_drop, List.length_take]; omega)
    have e2 := opMod_nat (a := n - a.length) (b := q.length) (S := S) (by omega)
    rw [show ((n - a.length : Nat) : Int) = (n : Int) - (a.length : Int) by omega] at e2
    rw [if_neg hle]
    have b0 : big 0 = true := rfl
    simp only [m_moved_on, b_moved_on, mDef, Nat.beq, List.length_cons, List.length_nil, List.map_cons, List.map_nil, List.replicate, List.append_nil, List.cons_append, List.nil_append, sSeq, sNil, sSet, sAsg, sPar, sDrop, sRet, sRetN, sIf, sFor, sWhile, sSub, sStuck, sBreak, sCont, Res.st, Res.bind, Res.bind0, mVar, mC, mOp2, mOp1, liftO, mIf, mAndT, mOrT, mNot, truD, tTru, liftB, tBl, blOf, mChain, tAnd2, tOr2, tNot1, tTrue, aNil, aCons, aStar, mTup, mLst, mkList, mCB, mCall, oLen, oAbs, oInt, oMax2, oMin2, oTuple, oAll, oSum, oAny, seqOf, lstR, lstOf, mSl, mPart, mNoPart, opSl, mComp, iSeq, iZip2, iEnum1, jRng1, jRng2, fixOf, fixL, mListOf, mListRg, vRng1, vRng2, bNm, setE, wipeE, List.getElem?_cons_zero, List.getElem?_cons_succ, List.set_cons_zero, List.set_cons_succ, opIsN, opNotN, isNone, opAdd_int, opSub_int, opNeg_int, opLt_int, opLe_int, opGt_int, opGe_int, bTup, bCons, bNil, if_true, beq_n, Bool.not_true, Bool.not_false, Int.reduceNeg, h1, h2, PD, I] at h3 h4 h5 h6 ⊢
    simp only [mDef, Nat.beq, List.length_cons, List.length_nil, List.map_cons, List.map_nil, List.replicate, List.append_nil, List.cons_append, List.nil_append, sSeq, sNil, sSet, sAsg, sPar, sDrop, sRet, sRetN, sIf, sFor, sWhile, sSub, sStuck, sBreak, sCont, Res.st, Res.bind, Res.bind0, mVar, mC, mOp2, mOp1, liftO, mIf, mAndT, mOrT, mNot, truD, tTru, liftB, tBl, blOf, mChain, tAnd2, tOr2, tNot1, tTrue, aNil, aCons, aStar, mTup, mLst, mkList, mCB, mCall, oLen, oAbs, oInt, oMax2, oMin2, oTuple, oAll, oSum, oAny, seqOf, lstR, lstOf, mSl, mPart, mNoPart, opSl, mComp, iSeq, iZip2, iEnum1, jRng1, jRng2, fixOf, fixL, mListOf, mListRg, vRng1, vRng2, bNm, setE, wipeE, List.getElem?_cons_zero, List.getElem?_cons_succ, List.set_cons_zero, List.set_cons_succ, opIsN, opNotN, isNone, opAdd_int, opSub_int, opNeg_int, opLt_int, opLe_int, opGt_int, opGe_int, bTup, bCons, bNil, if_true, beq_n, Bool.not_true, Bool.not_false, Int.reduceNeg, List.length_map, hd, e2, h4, h5, b0, h6, h3]
theorem e_put {t a q : List Int} (h : La a q) (hq : Rd q) (ht : In3 t) (hl : t.length + a.length < 100) (S : Sto) : m_put_ahead [I t, PD (a, q)] S = .ok (PD (shortIn (t ++ a) q)) S := by
  have h1 := e_sure h
  have h2 := e_tuple_I 2 t (by omega)
  have h3 := e_text ht (by omega)
  have h4 := e_short (a := t ++ a) hq (by rw [List.length_append]; exact hl)
  have h5 := opAdd_I (S := S) (p := t) (q := a) (by omega)
  have i0 : ∀ x y S, opIx (D.tup [x, y]) (D.int 0) S = some x := fun _ _ _ => rfl
  have i1 : ∀ x y S, opIx (D.tup [x, y]) (D.int 1) S = some y := fun _ _ _ => rfl
  simp only [m_put_ahead, b_put_ahead, mDef, Nat.beq, List.length_cons, List.length_nil, List.map_cons, List.map_nil, List.replicate, List.append_nil, List.cons_append, List.nil_append, sSeq, sNil, sSet, sAsg, sPar, sDrop, sRet, sRetN, sIf, sFor, sWhile, sSub, sStuck, sBreak, sCont, Res.st, Res.bind, Res.bind0, mVar, mC, mOp2, mOp1, liftO, mIf, mAndT, mOrT, mNot, truD, tTru, liftB, tBl, blOf, mChain, tAnd2, tOr2, tNot1, tTrue, aNil, aCons, aStar, mTup, mLst, mkList, mCB, mCall, oLen, oAbs, oInt, oMax2, oMin2, oTuple, oAll, oSum, oAny, seqOf, lstR, lstOf, mSl, mPart, mNoPart, opSl, mComp, iSeq, iZip2, iEnum1, jRng1, jRng2, fixOf, fixL, mListOf, mListRg, vRng1, vRng2, bNm, setE, wipeE, List.getElem?_cons_zero, List.getElem?_cons_succ, List.set_cons_zero, List.set_cons_succ, opIsN, opNotN, isNone, opAdd_int, opSub_int, opNeg_int, opLt_int, opLe_int, opGt_int, opGe_int, bTup, bCons, bNil, if_true, beq_n, Bool.not_true, Bool.not_false, Int.reduceNeg, h1, h2, h3, PD, i0, i1] at h4 ⊢
  simp only [mDef, Nat.beq, List.length_cons, List.length_nil, List.map_cons, List.map_nil, List.replicate, List.append_nil, List.cons_append, List.nil_append, sSeq, sNil, sSet, sAsg, sPar, sDrop, sRet, sRetN, sIf, sFor, sWhile, sSub, sStuck, sBreak, sCont, Res.st, Res.bind, Res.bind0, mVar, mC, mOp2, mOp1, liftO, mIf, mAndT, mOrT, mNot, truD, tTru, liftB, tBl, blOf, mChain, tAnd2, tOr2, tNot1, tTrue, aNil, aCons, aStar, mTup, mLst, mkList, mCB, mCall, oLen, oAbs, oInt, oMax2, oMin2, oTuple, oAll, oSum, oAny, seqOf, lstR, lstOf, mSl, mPart, mNoPart, opSl, mComp, iSeq, iZip2, iEnum1, jRng1, jRng2, fixOf, fixL, mListOf, mListRg, vRng1, vRng2, bNm, setE, wipeE, List.getElem?_cons_zero, List.getElem?_cons_succ, List.set_cons_zero, List.set_cons_succ, opIsN, opNotN, isNone, opAdd_int, opSub_int, opNeg_int, opLt_int, opLe_int, opGt_int, opGe_int, bTup, bCons, bNil, if_true, beq_n, Bool.not_true, Bool.not_false, Int.reduceNeg, i0, i1, h5, h4]
end K22

namespace K22
open PySem PySem.Spec PyProof.Rows L2 Mi
theorem ix0 (x y : D) (S : Sto) : opIx (D.tup [x, y]) (D.int 0) S = some x := rfl
theorem ix1 (x y : D) (S : Sto) : opIx (D.tup [x, y]) (D.int 1) S = some y := rfl
/-! ### the first place apart -/
def fdiff (a q a' q' : List Int) : Nat → Nat → Option Nat
  | _, 0 => none
  | k, m + 1 => if at_ a q k ≠ at_ a' q' k then some k else fdiff a q a' q' (k + 1) m
theorem fdiff_none {a q a' q' : List Int} : ∀ {m k : Nat}, (∀ n, at_ a q n = at_ a' q' n) → fdiff a q a' q' k m = none
  | 0, _, _ => rfl
  | m + 1, k, h => by
    unfold fdiff
    rw [if_neg (by simp [h k])]
    exact fdiff_none h
theorem fdiff_some {a q a' q' : List Int} {p : Nat} (hp : at_ a q p ≠ at_ a' q' p) : ∀ {m k : Nat}, k ≤ p → p < k + m → (∀ n, n < p → at_ a q n = at_ a' q' n) → fdiff a q a' q' k m = some p
  | 0, k, h1, h2, _ => by omega
  | m + 1, k, h1, h2, h3 => by
    unfold fdiff
    by_cases h : k = p
    · subst h; rw [if_pos hp]
    · rw [if_neg (by simp [h3 k (by omega)])]
      exact fdiff_some hp (by omega) (by omega) h3
def faBody : MS := sIf (tBl (mOp2 (opEq true) (mCall m_entry_at (aCons (mOp2 opIx (mVar 2) (mC (.int 0))) (aCons (mOp2 opIx (mVar 2) (mC (.int 1))) (aCons (mVar 5) aNil)))) (mCall m_entry_at (aCons (mOp2 opIx (mVar 3) (mC (.int 0))) (aCons (mOp2 opIx (mVar 3) (mC (.int 1))) (aCons (mVar 5) aNil)))))) (sRet (mVar 5)) sNil
theorem fa_body {a q a' q' : List Int} (hq : q ≠ []) (hq' : q' ≠ []) (x y z : Option D) (n : Nat) (S : Sto) : faBody [x, y, some (PD (a, q)), some (PD (a', q')), z, some (.int ((n : Int) + 1))] S =
    if at_ a q n ≠ at_ a' q' n then .rt (.int ((n : Int) + 1)) S else .nx [x, y, some (PD (a, q)), some (PD (a', q')), z, some (.int ((n : Int) + 1))] S := by
  have e1 := e_entry (a := a) hq n
  have e2 := e_entry (a := a') hq' n
  have e3 := opEq_int (neg := true) (S := S) (at_ a q n) (at_ a' q' n)
  generalize (D.int ((n : Int) + 1)) = k at *
  simp only [faBody, mDef, Nat.beq, List.length_cons, List.length_nil, List.map_cons, List.map_nil, List.replicate, List.append_nil, List.cons_append, List.nil_append, sSeq, sNil, sSet, sAsg, sPar, sDrop, sRet, sRetN, sIf, sFor, sWhile, sSub, sStuck, sBreak, sCont, Res.st, Res.bind, Res.bind0, mVar, mC, mOp2, mOp1, liftO, mIf, mAndT, mOrT, mNot, truD, tTru, liftB, tBl, blOf, mChain, tAnd2, tOr2, tNot1, tTrue, aNil, aCons, aStar, mTup, mLst, mkList, mCB, mCall, oLen, oAbs, oInt, oMax2, oMin2, oTuple, oAll, oSum, oAny, seqOf, lstR, lstOf, mSl, mPart, mNoPart, opSl, mComp, iSeq, iZip2, iEnum1, jRng1, jRng2, fixOf, fixL, mListOf, mListRg, vRng1, vRng2, bNm, setE, wipeE, List.getElem?_cons_zero, List.getElem?_cons_succ, List.set_cons_zero, List.set_cons_succ, opIsN, opNotN, isNone, opAdd_int, opSub_int, opNeg_int, opLt_int, opLe_int, opGt_int, opGe_int, bTup, bCons, bNil, if_true, beq_n, Bool.not_true, Bool.not_false, Int.reduceNeg, PD, ix0, ix1, e1, e2, e3]
  by_cases h : at_ a q n = at_ a' q' n
  · simp [h]
  · simp [h]
theorem fa_loop {a q a' q' : List Int} (hq : q ≠ []) (hq' : q' ≠ []) (x y z : Option D) (S : Sto) : ∀ (m k : Nat) (u : Option D), ∃ v, forLoop (bNm 5) faBody (rngFrom ((k : Int) + 1) m) [x, y, some (PD (a, q)), some (PD (a', q')), z, u] S =
    match fdiff a q a' q' k m with
    | some p => .rt (.int ((p : Int) + 1)) S
    | none => .nx [x, y, some (PD (a, q)), some (PD (a', q')), z, v] S
  | 0, k, u => ⟨u, rfl⟩
  | m + 1, k, u => by
    obtain ⟨v, ih⟩ := fa_loop (a := a) (q := q) (a' := a') (q' := q') hq hq' x y z S m (k + 1) (some (.int ((k : Int) + 1)))
    refine ⟨v, ?_⟩
    have hb := fa_body (a := a) (a' := a') hq hq' x y z k S
    show forLoop (bNm 5) faBody (.int ((k : Int) + 1) :: rngFrom ((k : Int) + 1 + 1) m) _ S = _
    unfold fdiff
    by_cases h : at_ a q k ≠ at_ a' q' k
    · rw [if_pos h] at hb
      rw [for_rt (l := [(5, .int ((k : Int) + 1))]) rfl hb, if_pos h]
    · rw [if_neg h] at hb
      rw [for_nx (l := [(5, .int ((k : Int) + 1))]) rfl hb, if_neg h]
      exact ih
def faOut : Option Nat → D
  | some p => .int ((p : Int) + 1)
  | none => .non
theorem e_apart {a q a' q' : List Int} (h : La a q) (h' : La a' q') (S : Sto) : m_first_apart [PD (a, q), PD (a', q')] S = .ok (faOut (fdiff a q a' q' 0 (max a.length a'.length + q.length + q'.length))) S := by
  have h1 := e_sure h
  have h1' := e_sure h'
  have em : oMax2 [.int (a.length : Int), .int (a'.length : Int)] S = some (.int ((max a.length a'.length : Nat) : Int)) := by
    show some (D.int (if (a'.length : Int) > (a.length : Int) then (a'.length : Int) else (a.length : Int))) = _
    congr 2
    split <;> omega
  obtain ⟨v, hl⟩ := fa_loop (a := a) (a' := a') h.ne h'.ne (some (PD (a, q))) (some (PD (a', q'))) (some (.int ((max a.length a'.length + q.length + q'.length : Nat) : Int))) S (max a.length a'.length + q.length + q'.length) 0 none
  have hr : rng 1 (((max a.length a'.length + q.length + q'.length : Nat) : Int) + 1) = rngFrom (((0 : Nat) : Int) + 1) (max a.length a'.length + q.length + q'.length) := by
    unfold rng
    congr 1
    omega
  have hb : b_first_apart = sSeq (sPar 2 3 (aCons (mCall m_sure_lasso (aCons (mC (.int 3)) (aCons (mVar 0) aNil))) (aCons (mCall m_sure_lasso (aCons (mC (.int 3)) (aCons (mVar 1) aNil))) aNil)))
    (sSeq (sSet 4 (mOp2 opAdd (mOp2 opAdd (mCB oMax2 (aCons (mCB oLen (aCons (mOp2 opIx (mVar 2) (mC (.int 0))) aNil)) (aCons (mCB oLen (aCons (mOp2 opIx (mVar 3) (mC (.int 0))) aNil)) aNil))) (mCB oLen (aCons (mOp2 opIx (mVar 2) (mC (.int 1))) aNil))) (mCB oLen (aCons (mOp2 opIx (mVar 3) (mC (.int 1))) aNil))))
    (sSeq (sFor (jRng2 (mC (.int 1)) (mOp2 opAdd (mVar 4) (mC (.int 1)))) (bNm 5) faBody) (sRet (mC .non)))) := rfl
  generalize faBody = FB at *
  have el : ∀ (p : List Int) (S : Sto), oLen [D.tup (p.map .int)] S = some (.int p.length) := fun p S => by
    show some (D.int ((p.map D.int).length : Int)) = _
    rw [List.length_map]
  have hz : (((max a.length a'.length : Nat) : Int) + (q.length : Int) + (q'.length : Int)) = ((max a.length a'.length + q.length + q'.length : Nat) : Int) := by omega
  unfold m_first_apart
  rw [hb]
  clear hb
  simp only [mDef, Nat.beq, List.length_cons, List.length_nil, List.map_cons, List.map_nil, List.replicate, List.append_nil, List.cons_append, List.nil_append, sSeq, sNil, sSet, sAsg, sPar, sDrop, sRet, sRetN, sIf, sFor, sWhile, sSub, sStuck, sBreak, sCont, Res.st, Res.bind, Res.bind0, mVar, mC, mOp2, mOp1, liftO, mIf, mAndT, mOrT, mNot, truD, tTru, liftB, tBl, blOf, mChain, tAnd2, tOr2, tNot1, tTrue, aNil, aCons, aStar, mTup, mLst, mkList, mCB, mCall, oAbs, oInt, oMin2, oTuple, oAll, oSum, oAny, seqOf, lstR, lstOf, mSl, mPart, mNoPart, opSl, mComp, iSeq, iZip2, iEnum1, jRng1, jRng2, fixOf, fixL, mListOf, mListRg, vRng1, vRng2, bNm, setE, wipeE, List.getElem?_cons_zero, List.getElem?_cons_succ, List.set_cons_zero, List.set_cons_succ, opIsN, opNotN, isNone, opAdd_int, opSub_int, opNeg_int, opLt_int, opLe_int, opGt_int, opGe_int, bTup, bCons, bNil, if_true, beq_n, Bool.not_true, Bool.not_false, Int.reduceNeg, h1, h1', PD, I, ix0, ix1, el, em, hr, hz] at hl ⊢
  rw [hl]
  cases fdiff a q a' q' 0 (max a.length a'.length + q.length + q'.length) <;> rfl
/-! ### the letters -/
theorem e_sortset {l : List Int} (h : l.length < 60) {E : Mi.Env} {S S1 : Sto} {f : ME} (hf : f E S = .ok (I l) S1) : mSortSet false f E S = .ok (.lst ((usort l).map .int)) S1 := by
  unfold mSortSet
  rw [hf]
  show (match intsOf (l.map .int) with | some ns => (match Nat.blt ns.length 60 with | true => mkList false ((usort ns).map .int) S1 | false => .stuck) | none => .stuck) = _
  rw [intsOf_map]
  show (match Nat.blt l.length 60 with | true => _ | false => _) = _
  rw [show Nat.blt l.length 60 = true from Nat.ble_eq_true_of_le h]
  rfl
theorem e_endless {a q : List Int} (h : La a q) (hl : a.length + q.length < 60) (S : Sto) : m_endless_letters [PD (a, q)] S = .ok (.tup [I (usort (a ++ q)), I (usort q)]) S := by
  have h1 := e_sure h
  have h5 := opAdd_I (S := S) (p := a) (q := q) (by omega)
  have e1 : mSortSet false (mOp2 opAdd (mOp2 opIx (mVar 1) (mC (.int 0))) (mOp2 opIx (mVar 1) (mC (.int 1)))) [some (PD (a, q)), some (PD (a, q))] S = .ok (.lst ((usort (a ++ q)).map .int)) S := by
    refine e_sortset (l := a ++ q) (by rw [List.length_append]; exact hl) ?_
    simp only [mDef, Nat.beq, List.length_cons, List.length_nil, List.map_cons, List.map_nil, List.replicate, List.append_nil, List.cons_append, List.nil_append, sSeq, sNil, sSet, sAsg, sPar, sDrop, sRet, sRetN, sIf, sFor, sWhile, sSub, sStuck, sBreak, sCont, Res.st, Res.bind, Res.bind0, mVar, mC, mOp2, mOp1, liftO, mIf, mAndT, mOrT, mNot, truD, tTru, liftB, tBl, blOf, mChain, tAnd2, tOr2, tNot1, tTrue, aNil, aCons, aStar, mTup, mLst, mkList, mCB, mCall, oLen, oAbs, oInt, oMax2, oMin2, oTuple, oAll, oSum, oAny, seqOf, lstR, lstOf, mSl, mPart, mNoPart, opSl, mComp, iSeq, iZip2, iEnum1, jRng1, jRng2, fixOf, fixL, mListOf, mListRg, vRng1, vRng2, bNm, setE, wipeE, List.getElem?_cons_zero, List.getElem?_cons_succ, List.set_cons_zero, List.set_cons_succ, opIsN, opNotN, isNone, opAdd_int, opSub_int, opNeg_int, opLt_int, opLe_int, opGt_int, opGe_int, bTup, bCons, bNil, if_true, beq_n, Bool.not_true, Bool.not_false, Int.reduceNeg, PD, ix0, ix1, h5]
  have e2 : mSortSet false (mOp2 opIx (mVar 1) (mC (.int 1))) [some (PD (a, q)), some (PD (a, q))] S = .ok (.lst ((usort q).map .int)) S := by
    refine e_sortset (l := q) (by omega) ?_
    simp only [mDef, Nat.beq, List.length_cons, List.length_nil, List.map_cons, List.map_nil, List.replicate, List.append_nil, List.cons_append, List.nil_append, sSeq, sNil, sSet, sAsg, sPar, sDrop, sRet, sRetN, sIf, sFor, sWhile, sSub, sStuck, sBreak, sCont, Res.st, Res.bind, Res.bind0, mVar, mC, mOp2, mOp1, liftO, mIf, mAndT, mOrT, mNot, truD, tTru, liftB, tBl, blOf, mChain, tAnd2, tOr2, tNot1, tTrue, aNil, aCons, aStar, mTup, mLst, mkList, mCB, mCall, oLen, oAbs, oInt, oMax2, oMin2, oTuple, oAll, oSum, oAny, seqOf, lstR, lstOf, mSl, mPart, mNoPart, opSl, mComp, iSeq, iZip2, iEnum1, jRng1, jRng2, fixOf, fixL, mListOf, mListRg, vRng1, vRng2, bNm, setE, wipeE, List.getElem?_cons_zero, List.getElem?_cons_succ, List.set_cons_zero, List.set_cons_succ, opIsN, opNotN, isNone, opAdd_int, opSub_int, opNeg_int, opLt_int, opLe_int, opGt_int, opGe_int, bTup, bCons, bNil, if_true, beq_n, Bool.not_true, Bool.not_false, Int.reduceNeg, PD, ix1]
  simp only [PD] at e1 e2
  simp only [m_endless_letters, b_endless_letters, mDef, Nat.beq, List.length_cons, List.length_nil, List.map_cons, List.map_nil, List.replicate, List.append_nil, List.cons_append, List.nil_append, sSeq, sNil, sSet, sAsg, sPar, sDrop, sRet, sRetN, sIf, sFor, sWhile, sSub, sStuck, sBreak, sCont, Res.st, Res.bind, Res.bind0, mVar, mC, mOp2, mOp1, liftO, mIf, mAndT, mOrT, mNot, truD, tTru, liftB, tBl, blOf, mChain, tAnd2, tOr2, tNot1, tTrue, aNil, aCons, aStar, mTup, mLst, mkList, mCB, mCall, oLen, oAbs, oInt, oMax2, oMin2, oTuple, oAll, oSum, oAny, seqOf, lstR, lstOf, mSl, mPart, mNoPart, opSl, mComp, iSeq, iZip2, iEnum1, jRng1, jRng2, fixOf, fixL, mListOf, mListRg, vRng1, vRng2, bNm, setE, wipeE, List.getElem?_cons_zero, List.getElem?_cons_succ, List.set_cons_zero, List.set_cons_succ, opIsN, opNotN, isNone, opAdd_int, opSub_int, opNeg_int, opLt_int, opLe_int, opGt_int, opGe_int, bTup, bCons, bNil, if_true, beq_n, Bool.not_true, Bool.not_false, Int.reduceNeg, h1, PD, e1, e2, big, Nat.ble]
/-! ### letters -/
def Ls (l : List Int) : Prop := l ∈ [[1], [1, 2], [1, 2, 3], [1, 3], [2], [2, 3], [3]]
theorem e_letters {l : List Int} (h : Ls l) (S : Sto) : m_sure_letters [I l] S = .ok (I l) S := by
  unfold Ls at h
  simp only [List.mem_cons, List.not_mem_nil, or_false] at h
  rcases h with rfl | rfl | rfl | rfl | rfl | rfl | rfl <;> rfl
theorem e_lettersL {l : List Int} (h : Ls l) (S : Sto) : m_sure_letters [IL l] S = .ok (I l) S := by
  unfold Ls at h
  simp only [List.mem_cons, List.not_mem_nil, or_false] at h
  rcases h with rfl | rfl | rfl | rfl | rfl | rfl | rfl <;> rfl
theorem e_count {p : List Int} (hp : p.length ≤ 10000) (l : List Int) (S : Sto) : m_count_in [I p, I l] S = .ok (.int (cnt p l)) S := by
  have e : lcLoop (bNm 2) (tBl (mOp2 (opIn false) (mVar 2) (mVar 1))) (mVar 2) [some (I p), some (I l), none] (p.map .int) S = .ok ((p.filter fun x => decide (x ∈ l)).map .int) S := by
    rw [lcLoop_filter (p := fun d => match d with | .int x => decide (x ∈ l) | _ => false) (g := fun d => d)]
    · rw [List.filter_map, List.map_id']
      rfl
    · intro d hd
      obtain ⟨x, hx, rfl⟩ := List.mem_map.mp hd
      refine ⟨_, rfl, ?_, fun _ => rfl⟩
      have := opIn_I (neg := false) (S := S) x l
      simp only [mDef, Nat.beq, List.length_cons, List.length_nil, List.map_cons, List.map_nil, List.replicate, List.append_nil, List.cons_append, List.nil_append, sSeq, sNil, sSet, sAsg, sPar, sDrop, sRet, sRetN, sIf, sFor, sWhile, sSub, sStuck, sBreak, sCont, Res.st, Res.bind, Res.bind0, mVar, mC, mOp2, mOp1, liftO, mIf, mAndT, mOrT, mNot, truD, tTru, liftB, tBl, blOf, mChain, tAnd2, tOr2, tNot1, tTrue, aNil, aCons, aStar, mTup, mLst, mkList, mCB, mCall, oLen, oAbs, oInt, oMax2, oMin2, oTuple, oAll, oSum, oAny, seqOf, lstR, lstOf, mSl, mPart, mNoPart, opSl, mComp, iSeq, iZip2, iEnum1, jRng1, jRng2, fixOf, fixL, mListOf, mListRg, vRng1, vRng2, bNm, setE, wipeE, List.getElem?_cons_zero, List.getElem?_cons_succ, List.set_cons_zero, List.set_cons_succ, opIsN, opNotN, isNone, opAdd_int, opSub_int, opNeg_int, opLt_int, opLe_int, opGt_int, opGe_int, bTup, bCons, bNil, if_true, beq_n, Bool.not_true, Bool.not_false, Int.reduceNeg, this]
      rfl
  have hb : big p.length = true := big_of (by omega)
  simp only [m_count_in, b_count_in, mDef, Nat.beq, List.length_cons, List.length_nil, List.map_cons, List.map_nil, List.replicate, List.append_nil, List.cons_append, List.nil_append, sSeq, sNil, sSet, sAsg, sPar, sDrop, sRet, sRetN, sIf, sFor, sWhile, sSub, sStuck, sBreak, sCont, Res.st, Res.bind, Res.bind0, mVar, mC, mOp2, mOp1, liftO, mIf, mAndT, mOrT, mNot, truD, tTru, liftB, tBl, blOf, mChain, tAnd2, tOr2, tNot1, tTrue, aNil, aCons, aStar, mTup, mLst, mkList, mCB, mCall, oLen, oAbs, oInt, oMax2, oMin2, oTuple, oAll, oSum, oAny, seqOf, lstR, lstOf, mSl, mPart, mNoPart, opSl, mComp, iSeq, iZip2, iEnum1, jRng1, jRng2, fixOf, fixL, mListOf, mListRg, vRng1, vRng2, bNm, setE, wipeE, List.getElem?_cons_zero, List.getElem?_cons_succ, List.set_cons_zero, List.set_cons_succ, opIsN, opNotN, isNone, opAdd_int, opSub_int, opNeg_int, opLt_int, opLe_int, opGt_int, opGe_int, bTup, bCons, bNil, if_true, beq_n, Bool.not_true, Bool.not_false, Int.reduceNeg, I] at e ⊢
  simp only [List.length_map, hb, e, cnt]
def hof (a q l : List Int) (n : Nat) : Int := if n ≤ a.length then cnt (a.take n) l else cnt a l + (((n - a.length) / q.length : Nat) : Int) * cnt q l + cnt (q.take ((n - a.length) % q.length)) l
theorem cnt_nonneg (p l : List Int) : 0 ≤ cnt p l := Int.natCast_nonneg _
theorem cnt_le (p l : List Int) : cnt p l ≤ p.length := by
  unfold cnt
  have := List.length_filter_le (fun x => decide (x ∈ l)) p
  omega
theorem often_a {d dl k A Q L Ak v : D} {la m : Int} {S : Sto} (h1 : m_sure_lasso [.int 3, d] S = .ok (.tup [A, Q]) S) (h2 : m_sure_letters [dl] S = .ok L S) (h3 : m_sure_many [k, .int 1000000000000000000000000000000] S = .ok .non S)
    (hl : oLen [A] S = some (.int la)) (hk : k = .int m) (hle : opLe k (.int la) S = some (.bl true)) (hc : opSl A none (some m) S = some Ak) (e1 : m_count_in [Ak, L] S = .ok v S) : m_how_often_to [d, dl, k] S = .ok v S := by
  rw [u_how_often_to]
  generalize m_sure_lasso = F1 at *
  generalize m_sure_letters = F2 at *
  generalize m_sure_many = F3 at *
  generalize m_count_in = F4 at *
  have e0 : mSl (mVar 5) mNoPart (mPart (mVar 2)) [some d, some dl, some k, some (.tup [A, Q]), some L, some A, some Q, none, none] S = .ok Ak S := by
    subst hk
    simp only [mSl, mNoPart, mPart, Res.bind, mVar, List.getElem?_cons_zero, List.getElem?_cons_succ, hc, liftO]
  generalize mSl (mVar 5) mNoPart (mPart (mVar 2)) = M at *
  simp only [mDef, Nat.beq, List.length_cons, List.length_nil, List.map_cons, List.map_nil, List.replicate, List.append_nil, List.cons_append, List.nil_append, sSeq, sNil, sSet, sAsg, sPar, sDrop, sRet, sRetN, sIf, sFor, sWhile, sSub, sStuck, sBreak, sCont, Res.st, Res.bind, Res.bind0, mVar, mC, mOp2, mOp1, liftO, mIf, mAndT, mOrT, mNot, truD, tTru, liftB, tBl, blOf, mChain, tAnd2, tOr2, tNot1, tTrue, aNil, aCons, aStar, mTup, mLst, mkList, mCB, mCall, oAbs, oInt, oMin2, oTuple, oAll, oSum, oAny, seqOf, lstR, lstOf, mSl, mPart, mNoPart, opSl, mComp, iSeq, iZip2, iEnum1, jRng1, jRng2, fixOf, fixL, mListOf, mListRg, vRng1, vRng2, bNm, setE, wipeE, List.getElem?_cons_zero, List.getElem?_cons_succ, List.set_cons_zero, List.set_cons_succ, opIsN, opNotN, isNone, opAdd_int, opSub_int, opNeg_int, opLt_int, opLe_int, opGt_int, opGe_int, bTup, bCons, bNil, if_true, beq_n, Bool.not_true, Bool.not_false, Int.reduceNeg, h1, h2, h3, hl, hle, e0, e1]
theorem often_b {d dl k A Q L u v Qm c1 c2 c3 w z1 z : D} {la lq m : Int} {S : Sto} (h1 : m_sure_lasso [.int 3, d] S = .ok (.tup [A, Q]) S) (h2 : m_sure_letters [dl] S = .ok L S) (h3 : m_sure_many [k, .int 1000000000000000000000000000000] S = .ok .non S)
    (hl : oLen [A] S = some (.int la)) (hlq : oLen [Q] S = some (.int lq)) (hle : opLe k (.int la) S = some (.bl false)) (hs : opSub k (.int la) S = some u) (hd : opDiv u (.int lq) S = some v) (hm : opMod u (.int lq) S = some (.int m)) (hc : opSl Q none (some m) S = some Qm)
    (e1 : m_count_in [A, L] S = .ok c1 S) (e2 : m_count_in [Q, L] S = .ok c2 S) (e3 : m_count_in [Qm, L] S = .ok c3 S) (o1 : opMul v c2 S = some w) (o2 : opAdd c1 w S = some z1) (o3 : opAdd z1 c3 S = some z) : m_how_often_to [d, dl, k] S = .ok z S := by
  rw [u_how_often_to]
  generalize m_sure_lasso = F1 at *
  generalize m_sure_letters = F2 at *
  generalize m_sure_many = F3 at *
  generalize m_count_in = F4 at *
  have e0 : mSl (mVar 6) mNoPart (mPart (mVar 8)) [some d, some dl, some k, some (.tup [A, Q]), some L, some A, some Q, some v, some (.int m)] S = .ok Qm S := by
    simp only [mSl, mNoPart, mPart, Res.bind, mVar, List.getElem?_cons_zero, List.getElem?_cons_succ, hc, liftO]
  generalize mSl (mVar 6) mNoPart (mPart (mVar 8)) = M at *
  generalize D.int m = mD at *
  simp only [mDef, Nat.beq, List.length_cons, List.length_nil, List.map_cons, List.map_nil, List.replicate, List.append_nil, List.cons_append, List.nil_append, sSeq, sNil, sSet, sAsg, sPar, sDrop, sRet, sRetN, sIf, sFor, sWhile, sSub, sStuck, sBreak, sCont, Res.st, Res.bind, Res.bind0, mVar, mC, mOp2, mOp1, liftO, mIf, mAndT, mOrT, mNot, truD, tTru, liftB, tBl, blOf, mChain, tAnd2, tOr2, tNot1, tTrue, aNil, aCons, aStar, mTup, mLst, mkList, mCB, mCall, oAbs, oInt, oMin2, oTuple, oAll, oSum, oAny, seqOf, lstR, lstOf, mSl, mPart, mNoPart, opSl, mComp, iSeq, iZip2, iEnum1, jRng1, jRng2, fixOf, fixL, mListOf, mListRg, vRng1, vRng2, bNm, setE, wipeE, List.getElem?_cons_zero, List.getElem?_cons_succ, List.set_cons_zero, List.set_cons_succ, opIsN, opNotN, isNone, opAdd_int, opSub_int, opNeg_int, opLt_int, opLe_int, opGt_int, opGe_int, bTup, bCons, bNil, if_true, beq_n, Bool.not_true, Bool.not_false, Int.reduceNeg, h1, h2, h3, hl, hlq, hle, hs, hd, hm, e0, e1, e2, e3, o1, o2, o3]
theorem len_I {p : List Int} {S : Sto} : oLen [I p] S = some (.int p.length) := by
  show some (D.int ((p.map D.int).length : Int)) = _
  rw [List.length_map]
theorem e_often0 {a q l : List Int} {d dl k : D} {n : Nat} (h1 : ∀ S, m_sure_lasso [.int 3, d] S = .ok (PD (a, q)) S) (h2 : ∀ S, m_sure_letters [dl] S = .ok (I l) S) (h3 : ∀ S, m_sure_many [k, .int 1000000000000000000000000000000] S = .ok .non S)
    (h4 : k = .int n) (hq : q ≠ []) (la : a.length ≤ 5000) (lq : q.length ≤ 5000) (S : Sto) : m_how_often_to [d, dl, k] S = .ok (.int (hof a q l n)) S := by
  have hp : 0 < q.length := List.length_pos_iff.mpr hq
  unfold hof
  by_cases hle : n ≤ a.length
  · have hd : opLe k (.int a.length) S = some (.bl true) := by
      rw [h4, opLe_int, decide_eq_true (by omega)]
    rw [if_pos hle]
    exact often_a (h1 S) (h2 S) (h3 S) len_I h4 hd (congrArg some (cut_toI a n)) (e_count (p := a.take n) (by rw [List.length_take]; omega) l S)
  · have hd : opLe k (.int a.length) S = some (.bl false) := by
      rw [h4, opLe_int, decide_eq_false (by omega)]
    have hs : opSub k (.int a.length) S = some (.int ((n - a.length : Nat) : Int)) := by
      rw [h4, opSub_int]
      congr 2
      omega
    have c1 := cnt_nonneg q l
    have c2 := cnt_le q l
    rw [if_neg hle]
    exact often_b (h1 S) (h2 S) (h3 S) len_I len_I hd hs (opDiv_nat (a := n - a.length) (b := q.length) (by omega) (by omega)) (opMod_nat (a := n - a.length) (b := q.length) (by omega)) (congrArg some (cut_toI q ((n - a.length) % q.length))) (e_count (p := a) (by omega) l S) (e_count (p := q) (by omega) l S)
      (e_count (p := q.take ((n - a.length) % q.length)) (by rw [List.length_take]; omega) l S) (opMul_r (by omega) (by omega)) opAdd_int opAdd_int
theorem e_often {a q l : List Int} {d dl : D} {n : Nat} (h1 : ∀ S, m_sure_lasso [.int 3, d] S = .ok (PD (a, q)) S) (h2 : ∀ S, m_sure_letters [dl] S = .ok (I l) S) (hn : (n : Int) ≤ 1000000000000000000000000000000) (hq : q ≠ []) (la : a.length ≤ 5000) (lq : q.length ≤ 5000) (S : Sto) :
    m_how_often_to [d, dl, .int n] S = .ok (.int (hof a q l n)) S :=
  e_often0 h1 h2 (e_many (m := (n : Int)) (Int.natCast_nonneg n) hn) rfl hq la lq S
/-! ### the next place with one of the letters -/
def fnext (a q l : List Int) : Nat → Nat → Option Nat
  | _, 0 => none
  | k, m + 1 => if at_ a q k ∈ l then some k else fnext a q l (k + 1) m
def nwBody : MS := sIf (tBl (mOp2 (opIn false) (mCall m_entry_at (aCons (mOp2 opIx (mVar 3) (mC (.int 0))) (aCons (mOp2 opIx (mVar 3) (mC (.int 1))) (aCons (mVar 5) aNil)))) (mVar 4))) (sRet (mVar 5)) sNil
theorem nw_body0 {x y z k A Q L v : D} {b : Bool} {S : Sto} (h1 : m_entry_at [A, Q, k] S = .ok v S) (h2 : opIn false v L S = some (.bl b)) : nwBody [some x, some y, some z, some (.tup [A, Q]), some L, some k] S =
    if b = true then .rt k S else .nx [some x, some y, some z, some (.tup [A, Q]), some L, some k] S := by
  unfold nwBody
  generalize m_entry_at = F at *
  generalize opIn false = G at *
  simp only [mDef, Nat.beq, List.length_cons, List.length_nil, List.map_cons, List.map_nil, List.replicate, List.append_nil, List.cons_append, List.nil_append, sSeq, sNil, sSet, sAsg, sPar, sDrop, sRet, sRetN, sIf, sFor, sWhile, sSub, sStuck, sBreak, sCont, Res.st, Res.bind, Res.bind0, mVar, mC, mOp2, mOp1, liftO, mIf, mAndT, mOrT, mNot, truD, tTru, liftB, tBl, blOf, mChain, tAnd2, tOr2, tNot1, tTrue, aNil, aCons, aStar, mTup, mLst, mkList, mCB, mCall, oLen, oAbs, oInt, oMax2, oMin2, oTuple, oAll, oSum, oAny, seqOf, lstR, lstOf, mSl, mPart, mNoPart, opSl, mComp, iSeq, iZip2, iEnum1, jRng1, jRng2, fixOf, fixL, mListOf, mListRg, vRng1, vRng2, bNm, setE, wipeE, List.getElem?_cons_zero, List.getElem?_cons_succ, List.set_cons_zero, List.set_cons_succ, opIsN, opNotN, isNone, opAdd_int, opSub_int, opNeg_int, opLt_int, opLe_int, opGt_int, opGe_int, bTup, bCons, bNil, if_true, beq_n, Bool.not_true, Bool.not_false, Int.reduceNeg, ix0, ix1, h1, h2]
  cases b <;> rfl
theorem nw_body {a q l : List Int} (hq : q ≠ []) (x y z : D) (n : Nat) (S : Sto) : nwBody [some x, some y, some z, some (PD (a, q)), some (I l), some (.int ((n : Int) + 1))] S =
    if at_ a q n ∈ l then .rt (.int ((n : Int) + 1)) S else .nx [some x, some y, some z, some (PD (a, q)), some (I l), some (.int ((n : Int) + 1))] S := by
  rw [nw_body0 (e_entry (a := a) hq n S) (opIn_I (at_ a q n) l)]
  by_cases h : at_ a q n ∈ l
  · simp [h]
  · simp [h]
theorem nw_loop {a q l : List Int} (hq : q ≠ []) (x y z : D) (S : Sto) : ∀ (m k : Nat) (u : Option D), ∃ v, forLoop (bNm 5) nwBody (rngFrom ((k : Int) + 1) m) [some x, some y, some z, some (PD (a, q)), some (I l), u] S =
    match fnext a q l k m with
    | some p => .rt (.int ((p : Int) + 1)) S
    | none => .nx [some x, some y, some z, some (PD (a, q)), some (I l), v] S
  | 0, k, u => ⟨u, rfl⟩
  | m + 1, k, u => by
    obtain ⟨v, ih⟩ := nw_loop (a := a) (q := q) (l := l) hq x y z S m (k + 1) (some (.int ((k : Int) + 1)))
    refine ⟨v, ?_⟩
    have hb := nw_body (a := a) (l := l) hq x y z k S
    show forLoop (bNm 5) nwBody (.int ((k : Int) + 1) :: rngFrom ((k : Int) + 1 + 1) m) _ S = _
    unfold fnext
    by_cases h : at_ a q k ∈ l
    · rw [if_pos h] at hb
      rw [for_rt (l := [(5, .int ((k : Int) + 1))]) rfl hb, if_pos h]
    · rw [if_neg h] at hb
      rw [for_nx (l := [(5, .int ((k : Int) + 1))]) rfl hb, if_neg h]
      exact ih
theorem next_a {d dl k A Q L v : D} {la lq m : Int} {r : Fl} {S : Sto} (h1 : m_sure_lasso [.int 3, d] S = .ok (.tup [A, Q]) S) (h2 : m_sure_letters [dl] S = .ok L S) (h3 : m_sure_many [k, .int 1000000000000000000000000000000] S = .ok .non S)
    (hl : oLen [A] S = some (.int la)) (hlq : oLen [Q] S = some (.int lq)) (hk : k = .int m)
    (hloop : forLoop (bNm 5) nwBody (rng (m + 1) (m + la + lq + 1)) [some d, some dl, some k, some (.tup [A, Q]), some L, none] S = r) (hr : r = .rt v S ∨ ∃ E, r = .nx E S ∧ v = .non) : m_next_with [d, dl, k] S = .ok v S := by
  have hb : m_next_with = mDef 6 3 (sSeq (sPar 3 4 (aCons (mCall m_sure_lasso (aCons (mC (.int 3)) (aCons (mVar 0) aNil))) (aCons (mCall m_sure_letters (aCons (mVar 1) aNil)) aNil)))
    (sSeq (sDrop (mCall m_sure_many (aCons (mVar 2) (aCons (mC (.int 1000000000000000000000000000000)) aNil))))
    (sSeq (sFor (jRng2 (mOp2 opAdd (mVar 2) (mC (.int 1))) (mOp2 opAdd (mOp2 opAdd (mOp2 opAdd (mVar 2) (mCB oLen (aCons (mOp2 opIx (mVar 3) (mC (.int 0))) aNil))) (mCB oLen (aCons (mOp2 opIx (mVar 3) (mC (.int 1))) aNil))) (mC (.int 1)))) (bNm 5) nwBody)
    (sRet (mC .non))))) := rfl
  rw [hb]
  clear hb
  generalize nwBody = B at *
  generalize m_sure_lasso = F1 at *
  generalize m_sure_letters = F2 at *
  generalize m_sure_many = F3 at *
  have ej : jRng2 (mOp2 opAdd (mVar 2) (mC (.int 1))) (mOp2 opAdd (mOp2 opAdd (mOp2 opAdd (mVar 2) (mCB oLen (aCons (mOp2 opIx (mVar 3) (mC (.int 0))) aNil))) (mCB oLen (aCons (mOp2 opIx (mVar 3) (mC (.int 1))) aNil))) (mC (.int 1))) [some d, some dl, some k, some (.tup [A, Q]), some L, none] S = .ok (rng (m + 1) (m + la + lq + 1)) S := by
    subst hk
    simp only [mDef, Nat.beq, List.length_cons, List.length_nil, List.map_cons, List.map_nil, List.replicate, List.append_nil, List.cons_append, List.nil_append, sSeq, sNil, sSet, sAsg, sPar, sDrop, sRet, sRetN, sIf, sFor, sWhile, sSub, sStuck, sBreak, sCont, Res.st, Res.bind, Res.bind0, mVar, mC, mOp2, mOp1, liftO, mIf, mAndT, mOrT, mNot, truD, tTru, liftB, tBl, blOf, mChain, tAnd2, tOr2, tNot1, tTrue, aNil, aCons, aStar, mTup, mLst, mkList, mCB, mCall, oAbs, oInt, oMin2, oTuple, oAll, oSum, oAny, seqOf, lstR, lstOf, mSl, mPart, mNoPart, opSl, mComp, iSeq, iZip2, iEnum1, jRng1, jRng2, fixOf, fixL, mListOf, mListRg, vRng1, vRng2, bNm, setE, wipeE, List.getElem?_cons_zero, List.getElem?_cons_succ, List.set_cons_zero, List.set_cons_succ, opIsN, opNotN, isNone, opAdd_int, opSub_int, opNeg_int, opLt_int, opLe_int, opGt_int, opGe_int, bTup, bCons, bNil, if_true, beq_n, Bool.not_true, Bool.not_false, Int.reduceNeg, ix0, ix1, hl, hlq]
  generalize jRng2 (mOp2 opAdd (mVar 2) (mC (.int 1))) (mOp2 opAdd (mOp2 opAdd (mOp2 opAdd (mVar 2) (mCB oLen (aCons (mOp2 opIx (mVar 3) (mC (.int 0))) aNil))) (mCB oLen (aCons (mOp2 opIx (mVar 3) (mC (.int 1))) aNil))) (mC (.int 1))) = J at *
  generalize rng (m + 1) (m + la + lq + 1) = R at *
  clear hk
  simp only [mDef, Nat.beq, List.length_cons, List.length_nil, List.map_cons, List.map_nil, List.replicate, List.append_nil, List.cons_append, List.nil_append, sSeq, sNil, sSet, sAsg, sPar, sDrop, sRet, sRetN, sIf, sFor, sWhile, sSub, sStuck, sBreak, sCont, Res.st, Res.bind, Res.bind0, mVar, mC, mOp2, mOp1, liftO, mIf, mAndT, mOrT, mNot, truD, tTru, liftB, tBl, blOf, mChain, tAnd2, tOr2, tNot1, tTrue, aNil, aCons, aStar, mTup, mLst, mkList, mCB, mCall, oLen, oAbs, oInt, oMax2, oMin2, oTuple, oAll, oSum, oAny, seqOf, lstR, lstOf, mSl, mPart, mNoPart, opSl, mComp, iSeq, iZip2, iEnum1, jRng1, jRng2, fixOf, fixL, mListOf, mListRg, vRng1, vRng2, bNm, setE, wipeE, List.getElem?_cons_zero, List.getElem?_cons_succ, List.set_cons_zero, List.set_cons_succ, opIsN, opNotN, isNone, opAdd_int, opSub_int, opNeg_int, opLt_int, opLe_int, opGt_int, opGe_int, bTup, bCons, bNil, if_true, beq_n, Bool.not_true, Bool.not_false, Int.reduceNeg, h1, h2, h3, ej, hloop]
  rcases hr with rfl | ⟨E, rfl, rfl⟩ <;> rfl
def nwOut : Option Nat → D
  | some p => .int ((p : Int) + 1)
  | none => .non
theorem e_next {a q l : List Int} {d dl : D} {n : Nat} (h1 : ∀ S, m_sure_lasso [.int 3, d] S = .ok (PD (a, q)) S) (h2 : ∀ S, m_sure_letters [dl] S = .ok (I l) S) (hn : (n : Int) ≤ 1000000000000000000000000000000) (hq : q ≠ []) (S : Sto) :
    m_next_with [d, dl, .int n] S = .ok (nwOut (fnext a q l n (a.length + q.length))) S := by
  obtain ⟨v, hl⟩ := nw_loop (a := a) (l := l) hq d dl (.int n) S (a.length + q.length) n none
  have hr : rng ((n : Int) + 1) ((n : Int) + (a.length : Int) + (q.length : Int) + 1) = rngFrom ((n : Int) + 1) (a.length + q.length) := by
    unfold rng
    congr 1
    omega
  rw [← hr] at hl
  cases hf : fnext a q l n (a.length + q.length) with
  | none =>
    rw [hf] at hl
    exact next_a (h1 S) (h2 S) (e_many (m := (n : Int)) (Int.natCast_nonneg n) hn S) len_I len_I rfl hl (.inr ⟨_, rfl, rfl⟩)
  | some p =>
    rw [hf] at hl
    exact next_a (h1 S) (h2 S) (e_many (m := (n : Int)) (Int.natCast_nonneg n) hn S) len_I len_I rfl hl (.inl rfl)
end K22

namespace K22
open PySem PySem.Spec PyProof.Rows L2 Mi
/-! ### the law's own comparing -/
theorem same_a {n : Nat} {d : D} {S : Sto} {b2 b3 b5 b6 : Bool} (h1 : oIsi [d, .tup [.ty 3, .ty 4]] S = some (.bl false)) (h2 : opIsN d .non S = some (.bl b2)) (h3 : oIsi [d, .tup [.ty 1, .ty 2]] S = some (.bl b3)) (he : opEq false d d S = some (.bl true))
    (h5 : oIsi [d, .ty 1] S = some (.bl b5)) (h6 : oIsi [d, .ty 0] S = some (.bl b6)) (e5 : opEq false (.bl b5) (.bl b5) S = some (.bl true)) (e2 : opEq false (.bl b2) (.bl b2) S = some (.bl true)) (hc : (b2 || b3) = true ∨ (b5 = false ∧ b6 = true)) : m__law_same (n + 1) [d, d] S = .ok (.bl true) S := by
  rw [u__law_same]
  generalize m__law_same n = F
  generalize oIsi = G at *
  generalize opEq false = Q at *
  generalize opIsN = N at *
  cases b2 <;> cases b3 <;> cases b5 <;> cases b6 <;> first | (simp at hc; done) | (simp only [mDef, Nat.beq, List.length_cons, List.length_nil, List.map_cons, List.map_nil, List.replicate, List.append_nil, List.cons_append, List.nil_append, sSeq, sNil, sSet, sAsg, sPar, sDrop, sRet, sRetN, sIf, sFor, sWhile, sSub, sStuck, sBreak, sCont, Res.st, Res.bind, Res.bind0, mVar, mC, mOp2, mOp1, liftO, mIf, mAndT, mOrT, mNot, truD, tTru, liftB, tBl, blOf, mChain, tAnd2, tOr2, tNot1, tTrue, aNil, aCons, aStar, mTup, mLst, mkList, mCB, mCall, oLen, oAbs, oInt, oMax2, oMin2, oTuple, oAll, oSum, oAny, seqOf, lstR, lstOf, mSl, mPart, mNoPart, opSl, mComp, iSeq, iZip2, iEnum1, jRng1, jRng2, fixOf, fixL, mListOf, mListRg, vRng1, vRng2, bNm, setE, wipeE, List.getElem?_cons_zero, List.getElem?_cons_succ, List.set_cons_zero, List.set_cons_succ, opIsN, opNotN, isNone, opAdd_int, opSub_int, opNeg_int, opLt_int, opLe_int, opGt_int, opGe_int, bTup, bCons, bNil, if_true, beq_n, Bool.not_true, Bool.not_false, Int.reduceNeg, big, Nat.ble, h1, h2, h3, h5, h6, he, e5, e2]; done)
theorem same_b {n : Nat} {d : D} {ds : List D} {S : Sto} (b3 b4 : Bool) (lb : big ds.length = true) (h1 : oIsi [d, .tup [.ty 3, .ty 4]] S = some (.bl true)) (h3 : oIsi [d, .ty 3] S = some (.bl b3)) (h4 : oIsi [d, .ty 4] S = some (.bl b4)) (hl : oLen [d] S = some (.int ds.length))
    (e3 : opEq true (.bl b3) (.bl b3) S = some (.bl false)) (e4 : opEq true (.bl b4) (.bl b4) S = some (.bl false)) (el : opEq false (.int ds.length) (.int ds.length) S = some (.bl true))
    (hz : iZip2 (mVar 0) (mVar 1) [some d, some d, none, none] S = .ok (zip2 ds ds) S)
    (hloop : lcLoop (bTup 2 (bCons (bNm 2) (bCons (bNm 3) bNil))) tTrue (mCall (m__law_same n) (aCons (mVar 2) (aCons (mVar 3) aNil))) [some d, some d, none, none] (zip2 ds ds) S = .ok (ds.map fun _ => .bl true) S) : m__law_same (n + 1) [d, d] S = .ok (.bl true) S := by
  have hz2 : (zip2 ds ds).length = ds.length := by rw [zip2_len, Nat.min_self]
  have ha : oAll [.lst (ds.map fun _ => .bl true)] S = some (.bl true) := by
    show (match blsOf (ds.map fun _ => D.bl true) with | some is => some (D.bl (is.all id)) | none => none) = _
    rw [show (ds.map fun _ => D.bl true) = (ds.map fun _ => true).map .bl by rw [List.map_map]; rfl, blsOf_map]
    show some (D.bl ((ds.map fun _ => true).all id)) = _
    congr 2
    simp
  have hc : mComp false (iZip2 (mVar 0) (mVar 1)) (bTup 2 (bCons (bNm 2) (bCons (bNm 3) bNil))) tTrue (mCall (m__law_same n) (aCons (mVar 2) (aCons (mVar 3) aNil))) [2, 3] [some d, some d, none, none] S = .ok (.lst (ds.map fun _ => .bl true)) S := by
    unfold mComp
    rw [hz]
    show (match big (zip2 ds ds).length with | true => _ | false => _) = _
    rw [hz2, lb]
    show (lcLoop _ _ _ [some d, some d, none, none] (zip2 ds ds) S).bind0 _ = _
    rw [hloop]
    rfl
  rw [u__law_same]
  generalize mComp false (iZip2 (mVar 0) (mVar 1)) (bTup 2 (bCons (bNm 2) (bCons (bNm 3) bNil))) tTrue (mCall (m__law_same n) (aCons (mVar 2) (aCons (mVar 3) aNil))) [2, 3] = C at *
  generalize (ds.map fun _ => D.bl true) = R at *
  generalize D.int ds.length = L at *
  generalize D.lst R = R' at *
  generalize oIsi = G at *
  generalize opEq true = Q1 at *
  generalize opEq false = Q at *
  simp only [mDef, Nat.beq, List.length_cons, List.length_nil, List.map_cons, List.map_nil, List.replicate, List.append_nil, List.cons_append, List.nil_append, sSeq, sNil, sSet, sAsg, sPar, sDrop, sRet, sRetN, sIf, sFor, sWhile, sSub, sStuck, sBreak, sCont, Res.st, Res.bind, Res.bind0, mVar, mC, mOp2, mOp1, liftO, mIf, mAndT, mOrT, mNot, truD, tTru, liftB, tBl, blOf, mChain, tAnd2, tOr2, tNot1, tTrue, aNil, aCons, aStar, mTup, mLst, mkList, mCB, mCall, oAbs, oInt, oMin2, oTuple, oSum, oAny, seqOf, lstR, lstOf, mSl, mPart, mNoPart, opSl, iSeq, iZip2, iEnum1, jRng1, jRng2, fixOf, fixL, mListOf, mListRg, vRng1, vRng2, bNm, setE, wipeE, List.getElem?_cons_zero, List.getElem?_cons_succ, List.set_cons_zero, List.set_cons_succ, opIsN, opNotN, isNone, opAdd_int, opSub_int, opNeg_int, opLt_int, opLe_int, opGt_int, opGe_int, bTup, bCons, bNil, if_true, beq_n, Bool.not_true, Bool.not_false, Int.reduceNeg, big, Nat.ble, h1, h3, h4, e3, e4, hl, el, hc, ha]
theorem same_loop {n : Nat} {d : D} {S : Sto} : ∀ {ds : List D}, (∀ x ∈ ds, m__law_same n [x, x] S = .ok (.bl true) S) → lcLoop (bTup 2 (bCons (bNm 2) (bCons (bNm 3) bNil))) tTrue (mCall (m__law_same n) (aCons (mVar 2) (aCons (mVar 3) aNil))) [some d, some d, none, none] (zip2 ds ds) S = .ok (ds.map fun _ => .bl true) S := by
  intro ds h
  rw [lcLoop_map (g := fun _ => .bl true)]
  · congr 1
    have : ∀ l : List D, (zip2 l l).map (fun _ => D.bl true) = l.map fun _ => D.bl true := by
      intro l
      induction l with
      | nil => rfl
      | cons x l ih => show D.bl true :: (zip2 l l).map _ = _; rw [ih]; rfl
    exact this ds
  · intro y hy
    obtain ⟨x, hx, rfl⟩ := zip2_self hy
    refine ⟨_, rfl, rfl, ?_⟩
    exact h x hx
theorem eqb (b : Bool) (S : Sto) : opEq false (.bl b) (.bl b) S = some (.bl true) ∧ opEq true (.bl b) (.bl b) S = some (.bl false) := by
  cases b <;> exact ⟨rfl, rfl⟩
theorem same_refl : ∀ (n : Nat) (d : D), sameOk n d = true → ∀ S, m__law_same (n + 1) [d, d] S = .ok (.bl true) S := by
  have atom : ∀ (n : Nat) (S : Sto), (m__law_same (n + 1) [.non, .non] S = .ok (.bl true) S) ∧ (∀ b, m__law_same (n + 1) [.bl b, .bl b] S = .ok (.bl true) S) ∧ (∀ i, m__law_same (n + 1) [.int i, .int i] S = .ok (.bl true) S) ∧ (∀ x, m__law_same (n + 1) [.str x, .str x] S = .ok (.bl true) S) := by
    intro n S
    refine ⟨same_a rfl rfl rfl rfl rfl rfl (eqb _ _).1 (eqb _ _).1 (.inl rfl), fun b => same_a rfl rfl rfl (eqb b S).1 rfl rfl (eqb _ _).1 (eqb _ _).1 (.inl rfl), fun i => same_a rfl rfl rfl ?_ rfl rfl (eqb _ _).1 (eqb _ _).1 (.inr ⟨rfl, rfl⟩), fun x => same_a rfl rfl rfl ?_ rfl rfl (eqb _ _).1 (eqb _ _).1 (.inl rfl)⟩
    · have := opEq_int (neg := false) (S := S) i i
      simpa using this
    · show some (D.bl (PyData.eqv (.str x) (.str x))) = _
      unfold PyData.eqv
      simp
  intro n
  induction n with
  | zero =>
    intro d h S
    cases d <;> first | (cases h; done) | exact (atom 0 S).1 | exact (atom 0 S).2.1 _ | exact (atom 0 S).2.2.1 _ | exact (atom 0 S).2.2.2 _
  | succ n ih =>
    intro d h S
    have eli : ∀ i : Int, opEq false (.int i) (.int i) S = some (.bl true) := fun i => by
      have := opEq_int (neg := false) (S := S) i i
      simpa using this
    cases d <;> first | (cases h; done) | exact (atom _ S).1 | exact (atom _ S).2.1 _ | exact (atom _ S).2.2.1 _ | exact (atom _ S).2.2.2 _ | skip
    · rename_i xs
      have h : (big xs.length && xs.all (sameOk n)) = true := h
      rw [Bool.and_eq_true, List.all_eq_true] at h
      exact same_b (ds := xs) false true h.1 rfl rfl rfl rfl (eqb _ _).2 (eqb _ _).2 (eli _) rfl (same_loop fun x hx => ih x (h.2 x hx) S)
    · rename_i xs
      have h : (big xs.length && xs.all (sameOk n)) = true := h
      rw [Bool.and_eq_true, List.all_eq_true] at h
      exact same_b (ds := xs) true false h.1 rfl rfl rfl rfl (eqb _ _).2 (eqb _ _).2 (eli _) rfl (same_loop fun x hx => ih x (h.2 x hx) S)
end K22

namespace K22
open PySem PySem.Spec PyProof.Rows L2 Mi
/-! ### draws -/
theorem ix_ref {S : Sto} {i : Nat} {xs : List D} (h : S.get i = some (.ml xs)) (k : Int) : opIx (.ref i) (.int k) S = match ixN xs.length k with | some j => xs[j]? | none => none := by
  unfold opIx
  have e : seqOf S (.ref i) = some xs := by
    show (match S.get i with | some (.ml ys) => some ys | _ => none) = _
    rw [h]
  rw [e] <;> rfl
theorem sub_ref {S : Sto} {i : Nat} {xs : List D} {E : Mi.Env} {fo fi fe : ME} {k : Int} {j : Nat} {d : D} (hd : fe E S = .ok d S) (ho : fo E S = .ok (.ref i) S) (hk : fi E S = .ok (.int k) S) (h : S.get i = some (.ml xs)) (hj : ixN xs.length k = some j) : sSub fo fi fe E S = .nx E (S.put i (.ml (xs.set j d))) := by
  unfold sSub
  rw [hd]
  show (fo E S).st E _ = _
  rw [ho]
  show (fi E S).st E _ = _
  rw [hk]
  show (match S.get i with | some (.ml xs) => (match ixN xs.length k with | some j => Fl.nx E (S.put i (.ml (xs.set j d))) | none => .stuck) | _ => .stuck) = _
  rw [h]
  show (match ixN xs.length k with | some j => Fl.nx E (S.put i (.ml (xs.set j d))) | none => .stuck) = _
  rw [hj]
theorem take_a {i : Nat} {A B C b r y : D} {S : Sto} (hg : S.get i = some (.ml [A, B, C])) (h1 : opGt A (.int 0) S = some (.bl true)) (h2 : oInt [A] S = some A) (h3 : opMod A b S = some r) (h4 : opDiv A b S = some y) : m__law_take [.ref i, b] S = .ok r (S.put i (.ml [y, B, C])) := by
  have i0 : opIx (.ref i) (.int 0) S = some A := ix_ref hg 0
  have hs : sSub (mVar 0) (mC (.int 0)) (mOp2 opDiv (mOp2 opIx (mVar 0) (mC (.int 0))) (mVar 1)) [some (.ref i), some b, some r, none, none, none] S = .nx [some (.ref i), some b, some r, none, none, none] (S.put i (.ml [y, B, C])) := by
    refine sub_ref (k := 0) (j := 0) ?_ rfl rfl hg rfl
    generalize opIx = G at *
    generalize opDiv = G2 at *
    simp only [mDef, Nat.beq, List.length_cons, List.length_nil, List.map_cons, List.map_nil, List.replicate, List.append_nil, List.cons_append, List.nil_append, sSeq, sNil, sSet, sAsg, sPar, sDrop, sRet, sRetN, sIf, sFor, sWhile, sSub, sStuck, sBreak, sCont, Res.st, Res.bind, Res.bind0, mVar, mC, mOp2, mOp1, liftO, mIf, mAndT, mOrT, mNot, truD, tTru, liftB, tBl, blOf, mChain, tAnd2, tOr2, tNot1, tTrue, aNil, aCons, aStar, mTup, mLst, mkList, mCB, mCall, oLen, oAbs, oInt, oMax2, oMin2, oTuple, oAll, oSum, oAny, seqOf, lstR, lstOf, mSl, mPart, mNoPart, opSl, mComp, iSeq, iZip2, iEnum1, jRng1, jRng2, fixOf, fixL, mListOf, mListRg, vRng1, vRng2, bNm, setE, wipeE, List.getElem?_cons_zero, List.getElem?_cons_succ, List.set_cons_zero, List.set_cons_succ, opIsN, opNotN, isNone, opAdd_int, opSub_int, opNeg_int, opLt_int, opLe_int, opGt_int, opGe_int, bTup, bCons, bNil, if_true, beq_n, Bool.not_true, Bool.not_false, Int.reduceNeg, i0, h4]
  rw [u__law_take]
  generalize sSub (mVar 0) (mC (.int 0)) (mOp2 opDiv (mOp2 opIx (mVar 0) (mC (.int 0))) (mVar 1)) = SS at *
  generalize sSub (mVar 0) (mC (.int 2)) _ = SS2
  generalize opIx = G at *
  generalize opMod = G1 at *
  generalize opMul = G2 at *
  generalize opDiv = G3 at *
  generalize opGt = G4 at *
  generalize oInt = G5 at *
  generalize S.put i (.ml [y, B, C]) = S1 at *
  simp only [mDef, Nat.beq, List.length_cons, List.length_nil, List.map_cons, List.map_nil, List.replicate, List.append_nil, List.cons_append, List.nil_append, sSeq, sNil, sSet, sAsg, sPar, sDrop, sRet, sRetN, sIf, sFor, sWhile, sSub, sStuck, sBreak, sCont, Res.st, Res.bind, Res.bind0, mVar, mC, mOp2, mOp1, liftO, mIf, mAndT, mOrT, mNot, truD, tTru, liftB, tBl, blOf, mChain, tAnd2, tOr2, tNot1, tTrue, aNil, aCons, aStar, mTup, mLst, mkList, mCB, mCall, oLen, oAbs, oMax2, oMin2, oTuple, oAll, oSum, oAny, seqOf, lstR, lstOf, mSl, mPart, mNoPart, opSl, mComp, iSeq, iZip2, iEnum1, jRng1, jRng2, fixOf, fixL, mListOf, mListRg, vRng1, vRng2, bNm, setE, wipeE, List.getElem?_cons_zero, List.getElem?_cons_succ, List.set_cons_zero, List.set_cons_succ, opIsN, opNotN, isNone, opSub_int, opNeg_int, opLt_int, opLe_int, opGe_int, bTup, bCons, bNil, if_true, beq_n, Bool.not_true, Bool.not_false, Int.reduceNeg, i0, h1, h2, h3, hs]
theorem take_b {i : Nat} {A B C C' b u1 u2 u3 u4 once u5 broad u6 u7 u8 u9 twice u10 u11 u12 u13 r : D} {S S2 : Sto} (hg : S.get i = some (.ml [A, B, C])) (h1 : opGt A (.int 0) S = some (.bl false)) (o1 : opAdd C (.int 1) S = some C') (hS2 : S2 = S.put i (.ml [A, B, C']))
    (m1 : opMul (.int 48271) C' S2 = some u1) (a1 : opAdd B u1 S2 = some u2) (a2 : opAdd (.int 39373) C' S2 = some u3) (m2 : opMul u2 u3 S2 = some u4) (i4 : oInt [u4] S2 = some u4) (r1 : opMod u4 (.int 2147483647) S2 = some once) (io : oInt [once] S2 = some once)
    (r2 : opMod once (.int 40009) S2 = some u5) (a3 : opAdd u5 (.int 7) S2 = some broad) (a4 : opAdd once C' S2 = some u6) (d1 : opDiv B (.int 1000003) S2 = some u7) (a5 : opAdd u6 u7 S2 = some u8) (m3 : opMul u8 broad S2 = some u9) (i9 : oInt [u9] S2 = some u9) (r3 : opMod u9 (.int 2147483629) S2 = some twice)
    (m4 : opMul twice (.int 48271) S2 = some u10) (a6 : opAdd u10 once S2 = some u11) (i11 : oInt [u11] S2 = some u11) (r4 : opMod u11 (.int 2147483587) S2 = some u12) (d2 : opDiv u12 (.int 64) S2 = some u13) (i13 : oInt [u13] S2 = some u13) (r5 : opMod u13 b S2 = some r) : m__law_take [.ref i, b] S = .ok r S2 := by
  have i0 : opIx (.ref i) (.int 0) S = some A := ix_ref hg 0
  have i2 : opIx (.ref i) (.int 2) S = some C := ix_ref hg 2
  have hg2 : S2.get i = some (.ml [A, B, C']) := by rw [hS2, Sto.get_put, if_pos rfl, hg]; rfl
  have j1 : opIx (.ref i) (.int 1) S2 = some B := ix_ref hg2 1
  have j2 : opIx (.ref i) (.int 2) S2 = some C' := ix_ref hg2 2
  have hs : sSub (mVar 0) (mC (.int 2)) (mOp2 opAdd (mOp2 opIx (mVar 0) (mC (.int 2))) (mC (.int 1))) [some (.ref i), some b, none, none, none, none] S = .nx [some (.ref i), some b, none, none, none, none] S2 := by
    rw [hS2]
    refine sub_ref (k := 2) (j := 2) ?_ rfl rfl hg rfl
    generalize opIx = G at *
    generalize opAdd = G2 at *
    simp only [mDef, Nat.beq, List.length_cons, List.length_nil, List.map_cons, List.map_nil, List.replicate, List.append_nil, List.cons_append, List.nil_append, sSeq, sNil, sSet, sAsg, sPar, sDrop, sRet, sRetN, sIf, sFor, sWhile, sSub, sStuck, sBreak, sCont, Res.st, Res.bind, Res.bind0, mVar, mC, mOp2, mOp1, liftO, mIf, mAndT, mOrT, mNot, truD, tTru, liftB, tBl, blOf, mChain, tAnd2, tOr2, tNot1, tTrue, aNil, aCons, aStar, mTup, mLst, mkList, mCB, mCall, oLen, oAbs, oMax2, oMin2, oTuple, oAll, oSum, oAny, seqOf, lstR, lstOf, mSl, mPart, mNoPart, opSl, mComp, iSeq, iZip2, iEnum1, jRng1, jRng2, fixOf, fixL, mListOf, mListRg, vRng1, vRng2, bNm, setE, wipeE, List.getElem?_cons_zero, List.getElem?_cons_succ, List.set_cons_zero, List.set_cons_succ, opIsN, opNotN, isNone, opSub_int, opNeg_int, opLt_int, opLe_int, opGe_int, bTup, bCons, bNil, if_true, beq_n, Bool.not_true, Bool.not_false, Int.reduceNeg, i0, i2, o1]
  rw [u__law_take]
  generalize sSub (mVar 0) (mC (.int 2)) (mOp2 opAdd (mOp2 opIx (mVar 0) (mC (.int 2))) (mC (.int 1))) = SS at *
  generalize sSub (mVar 0) (mC (.int 0)) _ = SS2
  generalize D.int 48271 = k1 at *
  generalize D.int 39373 = k2 at *
  generalize D.int 2147483647 = k3 at *
  generalize D.int 40009 = k4 at *
  generalize D.int 1000003 = k5 at *
  generalize D.int 2147483629 = k6 at *
  generalize D.int 2147483587 = k7 at *
  clear hS2 hg hg2
  generalize opIx = G at *
  generalize opMod = G1 at *
  generalize opMul = G2 at *
  generalize opDiv = G3 at *
  generalize opGt = G4 at *
  generalize oInt = G5 at *
  generalize opAdd = G6 at *
  simp only [mDef, Nat.beq, List.length_cons, List.length_nil, List.map_cons, List.map_nil, List.replicate, List.append_nil, List.cons_append, List.nil_append, sSeq, sNil, sSet, sAsg, sPar, sDrop, sRet, sRetN, sIf, sFor, sWhile, sSub, sStuck, sBreak, sCont, Res.st, Res.bind, Res.bind0, mVar, mC, mOp2, mOp1, liftO, mIf, mAndT, mOrT, mNot, truD, tTru, liftB, tBl, blOf, mChain, tAnd2, tOr2, tNot1, tTrue, aNil, aCons, aStar, mTup, mLst, mkList, mCB, mCall, oLen, oAbs, oMax2, oMin2, oTuple, oAll, oSum, oAny, seqOf, lstR, lstOf, mSl, mPart, mNoPart, opSl, mComp, iSeq, iZip2, iEnum1, jRng1, jRng2, fixOf, fixL, mListOf, mListRg, vRng1, vRng2, bNm, setE, wipeE, List.getElem?_cons_zero, List.getElem?_cons_succ, List.set_cons_zero, List.set_cons_succ, opIsN, opNotN, isNone, opSub_int, opNeg_int, opLt_int, opLe_int, opGe_int, bTup, bCons, bNil, if_true, beq_n, Bool.not_true, Bool.not_false, Int.reduceNeg, i0, h1, hs, j1, j2, m1, a1, a2, m2, i4, r1, io, r2, a3, a4, d1, a5, m3, i9, r3, m4, a6, i11, r4, d2, i13, r5]
/-- the drawer -/
def Tin (i : Nat) (k : Int) (S : Sto) : Prop := ∃ a b c : Int, S.get i = some (.ml [.int a, .int b, .int c]) ∧ 0 ≤ b ∧ b < 2 ^ 63 ∧ 0 ≤ c ∧ c ≤ k
theorem e_take {i : Nat} {k : Int} {S : Sto} (h : Tin i k S) (hk : k ≤ 1000000) {b : Int} (hb : 0 < b) (hb2 : b < 1073741824) : ∃ r S', m__law_take [.ref i, .int b] S = .ok (.int r) S' ∧ 0 ≤ r ∧ r < b ∧ Tin i (k + 1) S' := by
  obtain ⟨a, t, c, hg, t0, t1, c0, ck⟩ := h
  by_cases ha : 0 < a
  · refine ⟨a.fmod b, S.put i (.ml [.int (a.fdiv b), .int t, .int c]), take_a hg (by rw [opGt_int, decide_eq_true ha]) rfl (opMod_int (by omega)) (opDiv_int (by omega) (by omega)), Int.fmod_nonneg_of_pos _ hb, Int.fmod_lt_of_pos _ hb, ⟨a.fdiv b, t, c, ?_, t0, t1, c0, by omega⟩⟩
    rw [Sto.get_put, if_pos rfl, hg]; rfl
  · refine ⟨_, S.put i (.ml [.int a, .int t, .int (c + 1)]), take_b (S2 := S.put i (.ml [.int a, .int t, .int (c + 1)])) hg (by rw [opGt_int, decide_eq_false ha]) opAdd_int rfl (opMul_l (by decide) (by decide)) opAdd_int opAdd_int (opMul_r (by omega) (by omega)) rfl (opMod_int (by decide)) rfl (opMod_int (by decide)) opAdd_int opAdd_int (opDiv_int (by decide) (by decide)) opAdd_int (opMul_r ?_ ?_) rfl (opMod_int (by decide)) (opMul_r (by decide) (by decide)) opAdd_int rfl (opMod_int (by decide)) (opDiv_int (by decide) (by decide)) rfl (opMod_int (by omega)), Int.fmod_nonneg_of_pos _ hb, Int.fmod_lt_of_pos _ hb, ⟨a, t, c + 1, ?_, t0, t1, by omega, by omega⟩⟩
    · have := Int.fmod_nonneg_of_pos (((t + 48271 * (c + 1)) * (39373 + (c + 1))).fmod 2147483647) (b := 40009) (by decide)
      omega
    · have := Int.fmod_lt_of_pos (((t + 48271 * (c + 1)) * (39373 + (c + 1))).fmod 2147483647) (b := 40009) (by decide)
      omega
    · rw [Sto.get_put, if_pos rfl, hg]; rfl
end K22

namespace K22
open PySem PySem.Spec PyProof.Rows L2 Mi
theorem box_a {j : Nat} {s0 n ab pw g gi w0 s0' md m39 z1 z2 : D} {xs : List D} {S : Sto} (hl : oLen [.ref j] S = some n) (h1 : opLt (.int 0) n S = some (.bl true)) (h2 : opIx (.ref j) (.int 0) S = some s0) (h3 : oAbs [s0] S = some ab) (h4 : opPow (.int 10) (.int 18) S = some pw) (h5 : opGe ab pw S = some g) (h6 : oInt [g] S = some gi) (h7 : opMul ab gi S = some w0)
    (h8 : oInt [s0] S = some s0') (h9 : opMod s0' (.int 2305843009213693951) S = some md) (h10 : opMul (.int 39373) (.int 0) S = some m39) (h11 : opAdd md m39 S = some z1) (h12 : opAdd z1 (.int 2518279) S = some z2) : m__law_box [.ref j, .int 0] S = .ok (.ref S.next) (S.new (.ml [w0, z2, .int 0])) := by
  rw [u__law_box]
  generalize D.int 39373 = k1 at *
  generalize D.int 2518279 = k2 at *
  generalize D.int 2305843009213693951 = k3 at *
  generalize D.int 10 = k4 at *
  generalize D.int 18 = k5 at *
  generalize opIx = G at *
  generalize opMod = G1 at *
  generalize opMul = G2 at *
  generalize opPow = G3 at *
  generalize opGe = G4 at *
  generalize oInt = G5 at *
  generalize opAdd = G6 at *
  generalize oAbs = G7 at *
  generalize opLt = G8 at *
  generalize oLen = G9 at *
  simp only [mDef, Nat.beq, List.length_cons, List.length_nil, List.map_cons, List.map_nil, List.replicate, List.append_nil, List.cons_append, List.nil_append, sSeq, sNil, sSet, sAsg, sPar, sDrop, sRet, sRetN, sIf, sFor, sWhile, sSub, sStuck, sBreak, sCont, Res.st, Res.bind, Res.bind0, mVar, mC, mOp2, mOp1, liftO, mIf, mAndT, mOrT, mNot, truD, tTru, liftB, tBl, blOf, mChain, tAnd2, tOr2, tNot1, tTrue, aNil, aCons, aStar, mTup, mLst, mkList, mCB, mCall, seqOf, lstR, lstOf, mSl, mPart, mNoPart, opSl, mComp, iSeq, iZip2, iEnum1, jRng1, jRng2, fixOf, fixL, mListOf, mListRg, vRng1, vRng2, bNm, setE, wipeE, List.getElem?_cons_zero, List.getElem?_cons_succ, List.set_cons_zero, List.set_cons_succ, opIsN, opNotN, isNone, bTup, bCons, bNil, if_true, beq_n, Bool.not_true, Bool.not_false, Int.reduceNeg, hl, h1, h2, h3, h4, h5, h6, h7, h8, h9, h10, h11, h12, big, Nat.ble]
theorem len_ref {S : Sto} {i : Nat} {xs : List D} (h : S.get i = some (.ml xs)) : oLen [.ref i] S = some (.int xs.length) := by
  have e : seqOf S (.ref i) = some xs := by
    show (match S.get i with | some (.ml ys) => some ys | _ => none) = _
    rw [h]
  unfold oLen
  simp only [e]
theorem e_box {j : Nat} {x : Int} {cs : List D} {S : Sto} (hg : S.get j = some (.ml (.int x :: cs))) : ∃ S', m__law_box [.ref j, .int 0] S = .ok (.ref S.next) S' ∧ Tin S.next 0 S' := by
  have hx : opIx (.ref j) (.int 0) S = some (.int x) := by
    rw [ix_ref hg, show ixN (D.int x :: cs).length 0 = some 0 from by unfold ixN; rw [if_pos (by decide), if_pos (by rw [List.length_cons]; omega)]; rfl]
    rfl
  have hlt : opLt (.int 0) (.int ((D.int x :: cs).length : Int)) S = some (.bl true) := by
    rw [opLt_int, decide_eq_true (by rw [List.length_cons]; omega)]
  have hgi : ∀ b : Bool, oInt [.bl b] S = some (.int (if b then 1 else 0)) := fun _ => rfl
  have hT : ∀ u v : Int, 0 ≤ v → v < 2 ^ 63 → Tin S.next 0 (S.new (.ml [.int u, .int v, .int 0])) := fun u v v0 v1 => ⟨u, v, 0, by rw [Sto.get_new, if_pos rfl], v0, v1, Int.le_refl _, Int.le_refl _⟩
  have v0 := Int.fmod_nonneg_of_pos x (b := 2305843009213693951) (by decide)
  have v1 := Int.fmod_lt_of_pos x (b := 2305843009213693951) (by decide)
  have hb01 : ∀ b : Bool, -(2 ^ 64) < (if b = true then (1 : Int) else 0) ∧ (if b = true then (1 : Int) else 0) < 2 ^ 64 := by
    intro b
    cases b <;> decide
  exact ⟨_, box_a (xs := cs) (len_ref hg) hlt hx rfl rfl opGe_int (hgi _) (opMul_r (hb01 _).1 (hb01 _).2) rfl (opMod_int (by decide)) (opMul_l (by decide) (by decide)) opAdd_int opAdd_int, hT _ _ (by omega) (by omega)⟩
/-! ### the cells -/
def clBody : MS := sSeq (sSet 5 (mOp2 opMod (mCB oInt (aCons (mVar 3) aNil)) (mVar 1))) (sSub (mVar 2) (mVar 5) (mOp2 opAdd (mOp2 opIx (mVar 2) (mVar 5)) (mOp2 opMul (mVar 4) (mOp2 opAdd (mVar 3) (mC (.int 2))))))
theorem cl_body {i : Nat} {x0 : Option D} {m k x p c k2 u w u5 : D} {pi : Int} {pj : Nat} {cs : List D} {S : Sto} (hg : S.get i = some (.ml cs)) (h1 : oInt [k] S = some k) (h2 : opMod k m S = some (.int pi)) (hj : ixN cs.length pi = some pj) (h3 : opIx (.ref i) (.int pi) S = some c)
    (h4 : opAdd k (.int 2) S = some k2) (h5 : opMul x k2 S = some u) (h6 : opAdd c u S = some w) (u5 : Option D) : clBody [x0, some m, some (.ref i), some k, some x, u5] S = .nx [x0, some m, some (.ref i), some k, some x, some (.int pi)] (S.put i (.ml (cs.set pj w))) := by
  have hs : sSub (mVar 2) (mVar 5) (mOp2 opAdd (mOp2 opIx (mVar 2) (mVar 5)) (mOp2 opMul (mVar 4) (mOp2 opAdd (mVar 3) (mC (.int 2))))) [x0, some m, some (.ref i), some k, some x, some (.int pi)] S = .nx [x0, some m, some (.ref i), some k, some x, some (.int pi)] (S.put i (.ml (cs.set pj w))) := by
    refine sub_ref (k := pi) (j := pj) ?_ rfl rfl hg hj
    generalize opIx = G at *
    generalize opMul = G2 at *
    generalize opAdd = G6 at *
    simp only [mDef, Nat.beq, List.length_cons, List.length_nil, List.map_cons, List.map_nil, List.replicate, List.append_nil, List.cons_append, List.nil_append, sSeq, sNil, sSet, sAsg, sPar, sDrop, sRet, sRetN, sIf, sFor, sWhile, sSub, sStuck, sBreak, sCont, Res.st, Res.bind, Res.bind0, mVar, mC, mOp2, mOp1, liftO, mIf, mAndT, mOrT, mNot, truD, tTru, liftB, tBl, blOf, mChain, tAnd2, tOr2, tNot1, tTrue, aNil, aCons, aStar, mTup, mLst, mkList, mCB, mCall, seqOf, lstR, lstOf, mSl, mPart, mNoPart, opSl, mComp, iSeq, iZip2, iEnum1, jRng1, jRng2, fixOf, fixL, mListOf, mListRg, vRng1, vRng2, bNm, setE, wipeE, List.getElem?_cons_zero, List.getElem?_cons_succ, List.set_cons_zero, List.set_cons_succ, opIsN, opNotN, isNone, bTup, bCons, bNil, if_true, beq_n, Bool.not_true, Bool.not_false, Int.reduceNeg, h3, h4, h5, h6]
  unfold clBody
  generalize sSub (mVar 2) (mVar 5) (mOp2 opAdd (mOp2 opIx (mVar 2) (mVar 5)) (mOp2 opMul (mVar 4) (mOp2 opAdd (mVar 3) (mC (.int 2))))) = SS at *
  generalize S.put i (.ml (cs.set pj w)) = S1 at *
  generalize opMod = G1 at *
  generalize oInt = G5 at *
  simp only [mDef, Nat.beq, List.length_cons, List.length_nil, List.map_cons, List.map_nil, List.replicate, List.append_nil, List.cons_append, List.nil_append, sSeq, sNil, sSet, sAsg, sPar, sDrop, sRet, sRetN, sIf, sFor, sWhile, sSub, sStuck, sBreak, sCont, Res.st, Res.bind, Res.bind0, mVar, mC, mOp2, mOp1, liftO, mIf, mAndT, mOrT, mNot, truD, tTru, liftB, tBl, blOf, mChain, tAnd2, tOr2, tNot1, tTrue, aNil, aCons, aStar, mTup, mLst, mkList, mCB, mCall, seqOf, lstR, lstOf, mSl, mPart, mNoPart, opSl, mComp, iSeq, iZip2, iEnum1, jRng1, jRng2, fixOf, fixL, mListOf, mListRg, vRng1, vRng2, bNm, setE, wipeE, List.getElem?_cons_zero, List.getElem?_cons_succ, List.set_cons_zero, List.set_cons_succ, opIsN, opNotN, isNone, bTup, bCons, bNil, if_true, beq_n, Bool.not_true, Bool.not_false, Int.reduceNeg, h1, h2, hs]
theorem cl_loop {i m : Nat} {x0 : Option D} (hm : 0 < m) : ∀ (l : List Int) (k : Nat) (cs : List Int) (S : Sto) (u3 u4 u5 : Option D), k + l.length ≤ 1000 → cs.length = m → S.get i = some (.ml (cs.map .int)) →
    ∃ (v3 v4 v5 : Option D) (cs' : List Int) (S' : Sto), forLoop (bTup 2 (bCons (bNm 3) (bCons (bNm 4) bNil))) clBody (enumFrom k (l.map .int)) [x0, some (.int m), some (.ref i), u3, u4, u5] S = .nx [x0, some (.int m), some (.ref i), v3, v4, v5] S' ∧ cs'.length = m ∧ S'.get i = some (.ml (cs'.map .int)) ∧ S'.next = S.next
  | [], k, cs, S, u3, u4, u5, _, hc, hg => ⟨u3, u4, u5, cs, S, rfl, hc, hg, rfl⟩
  | x :: l, k, cs, S, u3, u4, u5, hk, hc, hg => by
    have hlt : k % m < m := Nat.mod_lt _ hm
    have hx : ((cs.map D.int))[k % m]? = some (.int (cs.getD (k % m) 0)) := by
      rw [List.getElem?_map, List.getD_eq_getElem?_getD, List.getElem?_eq_getElem (by omega)]
      rfl
    have hix : opIx (.ref i) (.int ((k % m : Nat) : Int)) S = some (.int (cs.getD (k % m) 0)) := by
      rw [ix_ref hg, ixN_nat (by rw [List.length_map]; omega)]
      exact hx
    have hb := cl_body (x0 := x0) (m := .int m) (k := .int k) (x := .int x) (p := .non) (u5 := .non) (pi := ((k % m : Nat) : Int)) (pj := k % m) hg rfl (opMod_nat (a := k) (b := m) (by omega)) (ixN_nat (by rw [List.length_map]; omega)) hix opAdd_int (opMul_r (by simp at hk; omega) (by simp at hk; omega)) opAdd_int u5
    have hset : (cs.map D.int).set (k % m) (.int (cs.getD (k % m) 0 + x * ((k : Int) + 2))) = (cs.set (k % m) (cs.getD (k % m) 0 + x * ((k : Int) + 2))).map .int := List.map_set.symm
    rw [hset] at hb
    obtain ⟨v3, v4, v5, cs', S', h1, h2, h3, h4⟩ := cl_loop hm (x0 := x0) (i := i) l (k + 1) (cs.set (k % m) (cs.getD (k % m) 0 + x * ((k : Int) + 2))) (S.put i (.ml ((cs.set (k % m) (cs.getD (k % m) 0 + x * ((k : Int) + 2))).map .int))) (some (.int k)) (some (.int x)) (some (.int ((k % m : Nat) : Int))) (by simp at hk; omega) (by rw [List.length_set]; exact hc) (by rw [Sto.get_put, if_pos rfl, hg]; rfl)
    refine ⟨v3, v4, v5, cs', S', ?_, h2, h3, h4⟩
    rw [List.map_cons]
    show forLoop _ clBody (.tup [.int k, .int x] :: enumFrom (k + 1) (l.map .int)) _ S = _
    rw [for_nx (l := [(3, .int k), (4, .int x)]) rfl hb]
    exact h1
/-! ### rows of draws -/
theorem row_body {i : Nat} {w n x r z : D} {S S' : Sto} (h : m__law_take [.ref i, w] S = .ok r S') (ha : opAdd (.int 1) r S' = some z) : mOp2 opAdd (mC (.int 1)) (mCall m__law_take (aCons (mVar 0) (aCons (mVar 1) aNil))) [some (.ref i), some w, some n, some x] S = .ok z S' := by
  generalize m__law_take = F at *
  generalize opAdd = G at *
  simp only [mDef, Nat.beq, List.length_cons, List.length_nil, List.map_cons, List.map_nil, List.replicate, List.append_nil, List.cons_append, List.nil_append, sSeq, sNil, sSet, sAsg, sPar, sDrop, sRet, sRetN, sIf, sFor, sWhile, sSub, sStuck, sBreak, sCont, Res.st, Res.bind, Res.bind0, mVar, mC, mOp2, mOp1, liftO, mIf, mAndT, mOrT, mNot, truD, tTru, liftB, tBl, blOf, mChain, tAnd2, tOr2, tNot1, tTrue, aNil, aCons, aStar, mTup, mLst, mkList, mCB, mCall, seqOf, lstR, lstOf, mSl, mPart, mNoPart, opSl, mComp, iSeq, iZip2, iEnum1, jRng1, jRng2, fixOf, fixL, mListOf, mListRg, vRng1, vRng2, bNm, setE, wipeE, List.getElem?_cons_zero, List.getElem?_cons_succ, List.set_cons_zero, List.set_cons_succ, opIsN, opNotN, isNone, bTup, bCons, bNil, if_true, beq_n, Bool.not_true, Bool.not_false, Int.reduceNeg, h, ha]
theorem row_loop {i : Nat} {w : Int} {n : D} (hw : 0 < w) (hw2 : w < 1073741824) : ∀ (m : Nat) (lo k : Int) (S : Sto), Tin i k S → k + m ≤ 1000000 → ∃ (l : List Int) (S' : Sto), lcLoop (bNm 3) tTrue (mOp2 opAdd (mC (.int 1)) (mCall m__law_take (aCons (mVar 0) (aCons (mVar 1) aNil)))) [some (.ref i), some (.int w), some n, none] (rngFrom lo m) S = .ok (l.map .int) S' ∧ l.length = m ∧ (∀ x ∈ l, 1 ≤ x ∧ x ≤ w) ∧ Tin i (k + m) S'
  | 0, lo, k, S, h, hk => ⟨[], S, rfl, rfl, fun x hx => absurd hx List.not_mem_nil, by simpa using h⟩
  | m + 1, lo, k, S, h, hk => by
    obtain ⟨r, S1, h1, r0, r1, t1⟩ := e_take h (by omega) hw hw2
    obtain ⟨l, S2, h2, h3, h4, h5⟩ := row_loop (n := n) hw hw2 m (lo + 1) (k + 1) S1 t1 (by omega)
    refine ⟨(1 + r) :: l, S2, ?_, by rw [List.length_cons, h3], fun x hx => ?_, by have e : k + 1 + (m : Int) = k + ((m + 1 : Nat) : Int) := by omega
                                                                                   rw [← e]; exact h5⟩
    · show lcLoop _ _ _ _ (.int lo :: rngFrom (lo + 1) m) S = _
      have hb := row_body (n := n) (x := .int lo) h1 opAdd_int
      conv => lhs; unfold lcLoop
      show (Res.ok true S).bind0 _ = _
      show (mOp2 opAdd (mC (.int 1)) (mCall m__law_take (aCons (mVar 0) (aCons (mVar 1) aNil))) [some (.ref i), some (.int w), some n, some (.int lo)] S).bind0 _ = _
      rw [hb]
      show (lcLoop _ _ _ _ (rngFrom (lo + 1) m) S1).bind0 _ = _
      rw [h2]
      rfl
    · rcases List.mem_cons.mp hx with e | hx
      · omega
      · exact h4 x hx
theorem row_a {i : Nat} {w n : D} {m : Int} {l : List Int} {S S' : Sto} (hn : n = .int m) (hb : big (rng 0 m).length = true) (h : lcLoop (bNm 3) tTrue (mOp2 opAdd (mC (.int 1)) (mCall m__law_take (aCons (mVar 0) (aCons (mVar 1) aNil)))) [some (.ref i), some w, some n, none] (rng 0 m) S = .ok (l.map .int) S') : m__law_row [.ref i, w, n] S = .ok (I l) S' := by
  have hc : mComp false (jRng1 (mVar 2)) (bNm 3) tTrue (mOp2 opAdd (mC (.int 1)) (mCall m__law_take (aCons (mVar 0) (aCons (mVar 1) aNil)))) [3] [some (.ref i), some w, some n, none] S = .ok (.lst (l.map .int)) S' := by
    subst hn
    unfold mComp
    show (match big (rng 0 m).length with | true => _ | false => _) = _
    rw [hb]
    show (lcLoop _ _ _ [some (.ref i), some w, some (.int m), none] (rng 0 m) S).bind0 _ = _
    rw [h]
    rfl
  rw [u__law_row]
  generalize mComp false (jRng1 (mVar 2)) (bNm 3) tTrue (mOp2 opAdd (mC (.int 1)) (mCall m__law_take (aCons (mVar 0) (aCons (mVar 1) aNil)))) [3] = C at *
  simp only [mDef, Nat.beq, List.length_cons, List.length_nil, List.map_cons, List.map_nil, List.replicate, List.append_nil, List.cons_append, List.nil_append, sSeq, sNil, sSet, sAsg, sPar, sDrop, sRet, sRetN, sIf, sFor, sWhile, sSub, sStuck, sBreak, sCont, Res.st, Res.bind, Res.bind0, mVar, mC, mOp2, mOp1, liftO, mIf, mAndT, mOrT, mNot, truD, tTru, liftB, tBl, blOf, mChain, tAnd2, tOr2, tNot1, tTrue, aNil, aCons, aStar, mTup, mLst, mkList, mCB, mCall, oLen, oAbs, oInt, oMax2, oMin2, oTuple, oAll, oSum, oAny, seqOf, lstR, lstOf, mSl, mPart, mNoPart, opSl, mComp, iSeq, iZip2, iEnum1, jRng1, jRng2, fixOf, fixL, mListOf, mListRg, vRng1, vRng2, bNm, setE, wipeE, List.getElem?_cons_zero, List.getElem?_cons_succ, List.set_cons_zero, List.set_cons_succ, opIsN, opNotN, isNone, opAdd_int, opSub_int, opNeg_int, opLt_int, opLe_int, opGt_int, opGe_int, bTup, bCons, bNil, if_true, beq_n, Bool.not_true, Bool.not_false, Int.reduceNeg, hc]
theorem rng0_len (m : Nat) : (rng 0 (m : Int)).length = m := by
  unfold rng
  rw [rngFrom_len]
  omega
theorem e_row {i : Nat} {w : Int} (hw : 0 < w) (hw2 : w < 1073741824) {m : Nat} {k : Int} {S : Sto} (h : Tin i k S) (hk : k + m ≤ 1000000) (hm : m ≤ 100000) : ∃ (l : List Int) (S' : Sto), m__law_row [.ref i, .int w, .int m] S = .ok (I l) S' ∧ l.length = m ∧ (∀ x ∈ l, 1 ≤ x ∧ x ≤ w) ∧ Tin i (k + m) S' := by
  obtain ⟨l, S', h1, h2, h3, h4⟩ := row_loop (n := .int m) hw hw2 m 0 k S h hk
  have e : rng 0 (m : Int) = rngFrom 0 m := by
    unfold rng
    congr 1
  exact ⟨l, S', row_a rfl (by rw [rng0_len]; exact big_of (by omega)) (by rw [e]; exact h1), h2, h3, h4⟩
theorem lasso_a {i : Nat} {w a b a1 r1 r2 r2' p q : D} {S S1 S2 S3 S4 : Sto} (h0 : opAdd a (.int 1) S = some a1) (h1 : m__law_take [.ref i, a1] S = .ok r1 S1) (h2 : m__law_row [.ref i, w, r1] S1 = .ok p S2) (h3 : m__law_take [.ref i, b] S2 = .ok r2 S3) (h4 : opAdd (.int 1) r2 S3 = some r2') (h5 : m__law_row [.ref i, w, r2'] S3 = .ok q S4) : m__law_lasso [.ref i, w, a, b] S = .ok (.tup [p, q]) S4 := by
  rw [u__law_lasso]
  generalize m__law_take = F at *
  generalize m__law_row = F2 at *
  generalize opAdd = G at *
  simp only [mDef, Nat.beq, List.length_cons, List.length_nil, List.map_cons, List.map_nil, List.replicate, List.append_nil, List.cons_append, List.nil_append, sSeq, sNil, sSet, sAsg, sPar, sDrop, sRet, sRetN, sIf, sFor, sWhile, sSub, sStuck, sBreak, sCont, Res.st, Res.bind, Res.bind0, mVar, mC, mOp2, mOp1, liftO, mIf, mAndT, mOrT, mNot, truD, tTru, liftB, tBl, blOf, mChain, tAnd2, tOr2, tNot1, tTrue, aNil, aCons, aStar, mTup, mLst, mkList, mCB, mCall, seqOf, lstR, lstOf, mSl, mPart, mNoPart, opSl, mComp, iSeq, iZip2, iEnum1, jRng1, jRng2, fixOf, fixL, mListOf, mListRg, vRng1, vRng2, bNm, setE, wipeE, List.getElem?_cons_zero, List.getElem?_cons_succ, List.set_cons_zero, List.set_cons_succ, opIsN, opNotN, isNone, bTup, bCons, bNil, if_true, beq_n, Bool.not_true, Bool.not_false, Int.reduceNeg, h0, h1, h2, h3, h4, h5, big, Nat.ble]
theorem e_lasso {i : Nat} {k : Int} {S : Sto} (h : Tin i k S) (hk : k ≤ 1000) : ∃ (a q : List Int) (S' : Sto), m__law_lasso [.ref i, .int 3, .int 6, .int 5] S = .ok (PD (a, q)) S' ∧ In3 a ∧ a.length ≤ 6 ∧ Rd q ∧ Tin i (k + 13) S' := by
  obtain ⟨r1, S1, h1, r10, r11, t1⟩ := e_take h (by omega) (b := 7) (by decide) (by decide)
  obtain ⟨n1, rfl⟩ := Int.eq_ofNat_of_zero_le r10
  obtain ⟨p, S2, h2, p1, p2, t2⟩ := e_row (w := 3) (by decide) (by decide) (m := n1) t1 (by omega) (by omega)
  obtain ⟨r2, S3, h3, r20, r21, t3⟩ := e_take t2 (by omega) (b := 5) (by decide) (by decide)
  obtain ⟨n2, rfl⟩ := Int.eq_ofNat_of_zero_le r20
  obtain ⟨q, S4, h4, q1, q2, t4⟩ := e_row (w := 3) (by decide) (by decide) (m := 1 + n2) t3 (by omega) (by omega)
  refine ⟨p, q, S4, lasso_a (a1 := .int 7) rfl h1 h2 h3 (r2' := .int ((1 + n2 : Nat) : Int)) ?_ h4, p2, by omega, ⟨q2, ?_, by omega⟩, ?_⟩
  · rw [opAdd_int]
    congr 2
  · intro z
    rw [z] at q1
    simp at q1
    omega
  · obtain ⟨x, y, z, g1, g2, g3, g4, g5⟩ := t4
    exact ⟨x, y, z, g1, g2, g3, g4, by omega⟩
/-! ### the sets -/
def goods : List (List Int) := [[1], [1, 2], [1, 2, 3], [1, 3], [2], [2, 3], [3]]
theorem e_sets (S : Sto) : m__law_sets [.int 3] S = .ok (.lst (goods.map I)) S := rfl
theorem of_a {i : Nat} {gs : List D} {r : Int} {j : Nat} {g : D} {S S' : Sto} (h1 : m__law_take [.ref i, .int gs.length] S = .ok (.int r) S') (hj : ixN gs.length r = some j) (hg : gs[j]? = some g) : m__law_of [.ref i, .lst gs] S = .ok g S' := by
  have hx : opIx (.lst gs) (.int r) S' = some g := by
    show (match ixN gs.length r with | some j => gs[j]? | none => none) = _
    rw [hj]
    exact hg
  have hl : oLen [.lst gs] S = some (.int gs.length) := rfl
  rw [u__law_of]
  generalize D.int gs.length = n at *
  generalize D.int r = r' at *
  generalize m__law_take = F at *
  generalize opIx = G at *
  generalize oLen = G2 at *
  simp only [mDef, Nat.beq, List.length_cons, List.length_nil, List.map_cons, List.map_nil, List.replicate, List.append_nil, List.cons_append, List.nil_append, sSeq, sNil, sSet, sAsg, sPar, sDrop, sRet, sRetN, sIf, sFor, sWhile, sSub, sStuck, sBreak, sCont, Res.st, Res.bind, Res.bind0, mVar, mC, mOp2, mOp1, liftO, mIf, mAndT, mOrT, mNot, truD, tTru, liftB, tBl, blOf, mChain, tAnd2, tOr2, tNot1, tTrue, aNil, aCons, aStar, mTup, mLst, mkList, mCB, mCall, seqOf, lstR, lstOf, mSl, mPart, mNoPart, opSl, mComp, iSeq, iZip2, iEnum1, jRng1, jRng2, fixOf, fixL, mListOf, mListRg, vRng1, vRng2, bNm, setE, wipeE, List.getElem?_cons_zero, List.getElem?_cons_succ, List.set_cons_zero, List.set_cons_succ, opIsN, opNotN, isNone, bTup, bCons, bNil, if_true, beq_n, Bool.not_true, Bool.not_false, Int.reduceNeg, hl, h1, hx]
theorem e_of {i : Nat} {k : Int} {S : Sto} (h : Tin i k S) (hk : k ≤ 1000) : ∃ (l : List Int) (S' : Sto), m__law_of [.ref i, .lst (goods.map I)] S = .ok (I l) S' ∧ Ls l ∧ Tin i (k + 1) S' := by
  obtain ⟨r, S', h1, r0, r1, t⟩ := e_take h (by omega) (b := 7) (by decide) (by decide)
  obtain ⟨n, rfl⟩ := Int.eq_ofNat_of_zero_le r0
  have hn : n < goods.length := by show n < 7; omega
  refine ⟨goods[n], S', of_a (gs := goods.map I) (r := (n : Int)) (j := n) h1 (ixN_nat (by rw [List.length_map]; exact hn)) (by rw [List.getElem?_map, List.getElem?_eq_getElem hn]; rfl), List.getElem_mem hn, t⟩
/-! ### lists of tuples -/
theorem lists_int (n : Nat) (i : Int) (S : Sto) : m__law_lists (n + 1) [.int i] S = .ok (.int i) S := rfl
theorem e_lists_I (n : Nat) (l : List Int) (hl : l.length ≤ 10000) (S : Sto) : m__law_lists (n + 2) [I l] S = .ok (IL l) S := by
  have hl : big l.length = true := big_of (by omega)
  have u : m__law_lists (n + 2) = mDef 2 1 (b__law_lists (m__law_lists (n + 1))) := rfl
  have hloop : lcLoop (bNm 1) tTrue (mCall (m__law_lists (n + 1)) (aCons (mVar 1) aNil)) [some (I l), none] (l.map .int) S = .ok (l.map .int) S := by
    rw [lcLoop_map (g := fun d => d)]
    · simp
    · intro d hd
      obtain ⟨y, hy, rfl⟩ := List.mem_map.mp hd
      exact ⟨_, rfl, rfl, rfl⟩
  rw [u]
  simp only [b__law_lists, mDef, Nat.beq, List.length_cons, List.length_nil, List.map_cons, List.map_nil, List.replicate, List.append_nil, List.cons_append, List.nil_append, sSeq, sNil, sSet, sAsg, sPar, sDrop, sRet, sRetN, sIf, sFor, sWhile, sSub, sStuck, sBreak, sCont, Res.st, Res.bind, Res.bind0, mVar, mC, mOp2, mOp1, liftO, mIf, mAndT, mOrT, mNot, truD, tTru, liftB, tBl, blOf, mChain, tAnd2, tOr2, tNot1, tTrue, aNil, aCons, aStar, mTup, mLst, mkList, mCB, mCall, oLen, oAbs, oInt, oMax2, oMin2, oTuple, oAll, oSum, oAny, seqOf, lstR, lstOf, mSl, mPart, mNoPart, opSl, mComp, iSeq, iZip2, iEnum1, jRng1, jRng2, fixOf, fixL, mListOf, mListRg, vRng1, vRng2, bNm, setE, wipeE, List.getElem?_cons_zero, List.getElem?_cons_succ, List.set_cons_zero, List.set_cons_succ, opIsN, opNotN, isNone, opAdd_int, opSub_int, opNeg_int, opLt_int, opLe_int, opGt_int, opGe_int, bTup, bCons, bNil, if_true, beq_n, Bool.not_true, Bool.not_false, Int.reduceNeg, I, oIsi, tyN, isiAny, tyArg, List.length_map, hl] at hloop ⊢
  have b2 : big (0 + 1 + 1) = true := rfl
  have c1 : isiB 4 4 = true := rfl
  have c2 : isiB 4 3 = false := rfl
  simp only [b2, mDef, Nat.beq, List.length_cons, List.length_nil, List.map_cons, List.map_nil, List.replicate, List.append_nil, List.cons_append, List.nil_append, sSeq, sNil, sSet, sAsg, sPar, sDrop, sRet, sRetN, sIf, sFor, sWhile, sSub, sStuck, sBreak, sCont, Res.st, Res.bind, Res.bind0, mVar, mC, mOp2, mOp1, liftO, mIf, mAndT, mOrT, mNot, truD, tTru, liftB, tBl, blOf, mChain, tAnd2, tOr2, tNot1, tTrue, aNil, aCons, aStar, mTup, mLst, mkList, mCB, mCall, oLen, oAbs, oInt, oMax2, oMin2, oTuple, oAll, oSum, oAny, seqOf, lstR, lstOf, mSl, mPart, mNoPart, opSl, mComp, iSeq, iZip2, iEnum1, jRng1, jRng2, fixOf, fixL, mListOf, mListRg, vRng1, vRng2, bNm, setE, wipeE, List.getElem?_cons_zero, List.getElem?_cons_succ, List.set_cons_zero, List.set_cons_succ, opIsN, opNotN, isNone, opAdd_int, opSub_int, opNeg_int, opLt_int, opLe_int, opGt_int, opGe_int, bTup, bCons, bNil, if_true, beq_n, Bool.not_true, Bool.not_false, Int.reduceNeg, oIsi, tyN, isiAny, tyArg, Nat.ble, c1, c2, List.length_map, hl, hloop, Bool.or_false, Bool.or_true]
theorem e_lists_P (a q : List Int) (ha : a.length ≤ 10000) (hq : q.length ≤ 10000) (S : Sto) : m__law_lists 4 [PD (a, q)] S = .ok (PL a q) S := by
  have u : m__law_lists 4 = mDef 2 1 (b__law_lists (m__law_lists 3)) := rfl
  rw [u]
  simp only [b__law_lists, mDef, Nat.beq, List.length_cons, List.length_nil, List.map_cons, List.map_nil, List.replicate, List.append_nil, List.cons_append, List.nil_append, sSeq, sNil, sSet, sAsg, sPar, sDrop, sRet, sRetN, sIf, sFor, sWhile, sSub, sStuck, sBreak, sCont, Res.st, Res.bind, Res.bind0, mVar, mC, mOp2, mOp1, liftO, mIf, mAndT, mOrT, mNot, truD, tTru, liftB, tBl, blOf, mChain, tAnd2, tOr2, tNot1, tTrue, aNil, aCons, aStar, mTup, mLst, mkList, mCB, mCall, oLen, oAbs, oInt, oMax2, oMin2, oTuple, oAll, oSum, oAny, seqOf, lstR, lstOf, mSl, mPart, mNoPart, opSl, mComp, iSeq, iZip2, iEnum1, jRng1, jRng2, fixOf, fixL, mListOf, mListRg, vRng1, vRng2, bNm, setE, wipeE, List.getElem?_cons_zero, List.getElem?_cons_succ, List.set_cons_zero, List.set_cons_succ, opIsN, opNotN, isNone, opAdd_int, opSub_int, opNeg_int, opLt_int, opLe_int, opGt_int, opGe_int, bTup, bCons, bNil, if_true, beq_n, Bool.not_true, Bool.not_false, Int.reduceNeg, PD, oIsi, tyN, isiAny, tyArg, lcLoop, e_lists_I 1 a ha, e_lists_I 1 q hq]
  rfl
end K22

namespace K22
open PySem PySem.Spec PyProof.Rows L2 Mi
def l0 : MS := (sSet 1 (mCall m__law_box (aCons (mCall m__law_cells (aCons (mVar 0) (aCons (mC (.int 1)) aNil))) (aCons (mC (.int 0)) aNil))))
def l1 : MS := (sAsg (bTup 2 (bCons (bNm 2) (bCons (bNm 3) bNil))) (mTup (aCons (mCall m__law_lasso (aCons (mVar 1) (aCons (mC (.int 3)) (aCons (mC (.int 6)) (aCons (mC (.int 5)) aNil))))) (aCons (mCall m__law_of (aCons (mVar 1) (aCons (mCall m__law_sets (aCons (mC (.int 3)) aNil)) aNil))) aNil))))
def l2 : MS := (sSet 4 (mOp2 opAdd (mOp2 opMul (mOp2 opPow (mC (.int 10)) (mC (.int 20))) (mOp2 opAdd (mC (.int 1)) (mCall m__law_take (aCons (mVar 1) (aCons (mC (.int 99)) aNil))))) (mCall m__law_take (aCons (mVar 1) (aCons (mOp2 opPow (mC (.int 10)) (mC (.int 6))) aNil)))))
def l3 : MS := (sAsg (bTup 2 (bCons (bNm 5) (bCons (bNm 6) bNil))) (mVar 2))
def l4 : MS := (sPar 7 8 (aCons (mOp2 opDiv (mOp2 opSub (mVar 4) (mCB oLen (aCons (mVar 5) aNil))) (mCB oLen (aCons (mVar 6) aNil))) (aCons (mOp2 opMod (mOp2 opSub (mVar 4) (mCB oLen (aCons (mVar 5) aNil))) (mCB oLen (aCons (mVar 6) aNil))) aNil)))
def l5 : MS := (sSet 9 (mOp2 opAdd (mOp2 opAdd (mCB oLen (aCons (mComp false (iSeq (mVar 5)) (bNm 19) (tBl (mOp2 (opIn false) (mVar 19) (mVar 3))) (mC (.int 1)) [19]) aNil)) (mOp2 opMul (mVar 7) (mCB oLen (aCons (mComp false (iSeq (mVar 6)) (bNm 19) (tBl (mOp2 (opIn false) (mVar 19) (mVar 3))) (mC (.int 1)) [19]) aNil)))) (mCB oLen (aCons (mComp false (iSeq (mSl (mVar 6) mNoPart (mPart (mVar 8)))) (bNm 19) (tBl (mOp2 (opIn false) (mVar 19) (mVar 3))) (mC (.int 1)) [19]) aNil))))
def l6 : MS := (sSet 10 (mOp2 opIx (mVar 6) (mOp2 opMod (mOp2 opSub (mOp2 opSub (mVar 4) (mCB oLen (aCons (mVar 5) aNil))) (mC (.int 1))) (mCB oLen (aCons (mVar 6) aNil)))))
def l7 : MS := (sSet 11 (mLst false (aCons (mCall m_how_often_to (aCons (mVar 2) (aCons (mCall (m__law_lists 4) (aCons (mVar 3) aNil)) (aCons (mVar 4) aNil)))) (aCons (mCall m_letter_at (aCons (mCall (m__law_lists 4) (aCons (mVar 2) aNil)) (aCons (mVar 4) aNil))) (aCons (mCall m_how_often_to (aCons (mVar 2) (aCons (mVar 3) (aCons (mOp2 opSub (mVar 4) (mC (.int 1))) aNil)))) (aCons (mCall m_how_often_to (aCons (mVar 2) (aCons (mTup (aCons (mC (.int 1)) (aCons (mC (.int 2)) (aCons (mC (.int 3)) aNil)))) (aCons (mVar 4) aNil)))) aNil))))))
def l8 : MS := (sSet 11 (mOp2 opAdd (mVar 11) (mLst false (aCons (mCall m_how_often_to (aCons (mVar 2) (aCons (mVar 3) (aCons (mC (.int 0)) aNil)))) aNil))))
def l9 : MS := (sIf (tNot1 (tTru (mCall (m__law_same 4) (aCons (mVar 11) (aCons (mLst false (aCons (mVar 9) (aCons (mVar 10) (aCons (mOp2 opSub (mVar 9) (mCB oInt (aCons (mOp2 (opIn false) (mVar 10) (mVar 3)) aNil))) (aCons (mVar 4) (aCons (mC (.int 0)) aNil)))))) aNil))))) (sRet (mC (.bl false))) sNil)
def l10 : MS := (sSet 12 (mComp false (jRng2 (mC (.int 1)) (mOp2 opAdd (mCB oLen (aCons (mVar 6) aNil)) (mC (.int 1)))) (bNm 18) (tBl (mOp2 (opIn false) (mOp2 opIx (mVar 6) (mOp2 opMod (mOp2 opAdd (mOp2 opSub (mOp2 opSub (mVar 4) (mCB oLen (aCons (mVar 5) aNil))) (mC (.int 1))) (mVar 18)) (mCB oLen (aCons (mVar 6) aNil)))) (mVar 3))) (mVar 18) [18]))
def l11 : MS := (sIf (tNot1 (tTru (mCall (m__law_same 4) (aCons (mCall m_next_with (aCons (mVar 2) (aCons (mVar 3) (aCons (mVar 4) aNil)))) (aCons (mIf (tBl (mOp2 (opEq true) (mVar 12) (mLst false aNil))) (mOp2 opAdd (mVar 4) (mOp2 opIx (mVar 12) (mC (.int 0)))) (mC .non)) aNil))))) (sRet (mC (.bl false))) sNil)
def l12 : MS := (sSet 13 (mCall m_moved_on (aCons (mVar 2) (aCons (mVar 4) aNil))))
def l13 : MS := (sIf (tNot1 (tTru (mCall (m__law_same 4) (aCons (mLst false (aCons (mCall m_beginning (aCons (mVar 13) (aCons (mC (.int 12)) aNil))) (aCons (mCall m_is_short (aCons (mVar 13) aNil)) (aCons (mCall m_put_ahead (aCons (mVar 5) (aCons (mTup (aCons (mTup aNil) (aCons (mVar 6) aNil))) aNil))) aNil)))) (aCons (mLst false (aCons (mCB oTuple (aCons (mComp false (jRng2 (mC (.int 1)) (mC (.int 13))) (bNm 19) tTrue (mCall m_letter_at (aCons (mVar 2) (aCons (mOp2 opAdd (mVar 4) (mVar 19)) aNil))) [19]) aNil)) (aCons (mC (.bl true)) (aCons (mCall m_lasso_short (aCons (mVar 2) aNil)) aNil)))) aNil))))) (sRet (mC (.bl false))) sNil)
def l14 : MS := (sIf (tOr2 (tBl (mOp2 (opEq true) (mCall m_endless_letters (aCons (mVar 13) aNil)) (mOp2 opMul (mTup (aCons (mOp2 opIx (mCall m_endless_letters (aCons (mVar 2) aNil)) (mC (.int 1))) aNil)) (mC (.int 2))))) (tBl (mOp2 (opEq true) (mCall m_endless_letters (aCons (mVar 2) aNil)) (mTup (aCons (mCB oTuple (aCons (mSortSet false (mOp2 opAdd (mVar 5) (mVar 6))) aNil)) (aCons (mCB oTuple (aCons (mSortSet false (mVar 6)) aNil)) aNil)))))) (sRet (mC (.bl false))) sNil)
def l15 : MS := (sSet 14 (mTup (aCons (mOp2 opAdd (mVar 5) (mSl (mVar 6) mNoPart (mPart (mC (.int 1))))) (aCons (mOp2 opAdd (mSl (mVar 6) (mPart (mC (.int 1))) mNoPart) (mSl (mVar 6) mNoPart (mPart (mC (.int 1))))) aNil))))
def l16 : MS := (sSet 15 (mCall m__law_take (aCons (mVar 1) (aCons (mC (.int 12)) aNil))))
def l17 : MS := (sSet 16 (mListOf true (mCall m_beginning (aCons (mVar 2) (aCons (mOp2 opAdd (mVar 15) (mC (.int 1))) aNil)))))
def l18 : MS := (sSub (mVar 16) (mVar 15) (mOp2 opAdd (mC (.int 1)) (mOp2 opMod (mOp2 opIx (mVar 16) (mVar 15)) (mC (.int 3)))))
def l19 : MS := (sSet 17 (mCall m_put_ahead (aCons (mCB oTuple (aCons (mVar 16) aNil)) (aCons (mCall m_moved_on (aCons (mVar 2) (aCons (mOp2 opAdd (mVar 15) (mC (.int 1))) aNil))) aNil))))
def l20 : MS := (sSet 11 (mLst false (aCons (mCall m_same_endless (aCons (mVar 2) (aCons (mVar 14) aNil))) (aCons (mCall m_first_apart (aCons (mVar 2) (aCons (mVar 14) aNil))) (aCons (mCall m_first_apart (aCons (mVar 2) (aCons (mVar 17) aNil))) (aCons (mCall m_same_endless (aCons (mVar 17) (aCons (mVar 2) aNil))) (aCons (mCall m_first_apart (aCons (mVar 17) (aCons (mVar 17) aNil))) aNil)))))))
def l21 : MS := (sRet (mCall (m__law_same 4) (aCons (mVar 11) (aCons (mLst false (aCons (mC (.bl true)) (aCons (mC .non) (aCons (mOp2 opAdd (mVar 15) (mC (.int 1))) (aCons (mC (.bl false)) (aCons (mC .non) aNil)))))) aNil))))
theorem b_law_eq : b_law = (sSeq l0 (sSeq l1 (sSeq l2 (sSeq l3 (sSeq l4 (sSeq l5 (sSeq l6 (sSeq l7 (sSeq l8 (sSeq l9 (sSeq l10 (sSeq l11 (sSeq l12 (sSeq l13 (sSeq l14 (sSeq l15 (sSeq l16 (sSeq l17 (sSeq l18 (sSeq l19 (sSeq l20 l21))))))))))))))))))))) := rfl
theorem seq_nx {f g : MS} {E E' : Mi.Env} {S S' : Sto} (h : f E S = .nx E' S') : sSeq f g E S = g E' S' := by
  unfold sSeq
  rw [h]
theorem t0 {s t : D} {S S1 S2 : Sto} {c : D} (h0 : m__law_cells [s, .int 1] S = .ok c S1) (h1 : m__law_box [c, .int 0] S1 = .ok t S2) : l0 [some s, none, none, none, none, none, none, none, none, none, none, none, none, none, none, none, none, none, none, none] S = .nx [some s, some t, none, none, none, none, none, none, none, none, none, none, none, none, none, none, none, none, none, none] S2 := by
  unfold l0
  generalize m__law_cells = F0 at *
  generalize m__law_box = F1 at *
  simp only [mDef, Nat.beq, List.length_cons, List.length_nil, List.map_cons, List.map_nil, List.replicate, List.append_nil, List.cons_append, List.nil_append, sSeq, sNil, sSet, sAsg, sPar, sDrop, sRet, sRetN, sIf, sFor, sWhile, sSub, sStuck, sBreak, sCont, Res.st, Res.bind, Res.bind0, mVar, mC, mOp2, mOp1, liftO, mIf, mAndT, mOrT, mNot, truD, tTru, liftB, tBl, blOf, mChain, tAnd2, tOr2, tNot1, tTrue, aNil, aCons, aStar, mTup, mLst, mkList, mCB, mCall, seqOf, lstR, lstOf, mSl, mPart, mNoPart, opSl, mComp, iSeq, iZip2, iEnum1, jRng1, jRng2, fixOf, fixL, mListOf, mListRg, vRng1, vRng2, bNm, setE, wipeE, List.getElem?_cons_zero, List.getElem?_cons_succ, List.set_cons_zero, List.set_cons_succ, opIsN, opNotN, isNone, bTup, bCons, bNil, if_true, beq_n, Bool.not_true, Bool.not_false, Int.reduceNeg, big, Nat.ble, h0, h1]
theorem t1 {s t la le : D} {S S1 S2 : Sto} {gs : D} (h0 : m__law_lasso [t, .int 3, .int 6, .int 5] S = .ok la S1) (h1 : m__law_sets [.int 3] S1 = .ok gs S1) (h2 : m__law_of [t, gs] S1 = .ok le S2) : l1 [some s, some t, none, none, none, none, none, none, none, none, none, none, none, none, none, none, none, none, none, none] S = .nx [some s, some t, some la, some le, none, none, none, none, none, none, none, none, none, none, none, none, none, none, none, none] S2 := by
  unfold l1
  generalize m__law_lasso = F2 at *
  generalize m__law_sets = F3 at *
  generalize m__law_of = F4 at *
  simp only [mDef, Nat.beq, List.length_cons, List.length_nil, List.map_cons, List.map_nil, List.replicate, List.append_nil, List.cons_append, List.nil_append, sSeq, sNil, sSet, sAsg, sPar, sDrop, sRet, sRetN, sIf, sFor, sWhile, sSub, sStuck, sBreak, sCont, Res.st, Res.bind, Res.bind0, mVar, mC, mOp2, mOp1, liftO, mIf, mAndT, mOrT, mNot, truD, tTru, liftB, tBl, blOf, mChain, tAnd2, tOr2, tNot1, tTrue, aNil, aCons, aStar, mTup, mLst, mkList, mCB, mCall, seqOf, lstR, lstOf, mSl, mPart, mNoPart, opSl, mComp, iSeq, iZip2, iEnum1, jRng1, jRng2, fixOf, fixL, mListOf, mListRg, vRng1, vRng2, bNm, setE, wipeE, List.getElem?_cons_zero, List.getElem?_cons_succ, List.set_cons_zero, List.set_cons_succ, opIsN, opNotN, isNone, bTup, bCons, bNil, if_true, beq_n, Bool.not_true, Bool.not_false, Int.reduceNeg, big, Nat.ble, h0, h1, h2]
theorem t2 {s t la le fa : D} {S S1 S2 : Sto} {p20 r1 r2 m1 p6 r3 : D} (h0 : opPow (.int 10) (.int 20) S = some p20) (h1 : m__law_take [t, .int 99] S = .ok r1 S1) (h2 : opAdd (.int 1) r1 S1 = some r2) (h3 : opMul p20 r2 S1 = some m1) (h4 : opPow (.int 10) (.int 6) S1 = some p6) (h5 : m__law_take [t, p6] S1 = .ok r3 S2) (h6 : opAdd m1 r3 S2 = some fa) : l2 [some s, some t, some la, some le, none, none, none, none, none, none, none, none, none, none, none, none, none, none, none, none] S = .nx [some s, some t, some la, some le, some fa, none, none, none, none, none, none, none, none, none, none, none, none, none, none, none] S2 := by
  unfold l2
  generalize m__law_take = F5 at *
  generalize opAdd = G0 at *
  generalize opMul = G2 at *
  generalize opPow = G5 at *
  simp only [mDef, Nat.beq, List.length_cons, List.length_nil, List.map_cons, List.map_nil, List.replicate, List.append_nil, List.cons_append, List.nil_append, sSeq, sNil, sSet, sAsg, sPar, sDrop, sRet, sRetN, sIf, sFor, sWhile, sSub, sStuck, sBreak, sCont, Res.st, Res.bind, Res.bind0, mVar, mC, mOp2, mOp1, liftO, mIf, mAndT, mOrT, mNot, truD, tTru, liftB, tBl, blOf, mChain, tAnd2, tOr2, tNot1, tTrue, aNil, aCons, aStar, mTup, mLst, mkList, mCB, mCall, seqOf, lstR, lstOf, mSl, mPart, mNoPart, opSl, mComp, iSeq, iZip2, iEnum1, jRng1, jRng2, fixOf, fixL, mListOf, mListRg, vRng1, vRng2, bNm, setE, wipeE, List.getElem?_cons_zero, List.getElem?_cons_succ, List.set_cons_zero, List.set_cons_succ, opIsN, opNotN, isNone, bTup, bCons, bNil, if_true, beq_n, Bool.not_true, Bool.not_false, Int.reduceNeg, big, Nat.ble, h0, h1, h2, h3, h4, h5, h6]
theorem t3 {s t la le fa ah ba : D} {S : Sto} (h0 : la = .tup [ah, ba]) : l3 [some s, some t, some la, some le, some fa, none, none, none, none, none, none, none, none, none, none, none, none, none, none, none] S = .nx [some s, some t, some la, some le, some fa, some ah, some ba, none, none, none, none, none, none, none, none, none, none, none, none, none] S := by
  unfold l3
  simp only [mDef, Nat.beq, List.length_cons, List.length_nil, List.map_cons, List.map_nil, List.replicate, List.append_nil, List.cons_append, List.nil_append, sSeq, sNil, sSet, sAsg, sPar, sDrop, sRet, sRetN, sIf, sFor, sWhile, sSub, sStuck, sBreak, sCont, Res.st, Res.bind, Res.bind0, mVar, mC, mOp2, mOp1, liftO, mIf, mAndT, mOrT, mNot, truD, tTru, liftB, tBl, blOf, mChain, tAnd2, tOr2, tNot1, tTrue, aNil, aCons, aStar, mTup, mLst, mkList, mCB, mCall, seqOf, lstR, lstOf, mSl, mPart, mNoPart, opSl, mComp, iSeq, iZip2, iEnum1, jRng1, jRng2, fixOf, fixL, mListOf, mListRg, vRng1, vRng2, bNm, setE, wipeE, List.getElem?_cons_zero, List.getElem?_cons_succ, List.set_cons_zero, List.set_cons_succ, opIsN, opNotN, isNone, bTup, bCons, bNil, if_true, beq_n, Bool.not_true, Bool.not_false, Int.reduceNeg, big, Nat.ble, h0]
theorem t4 {s t la le fa ah ba wh re : D} {S : Sto} {na nb u : D} (h0 : oLen [ah] S = some na) (h1 : oLen [ba] S = some nb) (h2 : opSub fa na S = some u) (h3 : opDiv u nb S = some wh) (h4 : opMod u nb S = some re) : l4 [some s, some t, some la, some le, some fa, some ah, some ba, none, none, none, none, none, none, none, none, none, none, none, none, none] S = .nx [some s, some t, some la, some le, some fa, some ah, some ba, some wh, some re, none, none, none, none, none, none, none, none, none, none, none] S := by
  unfold l4
  generalize opSub = G1 at *
  generalize opDiv = G3 at *
  generalize opMod = G4 at *
  generalize oLen = G7 at *
  simp only [mDef, Nat.beq, List.length_cons, List.length_nil, List.map_cons, List.map_nil, List.replicate, List.append_nil, List.cons_append, List.nil_append, sSeq, sNil, sSet, sAsg, sPar, sDrop, sRet, sRetN, sIf, sFor, sWhile, sSub, sStuck, sBreak, sCont, Res.st, Res.bind, Res.bind0, mVar, mC, mOp2, mOp1, liftO, mIf, mAndT, mOrT, mNot, truD, tTru, liftB, tBl, blOf, mChain, tAnd2, tOr2, tNot1, tTrue, aNil, aCons, aStar, mTup, mLst, mkList, mCB, mCall, seqOf, lstR, lstOf, mSl, mPart, mNoPart, opSl, mComp, iSeq, iZip2, iEnum1, jRng1, jRng2, fixOf, fixL, mListOf, mListRg, vRng1, vRng2, bNm, setE, wipeE, List.getElem?_cons_zero, List.getElem?_cons_succ, List.set_cons_zero, List.set_cons_succ, opIsN, opNotN, isNone, bTup, bCons, bNil, if_true, beq_n, Bool.not_true, Bool.not_false, Int.reduceNeg, big, Nat.ble, h0, h1, h2, h3, h4]
theorem t5 {s t la le fa ah ba wh re ma : D} {S : Sto} {c1 c2 c3 n1 n2 n3 w2 z1 : D} (h0 : (mComp false (iSeq (mVar 5)) (bNm 19) (tBl (mOp2 (opIn false) (mVar 19) (mVar 3))) (mC (.int 1)) [19]) [some s, some t, some la, some le, some fa, some ah, some ba, some wh, some re, none, none, none, none, none, none, none, none, none, none, none] S = .ok c1 S) (h1 : (mComp false (iSeq (mVar 6)) (bNm 19) (tBl (mOp2 (opIn false) (mVar 19) (mVar 3))) (mC (.int 1)) [19]) [some s, some t, some la, some le, some fa, some ah, some ba, some wh, some re, none, none, none, none, none, none, none, none, none, none, none] S = .ok c2 S) (h2 : (mComp false (iSeq (mSl (mVar 6) mNoPart (mPart (mVar 8)))) (bNm 19) (tBl (mOp2 (opIn false) (mVar 19) (mVar 3))) (mC (.int 1)) [19]) [some s, some t, some la, some le, some fa, some ah, some ba, some wh, some re, none, none, none, none, none, none, none, none, none, none, none] S = .ok c3 S) (h3 : oLen [c1] S = some n1) (h4 : oLen [c2] S = some n2) (h5 : oLen [c3] S = some n3) (h6 : opMul wh n2 S = some w2) (h7 : opAdd n1 w2 S = some z1) (h8 : opAdd z1 n3 S = some ma) : l5 [some s, some t, some la, some le, some fa, some ah, some ba, some wh, some re, none, none, none, none, none, none, none, none, none, none, none] S = .nx [some s, some t, some la, some le, some fa, some ah, some ba, some wh, some re, some ma, none, none, none, none, none, none, none, none, none, none] S := by
  unfold l5
  generalize (mComp false (iSeq (mVar 5)) (bNm 19) (tBl (mOp2 (opIn false) (mVar 19) (mVar 3))) (mC (.int 1)) [19]) = C0 at *
  generalize (mComp false (iSeq (mVar 6)) (bNm 19) (tBl (mOp2 (opIn false) (mVar 19) (mVar 3))) (mC (.int 1)) [19]) = C1 at *
  generalize (mComp false (iSeq (mSl (mVar 6) mNoPart (mPart (mVar 8)))) (bNm 19) (tBl (mOp2 (opIn false) (mVar 19) (mVar 3))) (mC (.int 1)) [19]) = C2 at *
  generalize opAdd = G0 at *
  generalize opMul = G2 at *
  generalize oLen = G7 at *
  generalize opIn false = G10 at *
  simp only [mDef, Nat.beq, List.length_cons, List.length_nil, List.map_cons, List.map_nil, List.replicate, List.append_nil, List.cons_append, List.nil_append, sSeq, sNil, sSet, sAsg, sPar, sDrop, sRet, sRetN, sIf, sFor, sWhile, sSub, sStuck, sBreak, sCont, Res.st, Res.bind, Res.bind0, mVar, mC, mOp2, mOp1, liftO, mIf, mAndT, mOrT, mNot, truD, tTru, liftB, tBl, blOf, mChain, tAnd2, tOr2, tNot1, tTrue, aNil, aCons, aStar, mTup, mLst, mkList, mCB, mCall, seqOf, lstR, lstOf, mSl, mPart, mNoPart, opSl, mComp, iSeq, iZip2, iEnum1, jRng1, jRng2, fixOf, fixL, mListOf, mListRg, vRng1, vRng2, bNm, setE, wipeE, List.getElem?_cons_zero, List.getElem?_cons_succ, List.set_cons_zero, List.set_cons_succ, opIsN, opNotN, isNone, bTup, bCons, bNil, if_true, beq_n, Bool.not_true, Bool.not_false, Int.reduceNeg, big, Nat.ble, h0, h1, h2, h3, h4, h5, h6, h7, h8]
theorem t6 {s t la le fa ah ba wh re ma th : D} {S : Sto} {na nb u v x : D} (h0 : oLen [ah] S = some na) (h1 : oLen [ba] S = some nb) (h2 : opSub fa na S = some u) (h3 : opSub u (.int 1) S = some v) (h4 : opMod v nb S = some x) (h5 : opIx ba x S = some th) : l6 [some s, some t, some la, some le, some fa, some ah, some ba, some wh, some re, some ma, none, none, none, none, none, none, none, none, none, none] S = .nx [some s, some t, some la, some le, some fa, some ah, some ba, some wh, some re, some ma, some th, none, none, none, none, none, none, none, none, none] S := by
  unfold l6
  generalize opSub = G1 at *
  generalize opMod = G4 at *
  generalize opIx = G6 at *
  generalize oLen = G7 at *
  simp only [mDef, Nat.beq, List.length_cons, List.length_nil, List.map_cons, List.map_nil, List.replicate, List.append_nil, List.cons_append, List.nil_append, sSeq, sNil, sSet, sAsg, sPar, sDrop, sRet, sRetN, sIf, sFor, sWhile, sSub, sStuck, sBreak, sCont, Res.st, Res.bind, Res.bind0, mVar, mC, mOp2, mOp1, liftO, mIf, mAndT, mOrT, mNot, truD, tTru, liftB, tBl, blOf, mChain, tAnd2, tOr2, tNot1, tTrue, aNil, aCons, aStar, mTup, mLst, mkList, mCB, mCall, seqOf, lstR, lstOf, mSl, mPart, mNoPart, opSl, mComp, iSeq, iZip2, iEnum1, jRng1, jRng2, fixOf, fixL, mListOf, mListRg, vRng1, vRng2, bNm, setE, wipeE, List.getElem?_cons_zero, List.getElem?_cons_succ, List.set_cons_zero, List.set_cons_succ, opIsN, opNotN, isNone, bTup, bCons, bNil, if_true, beq_n, Bool.not_true, Bool.not_false, Int.reduceNeg, big, Nat.ble, h0, h1, h2, h3, h4, h5]
theorem t7 {s t la le fa ah ba wh re ma th : D} {S : Sto} {leL laL g1 g2 fb g3 g4 : D} (h0 : m__law_lists 4 [le] S = .ok leL S) (h1 : m_how_often_to [la, leL, fa] S = .ok g1 S) (h2 : m__law_lists 4 [la] S = .ok laL S) (h3 : m_letter_at [laL, fa] S = .ok g2 S) (h4 : opSub fa (.int 1) S = some fb) (h5 : m_how_often_to [la, le, fb] S = .ok g3 S) (h6 : m_how_often_to [la, .tup [.int 1, .int 2, .int 3], fa] S = .ok g4 S) : l7 [some s, some t, some la, some le, some fa, some ah, some ba, some wh, some re, some ma, some th, none, none, none, none, none, none, none, none, none] S = .nx [some s, some t, some la, some le, some fa, some ah, some ba, some wh, some re, some ma, some th, some (.lst [g1, g2, g3, g4]), none, none, none, none, none, none, none, none] S := by
  unfold l7
  generalize m_how_often_to = F6 at *
  generalize m_letter_at = F7 at *
  generalize m__law_lists 4 = F8 at *
  generalize opSub = G1 at *
  simp only [mDef, Nat.beq, List.length_cons, List.length_nil, List.map_cons, List.map_nil, List.replicate, List.append_nil, List.cons_append, List.nil_append, sSeq, sNil, sSet, sAsg, sPar, sDrop, sRet, sRetN, sIf, sFor, sWhile, sSub, sStuck, sBreak, sCont, Res.st, Res.bind, Res.bind0, mVar, mC, mOp2, mOp1, liftO, mIf, mAndT, mOrT, mNot, truD, tTru, liftB, tBl, blOf, mChain, tAnd2, tOr2, tNot1, tTrue, aNil, aCons, aStar, mTup, mLst, mkList, mCB, mCall, seqOf, lstR, lstOf, mSl, mPart, mNoPart, opSl, mComp, iSeq, iZip2, iEnum1, jRng1, jRng2, fixOf, fixL, mListOf, mListRg, vRng1, vRng2, bNm, setE, wipeE, List.getElem?_cons_zero, List.getElem?_cons_succ, List.set_cons_zero, List.set_cons_succ, opIsN, opNotN, isNone, bTup, bCons, bNil, if_true, beq_n, Bool.not_true, Bool.not_false, Int.reduceNeg, big, Nat.ble, h0, h1, h2, h3, h4, h5, h6]
theorem t8 {s t la le fa ah ba wh re ma th go : D} {S : Sto} {g5 go2 : D} (h0 : m_how_often_to [la, le, .int 0] S = .ok g5 S) (h1 : opAdd go (.lst [g5]) S = some go2) : l8 [some s, some t, some la, some le, some fa, some ah, some ba, some wh, some re, some ma, some th, some go, none, none, none, none, none, none, none, none] S = .nx [some s, some t, some la, some le, some fa, some ah, some ba, some wh, some re, some ma, some th, some go2, none, none, none, none, none, none, none, none] S := by
  unfold l8
  generalize m_how_often_to = F6 at *
  generalize opAdd = G0 at *
  simp only [mDef, Nat.beq, List.length_cons, List.length_nil, List.map_cons, List.map_nil, List.replicate, List.append_nil, List.cons_append, List.nil_append, sSeq, sNil, sSet, sAsg, sPar, sDrop, sRet, sRetN, sIf, sFor, sWhile, sSub, sStuck, sBreak, sCont, Res.st, Res.bind, Res.bind0, mVar, mC, mOp2, mOp1, liftO, mIf, mAndT, mOrT, mNot, truD, tTru, liftB, tBl, blOf, mChain, tAnd2, tOr2, tNot1, tTrue, aNil, aCons, aStar, mTup, mLst, mkList, mCB, mCall, seqOf, lstR, lstOf, mSl, mPart, mNoPart, opSl, mComp, iSeq, iZip2, iEnum1, jRng1, jRng2, fixOf, fixL, mListOf, mListRg, vRng1, vRng2, bNm, setE, wipeE, List.getElem?_cons_zero, List.getElem?_cons_succ, List.set_cons_zero, List.set_cons_succ, opIsN, opNotN, isNone, bTup, bCons, bNil, if_true, beq_n, Bool.not_true, Bool.not_false, Int.reduceNeg, big, Nat.ble, h0, h1]
theorem t9 {b : Bool} {s t la le fa ah ba wh re ma th go : D} {S : Sto} {bi m3 : D} (h0 : opIn false th le S = some (.bl b)) (h1 : oInt [.bl b] S = some bi) (h2 : opSub ma bi S = some m3) (h3 : m__law_same 4 [go, .lst [ma, th, m3, fa, .int 0]] S = .ok (.bl true) S) : l9 [some s, some t, some la, some le, some fa, some ah, some ba, some wh, some re, some ma, some th, some go, none, none, none, none, none, none, none, none] S = .nx [some s, some t, some la, some le, some fa, some ah, some ba, some wh, some re, some ma, some th, some go, none, none, none, none, none, none, none, none] S := by
  unfold l9
  generalize m__law_same 4 = F9 at *
  generalize opSub = G1 at *
  generalize oInt = G8 at *
  generalize opIn false = G10 at *
  simp only [mDef, Nat.beq, List.length_cons, List.length_nil, List.map_cons, List.map_nil, List.replicate, List.append_nil, List.cons_append, List.nil_append, sSeq, sNil, sSet, sAsg, sPar, sDrop, sRet, sRetN, sIf, sFor, sWhile, sSub, sStuck, sBreak, sCont, Res.st, Res.bind, Res.bind0, mVar, mC, mOp2, mOp1, liftO, mIf, mAndT, mOrT, mNot, truD, tTru, liftB, tBl, blOf, mChain, tAnd2, tOr2, tNot1, tTrue, aNil, aCons, aStar, mTup, mLst, mkList, mCB, mCall, seqOf, lstR, lstOf, mSl, mPart, mNoPart, opSl, mComp, iSeq, iZip2, iEnum1, jRng1, jRng2, fixOf, fixL, mListOf, mListRg, vRng1, vRng2, bNm, setE, wipeE, List.getElem?_cons_zero, List.getElem?_cons_succ, List.set_cons_zero, List.set_cons_succ, opIsN, opNotN, isNone, bTup, bCons, bNil, if_true, beq_n, Bool.not_true, Bool.not_false, Int.reduceNeg, big, Nat.ble, h0, h1, h2, h3]
theorem t10 {s t la le fa ah ba wh re ma th go ga : D} {S : Sto} (h0 : (mComp false (jRng2 (mC (.int 1)) (mOp2 opAdd (mCB oLen (aCons (mVar 6) aNil)) (mC (.int 1)))) (bNm 18) (tBl (mOp2 (opIn false) (mOp2 opIx (mVar 6) (mOp2 opMod (mOp2 opAdd (mOp2 opSub (mOp2 opSub (mVar 4) (mCB oLen (aCons (mVar 5) aNil))) (mC (.int 1))) (mVar 18)) (mCB oLen (aCons (mVar 6) aNil)))) (mVar 3))) (mVar 18) [18]) [some s, some t, some la, some le, some fa, some ah, some ba, some wh, some re, some ma, some th, some go, none, none, none, none, none, none, none, none] S = .ok ga S) : l10 [some s, some t, some la, some le, some fa, some ah, some ba, some wh, some re, some ma, some th, some go, none, none, none, none, none, none, none, none] S = .nx [some s, some t, some la, some le, some fa, some ah, some ba, some wh, some re, some ma, some th, some go, some ga, none, none, none, none, none, none, none] S := by
  unfold l10
  generalize (mComp false (jRng2 (mC (.int 1)) (mOp2 opAdd (mCB oLen (aCons (mVar 6) aNil)) (mC (.int 1)))) (bNm 18) (tBl (mOp2 (opIn false) (mOp2 opIx (mVar 6) (mOp2 opMod (mOp2 opAdd (mOp2 opSub (mOp2 opSub (mVar 4) (mCB oLen (aCons (mVar 5) aNil))) (mC (.int 1))) (mVar 18)) (mCB oLen (aCons (mVar 6) aNil)))) (mVar 3))) (mVar 18) [18]) = C at *
  generalize opAdd = G0 at *
  generalize opSub = G1 at *
  generalize opMod = G4 at *
  generalize opIx = G6 at *
  generalize oLen = G7 at *
  generalize opIn false = G10 at *
  simp only [mDef, Nat.beq, List.length_cons, List.length_nil, List.map_cons, List.map_nil, List.replicate, List.append_nil, List.cons_append, List.nil_append, sSeq, sNil, sSet, sAsg, sPar, sDrop, sRet, sRetN, sIf, sFor, sWhile, sSub, sStuck, sBreak, sCont, Res.st, Res.bind, Res.bind0, mVar, mC, mOp2, mOp1, liftO, mIf, mAndT, mOrT, mNot, truD, tTru, liftB, tBl, blOf, mChain, tAnd2, tOr2, tNot1, tTrue, aNil, aCons, aStar, mTup, mLst, mkList, mCB, mCall, seqOf, lstR, lstOf, mSl, mPart, mNoPart, opSl, mComp, iSeq, iZip2, iEnum1, jRng1, jRng2, fixOf, fixL, mListOf, mListRg, vRng1, vRng2, bNm, setE, wipeE, List.getElem?_cons_zero, List.getElem?_cons_succ, List.set_cons_zero, List.set_cons_succ, opIsN, opNotN, isNone, bTup, bCons, bNil, if_true, beq_n, Bool.not_true, Bool.not_false, Int.reduceNeg, big, Nat.ble, h0]
theorem t11 {s t la le fa ah ba wh re ma th go ga : D} {S : Sto} {x y : D} (h0 : m_next_with [la, le, fa] S = .ok x S) (h1 : (mIf (tBl (mOp2 (opEq true) (mVar 12) (mLst false aNil))) (mOp2 opAdd (mVar 4) (mOp2 opIx (mVar 12) (mC (.int 0)))) (mC .non)) [some s, some t, some la, some le, some fa, some ah, some ba, some wh, some re, some ma, some th, some go, some ga, none, none, none, none, none, none, none] S = .ok y S) (h2 : m__law_same 4 [x, y] S = .ok (.bl true) S) : l11 [some s, some t, some la, some le, some fa, some ah, some ba, some wh, some re, some ma, some th, some go, some ga, none, none, none, none, none, none, none] S = .nx [some s, some t, some la, some le, some fa, some ah, some ba, some wh, some re, some ma, some th, some go, some ga, none, none, none, none, none, none, none] S := by
  unfold l11
  generalize (mIf (tBl (mOp2 (opEq true) (mVar 12) (mLst false aNil))) (mOp2 opAdd (mVar 4) (mOp2 opIx (mVar 12) (mC (.int 0)))) (mC .non)) = C at *
  generalize m__law_same 4 = F9 at *
  generalize m_next_with = F10 at *
  generalize opAdd = G0 at *
  generalize opIx = G6 at *
  generalize opEq true = G11 at *
  simp only [mDef, Nat.beq, List.length_cons, List.length_nil, List.map_cons, List.map_nil, List.replicate, List.append_nil, List.cons_append, List.nil_append, sSeq, sNil, sSet, sAsg, sPar, sDrop, sRet, sRetN, sIf, sFor, sWhile, sSub, sStuck, sBreak, sCont, Res.st, Res.bind, Res.bind0, mVar, mC, mOp2, mOp1, liftO, mIf, mAndT, mOrT, mNot, truD, tTru, liftB, tBl, blOf, mChain, tAnd2, tOr2, tNot1, tTrue, aNil, aCons, aStar, mTup, mLst, mkList, mCB, mCall, seqOf, lstR, lstOf, mSl, mPart, mNoPart, opSl, mComp, iSeq, iZip2, iEnum1, jRng1, jRng2, fixOf, fixL, mListOf, mListRg, vRng1, vRng2, bNm, setE, wipeE, List.getElem?_cons_zero, List.getElem?_cons_succ, List.set_cons_zero, List.set_cons_succ, opIsN, opNotN, isNone, bTup, bCons, bNil, if_true, beq_n, Bool.not_true, Bool.not_false, Int.reduceNeg, big, Nat.ble, h0, h1, h2]
theorem t12 {s t la le fa ah ba wh re ma th go ga be : D} {S : Sto} (h0 : m_moved_on [la, fa] S = .ok be S) : l12 [some s, some t, some la, some le, some fa, some ah, some ba, some wh, some re, some ma, some th, some go, some ga, none, none, none, none, none, none, none] S = .nx [some s, some t, some la, some le, some fa, some ah, some ba, some wh, some re, some ma, some th, some go, some ga, some be, none, none, none, none, none, none] S := by
  unfold l12
  generalize m_moved_on = F11 at *
  simp only [mDef, Nat.beq, List.length_cons, List.length_nil, List.map_cons, List.map_nil, List.replicate, List.append_nil, List.cons_append, List.nil_append, sSeq, sNil, sSet, sAsg, sPar, sDrop, sRet, sRetN, sIf, sFor, sWhile, sSub, sStuck, sBreak, sCont, Res.st, Res.bind, Res.bind0, mVar, mC, mOp2, mOp1, liftO, mIf, mAndT, mOrT, mNot, truD, tTru, liftB, tBl, blOf, mChain, tAnd2, tOr2, tNot1, tTrue, aNil, aCons, aStar, mTup, mLst, mkList, mCB, mCall, seqOf, lstR, lstOf, mSl, mPart, mNoPart, opSl, mComp, iSeq, iZip2, iEnum1, jRng1, jRng2, fixOf, fixL, mListOf, mListRg, vRng1, vRng2, bNm, setE, wipeE, List.getElem?_cons_zero, List.getElem?_cons_succ, List.set_cons_zero, List.set_cons_succ, opIsN, opNotN, isNone, bTup, bCons, bNil, if_true, beq_n, Bool.not_true, Bool.not_false, Int.reduceNeg, big, Nat.ble, h0]
theorem t13 {s t la le fa ah ba wh re ma th go ga be : D} {S : Sto} {b1 b2 b3 b4 b5 c : D} (h0 : m_beginning [be, .int 12] S = .ok b1 S) (h1 : m_is_short [be] S = .ok b2 S) (h2 : m_put_ahead [ah, .tup [.tup [], ba]] S = .ok b3 S) (h3 : (mComp false (jRng2 (mC (.int 1)) (mC (.int 13))) (bNm 19) tTrue (mCall m_letter_at (aCons (mVar 2) (aCons (mOp2 opAdd (mVar 4) (mVar 19)) aNil))) [19]) [some s, some t, some la, some le, some fa, some ah, some ba, some wh, some re, some ma, some th, some go, some ga, some be, none, none, none, none, none, none] S = .ok c S) (h4 : oTuple [c] S = some b4) (h5 : m_lasso_short [la] S = .ok b5 S) (h6 : m__law_same 4 [.lst [b1, b2, b3], .lst [b4, .bl true, b5]] S = .ok (.bl true) S) : l13 [some s, some t, some la, some le, some fa, some ah, some ba, some wh, some re, some ma, some th, some go, some ga, some be, none, none, none, none, none, none] S = .nx [some s, some t, some la, some le, some fa, some ah, some ba, some wh, some re, some ma, some th, some go, some ga, some be, none, none, none, none, none, none] S := by
  unfold l13
  generalize (mComp false (jRng2 (mC (.int 1)) (mC (.int 13))) (bNm 19) tTrue (mCall m_letter_at (aCons (mVar 2) (aCons (mOp2 opAdd (mVar 4) (mVar 19)) aNil))) [19]) = C at *
  generalize m_letter_at = F7 at *
  generalize m__law_same 4 = F9 at *
  generalize m_beginning = F12 at *
  generalize m_is_short = F13 at *
  generalize m_put_ahead = F14 at *
  generalize m_lasso_short = F15 at *
  generalize opAdd = G0 at *
  generalize oTuple = G9 at *
  simp only [mDef, Nat.beq, List.length_cons, List.length_nil, List.map_cons, List.map_nil, List.replicate, List.append_nil, List.cons_append, List.nil_append, sSeq, sNil, sSet, sAsg, sPar, sDrop, sRet, sRetN, sIf, sFor, sWhile, sSub, sStuck, sBreak, sCont, Res.st, Res.bind, Res.bind0, mVar, mC, mOp2, mOp1, liftO, mIf, mAndT, mOrT, mNot, truD, tTru, liftB, tBl, blOf, mChain, tAnd2, tOr2, tNot1, tTrue, aNil, aCons, aStar, mTup, mLst, mkList, mCB, mCall, seqOf, lstR, lstOf, mSl, mPart, mNoPart, opSl, mComp, iSeq, iZip2, iEnum1, jRng1, jRng2, fixOf, fixL, mListOf, mListRg, vRng1, vRng2, bNm, setE, wipeE, List.getElem?_cons_zero, List.getElem?_cons_succ, List.set_cons_zero, List.set_cons_succ, opIsN, opNotN, isNone, bTup, bCons, bNil, if_true, beq_n, Bool.not_true, Bool.not_false, Int.reduceNeg, big, Nat.ble, h0, h1, h2, h3, h4, h5, h6]
theorem t14 {s t la le fa ah ba wh re ma th go ga be : D} {S : Sto} {x1 x2 x3 x4 y1 y2 z1 z2 : D} (h0 : m_endless_letters [be] S = .ok x1 S) (h1 : m_endless_letters [la] S = .ok x2 S) (h2 : opIx x2 (.int 1) S = some x3) (h3 : opMul (.tup [x3]) (.int 2) S = some x4) (h4 : opEq true x1 x4 S = some (.bl false)) (h5 : (mSortSet false (mOp2 opAdd (mVar 5) (mVar 6))) [some s, some t, some la, some le, some fa, some ah, some ba, some wh, some re, some ma, some th, some go, some ga, some be, none, none, none, none, none, none] S = .ok y1 S) (h6 : oTuple [y1] S = some z1) (h7 : (mSortSet false (mVar 6)) [some s, some t, some la, some le, some fa, some ah, some ba, some wh, some re, some ma, some th, some go, some ga, some be, none, none, none, none, none, none] S = .ok y2 S) (h8 : oTuple [y2] S = some z2) (h9 : opEq true x2 (.tup [z1, z2]) S = some (.bl false)) : l14 [some s, some t, some la, some le, some fa, some ah, some ba, some wh, some re, some ma, some th, some go, some ga, some be, none, none, none, none, none, none] S = .nx [some s, some t, some la, some le, some fa, some ah, some ba, some wh, some re, some ma, some th, some go, some ga, some be, none, none, none, none, none, none] S := by
  unfold l14
  generalize (mSortSet false (mOp2 opAdd (mVar 5) (mVar 6))) = M0 at *
  generalize (mSortSet false (mVar 6)) = M1 at *
  generalize m_endless_letters = F16 at *
  generalize opAdd = G0 at *
  generalize opMul = G2 at *
  generalize opIx = G6 at *
  generalize oTuple = G9 at *
  generalize opEq true = G11 at *
  simp only [mDef, Nat.beq, List.length_cons, List.length_nil, List.map_cons, List.map_nil, List.replicate, List.append_nil, List.cons_append, List.nil_append, sSeq, sNil, sSet, sAsg, sPar, sDrop, sRet, sRetN, sIf, sFor, sWhile, sSub, sStuck, sBreak, sCont, Res.st, Res.bind, Res.bind0, mVar, mC, mOp2, mOp1, liftO, mIf, mAndT, mOrT, mNot, truD, tTru, liftB, tBl, blOf, mChain, tAnd2, tOr2, tNot1, tTrue, aNil, aCons, aStar, mTup, mLst, mkList, mCB, mCall, seqOf, lstR, lstOf, mSl, mPart, mNoPart, opSl, mComp, iSeq, iZip2, iEnum1, jRng1, jRng2, fixOf, fixL, mListOf, mListRg, vRng1, vRng2, bNm, setE, wipeE, List.getElem?_cons_zero, List.getElem?_cons_succ, List.set_cons_zero, List.set_cons_succ, opIsN, opNotN, isNone, bTup, bCons, bNil, if_true, beq_n, Bool.not_true, Bool.not_false, Int.reduceNeg, big, Nat.ble, h0, h1, h2, h3, h4, h5, h6, h7, h8, h9]
theorem t15 {s t la le fa ah ba wh re ma th go ga be : D} {S : Sto} {u1 u2 v1 v2 : D} (h0 : (mSl (mVar 6) mNoPart (mPart (mC (.int 1)))) [some s, some t, some la, some le, some fa, some ah, some ba, some wh, some re, some ma, some th, some go, some ga, some be, none, none, none, none, none, none] S = .ok u1 S) (h1 : (mSl (mVar 6) (mPart (mC (.int 1))) mNoPart) [some s, some t, some la, some le, some fa, some ah, some ba, some wh, some re, some ma, some th, some go, some ga, some be, none, none, none, none, none, none] S = .ok u2 S) (h2 : opAdd ah u1 S = some v1) (h3 : opAdd u2 u1 S = some v2) : l15 [some s, some t, some la, some le, some fa, some ah, some ba, some wh, some re, some ma, some th, some go, some ga, some be, none, none, none, none, none, none] S = .nx [some s, some t, some la, some le, some fa, some ah, some ba, some wh, some re, some ma, some th, some go, some ga, some be, some (.tup [v1, v2]), none, none, none, none, none] S := by
  unfold l15
  generalize (mSl (mVar 6) mNoPart (mPart (mC (.int 1)))) = SL0 at *
  generalize (mSl (mVar 6) (mPart (mC (.int 1))) mNoPart) = SL1 at *
  generalize opAdd = G0 at *
  simp only [mDef, Nat.beq, List.length_cons, List.length_nil, List.map_cons, List.map_nil, List.replicate, List.append_nil, List.cons_append, List.nil_append, sSeq, sNil, sSet, sAsg, sPar, sDrop, sRet, sRetN, sIf, sFor, sWhile, sSub, sStuck, sBreak, sCont, Res.st, Res.bind, Res.bind0, mVar, mC, mOp2, mOp1, liftO, mIf, mAndT, mOrT, mNot, truD, tTru, liftB, tBl, blOf, mChain, tAnd2, tOr2, tNot1, tTrue, aNil, aCons, aStar, mTup, mLst, mkList, mCB, mCall, seqOf, lstR, lstOf, mSl, mPart, mNoPart, opSl, mComp, iSeq, iZip2, iEnum1, jRng1, jRng2, fixOf, fixL, mListOf, mListRg, vRng1, vRng2, bNm, setE, wipeE, List.getElem?_cons_zero, List.getElem?_cons_succ, List.set_cons_zero, List.set_cons_succ, opIsN, opNotN, isNone, bTup, bCons, bNil, if_true, beq_n, Bool.not_true, Bool.not_false, Int.reduceNeg, big, Nat.ble, h0, h1, h2, h3]
theorem t16 {s t la le fa ah ba wh re ma th go ga be ot pl : D} {S S1 : Sto} (h0 : m__law_take [t, .int 12] S = .ok pl S1) : l16 [some s, some t, some la, some le, some fa, some ah, some ba, some wh, some re, some ma, some th, some go, some ga, some be, some ot, none, none, none, none, none] S = .nx [some s, some t, some la, some le, some fa, some ah, some ba, some wh, some re, some ma, some th, some go, some ga, some be, some ot, some pl, none, none, none, none] S1 := by
  unfold l16
  generalize m__law_take = F5 at *
  simp only [mDef, Nat.beq, List.length_cons, List.length_nil, List.map_cons, List.map_nil, List.replicate, List.append_nil, List.cons_append, List.nil_append, sSeq, sNil, sSet, sAsg, sPar, sDrop, sRet, sRetN, sIf, sFor, sWhile, sSub, sStuck, sBreak, sCont, Res.st, Res.bind, Res.bind0, mVar, mC, mOp2, mOp1, liftO, mIf, mAndT, mOrT, mNot, truD, tTru, liftB, tBl, blOf, mChain, tAnd2, tOr2, tNot1, tTrue, aNil, aCons, aStar, mTup, mLst, mkList, mCB, mCall, seqOf, lstR, lstOf, mSl, mPart, mNoPart, opSl, mComp, iSeq, iZip2, iEnum1, jRng1, jRng2, fixOf, fixL, mListOf, mListRg, vRng1, vRng2, bNm, setE, wipeE, List.getElem?_cons_zero, List.getElem?_cons_succ, List.set_cons_zero, List.set_cons_succ, opIsN, opNotN, isNone, bTup, bCons, bNil, if_true, beq_n, Bool.not_true, Bool.not_false, Int.reduceNeg, big, Nat.ble, h0]
theorem t17 {xs : List D} {s t la le fa ah ba wh re ma th go ga be ot pl : D} {S : Sto} {p1 : D} (h0 : opAdd pl (.int 1) S = some p1) (h1 : m_beginning [la, p1] S = .ok (.tup xs) S) : l17 [some s, some t, some la, some le, some fa, some ah, some ba, some wh, some re, some ma, some th, some go, some ga, some be, some ot, some pl, none, none, none, none] S = .nx [some s, some t, some la, some le, some fa, some ah, some ba, some wh, some re, some ma, some th, some go, some ga, some be, some ot, some pl, some (.ref S.next), none, none, none] (S.new (.ml xs)) := by
  unfold l17
  generalize m_beginning = F12 at *
  generalize opAdd = G0 at *
  simp only [mDef, Nat.beq, List.length_cons, List.length_nil, List.map_cons, List.map_nil, List.replicate, List.append_nil, List.cons_append, List.nil_append, sSeq, sNil, sSet, sAsg, sPar, sDrop, sRet, sRetN, sIf, sFor, sWhile, sSub, sStuck, sBreak, sCont, Res.st, Res.bind, Res.bind0, mVar, mC, mOp2, mOp1, liftO, mIf, mAndT, mOrT, mNot, truD, tTru, liftB, tBl, blOf, mChain, tAnd2, tOr2, tNot1, tTrue, aNil, aCons, aStar, mTup, mLst, mkList, mCB, mCall, seqOf, lstR, lstOf, mSl, mPart, mNoPart, opSl, mComp, iSeq, iZip2, iEnum1, jRng1, jRng2, fixOf, fixL, mListOf, mListRg, vRng1, vRng2, bNm, setE, wipeE, List.getElem?_cons_zero, List.getElem?_cons_succ, List.set_cons_zero, List.set_cons_succ, opIsN, opNotN, isNone, bTup, bCons, bNil, if_true, beq_n, Bool.not_true, Bool.not_false, Int.reduceNeg, big, Nat.ble, h0, h1]
theorem t18 {s t la le fa ah ba wh re ma th go ga be ot pl te : D} {S : Sto} {x y z : D} {i : Nat} {xs : List D} {k : Int} {j : Nat} (h0 : te = .ref i) (h1 : pl = .int k) (h2 : S.get i = some (.ml xs)) (h3 : ixN xs.length k = some j) (h4 : opIx te pl S = some x) (h5 : opMod x (.int 3) S = some y) (h6 : opAdd (.int 1) y S = some z) : l18 [some s, some t, some la, some le, some fa, some ah, some ba, some wh, some re, some ma, some th, some go, some ga, some be, some ot, some pl, some te, none, none, none] S = .nx [some s, some t, some la, some le, some fa, some ah, some ba, some wh, some re, some ma, some th, some go, some ga, some be, some ot, some pl, some te, none, none, none] (S.put i (.ml (xs.set j z))) := by
  have e1 : (mOp2 opAdd (mC (.int 1)) (mOp2 opMod (mOp2 opIx (mVar 16) (mVar 15)) (mC (.int 3)))) [some s, some t, some la, some le, some fa, some ah, some ba, some wh, some re, some ma, some th, some go, some ga, some be, some ot, some pl, some te, none, none, none] S = .ok z S := by
    clear h0 h1 h2 h3
    generalize opIx = G at *
    generalize opMod = G1 at *
    generalize opAdd = G2 at *
    simp only [mDef, Nat.beq, List.length_cons, List.length_nil, List.map_cons, List.map_nil, List.replicate, List.append_nil, List.cons_append, List.nil_append, sSeq, sNil, sSet, sAsg, sPar, sDrop, sRet, sRetN, sIf, sFor, sWhile, sSub, sStuck, sBreak, sCont, Res.st, Res.bind, Res.bind0, mVar, mC, mOp2, mOp1, liftO, mIf, mAndT, mOrT, mNot, truD, tTru, liftB, tBl, blOf, mChain, tAnd2, tOr2, tNot1, tTrue, aNil, aCons, aStar, mTup, mLst, mkList, mCB, mCall, seqOf, lstR, lstOf, mSl, mPart, mNoPart, opSl, mComp, iSeq, iZip2, iEnum1, jRng1, jRng2, fixOf, fixL, mListOf, mListRg, vRng1, vRng2, bNm, setE, wipeE, List.getElem?_cons_zero, List.getElem?_cons_succ, List.set_cons_zero, List.set_cons_succ, opIsN, opNotN, isNone, bTup, bCons, bNil, if_true, beq_n, Bool.not_true, Bool.not_false, Int.reduceNeg, h4, h5, h6]
  exact sub_ref e1 (by subst h0; rfl) (by subst h1; rfl) h2 h3
theorem t19 {s t la le fa ah ba wh re ma th go ga be ot pl te un : D} {S : Sto} {tt p1 mv : D} (h0 : oTuple [te] S = some tt) (h1 : opAdd pl (.int 1) S = some p1) (h2 : m_moved_on [la, p1] S = .ok mv S) (h3 : m_put_ahead [tt, mv] S = .ok un S) : l19 [some s, some t, some la, some le, some fa, some ah, some ba, some wh, some re, some ma, some th, some go, some ga, some be, some ot, some pl, some te, none, none, none] S = .nx [some s, some t, some la, some le, some fa, some ah, some ba, some wh, some re, some ma, some th, some go, some ga, some be, some ot, some pl, some te, some un, none, none] S := by
  unfold l19
  generalize m_moved_on = F11 at *
  generalize m_put_ahead = F14 at *
  generalize opAdd = G0 at *
  generalize oTuple = G9 at *
  simp only [mDef, Nat.beq, List.length_cons, List.length_nil, List.map_cons, List.map_nil, List.replicate, List.append_nil, List.cons_append, List.nil_append, sSeq, sNil, sSet, sAsg, sPar, sDrop, sRet, sRetN, sIf, sFor, sWhile, sSub, sStuck, sBreak, sCont, Res.st, Res.bind, Res.bind0, mVar, mC, mOp2, mOp1, liftO, mIf, mAndT, mOrT, mNot, truD, tTru, liftB, tBl, blOf, mChain, tAnd2, tOr2, tNot1, tTrue, aNil, aCons, aStar, mTup, mLst, mkList, mCB, mCall, seqOf, lstR, lstOf, mSl, mPart, mNoPart, opSl, mComp, iSeq, iZip2, iEnum1, jRng1, jRng2, fixOf, fixL, mListOf, mListRg, vRng1, vRng2, bNm, setE, wipeE, List.getElem?_cons_zero, List.getElem?_cons_succ, List.set_cons_zero, List.set_cons_succ, opIsN, opNotN, isNone, bTup, bCons, bNil, if_true, beq_n, Bool.not_true, Bool.not_false, Int.reduceNeg, big, Nat.ble, h0, h1, h2, h3]
theorem t20 {s t la le fa ah ba wh re ma th go ga be ot pl te un : D} {S : Sto} {b1 b2 b3 b4 b5 : D} (h0 : m_same_endless [la, ot] S = .ok b1 S) (h1 : m_first_apart [la, ot] S = .ok b2 S) (h2 : m_first_apart [la, un] S = .ok b3 S) (h3 : m_same_endless [un, la] S = .ok b4 S) (h4 : m_first_apart [un, un] S = .ok b5 S) : l20 [some s, some t, some la, some le, some fa, some ah, some ba, some wh, some re, some ma, some th, some go, some ga, some be, some ot, some pl, some te, some un, none, none] S = .nx [some s, some t, some la, some le, some fa, some ah, some ba, some wh, some re, some ma, some th, some (.lst [b1, b2, b3, b4, b5]), some ga, some be, some ot, some pl, some te, some un, none, none] S := by
  unfold l20
  generalize m_same_endless = F17 at *
  generalize m_first_apart = F18 at *
  simp only [mDef, Nat.beq, List.length_cons, List.length_nil, List.map_cons, List.map_nil, List.replicate, List.append_nil, List.cons_append, List.nil_append, sSeq, sNil, sSet, sAsg, sPar, sDrop, sRet, sRetN, sIf, sFor, sWhile, sSub, sStuck, sBreak, sCont, Res.st, Res.bind, Res.bind0, mVar, mC, mOp2, mOp1, liftO, mIf, mAndT, mOrT, mNot, truD, tTru, liftB, tBl, blOf, mChain, tAnd2, tOr2, tNot1, tTrue, aNil, aCons, aStar, mTup, mLst, mkList, mCB, mCall, seqOf, lstR, lstOf, mSl, mPart, mNoPart, opSl, mComp, iSeq, iZip2, iEnum1, jRng1, jRng2, fixOf, fixL, mListOf, mListRg, vRng1, vRng2, bNm, setE, wipeE, List.getElem?_cons_zero, List.getElem?_cons_succ, List.set_cons_zero, List.set_cons_succ, opIsN, opNotN, isNone, bTup, bCons, bNil, if_true, beq_n, Bool.not_true, Bool.not_false, Int.reduceNeg, big, Nat.ble, h0, h1, h2, h3, h4]
theorem t21 {s t la le fa ah ba wh re ma th go ga be ot pl te un : D} {S : Sto} {p1 r : D} (h0 : opAdd pl (.int 1) S = some p1) (h1 : m__law_same 4 [go, .lst [.bl true, .non, p1, .bl false, .non]] S = .ok r S) : l21 [some s, some t, some la, some le, some fa, some ah, some ba, some wh, some re, some ma, some th, some go, some ga, some be, some ot, some pl, some te, some un, none, none] S = .rt r S := by
  unfold l21
  generalize m__law_same 4 = F9 at *
  generalize opAdd = G0 at *
  simp only [mDef, Nat.beq, List.length_cons, List.length_nil, List.map_cons, List.map_nil, List.replicate, List.append_nil, List.cons_append, List.nil_append, sSeq, sNil, sSet, sAsg, sPar, sDrop, sRet, sRetN, sIf, sFor, sWhile, sSub, sStuck, sBreak, sCont, Res.st, Res.bind, Res.bind0, mVar, mC, mOp2, mOp1, liftO, mIf, mAndT, mOrT, mNot, truD, tTru, liftB, tBl, blOf, mChain, tAnd2, tOr2, tNot1, tTrue, aNil, aCons, aStar, mTup, mLst, mkList, mCB, mCall, seqOf, lstR, lstOf, mSl, mPart, mNoPart, opSl, mComp, iSeq, iZip2, iEnum1, jRng1, jRng2, fixOf, fixL, mListOf, mListRg, vRng1, vRng2, bNm, setE, wipeE, List.getElem?_cons_zero, List.getElem?_cons_succ, List.set_cons_zero, List.set_cons_succ, opIsN, opNotN, isNone, bTup, bCons, bNil, if_true, beq_n, Bool.not_true, Bool.not_false, Int.reduceNeg, big, Nat.ble, h0, h1]
end K22

namespace K22
open PySem PySem.Spec PyProof.Rows L2 Mi
theorem cells_a {s : D} {S0 S1 S2 : Sto} {i : Nat} {R : List D} {v3 v4 v5 : Option D} (e0 : (mOrT (mListOf true (mSl (mVar 0) mNoPart (mPart (mVar 1)))) (mLst true (aCons (mC (.int 0)) aNil))) [some s, some (.int 1), none, none, none, none] S0 = .ok (.ref i) S1)
    (e1 : iEnum1 (mSl (mVar 0) (mPart (mVar 1)) (mPart (mC (.int 63)))) [some s, some (.int 1), some (.ref i), none, none, none] S1 = .ok R S1)
    (e2 : forLoop (bTup 2 (bCons (bNm 3) (bCons (bNm 4) bNil))) clBody R [some s, some (.int 1), some (.ref i), none, none, none] S1 = .nx [some s, some (.int 1), some (.ref i), v3, v4, v5] S2) : m__law_cells [s, .int 1] S0 = .ok (.ref i) S2 := by
  have hb : m__law_cells = mDef 6 2 (sSeq (sSet 2 (mOrT (mListOf true (mSl (mVar 0) mNoPart (mPart (mVar 1)))) (mLst true (aCons (mC (.int 0)) aNil))))
    (sSeq (sFor (iEnum1 (mSl (mVar 0) (mPart (mVar 1)) (mPart (mC (.int 63))))) (bTup 2 (bCons (bNm 3) (bCons (bNm 4) bNil))) clBody) (sRet (mVar 2)))) := rfl
  rw [hb]
  clear hb
  generalize clBody = B at *
  generalize mOrT (mListOf true (mSl (mVar 0) mNoPart (mPart (mVar 1)))) (mLst true (aCons (mC (.int 0)) aNil)) = M at *
  generalize iEnum1 (mSl (mVar 0) (mPart (mVar 1)) (mPart (mC (.int 63)))) = J at *
  generalize bTup 2 (bCons (bNm 3) (bCons (bNm 4) bNil)) = T at *
  simp only [mDef, Nat.beq, List.length_cons, List.length_nil, List.map_cons, List.map_nil, List.replicate, List.append_nil, List.cons_append, List.nil_append, sSeq, sNil, sSet, sAsg, sPar, sDrop, sRet, sRetN, sIf, sFor, sWhile, sSub, sStuck, sBreak, sCont, Res.st, Res.bind, Res.bind0, mVar, mC, mOp2, mOp1, liftO, mIf, mAndT, mOrT, mNot, truD, tTru, liftB, tBl, blOf, mChain, tAnd2, tOr2, tNot1, tTrue, aNil, aCons, aStar, mTup, mLst, mkList, mCB, mCall, seqOf, lstR, lstOf, mSl, mPart, mNoPart, opSl, mComp, iSeq, iZip2, iEnum1, jRng1, jRng2, fixOf, fixL, mListOf, mListRg, vRng1, vRng2, bNm, setE, wipeE, List.getElem?_cons_zero, List.getElem?_cons_succ, List.set_cons_zero, List.set_cons_succ, opIsN, opNotN, isNone, bTup, bCons, bNil, if_true, beq_n, Bool.not_true, Bool.not_false, Int.reduceNeg, e0, e1, e2]
theorem cut_map (l : List Int) (lo hi : Option Int) : ∃ l' : List Int, cut (l.map .int) lo hi = l'.map .int ∧ l'.length ≤ l.length := by
  refine ⟨(l.drop (HT.sIx l.length 0 lo)).take (HT.sIx l.length l.length hi - HT.sIx l.length 0 lo), ?_, ?_⟩
  · unfold cut
    rw [List.length_map, List.map_take, List.map_drop]
  · rw [List.length_take, List.length_drop]
    omega
theorem e_cells (ns : List Int) (hl : ns.length ≤ 63) : ∃ (i : Nat) (S' : Sto) (x : Int) (cs : List D), m__law_cells [.scr (ns.map .int), .int 1] ⟨0, []⟩ = .ok (.ref i) S' ∧ S'.get i = some (.ml (.int x :: cs)) := by
  cases ns with
  | nil => exact ⟨1, ⟨2, [(1, .ml [.int 0]), (0, .ml [])]⟩, 0, [], rfl, rfl⟩
  | cons x r =>
    obtain ⟨l', h1, h2⟩ := cut_map (x :: r) (some 1) (some 63)
    have e0 : (mOrT (mListOf true (mSl (mVar 0) mNoPart (mPart (mVar 1)))) (mLst true (aCons (mC (.int 0)) aNil))) [some (.scr ((x :: r).map .int)), some (.int 1), none, none, none, none] ⟨0, []⟩ = .ok (.ref 0) ⟨1, [(0, .ml [.int x])]⟩ := by
      have hc : cut ((x :: r).map D.int) none (some ((1 : Nat) : Int)) = [.int x] := by rw [cut_to]; rfl
      have hm : mListOf true (mSl (mVar 0) mNoPart (mPart (mVar 1))) [some (.scr ((x :: r).map .int)), some (.int 1), none, none, none, none] ⟨0, []⟩ = .ok (.ref 0) ⟨1, [(0, .ml [.int x])]⟩ := by
        have hs : mSl (mVar 0) mNoPart (mPart (mVar 1)) [some (.scr ((x :: r).map .int)), some (.int 1), none, none, none, none] ⟨0, []⟩ = .ok (.lst (cut ((x :: r).map .int) none (some 1))) ⟨0, []⟩ := rfl
        rw [show (1 : Int) = ((1 : Nat) : Int) from rfl, hc] at hs
        unfold mListOf
        rw [show (some (D.int ((1 : Nat) : Int))) = some (D.int 1) from rfl] at hs
        rw [hs]
        rfl
      unfold mOrT
      rw [hm]
      rfl
    have e1 : iEnum1 (mSl (mVar 0) (mPart (mVar 1)) (mPart (mC (.int 63)))) [some (.scr ((x :: r).map .int)), some (.int 1), some (.ref 0), none, none, none] ⟨1, [(0, .ml [.int x])]⟩ = .ok (enumFrom 0 (l'.map .int)) ⟨1, [(0, .ml [.int x])]⟩ := by
      have hs : mSl (mVar 0) (mPart (mVar 1)) (mPart (mC (.int 63))) [some (.scr ((x :: r).map .int)), some (.int 1), some (.ref 0), none, none, none] ⟨1, [(0, .ml [.int x])]⟩ = .ok (.lst (cut ((x :: r).map .int) (some 1) (some 63))) ⟨1, [(0, .ml [.int x])]⟩ := rfl
      rw [h1] at hs
      unfold iEnum1
      rw [hs]
      rfl
    obtain ⟨v3, v4, v5, cs', S', h3, h4, h5, h6⟩ := cl_loop (i := 0) (m := 1) (x0 := some (.scr ((x :: r).map .int))) (by decide) l' 0 [x] ⟨1, [(0, .ml [.int x])]⟩ none none none (by omega) rfl rfl
    cases cs' with
    | nil => cases h4
    | cons y cs' => exact ⟨0, S', y, cs'.map .int, cells_a e0 e1 h3, h5⟩
/-! ### pieces of the law -/
theorem la_of {a q : List Int} (ha : In3 a) (hq : Rd q) (hl : a.length ≤ 1000) : La a q := ⟨ha, hq.in3, hq.ne, by omega, by have := hq.le; omega⟩
theorem fnext_eq {a q l : List Int} : ∀ (m k : Nat), fnext a q l k m = fnextP a q l k m
  | 0, k => rfl
  | m + 1, k => by
    unfold fnext fnextP
    rw [fnext_eq m (k + 1)]
abbrev TS20 (x0 x1 x2 x3 x4 x5 x6 x7 x8 x9 x10 x11 : Option D) : Mi.Env := [x0, x1, x2, x3, x4, x5, x6, x7, x8, x9, x10, x11, none, none, none, none, none, none, none, none]
/-- [1 for own in p if own in l] -/
theorem ones {E : Mi.Env} {it : MA} {p l : List Int} {S : Sto} (hi : it E S = .ok (p.map .int) S) (hp : p.length ≤ 1000) (h3 : (wipeE E [19])[3]? = some (some (I l))) (h19 : (wipeE E [19]).length = 20) :
    mComp false it (bNm 19) (tBl (mOp2 (opIn false) (mVar 19) (mVar 3))) (mC (.int 1)) [19] E S = .ok (.lst ((p.filter fun x => decide (x ∈ l)).map fun _ => .int 1)) S := by
  unfold mComp
  rw [hi]
  show (match big (p.map D.int).length with | true => _ | false => _) = _
  rw [List.length_map, big_of (by omega)]
  show (lcLoop _ _ _ (wipeE E [19]) (p.map .int) S).bind0 _ = _
  rw [lcLoop_filter (p := fun d => match d with | .int x => decide (x ∈ l) | _ => false) (g := fun _ => .int 1)]
  · show Res.ok (D.lst _) S = _
    congr 2
    rw [List.filter_map, List.map_map]
    rfl
  · intro d hd
    obtain ⟨x, hx, rfl⟩ := List.mem_map.mp hd
    refine ⟨_, rfl, ?_, fun _ => rfl⟩
    generalize wipeE E [19] = W at *
    have g1 : (W.set 19 (some (.int x)))[19]? = some (some (.int x)) := by rw [List.getElem?_set_self (by omega)]
    have g2 : (W.set 19 (some (.int x)))[3]? = some (some (I l)) := by rw [List.getElem?_set_ne (by decide)]; exact h3
    have g3 := opIn_I (neg := false) (S := S) x l
    show tBl (mOp2 (opIn false) (mVar 19) (mVar 3)) (W.set 19 (some (.int x))) S = _
    generalize W.set 19 (some (.int x)) = U at *
    generalize opIn false = G at *
    simp only [mDef, Nat.beq, List.length_cons, List.length_nil, List.map_cons, List.map_nil, List.replicate, List.append_nil, List.cons_append, List.nil_append, sSeq, sNil, sSet, sAsg, sPar, sDrop, sRet, sRetN, sIf, sFor, sWhile, sSub, sStuck, sBreak, sCont, Res.st, Res.bind, Res.bind0, mVar, mC, mOp2, mOp1, liftO, mIf, mAndT, mOrT, mNot, truD, tTru, liftB, tBl, blOf, mChain, tAnd2, tOr2, tNot1, tTrue, aNil, aCons, aStar, mTup, mLst, mkList, mCB, mCall, seqOf, lstR, lstOf, mSl, mPart, mNoPart, opSl, mComp, iSeq, iZip2, iEnum1, jRng1, jRng2, fixOf, fixL, mListOf, mListRg, vRng1, vRng2, bNm, setE, wipeE, List.getElem?_cons_zero, List.getElem?_cons_succ, List.set_cons_zero, List.set_cons_succ, opIsN, opNotN, isNone, bTup, bCons, bNil, if_true, beq_n, Bool.not_true, Bool.not_false, Int.reduceNeg, g1, g2, g3]
    rfl
theorem ones_len {p l : List Int} {S : Sto} : oLen [.lst ((p.filter fun x => decide (x ∈ l)).map fun _ => D.int 1)] S = some (.int (cnt p l)) := by
  show some (D.int (((p.filter fun x => decide (x ∈ l)).map fun _ => D.int 1).length : Int)) = _
  rw [List.length_map]
  rfl
end K22

namespace K22
open PySem PySem.Spec PyProof.Rows L2 Mi
/-! ### the gaps -/
def gTest : MT := tBl (mOp2 (opIn false) (mOp2 opIx (mVar 6) (mOp2 opMod (mOp2 opAdd (mOp2 opSub (mOp2 opSub (mVar 4) (mCB oLen (aCons (mVar 5) aNil))) (mC (.int 1))) (mVar 18)) (mCB oLen (aCons (mVar 6) aNil)))) (mVar 3))
theorem g_test {W : Mi.Env} {le fa ah ba d na u v w nb x y : D} {b : Bool} {S : Sto} (g3 : W[3]? = some (some le)) (g4 : W[4]? = some (some fa)) (g5 : W[5]? = some (some ah)) (g6 : W[6]? = some (some ba)) (g18 : W[18]? = some (some d))
    (h1 : oLen [ah] S = some na) (h2 : opSub fa na S = some u) (h3 : opSub u (.int 1) S = some v) (h4 : opAdd v d S = some w) (h5 : oLen [ba] S = some nb) (h6 : opMod w nb S = some x) (h7 : opIx ba x S = some y) (h8 : opIn false y le S = some (.bl b)) : gTest W S = .ok b S := by
  unfold gTest
  generalize D.int 1 = one at *
  generalize opIn false = G0 at *
  generalize opIx = G1 at *
  generalize opMod = G2 at *
  generalize opAdd = G3 at *
  generalize opSub = G4 at *
  generalize oLen = G5 at *
  simp only [mDef, Nat.beq, List.length_cons, List.length_nil, List.map_cons, List.map_nil, List.replicate, List.append_nil, List.cons_append, List.nil_append, sSeq, sNil, sSet, sAsg, sPar, sDrop, sRet, sRetN, sIf, sFor, sWhile, sSub, sStuck, sBreak, sCont, Res.st, Res.bind, Res.bind0, mVar, mC, mOp2, mOp1, liftO, mIf, mAndT, mOrT, mNot, truD, tTru, liftB, tBl, blOf, mChain, tAnd2, tOr2, tNot1, tTrue, aNil, aCons, aStar, mTup, mLst, mkList, mCB, mCall, seqOf, lstR, lstOf, mSl, mPart, mNoPart, opSl, mComp, iSeq, iZip2, iEnum1, jRng1, jRng2, fixOf, fixL, mListOf, mListRg, vRng1, vRng2, bNm, setE, wipeE, List.getElem?_cons_zero, List.getElem?_cons_succ, List.set_cons_zero, List.set_cons_succ, opIsN, opNotN, isNone, bTup, bCons, bNil, if_true, beq_n, Bool.not_true, Bool.not_false, Int.reduceNeg, g3, g4, g5, g6, g18, h1, h2, h3, h4, h5, h6, h7, h8]
theorem gaps_loop {W : Mi.Env} {a q l : List Int} {n : Nat} {S : Sto} (hq : q ≠ []) (hn : a.length ≤ n) (hW : W.length = 20) (g3 : W[3]? = some (some (I l))) (g4 : W[4]? = some (some (.int n))) (g5 : W[5]? = some (some (I a))) (g6 : W[6]? = some (some (I q))) :
    lcLoop (bNm 18) gTest (mVar 18) W (rng 1 ((q.length : Int) + 1)) S = .ok ((gapsP a q l n).map fun s : Nat => D.int (s : Int)) S := by
  have hp : 0 < q.length := List.length_pos_iff.mpr hq
  rw [rng_1, lcLoop_filter (p := fun d => match d with | .int i => decide (at_ a q (n + (i - 1).toNat) ∈ l) | _ => false) (g := fun d => d)]
  · unfold gapsP
    rw [List.filter_map, List.map_map, List.map_map]
    congr 1
    have e : ((fun d => match d with | D.int i => decide (at_ a q (n + (i - 1).toNat) ∈ l) | _ => false) ∘ fun i : Nat => D.int ((i : Int) + 1)) = fun j => decide (at_ a q (n + j) ∈ l) := by
      funext j
      show decide (at_ a q (n + ((j : Int) + 1 - 1).toNat) ∈ l) = _
      rw [Int.add_sub_cancel, Int.toNat_natCast]
    rw [e]
    refine List.map_congr_left fun j _ => ?_
    show D.int ((j : Int) + 1) = D.int ((j + 1 : Nat) : Int)
    rfl
  · intro d hd
    obtain ⟨j, hj, rfl⟩ := List.mem_map.mp hd
    have hm : (n - a.length + j) % q.length < q.length := Nat.mod_lt _ hp
    refine ⟨_, rfl, ?_, fun _ => ?_⟩
    · have f : ∀ k, k ≠ 18 → (W.set 18 (some (.int ((j : Int) + 1))))[k]? = W[k]? := fun k hk => List.getElem?_set_ne (Ne.symm hk)
      have f18 : (W.set 18 (some (.int ((j : Int) + 1))))[18]? = some (some (.int ((j : Int) + 1))) := List.getElem?_set_self (by omega)
      show gTest (W.set 18 (some (.int ((j : Int) + 1)))) S = _
      have e1 : opMod (.int (((n : Int) - (a.length : Int)) - 1 + ((j : Int) + 1))) (.int q.length) S = some (.int (((n - a.length + j) % q.length : Nat) : Int)) := by
        rw [show ((n : Int) - (a.length : Int)) - 1 + ((j : Int) + 1) = ((n - a.length + j : Nat) : Int) by omega]
        exact opMod_nat (by omega)
      have e2 : at_ a q (n + ((j : Int) + 1 - 1).toNat) = q.getD ((n - a.length + j) % q.length) 0 := by
        rw [Int.add_sub_cancel, Int.toNat_natCast]
        unfold at_ cyc
        rw [if_neg (by omega), show n + j - a.length = n - a.length + j by omega]
      have e3 : opIx (I q) (.int (((n - a.length + j) % q.length : Nat) : Int)) S = some (.int (at_ a q (n + ((j : Int) + 1 - 1).toNat))) := by
        rw [e2]
        exact opIx_I (by rw [List.getD_eq_getElem?_getD, List.getElem?_eq_getElem hm]; rfl)
      refine g_test ((f 3 (by decide)).trans g3) ((f 4 (by decide)).trans g4) ((f 5 (by decide)).trans g5) ((f 6 (by decide)).trans g6) f18 len_I opSub_int opSub_int opAdd_int len_I e1 e3 ?_
      rw [opIn_I]
      rfl
    · show mVar 18 (W.set 18 (some (.int ((j : Int) + 1)))) S = _
      unfold mVar
      rw [List.getElem?_set_self (by omega)]
theorem gaps_comp {E : Mi.Env} {a q l : List Int} {n : Nat} {S : Sto} (hq : Rd q) (hn : a.length ≤ n) (hE : E.length = 20) (g3 : E[3]? = some (some (I l))) (g4 : E[4]? = some (some (.int n))) (g5 : E[5]? = some (some (I a))) (g6 : E[6]? = some (some (I q))) :
    mComp false (jRng2 (mC (.int 1)) (mOp2 opAdd (mCB oLen (aCons (mVar 6) aNil)) (mC (.int 1)))) (bNm 18) gTest (mVar 18) [18] E S = .ok (.lst ((gapsP a q l n).map fun s : Nat => D.int (s : Int))) S := by
  have hj : jRng2 (mC (.int 1)) (mOp2 opAdd (mCB oLen (aCons (mVar 6) aNil)) (mC (.int 1))) E S = .ok (rng 1 ((q.length : Int) + 1)) S := by
    have h1 := len_I (p := q) (S := S)
    have h2 := opAdd_int (a := (q.length : Int)) (b := 1) (S := S)
    unfold jRng2
    have h3 : mOp2 opAdd (mCB oLen (aCons (mVar 6) aNil)) (mC (.int 1)) E S = .ok (.int ((q.length : Int) + 1)) S := by
      generalize D.int (q.length : Int) = L at *
      generalize D.int ((q.length : Int) + 1) = L' at *
      generalize opAdd = G at *
      generalize oLen = G5 at *
      simp only [mDef, Nat.beq, List.length_cons, List.length_nil, List.map_cons, List.map_nil, List.replicate, List.append_nil, List.cons_append, List.nil_append, sSeq, sNil, sSet, sAsg, sPar, sDrop, sRet, sRetN, sIf, sFor, sWhile, sSub, sStuck, sBreak, sCont, Res.st, Res.bind, Res.bind0, mVar, mC, mOp2, mOp1, liftO, mIf, mAndT, mOrT, mNot, truD, tTru, liftB, tBl, blOf, mChain, tAnd2, tOr2, tNot1, tTrue, aNil, aCons, aStar, mTup, mLst, mkList, mCB, mCall, seqOf, lstR, lstOf, mSl, mPart, mNoPart, opSl, mComp, iSeq, iZip2, iEnum1, jRng1, jRng2, fixOf, fixL, mListOf, mListRg, vRng1, vRng2, bNm, setE, wipeE, List.getElem?_cons_zero, List.getElem?_cons_succ, List.set_cons_zero, List.set_cons_succ, opIsN, opNotN, isNone, bTup, bCons, bNil, if_true, beq_n, Bool.not_true, Bool.not_false, Int.reduceNeg, g6, h1, h2]
    show (mOp2 opAdd (mCB oLen (aCons (mVar 6) aNil)) (mC (.int 1)) E S).bind _ = _
    rw [h3]
    rfl
  have hs : ∀ k, k ≠ 18 → (wipeE E [18])[k]? = E[k]? := fun k hk => by
    show (E.set 18 none)[k]? = _
    exact List.getElem?_set_ne (Ne.symm hk)
  unfold mComp
  rw [hj]
  show (match big (rng 1 ((q.length : Int) + 1)).length with | true => _ | false => _) = _
  rw [rng_1, List.length_map, List.length_range, big_of (by have := hq.le; omega)]
  show (lcLoop _ _ _ (wipeE E [18]) ((List.range q.length).map fun i : Nat => D.int ((i : Int) + 1)) S).bind0 _ = _
  rw [← rng_1, gaps_loop hq.ne hn (by show (E.set 18 none).length = 20; rw [List.length_set]; exact hE) ((hs 3 (by decide)).trans g3) ((hs 4 (by decide)).trans g4) ((hs 5 (by decide)).trans g5) ((hs 6 (by decide)).trans g6)]
  rfl
/-! ### the letters behind -/
theorem far_loop {W : Mi.Env} {a q : List Int} {n : Nat} {S : Sto} (h : La a q) (hn : (n : Int) + 100 ≤ 1000000000000000000000000000000) (hW : W.length = 20) (g2 : W[2]? = some (some (PD (a, q)))) (g4 : W[4]? = some (some (.int n))) :
    lcLoop (bNm 19) tTrue (mCall m_letter_at (aCons (mVar 2) (aCons (mOp2 opAdd (mVar 4) (mVar 19)) aNil))) W (rng 1 13) S = .ok (((List.range 12).map fun j => at_ a q (n + j)).map .int) S := by
  have hr : rng 1 13 = (List.range 12).map fun i : Nat => D.int ((i : Int) + 1) := rng_1 12
  rw [hr, lcLoop_map (g := fun d => match d with | .int i => .int (at_ a q (n + (i - 1).toNat)) | d => d)]
  · rw [List.map_map, List.map_map]
    refine congrArg (fun l => Res.ok l S) (List.map_congr_left fun j _ => ?_)
    show D.int (at_ a q (n + ((j : Int) + 1 - 1).toNat)) = D.int (at_ a q (n + j))
    rw [Int.add_sub_cancel, Int.toNat_natCast]
  · intro d hd
    obtain ⟨j, hj, rfl⟩ := List.mem_map.mp hd
    have hj := List.mem_range.mp hj
    refine ⟨_, rfl, rfl, ?_⟩
    have f2 : (W.set 19 (some (.int ((j : Int) + 1))))[2]? = some (some (PD (a, q))) := (List.getElem?_set_ne (by decide)).trans g2
    have f4 : (W.set 19 (some (.int ((j : Int) + 1))))[4]? = some (some (.int n)) := (List.getElem?_set_ne (by decide)).trans g4
    have f19 : (W.set 19 (some (.int ((j : Int) + 1))))[19]? = some (some (.int ((j : Int) + 1))) := List.getElem?_set_self (by omega)
    have h1 := e_letter_at (e_sure h) h.ne (n := n + j) (by omega) S
    have h2 : opAdd (.int n) (.int ((j : Int) + 1)) S = some (.int (((n + j : Nat) : Int) + 1)) := by
      rw [opAdd_int, show (n : Int) + ((j : Int) + 1) = ((n + j : Nat) : Int) + 1 by omega]
    show mCall m_letter_at (aCons (mVar 2) (aCons (mOp2 opAdd (mVar 4) (mVar 19)) aNil)) (W.set 19 (some (.int ((j : Int) + 1)))) S = .ok (.int (at_ a q (n + ((j : Int) + 1 - 1).toNat))) S
    rw [Int.add_sub_cancel, Int.toNat_natCast]
    generalize W.set 19 (some (.int ((j : Int) + 1))) = U at *
    generalize D.int (at_ a q (n + j)) = r at *
    generalize D.int (((n + j : Nat) : Int) + 1) = k at *
    generalize D.int ((j : Int) + 1) = k1 at *
    generalize D.int (n : Int) = k2 at *
    generalize m_letter_at = F at *
    generalize opAdd = G at *
    simp only [mDef, Nat.beq, List.length_cons, List.length_nil, List.map_cons, List.map_nil, List.replicate, List.append_nil, List.cons_append, List.nil_append, sSeq, sNil, sSet, sAsg, sPar, sDrop, sRet, sRetN, sIf, sFor, sWhile, sSub, sStuck, sBreak, sCont, Res.st, Res.bind, Res.bind0, mVar, mC, mOp2, mOp1, liftO, mIf, mAndT, mOrT, mNot, truD, tTru, liftB, tBl, blOf, mChain, tAnd2, tOr2, tNot1, tTrue, aNil, aCons, aStar, mTup, mLst, mkList, mCB, mCall, seqOf, lstR, lstOf, mSl, mPart, mNoPart, opSl, mComp, iSeq, iZip2, iEnum1, jRng1, jRng2, fixOf, fixL, mListOf, mListRg, vRng1, vRng2, bNm, setE, wipeE, List.getElem?_cons_zero, List.getElem?_cons_succ, List.set_cons_zero, List.set_cons_succ, opIsN, opNotN, isNone, bTup, bCons, bNil, if_true, beq_n, Bool.not_true, Bool.not_false, Int.reduceNeg, f2, f4, f19, h1, h2]
theorem far_comp {E : Mi.Env} {a q : List Int} {n : Nat} {S : Sto} (h : La a q) (hn : (n : Int) + 100 ≤ 1000000000000000000000000000000) (hE : E.length = 20) (g2 : E[2]? = some (some (PD (a, q)))) (g4 : E[4]? = some (some (.int n))) :
    mComp false (jRng2 (mC (.int 1)) (mC (.int 13))) (bNm 19) tTrue (mCall m_letter_at (aCons (mVar 2) (aCons (mOp2 opAdd (mVar 4) (mVar 19)) aNil))) [19] E S = .ok (IL ((List.range 12).map fun j => at_ a q (n + j))) S := by
  have hs : ∀ k, k ≠ 19 → (wipeE E [19])[k]? = E[k]? := fun k hk => by
    show (E.set 19 none)[k]? = _
    exact List.getElem?_set_ne (Ne.symm hk)
  have hj : jRng2 (mC (.int 1)) (mC (.int 13)) E S = .ok (rng 1 13) S := rfl
  unfold mComp
  rw [hj]
  show (match big (rng 1 13).length with | true => _ | false => Res.stuck) = _
  rw [show big (rng 1 13).length = true from rfl]
  show (lcLoop _ _ _ (wipeE E [19]) (rng 1 13) S).bind0 _ = _
  rw [far_loop h hn (by show (E.set 19 none).length = 20; rw [List.length_set]; exact hE) ((hs 2 (by decide)).trans g2) ((hs 4 (by decide)).trans g4)]
  rfl
/-! ### far + gaps[0] if there are some -/
theorem opEq_IL {neg : Bool} {S : Sto} (p q : List Int) : opEq neg (IL p) (IL q) S = some (.bl (if neg then !decide (p = q) else decide (p = q))) := by
  have t : ∀ p : List Int, toPyS S (IL p) = some (.list (p.map .int)) := fun p => by
    show (match mapO (toPy 39) (p.map D.int) with | some ps => some (PyData.list ps) | none => none) = _
    rw [mapO_ints]
  unfold opEq
  rw [t, t]
  have : PyData.eqv (.list (p.map .int)) (.list (q.map .int)) = decide (p = q) := by
    unfold PyData.eqv
    exact eqvAll_ints p q
  simp only [this]
theorem opIx_lst0 {x : D} {xs : List D} {S : Sto} : opIx (.lst (x :: xs)) (.int 0) S = some x := by
  show (match ixN (x :: xs).length 0 with | some j => (x :: xs)[j]? | none => none) = _
  rw [show ixN (x :: xs).length 0 = some 0 from ixN_nat (k := 0) (Nat.succ_pos _)]
  rfl
theorem if_a {E : Mi.Env} {fa ga x y : D} {S : Sto} (b : Bool) (g4 : E[4]? = some (some fa)) (g12 : E[12]? = some (some ga)) (h1 : opEq true ga (.lst []) S = some (.bl b)) (h2 : b = true → opIx ga (.int 0) S = some x) (h3 : b = true → opAdd fa x S = some y) (h4 : b = false → y = .non) :
    mIf (tBl (mOp2 (opEq true) (mVar 12) (mLst false aNil))) (mOp2 opAdd (mVar 4) (mOp2 opIx (mVar 12) (mC (.int 0)))) (mC .non) E S = .ok y S := by
  generalize opEq true = G0 at *
  generalize opIx = G1 at *
  generalize opAdd = G3 at *
  cases b with
  | true =>
    have h2 := h2 rfl
    have h3 := h3 rfl
    simp only [mDef, Nat.beq, List.length_cons, List.length_nil, List.map_cons, List.map_nil, List.replicate, List.append_nil, List.cons_append, List.nil_append, sSeq, sNil, sSet, sAsg, sPar, sDrop, sRet, sRetN, sIf, sFor, sWhile, sSub, sStuck, sBreak, sCont, Res.st, Res.bind, Res.bind0, mVar, mC, mOp2, mOp1, liftO, mIf, mAndT, mOrT, mNot, truD, tTru, liftB, tBl, blOf, mChain, tAnd2, tOr2, tNot1, tTrue, aNil, aCons, aStar, mTup, mLst, mkList, mCB, mCall, seqOf, lstR, lstOf, mSl, mPart, mNoPart, opSl, mComp, iSeq, iZip2, iEnum1, jRng1, jRng2, fixOf, fixL, mListOf, mListRg, vRng1, vRng2, bNm, setE, wipeE, List.getElem?_cons_zero, List.getElem?_cons_succ, List.set_cons_zero, List.set_cons_succ, opIsN, opNotN, isNone, bTup, bCons, bNil, if_true, beq_n, Bool.not_true, Bool.not_false, Int.reduceNeg, big, Nat.ble, g4, g12, h1, h2, h3]
  | false =>
    have h4 := h4 rfl
    subst h4
    simp only [mDef, Nat.beq, List.length_cons, List.length_nil, List.map_cons, List.map_nil, List.replicate, List.append_nil, List.cons_append, List.nil_append, sSeq, sNil, sSet, sAsg, sPar, sDrop, sRet, sRetN, sIf, sFor, sWhile, sSub, sStuck, sBreak, sCont, Res.st, Res.bind, Res.bind0, mVar, mC, mOp2, mOp1, liftO, mIf, mAndT, mOrT, mNot, truD, tTru, liftB, tBl, blOf, mChain, tAnd2, tOr2, tNot1, tTrue, aNil, aCons, aStar, mTup, mLst, mkList, mCB, mCall, seqOf, lstR, lstOf, mSl, mPart, mNoPart, opSl, mComp, iSeq, iZip2, iEnum1, jRng1, jRng2, fixOf, fixL, mListOf, mListRg, vRng1, vRng2, bNm, setE, wipeE, List.getElem?_cons_zero, List.getElem?_cons_succ, List.set_cons_zero, List.set_cons_succ, opIsN, opNotN, isNone, bTup, bCons, bNil, if_true, beq_n, Bool.not_true, Bool.not_false, Int.reduceNeg, big, Nat.ble, g4, g12, h1]
theorem e_if {E : Mi.Env} {a q l : List Int} {n : Nat} {S : Sto} (hq : Rd q) (hn : a.length ≤ n) (g4 : E[4]? = some (some (.int n))) (g12 : E[12]? = some (some (.lst ((gapsP a q l n).map fun s : Nat => D.int (s : Int))))) :
    mIf (tBl (mOp2 (opEq true) (mVar 12) (mLst false aNil))) (mOp2 opAdd (mVar 4) (mOp2 opIx (mVar 12) (mC (.int 0)))) (mC .non) E S = .ok (nwOut (fnext a q l n (a.length + q.length))) S := by
  have hh := gaps_head (a := a) (q := q) (l := l) (n := n)
  have hf : fnext a q l n (a.length + q.length) = fnextP a q l n q.length := by rw [fnext_eq]; exact fnext_short hq.ne hn a.length
  rw [hf]
  have el : ((gapsP a q l n).map fun s : Nat => D.int (s : Int)) = ((gapsP a q l n).map fun s : Nat => (s : Int)).map .int := by rw [List.map_map]; rfl
  rw [el] at g12
  have eq := opEq_IL (neg := true) (S := S) ((gapsP a q l n).map fun s : Nat => (s : Int)) []
  cases hg : gapsP a q l n with
  | nil =>
    rw [hg] at hh g12 eq
    have hx : fnextP a q l n q.length = none := by
      cases hz : fnextP a q l n q.length with
      | none => rfl
      | some p => rw [hz] at hh; cases hh
    rw [hx]
    exact if_a false g4 g12 (eq.trans rfl) (x := .non) (fun z => nomatch z) (fun z => nomatch z) (fun _ => rfl)
  | cons s gs =>
    rw [hg] at hh g12 eq
    cases hz : fnextP a q l n q.length with
    | none => rw [hz] at hh; cases hh
    | some p =>
      rw [hz] at hh
      have hs : s = p + 1 - n := Option.some.inj hh
      have hp := fnext_ge hz
      refine if_a true g4 g12 (eq.trans rfl) (x := .int s) (fun _ => opIx_lst0) (fun _ => ?_) (fun z => nomatch z)
      rw [opAdd_int]
      show some (D.int ((n : Int) + (s : Int))) = some (D.int ((p : Int) + 1))
      congr 2
      omega
end K22

namespace K22
open PySem PySem.Spec PyProof.Rows L2 Mi
theorem at_nil (r : List Int) (j : Nat) : at_ [] r j = cyc r j := by
  unfold at_
  rw [if_neg (show ¬ j < ([] : List Int).length from Nat.not_lt_zero _)]
  rfl
theorem far_at {a q : List Int} (hq : Rd q) {n : Nat} (hn : a.length < n) (j : Nat) : at_ [] (K22.sr (q.drop ((n - a.length) % q.length) ++ q.take ((n - a.length) % q.length))) j = at_ a q (n + j) := by
  have hp : 0 < q.length := List.length_pos_iff.mpr hq.ne
  have hr := Nat.le_of_lt (Nat.mod_lt (n - a.length) hp)
  rw [at_sr (hq.rotk hr), at_nil, cyc_rotk hr hq.ne]
  unfold at_ cyc
  rw [if_neg (by omega), Nat.mod_add_mod, show n + j - a.length = n - a.length + j by omega]
theorem usort_of {p q : List Int} (h : ∀ x, x ∈ p ↔ x ∈ q) : usort p = usort q :=
  sorted_ext (usort_sorted p) (usort_sorted q) fun z => by rw [usort_mem, usort_mem, h]
theorem mov_ok {a q : List Int} (ha : In3 a) (hq : Rd q) (n : Nat) : In3 (movIn a q n).1 ∧ Rd (movIn a q n).2 ∧ (movIn a q n).1.length ≤ a.length := by
  have hp : 0 < q.length := List.length_pos_iff.mpr hq.ne
  unfold movIn
  by_cases h : n ≤ a.length
  · rw [if_pos h]
    exact ⟨ha.drop n, hq, by show (a.drop n).length ≤ _; rw [List.length_drop]; omega⟩
  · rw [if_neg h]
    exact ⟨fun x hx => absurd hx List.not_mem_nil, hq.rotk (Nat.le_of_lt (Nat.mod_lt _ hp)), Nat.zero_le _⟩
theorem pref_len (a q : List Int) (m : Nat) : (pref a q m).length = m := by
  unfold pref
  rw [List.length_map, List.length_range]
theorem pref_get (a q : List Int) {m k : Nat} (h : k < m) : (pref a q m)[k]? = some (at_ a q k) := by
  unfold pref
  rw [List.getElem?_map, List.getElem?_range h]
  rfl
/-- the text that is bent at a place -/
def bent (a q : List Int) (p : Nat) : List Int := (pref a q (p + 1)).set p (1 + (at_ a q p).fmod 3)
theorem bent_len (a q : List Int) (p : Nat) : (bent a q p).length = p + 1 := by
  unfold bent
  rw [List.length_set, pref_len]
theorem bent_lt {a q : List Int} {p k : Nat} (h : k < p) : (bent a q p).getD k 0 = at_ a q k := by
  unfold bent
  rw [List.getD_eq_getElem?_getD, List.getElem?_set_ne (by omega), pref_get a q (by omega)]
  rfl
theorem bent_at {a q : List Int} {p : Nat} : (bent a q p).getD p 0 = 1 + (at_ a q p).fmod 3 := by
  unfold bent
  rw [List.getD_eq_getElem?_getD, List.getElem?_set_self (by rw [pref_len]; omega)]
  rfl
theorem fmod3 {x : Int} (h : 1 ≤ x ∧ x ≤ 3) : (1 ≤ 1 + x.fmod 3 ∧ 1 + x.fmod 3 ≤ 3) ∧ 1 + x.fmod 3 ≠ x := by
  have : x = 1 ∨ x = 2 ∨ x = 3 := by omega
  rcases this with rfl | rfl | rfl <;> decide
theorem bent_in3 {a q : List Int} (ha : In3 a) (hq : Rd q) (p : Nat) : In3 (bent a q p) := fun x hx => by
  unfold bent at hx
  rcases List.mem_or_eq_of_mem_set hx with h | h
  · unfold pref at h
    obtain ⟨j, _, rfl⟩ := List.mem_map.mp h
    exact at_in3 ha hq j
  · rw [h]
    exact (fmod3 (at_in3 ha hq p)).1
theorem q_roll {a q : List Int} (hq : Rd q) : shortIn a q = shortIn (a ++ q.take 1) (rotL q) ∧ (∀ n, at_ a q n = at_ (a ++ q.take 1) (rotL q) n) := by
  cases q with
  | nil => exact absurd rfl hq.ne
  | cons x r => exact ⟨(shortIn_roll hq).symm, fun n => at_roll a r x n⟩
theorem mem_rotL {q : List Int} (x : Int) : x ∈ rotL q ↔ x ∈ q := by
  unfold rotL
  rw [List.mem_append, or_comm, ← List.mem_append, List.take_append_drop]
theorem Rd.rotL {q : List Int} (h : Rd q) : Rd (rotL q) := by
  have := h.rotk (r := 1) (by have := List.length_pos_iff.mpr h.ne; omega)
  exact this
end K22

namespace K22
open PySem PySem.Spec PyProof.Rows L2 Mi
/-- the part up to the far places -/
theorem first_half (s : D) {a q l : List Int} {n : Nat} {i : Nat} (S : Sto) (hLa : La a q) (hq : Rd q) (hal : a.length ≤ 6) (hL : Ls l) (hn : a.length + 1 < n) (hn2 : (n : Int) + 200 ≤ 1000000000000000000000000000000) (g : MS) :
    ∃ ga go : D, ∃ wh re : D, ∃ ma th : D, (sSeq l3 (sSeq l4 (sSeq l5 (sSeq l6 (sSeq l7 (sSeq l8 (sSeq l9 (sSeq l10 (sSeq l11 g))))))))) [some s, some (.ref i), some (PD (a, q)), some (I l), some (.int n), none, none, none, none, none, none, none, none, none, none, none, none, none, none, none] S =
      g [some s, some (.ref i), some (PD (a, q)), some (I l), some (.int n), some (I a), some (I q), some wh, some re, some ma, some th, some go, some ga, none, none, none, none, none, none, none] S := by
  have hqp : 0 < q.length := List.length_pos_iff.mpr hq.ne
  have hql := hq.le
  have hD : PD (a, q) = .tup [I a, I q] := rfl
  have hsub : opSub (.int (n : Int)) (.int (a.length : Int)) S = some (.int ((n - a.length : Nat) : Int)) := by
    rw [opSub_int]
    exact congrArg (fun z => some (D.int z)) (by omega)
  have hdiv := opDiv_nat (a := n - a.length) (b := q.length) (S := S) (by omega) (by omega)
  have hmod := opMod_nat (a := n - a.length) (b := q.length) (S := S) (by omega)
  have hc3 : ∀ (w : D) (u5 u6 u7 : Option D), iSeq (mSl (mVar 6) mNoPart (mPart (mVar 8))) [some s, some (.ref i), some (PD (a, q)), some (I l), some (.int n), some (I a), some (I q), some w, some (.int (((n - a.length) % q.length : Nat) : Int)), none, none, none, none, none, none, none, none, none, none, none] S = .ok ((q.take ((n - a.length) % q.length)).map .int) S := fun w _ _ _ => by
    have : iSeq (mSl (mVar 6) mNoPart (mPart (mVar 8))) [some s, some (.ref i), some (PD (a, q)), some (I l), some (.int n), some (I a), some (I q), some w, some (.int (((n - a.length) % q.length : Nat) : Int)), none, none, none, none, none, none, none, none, none, none, none] S = .ok (cut (q.map .int) none (some (((n - a.length) % q.length : Nat) : Int))) S := rfl
    rw [cut_to, ← List.map_take] at this
    exact this
  have c1 := cnt_nonneg q l
  have c2 := cnt_le q l
  have hmul : opMul (.int (((n - a.length) / q.length : Nat) : Int)) (.int (cnt q l)) S = some (.int ((((n - a.length) / q.length : Nat) : Int) * cnt q l)) := opMul_r (by omega) (by omega)
  have hhof : hof a q l n = cnt a l + (((n - a.length) / q.length : Nat) : Int) * cnt q l + cnt (q.take ((n - a.length) % q.length)) l := by
    unfold hof
    rw [if_neg (by omega)]
  have hstep : hof a q l n = hof a q l (n - 1) + if at_ a q (n - 1) ∈ l then 1 else 0 := by
    have := hof_step (a := a) (q := q) (l := l) (n := n - 1) hq.ne (by omega)
    rw [show n - 1 + 1 = n by omega] at this
    exact this
  have hall : hof a q [1, 2, 3] n = n := hof_all hLa.a3 hq.in3 hq.ne (by omega)
  have hzero : hof a q l 0 = 0 := hof_zero a q l
  have hsub1 : opSub (.int ((n - a.length : Nat) : Int)) (.int 1) S = some (.int ((n - 1 - a.length : Nat) : Int)) := by
    rw [opSub_int]
    exact congrArg (fun z => some (D.int z)) (by omega)
  have hmod1 := opMod_nat (a := n - 1 - a.length) (b := q.length) (S := S) (by omega)
  have hth : opIx (I q) (.int (((n - 1 - a.length) % q.length : Nat) : Int)) S = some (.int (at_ a q (n - 1))) := by
    have hm : (n - 1 - a.length) % q.length < q.length := Nat.mod_lt _ hqp
    refine opIx_I ?_
    unfold at_ cyc
    rw [if_neg (by omega), List.getD_eq_getElem?_getD, List.getElem?_eq_getElem hm]
    rfl
  have hfb : opSub (.int (n : Int)) (.int 1) S = some (.int ((n - 1 : Nat) : Int)) := by
    rw [opSub_int]
    exact congrArg (fun z => some (D.int z)) (by omega)
  have hle : m_letter_at [PL a q, .int (n : Int)] S = .ok (.int (at_ a q (n - 1))) S := by
    have := e_letter_at (d := PL a q) (e_sureL hLa) hq.ne (n := n - 1) (by omega) S
    rw [show (((n - 1 : Nat) : Int) + 1) = (n : Int) by omega] at this
    exact this
  have hL3 : Ls [1, 2, 3] := by unfold Ls; decide
  have la := hLa.la
  have lq := hLa.lq
  have h7a := e_often (a := a) (q := q) (d := PD (a, q)) (l := l) (dl := IL l) (n := n) (e_sure hLa) (e_lettersL hL) (by omega) hq.ne la lq S
  have h7b := e_often (a := a) (q := q) (d := PD (a, q)) (l := l) (dl := I l) (n := n - 1) (e_sure hLa) (e_letters hL) (by omega) hq.ne la lq S
  have h7c := e_often (a := a) (q := q) (d := PD (a, q)) (l := [1, 2, 3]) (dl := I [1, 2, 3]) (n := n) (e_sure hLa) (e_letters hL3) (by omega) hq.ne la lq S
  have h7d := e_often (a := a) (q := q) (d := PD (a, q)) (l := l) (dl := I l) (n := 0) (e_sure hLa) (e_letters hL) (by omega) hq.ne la lq S
  rw [hall] at h7c
  rw [hzero] at h7d
  have hll : l.length ≤ 10000 := by
    unfold Ls at hL
    simp only [List.mem_cons, List.not_mem_nil, or_false] at hL
    rcases hL with rfl | rfl | rfl | rfl | rfl | rfl | rfl <;> decide
  have hlL := e_lists_I 2 l hll S
  have hlP := e_lists_P a q (by omega) (by omega) S
  have hin := opIn_I (neg := false) (S := S) (at_ a q (n - 1)) l
  have hm3 : opSub (.int (hof a q l n)) (.int (if decide (at_ a q (n - 1) ∈ l) then 1 else 0)) S = some (.int (hof a q l (n - 1))) := by
    rw [opSub_int, hstep]
    refine congrArg (fun z => some (D.int z)) ?_
    by_cases h : at_ a q (n - 1) ∈ l
    · rw [if_pos h, if_pos (decide_eq_true h)]; omega
    · rw [if_neg h, if_neg (by simp [h])]; omega
  have hsame : m__law_same 4 [.lst [.int (hof a q l n), .int (at_ a q (n - 1)), .int (hof a q l (n - 1)), .int (n : Int), .int 0], .lst [.int (hof a q l n), .int (at_ a q (n - 1)), .int (hof a q l (n - 1)), .int (n : Int), .int 0]] S = .ok (.bl true) S := same_refl 3 _ rfl S
  have hnext := e_next (a := a) (q := q) (d := PD (a, q)) (l := l) (dl := I l) (n := n) (e_sure hLa) (e_letters hL) (by omega) hq.ne S
  have hsame2 : m__law_same 4 [nwOut (fnext a q l n (a.length + q.length)), nwOut (fnext a q l n (a.length + q.length))] S = .ok (.bl true) S := same_refl 3 _ (by cases fnext a q l n (a.length + q.length) <;> rfl) S
  have hadd : opAdd (.int (cnt a l + (((n - a.length) / q.length : Nat) : Int) * cnt q l)) (.int (cnt (q.take ((n - a.length) % q.length)) l)) S = some (.int (hof a q l n)) := by rw [opAdd_int, hhof]
  refine ⟨.lst ((gapsP a q l n).map fun s : Nat => D.int (s : Int)), .lst [.int (hof a q l n), .int (at_ a q (n - 1)), .int (hof a q l (n - 1)), .int (n : Int), .int 0], .int (((n - a.length) / q.length : Nat) : Int), .int (((n - a.length) % q.length : Nat) : Int), .int (hof a q l n), .int (at_ a q (n - 1)), ?_⟩
  rw [seq_nx (t3 hD)]
  rw [seq_nx (t4 len_I len_I hsub hdiv hmod)]
  rw [seq_nx (t5 (ones (p := a) (l := l) rfl (by omega) rfl rfl) (ones (p := q) (l := l) rfl (by omega) rfl rfl) (ones (p := q.take ((n - a.length) % q.length)) (l := l) (hc3 _ none none none) (by rw [List.length_take]; omega) rfl rfl) ones_len ones_len ones_len hmul opAdd_int hadd)]
  rw [seq_nx (t6 len_I len_I hsub hsub1 hmod1 hth)]
  rw [seq_nx (t7 hlL h7a hlP hle hfb h7b h7c)]
  rw [seq_nx (t8 (go2 := .lst [.int (hof a q l n), .int (at_ a q (n - 1)), .int (hof a q l (n - 1)), .int (n : Int), .int 0]) h7d rfl)]
  rw [seq_nx (t9 hin rfl hm3 hsame)]
  rw [seq_nx (t10 (gaps_comp hq (by omega) rfl rfl rfl rfl rfl))]
  rw [seq_nx (t11 hnext (e_if hq (by omega) rfl rfl) hsame2)]
end K22

namespace K22
open PySem PySem.Spec PyProof.Rows L2 Mi
theorem la_in3 {a q : List Int} (h : La a q) : In3 a := h.a3
/-- the part from there on -/
theorem second_half (s ga go wh re ma th : D) {a q l : List Int} {n : Nat} {i : Nat} (S : Sto) (hLa : La a q) (hq : Rd q) (hal : a.length ≤ 6) (hn : a.length + 1 < n) (hn2 : (n : Int) + 200 ≤ 1000000000000000000000000000000) (hT : Tin i 100 S) :
    ∃ S', (sSeq l12 (sSeq l13 (sSeq l14 (sSeq l15 (sSeq l16 (sSeq l17 (sSeq l18 (sSeq l19 (sSeq l20 l21))))))))) [some s, some (.ref i), some (PD (a, q)), some (I l), some (.int n), some (I a), some (I q), some wh, some re, some ma, some th, some go, some ga, none, none, none, none, none, none, none] S = .rt (.bl true) S' := by
  have hqp : 0 < q.length := List.length_pos_iff.mpr hq.ne
  have hql := hq.le
  have hrr := Nat.le_of_lt (Nat.mod_lt (n - a.length) hqp)
  have hrot := hq.rotk hrr
  have hmov : movIn a q n = ([], q.drop ((n - a.length) % q.length) ++ q.take ((n - a.length) % q.length)) := by
    unfold movIn
    rw [if_neg (by omega)]
  have h12 := e_moved hLa hq (by omega) (n := n) (by omega) S
  rw [hmov] at h12
  have hat := far_at (a := a) hq (n := n) (by omega)
  have hmemR : ∀ x, x ∈ K22.sr (q.drop ((n - a.length) % q.length) ++ q.take ((n - a.length) % q.length)) ↔ x ∈ q := fun x => by rw [(sr_ok hrot).mem, mem_rotk]
  have hidem := (sr_ok hrot).idem
  have hRb := hrot.sr
  generalize q.drop ((n - a.length) % q.length) ++ q.take ((n - a.length) % q.length) = rr at *
  have h12 : m_moved_on [PD (a, q), .int n] S = .ok (PD ([], K22.sr rr)) S := h12
  generalize K22.sr rr = b at *
  have hLb : La [] b := la_of (fun x hx => absurd hx List.not_mem_nil) hRb (Nat.zero_le _)
  have hbl := hRb.le
  -- the letters behind
  have h13a := e_begin hLb (m := 12) (by omega) S
  have hpr : pref [] b 12 = (List.range 12).map fun j => at_ a q (n + j) := List.map_congr_left fun j _ => hat j
  rw [hpr] at h13a
  have h13b := e_is_short hLb hRb (by show 0 < 100; omega) S
  rw [shortIn_nil, hidem, decide_eq_true rfl] at h13b
  have hLq : La [] q := la_of (fun x hx => absurd hx List.not_mem_nil) hq (Nat.zero_le _)
  have h13c := e_put (t := a) (a := []) hLq hq hLa.a3 (by simp; omega) S
  rw [List.append_nil] at h13c
  have h13d := e_lasso_short hLa hq (by omega) S
  have h13e : oTuple [IL ((List.range 12).map fun j => at_ a q (n + j))] S = some (I ((List.range 12).map fun j => at_ a q (n + j))) := rfl
  have hsm : ∀ p : List Int, p.length ≤ 1000 → sameOk 2 (I p) = true := fun p hp => by
    unfold sameOk
    rw [List.length_map, big_of (by omega), Bool.true_and, List.all_eq_true]
    intro x hx
    obtain ⟨y, _, rfl⟩ := List.mem_map.mp hx
    rfl
  have hso := shortIn_ok (a := a) hq
  have h13f : m__law_same 4 [.lst [I ((List.range 12).map fun j => at_ a q (n + j)), .bl true, PD (shortIn a q)], .lst [I ((List.range 12).map fun j => at_ a q (n + j)), .bl true, PD (shortIn a q)]] S = .ok (.bl true) S := by
    refine same_refl 3 _ ?_ S
    have g1 := hsm ((List.range 12).map fun j => at_ a q (n + j)) (by rw [List.length_map, List.length_range]; omega)
    have g2 : sameOk 2 (PD (shortIn a q)) = true := by
      have k1 : ∀ p : List Int, p.length ≤ 1000 → sameOk 1 (I p) = true := fun p hp => by
        unfold sameOk
        rw [List.length_map, big_of (by omega), Bool.true_and, List.all_eq_true]
        intro x hx
        obtain ⟨y, _, rfl⟩ := List.mem_map.mp hx
        rfl
      have k2 := k1 (shortIn a q).1 (by omega)
      have k3 := k1 (shortIn a q).2 (by have := hso.1.le; omega)
      unfold sameOk
      simp only [List.all_cons, List.all_nil, k2, k3]
      rfl
    unfold sameOk
    simp only [List.all_cons, List.all_nil, g1, g2]
    rfl
  -- the letters for ever
  have h14a := e_endless hLb (by show 0 + b.length < 60; omega) S
  have h14b := e_endless hLa (by omega) S
  rw [List.nil_append, usort_of hmemR] at h14a
  have h14c : opEq true (D.tup [I (usort q), I (usort q)]) (D.tup [I (usort q), I (usort q)]) S = some (.bl false) := by
    have := opEq_P (neg := true) (S := S) (usort q, usort q) (usort q, usort q)
    rw [decide_eq_true rfl] at this
    exact this
  have h14d : opEq true (D.tup [I (usort (a ++ q)), I (usort q)]) (D.tup [I (usort (a ++ q)), I (usort q)]) S = some (.bl false) := by
    have := opEq_P (neg := true) (S := S) (usort (a ++ q), usort q) (usort (a ++ q), usort q)
    rw [decide_eq_true rfl] at this
    exact this
  have hap := opAdd_I (p := a) (q := q) (S := S) (by omega)
  have h14e : ∀ be : D, (mSortSet false (mOp2 opAdd (mVar 5) (mVar 6))) [some s, some (.ref i), some (PD (a, q)), some (I l), some (.int n), some (I a), some (I q), some wh, some re, some ma, some th, some go, some ga, some be, none, none, none, none, none, none] S = .ok (.lst ((usort (a ++ q)).map .int)) S := fun be => by
    refine e_sortset (by rw [List.length_append]; omega) ?_
    show liftO (opAdd (I a) (I q) S) S = _
    rw [hap]
    rfl
  have h14f : ∀ be : D, (mSortSet false (mVar 6)) [some s, some (.ref i), some (PD (a, q)), some (I l), some (.int n), some (I a), some (I q), some wh, some re, some ma, some th, some go, some ga, some be, none, none, none, none, none, none] S = .ok (.lst ((usort q).map .int)) S := fun be =>
    e_sortset (by omega) rfl
  -- otherwise written
  have hc1 : ∀ E : Mi.Env, E[6]? = some (some (I q)) → (mSl (mVar 6) mNoPart (mPart (mC (.int 1)))) E S = .ok (I (q.take 1)) S := fun E hE => by
    have : (mSl (mVar 6) mNoPart (mPart (mC (.int 1)))) E S = .ok (D.tup (cut (q.map .int) none (some ((1 : Nat) : Int)))) S := by
      unfold mSl mVar
      rw [hE]
      rfl
    rw [cut_toI] at this
    exact this
  have hc2 : ∀ E : Mi.Env, E[6]? = some (some (I q)) → (mSl (mVar 6) (mPart (mC (.int 1))) mNoPart) E S = .ok (I (q.drop 1)) S := fun E hE => by
    have : (mSl (mVar 6) (mPart (mC (.int 1))) mNoPart) E S = .ok (D.tup (cut (q.map .int) (some ((1 : Nat) : Int)) none)) S := by
      unfold mSl mVar
      rw [hE]
      rfl
    rw [cut_fromI] at this
    exact this
  have hl1 : (q.take 1).length ≤ 1 := by rw [List.length_take]; omega
  have h15a := opAdd_I (p := a) (q := q.take 1) (S := S) (by omega)
  have h15b := opAdd_I (p := q.drop 1) (q := q.take 1) (S := S) (by rw [List.length_drop]; omega)
  -- a place
  obtain ⟨r3, S7, h16, r30, r31, _⟩ := e_take hT (by decide) (b := 12) (by decide) (by decide)
  obtain ⟨p, rfl⟩ := Int.eq_ofNat_of_zero_le r30
  have hp12 : p < 12 := by omega
  have h17a : opAdd (.int (p : Int)) (.int 1) S7 = some (.int ((p + 1 : Nat) : Int)) := rfl
  have h17b := e_begin hLa (m := p + 1) (by omega) S7
  have hg8 : (S7.new (.ml ((pref a q (p + 1)).map .int))).get S7.next = some (.ml ((pref a q (p + 1)).map .int)) := by rw [Sto.get_new, if_pos rfl]
  generalize hS8 : S7.new (.ml ((pref a q (p + 1)).map .int)) = S8 at *
  generalize hj : S7.next = j at *
  have hlen : ((pref a q (p + 1)).map D.int).length = p + 1 := by rw [List.length_map, pref_len]
  have h18a : ixN ((pref a q (p + 1)).map D.int).length (p : Int) = some p := ixN_nat (by rw [hlen]; omega)
  have h18b : opIx (.ref j) (.int (p : Int)) S8 = some (.int (at_ a q p)) := by
    rw [ix_ref hg8, h18a]
    show ((pref a q (p + 1)).map D.int)[p]? = _
    rw [List.getElem?_map, pref_get a q (by omega)]
    rfl
  have h18c : opMod (.int (at_ a q p)) (.int 3) S8 = some (.int ((at_ a q p).fmod 3)) := opMod_int (by decide)
  have h18d : opAdd (.int 1) (.int ((at_ a q p).fmod 3)) S8 = some (.int (1 + (at_ a q p).fmod 3)) := opAdd_int
  have hset : ((pref a q (p + 1)).map D.int).set p (.int (1 + (at_ a q p).fmod 3)) = (bent a q p).map .int := List.map_set.symm
  have hg9 : (S8.put j (.ml ((bent a q p).map .int))).get j = some (.ml ((bent a q p).map .int)) := by rw [Sto.get_put, if_pos rfl, hg8]; rfl
  have h18 := fun s la le fa ah ba wh re ma th go ga be ot => t18 (s := s) (t := .ref i) (la := la) (le := le) (fa := fa) (ah := ah) (ba := ba) (wh := wh) (re := re) (ma := ma) (th := th) (go := go) (ga := ga) (be := be) (ot := ot) (te := .ref j) (pl := .int (p : Int)) (S := S8) (i := j) (k := (p : Int)) (j := p) rfl rfl hg8 h18a h18b h18c h18d
  rw [hset] at h18
  generalize S8.put j (.ml ((bent a q p).map .int)) = S9 at *
  have h19a : oTuple [.ref j] S9 = some (I (bent a q p)) := by
    have : seqOf S9 (.ref j) = some ((bent a q p).map .int) := by
      show (match S9.get j with | some (.ml ys) => some ys | _ => none) = _
      rw [hg9]
    unfold oTuple
    simp only [this]
  have h19b : opAdd (.int (p : Int)) (.int 1) S9 = some (.int ((p + 1 : Nat) : Int)) := rfl
  have h19c := e_moved hLa hq (by omega) (n := p + 1) (by omega) S9
  obtain ⟨m1, m2, m3⟩ := mov_ok hLa.a3 hq (p + 1)
  obtain ⟨v1, _, v3, v4⟩ := shortIn_ok (a := (movIn a q (p + 1)).1) m2
  generalize shortIn (movIn a q (p + 1)).1 (movIn a q (p + 1)).2 = mv at *
  have hLm : La mv.1 mv.2 := la_of (fun x hx => m1 x (v4 x hx)) v1 (by omega)
  have hb3 := bent_in3 hLa.a3 hq p
  have hbl := bent_len a q p
  have h19d := e_put (t := bent a q p) hLm v1 hb3 (by omega) S9
  obtain ⟨w1, w2, w3, w4⟩ := shortIn_ok (a := bent a q p ++ mv.1) v1
  have hlt : ∀ k, k < p → at_ a q k = at_ (bent a q p ++ mv.1) mv.2 k := fun k hk => by rw [at_pre (by omega), bent_lt hk]
  have hne : at_ a q p ≠ at_ (bent a q p ++ mv.1) mv.2 p := by
    rw [at_pre (by omega), bent_at]
    exact fun z => (fmod3 (at_in3 hLa.a3 hq p)).2 z.symm
  have hun3 : In3 (shortIn (bent a q p ++ mv.1) mv.2).1 := fun x hx => by
    rcases List.mem_append.mp (w4 x hx) with h | h
    · exact hb3 x h
    · exact m1 x (v4 x h)
  have hunl : (shortIn (bent a q p ++ mv.1) mv.2).1.length ≤ 100 - 1 := by
    rw [List.length_append] at w3
    omega
  have hlt' : ∀ k, k < p → at_ a q k = at_ (shortIn (bent a q p ++ mv.1) mv.2).1 (shortIn (bent a q p ++ mv.1) mv.2).2 k := fun k hk => (hlt k hk).trans (w2 k).symm
  have hne' : at_ a q p ≠ at_ (shortIn (bent a q p ++ mv.1) mv.2).1 (shortIn (bent a q p ++ mv.1) mv.2).2 p := fun z => hne (z.trans (w2 p))
  generalize shortIn (bent a q p ++ mv.1) mv.2 = un at *
  have hLu : La un.1 un.2 := la_of hun3 w1 (by omega)
  -- the five answers
  obtain ⟨rl1, rl2⟩ := q_roll (a := a) hq
  have hqR := hq.rotL
  have hLo : La (a ++ q.take 1) (rotL q) := la_of (hLa.a3.append (hq.in3.take 1)) hqR (by rw [List.length_append]; omega)
  have hol : (a ++ q.take 1).length < 100 := by rw [List.length_append]; omega
  have h20a := e_same hLa hq (by omega) hLo hqR hol S9
  rw [← rl1, decide_eq_true rfl] at h20a
  have h20b := e_apart hLa hLo S9
  rw [fdiff_none rl2] at h20b
  have hbound : p < 0 + (max a.length un.1.length + q.length + un.2.length) := by
    rw [Nat.zero_add]
    refine Nat.lt_of_not_le fun hge => hne' ?_
    exact agree hq.ne w1.ne (fun k hk => hlt' k (by omega)) p
  have h20c := e_apart hLa hLu S9
  rw [fdiff_some hne' (Nat.zero_le _) hbound hlt'] at h20c
  have h20d := e_same hLu w1 (by omega) hLa hq (by omega) S9
  have hns : ¬ shortIn un.1 un.2 = shortIn a q := fun z => hne' (by
    have e1 := (shortIn_ok (a := un.1) w1).2.1 p
    have e2 := (shortIn_ok (a := a) hq).2.1 p
    rw [← e1, ← e2, z])
  rw [decide_eq_false hns] at h20d
  have h20e := e_apart hLu hLu S9
  rw [fdiff_none fun _ => rfl] at h20e
  have h21 : m__law_same 4 [.lst [.bl true, .non, .int ((p + 1 : Nat) : Int), .bl false, .non], .lst [.bl true, .non, .int ((p + 1 : Nat) : Int), .bl false, .non]] S9 = .ok (.bl true) S9 := same_refl 3 _ rfl S9
  have h20c : m_first_apart [PD (a, q), PD (un.1, un.2)] S9 = .ok (.int ((p + 1 : Nat) : Int)) S9 := h20c
  refine ⟨S9, ?_⟩
  rw [seq_nx (t12 h12)]
  rw [seq_nx (t13 h13a h13b h13c (far_comp hLa (by omega) rfl rfl rfl) h13e h13d h13f)]
  rw [seq_nx (t14 h14a h14b (ix1 _ _ _) (x4 := .tup [I (usort q), I (usort q)]) rfl h14c (h14e _) rfl (h14f _) rfl h14d)]
  rw [seq_nx (t15 (hc1 _ rfl) (hc2 _ rfl) h15a h15b)]
  rw [seq_nx (t16 h16)]
  rw [seq_nx (t17 h17a h17b)]
  subst hS8
  subst hj
  rw [seq_nx (h18 _ _ _ _ _ _ _ _ _ _ _ _ _ _)]
  rw [seq_nx (t19 h19a h19b h19c h19d)]
  refine Eq.trans (seq_nx (t20 h20a h20b h20c h20d h20e)) ?_
  exact t21 h19b h21
theorem law_true (ns : List Int) (hl : ns.length ≤ 63) : ∃ S', m_law [.scr (ns.map .int)] ⟨0, []⟩ = .ok (.bl true) S' := by
  obtain ⟨i0, S1, x, cs, hc, hg⟩ := e_cells ns hl
  obtain ⟨S2, hbx, ht2⟩ := e_box hg
  obtain ⟨a, q, S3, hla, ha3, hal, hq, ht3⟩ := e_lasso ht2 (by decide)
  obtain ⟨l, S4, hle, hL, ht4⟩ := e_of ht3 (by decide)
  obtain ⟨r1, S5, hr1, r10, r11, ht5⟩ := e_take ht4 (by decide) (b := 99) (by decide) (by decide)
  obtain ⟨r2, S6, hr2, r20, r21, ht6⟩ := e_take ht5 (by decide) (b := 1000000) (by decide) (by decide)
  obtain ⟨n, hn⟩ := Int.eq_ofNat_of_zero_le (a := 100000000000000000000 * (1 + r1) + r2) (by omega)
  have hT : Tin S1.next 100 S6 := by
    obtain ⟨x, y, z, g1, g2, g3, g4, g5⟩ := ht6
    exact ⟨x, y, z, g1, g2, g3, g4, by omega⟩
  have hLa := la_of ha3 hq (by omega)
  have h2a : opMul (.int 100000000000000000000) (.int (1 + r1)) S5 = some (.int (100000000000000000000 * (1 + r1))) := opMul_r (by omega) (by omega)
  have h2b : opAdd (.int (100000000000000000000 * (1 + r1))) (.int r2) S6 = some (.int (n : Int)) := by rw [opAdd_int, hn]
  obtain ⟨ga, go, wh, re, ma, th, h1⟩ := first_half (.scr (ns.map .int)) (a := a) (q := q) (l := l) (n := n) (i := S1.next) S6 hLa hq hal hL (by omega) (by omega) (sSeq l12 (sSeq l13 (sSeq l14 (sSeq l15 (sSeq l16 (sSeq l17 (sSeq l18 (sSeq l19 (sSeq l20 l21)))))))))
  obtain ⟨S', h2⟩ := second_half (.scr (ns.map .int)) ga go wh re ma th (a := a) (q := q) (l := l) (n := n) (i := S1.next) S6 hLa hq hal (by omega) (by omega) hT
  refine ⟨S', ?_⟩
  have k : b_law [some (.scr (ns.map .int)), none, none, none, none, none, none, none, none, none, none, none, none, none, none, none, none, none, none, none] ⟨0, []⟩ = .rt (.bl true) S' := by
    rw [b_law_eq]
    rw [seq_nx (t0 hc hbx)]
    rw [seq_nx (t1 hla (e_sets S3) hle)]
    rw [seq_nx (t2 (p20 := .int 100000000000000000000) (p6 := .int 1000000) rfl hr1 opAdd_int h2a rfl hr2 h2b)]
    rw [h1]
    exact h2
  have hm : m_law = mDef 20 1 b_law := rfl
  rw [hm]
  unfold mDef
  show (match b_law [some (.scr (ns.map .int)), none, none, none, none, none, none, none, none, none, none, none, none, none, none, none, none, none, none, none] ⟨0, []⟩ with
    | .nx _ S' => Res.ok D.non S'
    | .rt d S' => Res.ok d S'
    | .exc x _ S' => Res.exc x S'
    | _ => Res.stuck) = _
  rw [k]
end K22

set_option maxHeartbeats 0
namespace K22
open PySem PySem.Spec PyProof.Rows L2 Mi
def dd_tuple_of : He.DefD := ⟨("tuple_of", none), "tuple_of", "tuple_of", defArgs s_tuple_of, defBody s_tuple_of, defScope s_tuple_of, [], []⟩
def dd_is_number : He.DefD := ⟨("is_number", none), "is_number", "is_number", defArgs s_is_number, defBody s_is_number, defScope s_is_number, [], []⟩
def dd_sure_wide_of : He.DefD := ⟨("sure_wide_of", none), "sure_wide_of", "sure_wide_of", defArgs s_sure_wide_of, defBody s_sure_wide_of, defScope s_sure_wide_of, [], []⟩
def dd_is_tuple_of : He.DefD := ⟨("is_tuple_of", none), "is_tuple_of", "is_tuple_of", defArgs s_is_tuple_of, defBody s_is_tuple_of, defScope s_is_tuple_of, [], []⟩
def dd_is_letter : He.DefD := ⟨("is_letter", none), "is_letter", "is_letter", defArgs s_is_letter, defBody s_is_letter, defScope s_is_letter, [], []⟩
def dd_is_text : He.DefD := ⟨("is_text", none), "is_text", "is_text", defArgs s_is_text, defBody s_is_text, defScope s_is_text, [], []⟩
def dd_is_lasso_form : He.DefD := ⟨("is_lasso_form", none), "is_lasso_form", "is_lasso_form", defArgs s_is_lasso_form, defBody s_is_lasso_form, defScope s_is_lasso_form, [], []⟩
def dd_sure_lasso : He.DefD := ⟨("sure_lasso", none), "sure_lasso", "sure_lasso", defArgs s_sure_lasso, defBody s_sure_lasso, defScope s_sure_lasso, [], []⟩
def dd_shortest_round : He.DefD := ⟨("shortest_round", none), "shortest_round", "shortest_round", defArgs s_shortest_round, defBody s_shortest_round, defScope s_shortest_round, [], []⟩
def dd_short_in : He.DefD := ⟨("short_in", none), "short_in", "short_in", defArgs s_short_in, defBody s_short_in, defScope s_short_in, [], []⟩
def dd_lasso_short : He.DefD := ⟨("lasso_short", none), "lasso_short", "lasso_short", defArgs s_lasso_short, defBody s_lasso_short, defScope s_lasso_short, [], []⟩
def dd_is_short : He.DefD := ⟨("is_short", none), "is_short", "is_short", defArgs s_is_short, defBody s_is_short, defScope s_is_short, [], []⟩
def dd_same_endless : He.DefD := ⟨("same_endless", none), "same_endless", "same_endless", defArgs s_same_endless, defBody s_same_endless, defScope s_same_endless, [], []⟩
def dd_entry_at : He.DefD := ⟨("entry_at", none), "entry_at", "entry_at", defArgs s_entry_at, defBody s_entry_at, defScope s_entry_at, [], []⟩
def dd_sure_many : He.DefD := ⟨("sure_many", none), "sure_many", "sure_many", defArgs s_sure_many, defBody s_sure_many, defScope s_sure_many, [], []⟩
def dd_sure_spot : He.DefD := ⟨("sure_spot", none), "sure_spot", "sure_spot", defArgs s_sure_spot, defBody s_sure_spot, defScope s_sure_spot, [], []⟩
def dd_letter_at : He.DefD := ⟨("letter_at", none), "letter_at", "letter_at", defArgs s_letter_at, defBody s_letter_at, defScope s_letter_at, [], []⟩
def dd_first_letters : He.DefD := ⟨("first_letters", none), "first_letters", "first_letters", defArgs s_first_letters, defBody s_first_letters, defScope s_first_letters, [], []⟩
def dd_beginning : He.DefD := ⟨("beginning", none), "beginning", "beginning", defArgs s_beginning, defBody s_beginning, defScope s_beginning, [], []⟩
def dd_moved_on : He.DefD := ⟨("moved_on", none), "moved_on", "moved_on", defArgs s_moved_on, defBody s_moved_on, defScope s_moved_on, [], []⟩
def dd_put_ahead : He.DefD := ⟨("put_ahead", none), "put_ahead", "put_ahead", defArgs s_put_ahead, defBody s_put_ahead, defScope s_put_ahead, [], []⟩
def dd_first_apart : He.DefD := ⟨("first_apart", none), "first_apart", "first_apart", defArgs s_first_apart, defBody s_first_apart, defScope s_first_apart, [], []⟩
def dd_endless_letters : He.DefD := ⟨("endless_letters", none), "endless_letters", "endless_letters", defArgs s_endless_letters, defBody s_endless_letters, defScope s_endless_letters, [], []⟩
def dd_is_letters : He.DefD := ⟨("is_letters", none), "is_letters", "is_letters", defArgs s_is_letters, defBody s_is_letters, defScope s_is_letters, [], []⟩
def dd_sure_letters : He.DefD := ⟨("sure_letters", none), "sure_letters", "sure_letters", defArgs s_sure_letters, defBody s_sure_letters, defScope s_sure_letters, [], []⟩
def dd_count_in : He.DefD := ⟨("count_in", none), "count_in", "count_in", defArgs s_count_in, defBody s_count_in, defScope s_count_in, [], []⟩
def dd_how_often_to : He.DefD := ⟨("how_often_to", none), "how_often_to", "how_often_to", defArgs s_how_often_to, defBody s_how_often_to, defScope s_how_often_to, [], []⟩
def dd_next_with : He.DefD := ⟨("next_with", none), "next_with", "next_with", defArgs s_next_with, defBody s_next_with, defScope s_next_with, [], []⟩
def dd__law_box : He.DefD := ⟨("_law_box", none), "_law_box", "_law_box", defArgs s__law_box, defBody s__law_box, defScope s__law_box, [], []⟩
def dd__law_take : He.DefD := ⟨("_law_take", none), "_law_take", "_law_take", defArgs s__law_take, defBody s__law_take, defScope s__law_take, [], []⟩
def dd__law_cells : He.DefD := ⟨("_law_cells", none), "_law_cells", "_law_cells", defArgs s__law_cells, defBody s__law_cells, defScope s__law_cells, [], []⟩
def dd__law_same : He.DefD := ⟨("_law_same", none), "_law_same", "_law_same", defArgs s__law_same, defBody s__law_same, defScope s__law_same, [], []⟩
def dd__law_lists : He.DefD := ⟨("_law_lists", none), "_law_lists", "_law_lists", defArgs s__law_lists, defBody s__law_lists, defScope s__law_lists, [], []⟩
def dd__law_of : He.DefD := ⟨("_law_of", none), "_law_of", "_law_of", defArgs s__law_of, defBody s__law_of, defScope s__law_of, [], []⟩
def dd__law_row : He.DefD := ⟨("_law_row", none), "_law_row", "_law_row", defArgs s__law_row, defBody s__law_row, defScope s__law_row, [], []⟩
def dd__law_lasso : He.DefD := ⟨("_law_lasso", none), "_law_lasso", "_law_lasso", defArgs s__law_lasso, defBody s__law_lasso, defScope s__law_lasso, [], []⟩
def dd__law_gap_subsets : He.DefD := ⟨("_law_gap_subsets", none), "_law_gap_subsets", "_law_gap_subsets", defArgs s__law_gap_subsets, defBody s__law_gap_subsets, defScope s__law_gap_subsets, [], []⟩
def dd__law_sets : He.DefD := ⟨("_law_sets", none), "_law_sets", "_law_sets", defArgs s__law_sets, defBody s__law_sets, defScope s__law_sets, [], []⟩
def dd_law : He.DefD := ⟨("law", none), "law", "law", defArgs s_law, defBody s_law, defScope s_law, [], []⟩
def fnL : List He.DefD := [dd_tuple_of, dd_is_number, dd_sure_wide_of, dd_is_tuple_of, dd_is_letter, dd_is_text, dd_is_lasso_form, dd_sure_lasso, dd_shortest_round, dd_short_in, dd_lasso_short, dd_is_short, dd_same_endless, dd_entry_at, dd_sure_many, dd_sure_spot, dd_letter_at, dd_first_letters, dd_beginning, dd_moved_on, dd_put_ahead, dd_first_apart, dd_endless_letters, dd_is_letters, dd_sure_letters, dd_count_in, dd_how_often_to, dd_next_with, dd__law_box, dd__law_take, dd__law_cells, dd__law_same, dd__law_lists, dd__law_of, dd__law_row, dd__law_lasso, dd__law_gap_subsets, dd__law_sets, dd_law]
def faL0 : List He.Fa := [.glo "tuple_of", .glo "is_number", .glo "sure_wide_of", .glo "is_tuple_of", .glo "is_letter", .glo "is_text", .glo "is_lasso_form", .glo "sure_lasso", .glo "shortest_round", .glo "short_in", .glo "lasso_short", .glo "is_short", .glo "same_endless", .glo "entry_at", .glo "sure_many", .glo "sure_spot", .glo "letter_at", .glo "first_letters", .glo "beginning", .glo "moved_on", .glo "put_ahead", .glo "first_apart", .glo "endless_letters", .glo "is_letters", .glo "sure_letters", .glo "count_in", .glo "how_often_to", .glo "next_with", .glo "_law_box", .glo "_law_take"]
def faL1 : List He.Fa := [.glo "_law_cells", .glo "_law_same", .glo "_law_lists", .glo "_law_of", .glo "_law_row", .glo "_law_lasso", .glo "_law_gap_subsets", .glo "_law_sets", .glo "law", .free "abs", .free "all", .free "bool", .free "enumerate", .free "int", .free "isinstance", .free "len", .free "list", .free "max", .free "range", .free "set", .free "sorted", .free "str", .free "tuple", .free "zip", .int "MOST_BEGINNING" 2000, .int "MOST_PLACE" 1000000000000000000000000000000, .int "MOST_WIDE" 3]
def faL : List He.Fa := faL0 ++ faL1
def nmL0 : List PySem.Str := ["Unfit", "is_number", "tuple_of", "is_tuple_of", "MOST_WIDE", "is_letter", "is_text", "is_letters", "MOST_PLACE", "MOST_BEGINNING", "sure_wide_of", "is_lasso_form", "sure_lasso", "sure_many", "shortest_round", "short_in", "lasso_short", "is_short", "same_endless", "entry_at", "sure_spot", "letter_at", "first_letters", "beginning", "moved_on", "put_ahead", "first_apart", "endless_letters", "sure_letters", "count_in"]
def nmL1 : List PySem.Str := ["how_often_to", "next_with", "_law_box", "_law_take", "_law_cells", "_law_same", "_law_lists", "_law_of", "_law_gap_subsets", "_law_row", "_law_lasso", "_law_sets"]
def nmL : List PySem.Str := nmL0 ++ nmL1
abbrev R : PySem.W.OpenRow := PySem.W.OpenLaw.row PySem.Challenge.rw_turnfingers_k22_whole_lassos_counted_at
abbrev hk : PySem.W.Hook := He.hookD 4 faL fnL
def ob (s : PySem.W.SharedT) : He.AlD := He.obsDG 4 faL fnL (HandSHeadRun.getT s)
theorem ob_eq (s : PySem.W.SharedT) : ob s = hk.obs s.abs := He.obsDG_eq (HandSHeadRun.getT_eq s)
theorem run (w : World) : HandSHeadRun.RunEq R (PySem.W.view R.prog [47]) hk ob 4000 nmL w := by
  intro os
  kernel_rfl
theorem facts {K : PySem.W.Frag} {h : Heap} {mg : Str → Option Value} (X : K.In h) (G : h.Ns mainGlobals mg) (c : He.SaysD faL fnL K) : Fs K mg := by
  refine ⟨?_, ?_, ?_, ?_, ?_, ?_, ?_, ?_, ?_, ?_, ?_, ?_, ?_, ?_, ?_, ?_, ?_, ?_, ?_, ?_, ?_, ?_, ?_, ?_, ?_, ?_, ?_, ?_, ?_, ?_, ?_, ?_, ?_, ?_, ?_, ?_, ?_, ?_, ?_, ?_, ?_, ?_, ?_, ?_, ?_, ?_, ?_, ?_, ?_, ?_, ?_, ?_, ?_, ?_, ?_, ?_, ?_⟩
  · obtain ⟨fd, F⟩ := c.def_ 0 (d := dd_tuple_of) rfl
    have F := He5.fun_of (st := s_tuple_of) F
    exact ⟨_, fd, F, He.glo_ok X G (c.fact 0 (f := .glo "tuple_of") rfl), F.binds (ps := ["thing"]) fun _ _ _ _ _ _ us hl => match us, hl with | [_], _ => rfl⟩
  · obtain ⟨fd, F⟩ := c.def_ 1 (d := dd_is_number) rfl
    have F := He5.fun_of (st := s_is_number) F
    exact ⟨_, fd, F, He.glo_ok X G (c.fact 1 (f := .glo "is_number") rfl), F.binds (ps := ["thing"]) fun _ _ _ _ _ _ us hl => match us, hl with | [_], _ => rfl⟩
  · obtain ⟨fd, F⟩ := c.def_ 2 (d := dd_sure_wide_of) rfl
    have F := He5.fun_of (st := s_sure_wide_of) F
    exact ⟨_, fd, F, He.glo_ok X G (c.fact 2 (f := .glo "sure_wide_of") rfl), F.binds (ps := ["wide"]) fun _ _ _ _ _ _ us hl => match us, hl with | [_], _ => rfl⟩
  · obtain ⟨fd, F⟩ := c.def_ 3 (d := dd_is_tuple_of) rfl
    have F := He5.fun_of (st := s_is_tuple_of) F
    exact ⟨_, fd, F, He.glo_ok X G (c.fact 3 (f := .glo "is_tuple_of") rfl), F.binds (ps := ["thing", "many"]) fun _ _ _ _ _ _ us hl => match us, hl with | [_, _], _ => rfl⟩
  · obtain ⟨fd, F⟩ := c.def_ 4 (d := dd_is_letter) rfl
    have F := He5.fun_of (st := s_is_letter) F
    exact ⟨_, fd, F, He.glo_ok X G (c.fact 4 (f := .glo "is_letter") rfl), F.binds (ps := ["wide", "thing"]) fun _ _ _ _ _ _ us hl => match us, hl with | [_, _], _ => rfl⟩
  · obtain ⟨fd, F⟩ := c.def_ 5 (d := dd_is_text) rfl
    have F := He5.fun_of (st := s_is_text) F
    exact ⟨_, fd, F, He.glo_ok X G (c.fact 5 (f := .glo "is_text") rfl), F.binds (ps := ["wide", "thing"]) fun _ _ _ _ _ _ us hl => match us, hl with | [_, _], _ => rfl⟩
  · obtain ⟨fd, F⟩ := c.def_ 6 (d := dd_is_lasso_form) rfl
    have F := He5.fun_of (st := s_is_lasso_form) F
    exact ⟨_, fd, F, He.glo_ok X G (c.fact 6 (f := .glo "is_lasso_form") rfl), F.binds (ps := ["wide", "thing"]) fun _ _ _ _ _ _ us hl => match us, hl with | [_, _], _ => rfl⟩
  · obtain ⟨fd, F⟩ := c.def_ 7 (d := dd_sure_lasso) rfl
    have F := He5.fun_of (st := s_sure_lasso) F
    exact ⟨_, fd, F, He.glo_ok X G (c.fact 7 (f := .glo "sure_lasso") rfl), F.binds (ps := ["wide", "lasso"]) fun _ _ _ _ _ _ us hl => match us, hl with | [_, _], _ => rfl⟩
  · obtain ⟨fd, F⟩ := c.def_ 8 (d := dd_shortest_round) rfl
    have F := He5.fun_of (st := s_shortest_round) F
    exact ⟨_, fd, F, He.glo_ok X G (c.fact 8 (f := .glo "shortest_round") rfl), F.binds (ps := ["round_so"]) fun _ _ _ _ _ _ us hl => match us, hl with | [_], _ => rfl⟩
  · obtain ⟨fd, F⟩ := c.def_ 9 (d := dd_short_in) rfl
    have F := He5.fun_of (st := s_short_in) F
    exact ⟨_, fd, F, He.glo_ok X G (c.fact 9 (f := .glo "short_in") rfl), F.binds (ps := ["ahead", "round_so"]) fun _ _ _ _ _ _ us hl => match us, hl with | [_, _], _ => rfl⟩
  · obtain ⟨fd, F⟩ := c.def_ 10 (d := dd_lasso_short) rfl
    have F := He5.fun_of (st := s_lasso_short) F
    exact ⟨_, fd, F, He.glo_ok X G (c.fact 10 (f := .glo "lasso_short") rfl), F.binds (ps := ["lasso"]) fun _ _ _ _ _ _ us hl => match us, hl with | [_], _ => rfl⟩
  · obtain ⟨fd, F⟩ := c.def_ 11 (d := dd_is_short) rfl
    have F := He5.fun_of (st := s_is_short) F
    exact ⟨_, fd, F, He.glo_ok X G (c.fact 11 (f := .glo "is_short") rfl), F.binds (ps := ["lasso"]) fun _ _ _ _ _ _ us hl => match us, hl with | [_], _ => rfl⟩
  · obtain ⟨fd, F⟩ := c.def_ 12 (d := dd_same_endless) rfl
    have F := He5.fun_of (st := s_same_endless) F
    exact ⟨_, fd, F, He.glo_ok X G (c.fact 12 (f := .glo "same_endless") rfl), F.binds (ps := ["one", "other"]) fun _ _ _ _ _ _ us hl => match us, hl with | [_, _], _ => rfl⟩
  · obtain ⟨fd, F⟩ := c.def_ 13 (d := dd_entry_at) rfl
    have F := He5.fun_of (st := s_entry_at) F
    exact ⟨_, fd, F, He.glo_ok X G (c.fact 13 (f := .glo "entry_at") rfl), F.binds (ps := ["ahead", "round_so", "place"]) fun _ _ _ _ _ _ us hl => match us, hl with | [_, _, _], _ => rfl⟩
  · obtain ⟨fd, F⟩ := c.def_ 14 (d := dd_sure_many) rfl
    have F := He5.fun_of (st := s_sure_many) F
    exact ⟨_, fd, F, He.glo_ok X G (c.fact 14 (f := .glo "sure_many") rfl), F.binds (ps := ["many", "most"]) fun _ _ _ _ _ _ us hl => match us, hl with | [_, _], _ => rfl⟩
  · obtain ⟨fd, F⟩ := c.def_ 15 (d := dd_sure_spot) rfl
    have F := He5.fun_of (st := s_sure_spot) F
    exact ⟨_, fd, F, He.glo_ok X G (c.fact 15 (f := .glo "sure_spot") rfl), F.binds (ps := ["place"]) fun _ _ _ _ _ _ us hl => match us, hl with | [_], _ => rfl⟩
  · obtain ⟨fd, F⟩ := c.def_ 16 (d := dd_letter_at) rfl
    have F := He5.fun_of (st := s_letter_at) F
    exact ⟨_, fd, F, He.glo_ok X G (c.fact 16 (f := .glo "letter_at") rfl), F.binds (ps := ["lasso", "place"]) fun _ _ _ _ _ _ us hl => match us, hl with | [_, _], _ => rfl⟩
  · obtain ⟨fd, F⟩ := c.def_ 17 (d := dd_first_letters) rfl
    have F := He5.fun_of (st := s_first_letters) F
    exact ⟨_, fd, F, He.glo_ok X G (c.fact 17 (f := .glo "first_letters") rfl), F.binds (ps := ["own", "many"]) fun _ _ _ _ _ _ us hl => match us, hl with | [_, _], _ => rfl⟩
  · obtain ⟨fd, F⟩ := c.def_ 18 (d := dd_beginning) rfl
    have F := He5.fun_of (st := s_beginning) F
    exact ⟨_, fd, F, He.glo_ok X G (c.fact 18 (f := .glo "beginning") rfl), F.binds (ps := ["lasso", "many"]) fun _ _ _ _ _ _ us hl => match us, hl with | [_, _], _ => rfl⟩
  · obtain ⟨fd, F⟩ := c.def_ 19 (d := dd_moved_on) rfl
    have F := He5.fun_of (st := s_moved_on) F
    exact ⟨_, fd, F, He.glo_ok X G (c.fact 19 (f := .glo "moved_on") rfl), F.binds (ps := ["lasso", "many"]) fun _ _ _ _ _ _ us hl => match us, hl with | [_, _], _ => rfl⟩
  · obtain ⟨fd, F⟩ := c.def_ 20 (d := dd_put_ahead) rfl
    have F := He5.fun_of (st := s_put_ahead) F
    exact ⟨_, fd, F, He.glo_ok X G (c.fact 20 (f := .glo "put_ahead") rfl), F.binds (ps := ["text", "lasso"]) fun _ _ _ _ _ _ us hl => match us, hl with | [_, _], _ => rfl⟩
  · obtain ⟨fd, F⟩ := c.def_ 21 (d := dd_first_apart) rfl
    have F := He5.fun_of (st := s_first_apart) F
    exact ⟨_, fd, F, He.glo_ok X G (c.fact 21 (f := .glo "first_apart") rfl), F.binds (ps := ["one", "other"]) fun _ _ _ _ _ _ us hl => match us, hl with | [_, _], _ => rfl⟩
  · obtain ⟨fd, F⟩ := c.def_ 22 (d := dd_endless_letters) rfl
    have F := He5.fun_of (st := s_endless_letters) F
    exact ⟨_, fd, F, He.glo_ok X G (c.fact 22 (f := .glo "endless_letters") rfl), F.binds (ps := ["lasso"]) fun _ _ _ _ _ _ us hl => match us, hl with | [_], _ => rfl⟩
  · obtain ⟨fd, F⟩ := c.def_ 23 (d := dd_is_letters) rfl
    have F := He5.fun_of (st := s_is_letters) F
    exact ⟨_, fd, F, He.glo_ok X G (c.fact 23 (f := .glo "is_letters") rfl), F.binds (ps := ["wide", "thing"]) fun _ _ _ _ _ _ us hl => match us, hl with | [_, _], _ => rfl⟩
  · obtain ⟨fd, F⟩ := c.def_ 24 (d := dd_sure_letters) rfl
    have F := He5.fun_of (st := s_sure_letters) F
    exact ⟨_, fd, F, He.glo_ok X G (c.fact 24 (f := .glo "sure_letters") rfl), F.binds (ps := ["letters"]) fun _ _ _ _ _ _ us hl => match us, hl with | [_], _ => rfl⟩
  · obtain ⟨fd, F⟩ := c.def_ 25 (d := dd_count_in) rfl
    have F := He5.fun_of (st := s_count_in) F
    exact ⟨_, fd, F, He.glo_ok X G (c.fact 25 (f := .glo "count_in") rfl), F.binds (ps := ["row", "some"]) fun _ _ _ _ _ _ us hl => match us, hl with | [_, _], _ => rfl⟩
  · obtain ⟨fd, F⟩ := c.def_ 26 (d := dd_how_often_to) rfl
    have F := He5.fun_of (st := s_how_often_to) F
    exact ⟨_, fd, F, He.glo_ok X G (c.fact 26 (f := .glo "how_often_to") rfl), F.binds (ps := ["lasso", "letters", "many"]) fun _ _ _ _ _ _ us hl => match us, hl with | [_, _, _], _ => rfl⟩
  · obtain ⟨fd, F⟩ := c.def_ 27 (d := dd_next_with) rfl
    have F := He5.fun_of (st := s_next_with) F
    exact ⟨_, fd, F, He.glo_ok X G (c.fact 27 (f := .glo "next_with") rfl), F.binds (ps := ["lasso", "letters", "place"]) fun _ _ _ _ _ _ us hl => match us, hl with | [_, _, _], _ => rfl⟩
  · obtain ⟨fd, F⟩ := c.def_ 28 (d := dd__law_box) rfl
    have F := He5.fun_of (st := s__law_box) F
    exact ⟨_, fd, F, He.glo_ok X G (c.fact 28 (f := .glo "_law_box") rfl), F.binds (ps := ["script", "k"]) fun _ _ _ _ _ _ us hl => match us, hl with | [_, _], _ => rfl⟩
  · obtain ⟨fd, F⟩ := c.def_ 29 (d := dd__law_take) rfl
    have F := He5.fun_of (st := s__law_take) F
    exact ⟨_, fd, F, He.glo_ok X G (c.fact 29 (f := .glo "_law_take") rfl), F.binds (ps := ["tin", "below"]) fun _ _ _ _ _ _ us hl => match us, hl with | [_, _], _ => rfl⟩
  · obtain ⟨fd, F⟩ := c.def_ 30 (d := dd__law_cells) rfl
    have F := He5.fun_of (st := s__law_cells) F
    exact ⟨_, fd, F, He.glo_ok X G (c.fact 30 (f := .glo "_law_cells") rfl), F.binds (ps := ["script", "most"]) fun _ _ _ _ _ _ us hl => match us, hl with | [_, _], _ => rfl⟩
  · obtain ⟨fd, F⟩ := c.def_ 31 (d := dd__law_same) rfl
    have F := He5.fun_of (st := s__law_same) F
    exact ⟨_, fd, F, He.glo_ok X G (c.fact 31 (f := .glo "_law_same") rfl), F.binds (ps := ["got", "goal"]) fun _ _ _ _ _ _ us hl => match us, hl with | [_, _], _ => rfl⟩
  · obtain ⟨fd, F⟩ := c.def_ 32 (d := dd__law_lists) rfl
    have F := He5.fun_of (st := s__law_lists) F
    exact ⟨_, fd, F, He.glo_ok X G (c.fact 32 (f := .glo "_law_lists") rfl), F.binds (ps := ["matter"]) fun _ _ _ _ _ _ us hl => match us, hl with | [_], _ => rfl⟩
  · obtain ⟨fd, F⟩ := c.def_ 33 (d := dd__law_of) rfl
    have F := He5.fun_of (st := s__law_of) F
    exact ⟨_, fd, F, He.glo_ok X G (c.fact 33 (f := .glo "_law_of") rfl), F.binds (ps := ["tin", "goods"]) fun _ _ _ _ _ _ us hl => match us, hl with | [_, _], _ => rfl⟩
  · obtain ⟨fd, F⟩ := c.def_ 34 (d := dd__law_row) rfl
    have F := He5.fun_of (st := s__law_row) F
    exact ⟨_, fd, F, He.glo_ok X G (c.fact 34 (f := .glo "_law_row") rfl), F.binds (ps := ["tin", "wide", "many"]) fun _ _ _ _ _ _ us hl => match us, hl with | [_, _, _], _ => rfl⟩
  · obtain ⟨fd, F⟩ := c.def_ 35 (d := dd__law_lasso) rfl
    have F := He5.fun_of (st := s__law_lasso) F
    exact ⟨_, fd, F, He.glo_ok X G (c.fact 35 (f := .glo "_law_lasso") rfl), F.binds (ps := ["tin", "wide", "ahead", "back"]) fun _ _ _ _ _ _ us hl => match us, hl with | [_, _, _, _], _ => rfl⟩
  · obtain ⟨fd, F⟩ := c.def_ 36 (d := dd__law_gap_subsets) rfl
    have F := He5.fun_of (st := s__law_gap_subsets) F
    exact ⟨_, fd, F, He.glo_ok X G (c.fact 36 (f := .glo "_law_gap_subsets") rfl), F.binds (ps := ["some"]) fun _ _ _ _ _ _ us hl => match us, hl with | [_], _ => rfl⟩
  · obtain ⟨fd, F⟩ := c.def_ 37 (d := dd__law_sets) rfl
    have F := He5.fun_of (st := s__law_sets) F
    exact ⟨_, fd, F, He.glo_ok X G (c.fact 37 (f := .glo "_law_sets") rfl), F.binds (ps := ["wide"]) fun _ _ _ _ _ _ us hl => match us, hl with | [_], _ => rfl⟩
  · obtain ⟨fd, F⟩ := c.def_ 38 (d := dd_law) rfl
    have F := He5.fun_of (st := s_law) F
    exact ⟨_, fd, F, He.glo_ok X G (c.fact 38 (f := .glo "law") rfl), F.binds (ps := ["script"]) fun _ _ _ _ _ _ us hl => match us, hl with | [_], _ => rfl⟩
  · exact He.free_ok X G (c.fact 39 (f := .free "abs") rfl)
  · exact He.free_ok X G (c.fact 40 (f := .free "all") rfl)
  · exact He.free_ok X G (c.fact 41 (f := .free "bool") rfl)
  · exact He.free_ok X G (c.fact 42 (f := .free "enumerate") rfl)
  · exact He.free_ok X G (c.fact 43 (f := .free "int") rfl)
  · exact He.free_ok X G (c.fact 44 (f := .free "isinstance") rfl)
  · exact He.free_ok X G (c.fact 45 (f := .free "len") rfl)
  · exact He.free_ok X G (c.fact 46 (f := .free "list") rfl)
  · exact He.free_ok X G (c.fact 47 (f := .free "max") rfl)
  · exact He.free_ok X G (c.fact 48 (f := .free "range") rfl)
  · exact He.free_ok X G (c.fact 49 (f := .free "set") rfl)
  · exact He.free_ok X G (c.fact 50 (f := .free "sorted") rfl)
  · exact He.free_ok X G (c.fact 51 (f := .free "str") rfl)
  · exact He.free_ok X G (c.fact 52 (f := .free "tuple") rfl)
  · exact He.free_ok X G (c.fact 53 (f := .free "zip") rfl)
  · exact He.int_ok X G (c.fact 54 (f := .int "MOST_BEGINNING" 2000) rfl)
  · exact He.int_ok X G (c.fact 55 (f := .int "MOST_PLACE" 1000000000000000000000000000000) rfl)
  · exact He.int_ok X G (c.fact 56 (f := .int "MOST_WIDE" 3) rfl)
theorem scr_rep {K : PySem.W.Frag} {W : Wd} (ns : List Int) : Reps K W (ns.map V.int) (ns.map D.int) := ints_reps ns
theorem at_law {w : World} {K : PySem.W.Frag} {mg : Str → Option Value} {fa : Addr} {h : Heap} (F : Fs K mg) (hfa : mg "law" = some (.ref fa)) : LamX.LawAtS PySem.Challenge.rw_turnfingers_k22_whole_lassos_counted_at w K (L2.CX PySem.Challenge.rw_turnfingers_k22_whole_lassos_counted_at.prog w) 7 63 "script" mg fa h := by
  obtain ⟨f, fd, d⟩ := F.d_law
  have e := hfa.symm.trans d.g
  cases e
  refine ⟨fd, [], spF K mg m_law, fun p hp => (nomatch hp), fun p hp => (nomatch hp), fun p hp => (nomatch hp), fun s u => ?_, fun H a ns hl _ _ hS => ?_, fun base _ _ _ => ?_⟩
  · obtain ⟨_, _, _, _, _, _, _, _, _, z1, _, _⟩ := d.F.ex
    subst z1
    exact .of_eq rfl
  · refine ⟨⟨fun _ => 0, ⟨0, []⟩, H, fun _ => False⟩, [.scr (ns.map .int)], rfl, ⟨fun i c e => (nomatch e), fun i j c d e => (nomatch e), fun i c e => (nomatch e), fun a h => h.elim⟩, .cons (.scr ?_ (ints_reps ns)) .nil, ?_⟩
    · rcases hS with hS | hS
      · refine .inl ⟨hS, fun l => ?_⟩
        rcases l with l | ⟨i, c, e, _⟩
        · exact l
        · cases e
      · exact .inr hS
    · obtain ⟨S', e⟩ := law_true ns hl
      rw [e]
      intro W' v _ _ _ r
      cases r
      rfl
  · obtain ⟨f', fd', d', G⟩ := ok_law (P := PySem.Challenge.rw_turnfingers_k22_whole_lassos_counted_at.prog) (w := w) (base := base) F
    have e := d.g.symm.trans d'.g
    cases e
    have e2 := d.F.ex
    have e3 := d'.F.ex
    obtain ⟨_, _, _, _, _, _, _, _, _, z1, z2, _⟩ := e2
    obtain ⟨_, _, _, _, _, _, _, _, _, y1, y2, _⟩ := e3
    rw [z2] at y2
    cases y2
    exact G
end K22
open PySem PySem.W PySem.Calls PyProof.Rows
theorem PySem.Challenge.cw_turnfingers_k22_whole_lassos_counted_at_holds : PySem.Challenge.rw_turnfingers_k22_whole_lassos_counted_at.Holds := by
  w_on; o_law
  refine HandSHeadRun.head_any (r := OpenLaw.row PySem.Challenge.rw_turnfingers_k22_whole_lassos_counted_at) (q := view (OpenLaw.row PySem.Challenge.rw_turnfingers_k22_whole_lassos_counted_at).prog [47]) (H := K22.hk) (ob := K22.ob) (M := 4000) (loose := K22.nmL) (d := HandSHeadRun.topDef (OpenLaw.row PySem.Challenge.rw_turnfingers_k22_whole_lassos_counted_at).prog 47) (kwd := []) K22.ob_eq
    (by kernel_rfl) (fun s => by kernel_rfl) K22.run (by kernel_rfl) (by kernel_rfl) (by kernel_rfl) (by rfl) (by first | assumption | decide +kernel) (by decide +kernel) ⟨rfl, rfl, rfl, rfl, rfl, by decide +kernel⟩ ?hw ?hc
  case hw => w_witness2
  case hc =>
    refine LamX.walk_ofTsE (l := PySem.Challenge.rw_turnfingers_k22_whole_lassos_counted_at) (n := 63) (k := 7) (x := "script") (CX := fun w => L2.CX PySem.Challenge.rw_turnfingers_k22_whole_lassos_counted_at.prog w) rfl (by decide) (by kernel_rfl) ⟨rfl, by decide, by decide⟩ ?F (fun w H s e s' h => ?G)
    case G =>
      obtain ⟨_, _, _, _, _, _, _, _, _, _, _, _, _, z⟩ := h
    intro w mg fa h Y G hmg0
    obtain ⟨K, KX, c⟩ := Y
    have hmg : mg ("law" : PySem.Str) = some (.ref fa) := by
      have e : (HandSHeadRun.topDef (OpenLaw.row PySem.Challenge.rw_turnfingers_k22_whole_lassos_counted_at).prog 47).name = ("law" : PySem.Str) := by kernel_rfl
      rw [← e]
      exact hmg0
    exact ⟨K, KX, K22.at_law (K22.facts KX G c) hmg⟩

