import PyProof.Rows.All
import Wide.All
import OpenK.AllK
import Wide.FinOn
import HandS.ForMost
import HandS.ForExc
import HandS.Walk
import HandS.TupAny
import KE.DataEq
import KE.DataFind
import HandS.IsInst
import HandS.Small
import HandS.SortInts
import HandS.RaiseMore
import PyProof.ReprRoads
import HandS.Zip
import HandS.Comp
import KE.GoesMore
import HandS.WordsExc
import HandS.EndBits
import HandS.HeadEnd
import HandS.HeadHook2
import HandS.Head2
import HandS.HeadNt
import HandS.Style
import PySem.Challenge.RW_oddlong_k75_uses_told
set_option Elab.async false
set_option linter.all false
set_option autoImplicit false
set_option maxRecDepth 100000
set_option maxHeartbeats 1000000
/-! Y1: plain values D, numbered cells, and how they lie in the abstract heap of the hand layer. -/
namespace Yf
open PySem PySem.Spec PyProof.Rows L2

/-- a plain value: what is frozen is a tree; what may still change is a numbered cell; scr: the script's list -/
inductive D where
  | non | bl (b : Bool) | int (i : Int) | str (x : Str)
  | tup (ds : List D) | lst (ds : List D) | dic (kvs : List (Key × D)) | obj (c : Str) (fs : List (Str × D))
  | cell (n : Nat) | scr (ns : List Int)
  deriving Inhabited
/-- what a cell holds -/
inductive MO where
  | lst (ds : List D) | dic (kvs : List (Key × D)) | ins (c : Str) (fs : List (Str × D)) | frz (d : D)
  deriving Inhabited
abbrev Mu := List MO
/-- an exception: its class, its fields -/
structure Ex where
  cls : Str
  fs : List (Str × D)
/-- the ghost: what is frozen and may be told of, what stands aside (told of by nobody, left as it is), where the cells lie -/
structure GS where
  G : Hp
  F : Hp
  θ : List Addr

section
variable (K : PySem.W.Frag) (mg : Str → Option Value)
mutual
inductive RV (g : GS) : D → V → Prop
  | non : RV g .non .non
  | bl (b : Bool) : RV g (.bl b) (.bl b)
  | int (i : Int) : RV g (.int i) (.int i)
  | str (x : Str) : RV g (.str x) (.str x)
  | tup {a : Addr} {xs : List V} {ds : List D} : SqT K g.G a xs → RVs g ds xs → RV g (.tup ds) (.ref a)
  | lst {a : Addr} {xs : List V} {ds : List D} : g.G a = some (.lst xs) → RVs g ds xs → RV g (.lst ds) (.ref a)
  | dic {a : Addr} {ks : List (Key × V)} {kds : List (Key × D)} : g.G a = some (.dK ks) → RKs g kds ks → RV g (.dic kds) (.ref a)
  | obj {a C dx : Addr} {c : Str} {fs : List (Str × V)} {fds : List (Str × D)} : mg c = some (.ref C) → g.G a = some (.ins C dx fs) → RFs g fds fs → RV g (.obj c fds) (.ref a)
  | cell {a : Addr} {n : Nat} : g.θ[n]? = some a → RV g (.cell n) (.ref a)
  | scr {a : Addr} {ns : List Int} : SqL K g.G a (ns.map V.int) → RV g (.scr ns) (.ref a)
inductive RVs (g : GS) : List D → List V → Prop
  | nil : RVs g [] []
  | cons {d : D} {v : V} {ds : List D} {vs : List V} : RV g d v → RVs g ds vs → RVs g (d :: ds) (v :: vs)
inductive RKs (g : GS) : List (Key × D) → List (Key × V) → Prop
  | nil : RKs g [] []
  | cons {k : Key} {d : D} {v : V} {ds : List (Key × D)} {vs : List (Key × V)} : RV g d v → RKs g ds vs → RKs g ((k, d) :: ds) ((k, v) :: vs)
inductive RFs (g : GS) : List (Str × D) → List (Str × V) → Prop
  | nil : RFs g [] []
  | cons {k : Str} {d : D} {v : V} {ds : List (Str × D)} {vs : List (Str × V)} : RV g d v → RFs g ds vs → RFs g ((k, d) :: ds) ((k, v) :: vs)
end
/-- what lies at a cell's address -/
def RC (g : GS) (a : Addr) (o : HO) : MO → Prop
  | .lst ds => ∃ xs, o = .lst xs ∧ RVs K mg g ds xs
  | .dic kds => ∃ ks, o = .dK ks ∧ RKs K mg g kds ks
  | .ins c fds => ∃ C dx fs, o = .ins C dx fs ∧ mg c = some (.ref C) ∧ RFs K mg g fds fs
  | .frz d => False
structure RS (g : GS) (μ : Mu) (H : Hp) : Prop where
  frz : ∀ a o, g.G a = some o → H a = some o
  frm : ∀ a o, g.F a = some o → H a = some o
  dis : ∀ a o, g.F a = some o → g.G a = none
  len : g.θ.length = μ.length
  nd : g.θ.Nodup
  fz : ∀ (n : Nat) (d : D) (a : Addr), μ[n]? = some (MO.frz d) → g.θ[n]? = some a → (∃ o, g.G a = some o) ∧ RV K mg g d (.ref a)
  cel : ∀ (n : Nat) (o : MO) (a : Addr), μ[n]? = some o → g.θ[n]? = some a → (∀ d, o ≠ MO.frz d) → (g.G a = none ∧ g.F a = none) ∧ ∃ u, H a = some u ∧ RC K mg g a u o
end
/-- later ghosts -/
structure GS.le (g g' : GS) : Prop where
  G : ∀ a o, g.G a = some o → g'.G a = some o
  F : g'.F = g.F
  θ : ∃ r, g'.θ = g.θ ++ r
theorem GS.le.refl (g : GS) : g.le g := ⟨fun _ _ h => h, rfl, [], by simp⟩
theorem GS.le.trans {a b c : GS} (x : a.le b) (y : b.le c) : a.le c := by
  obtain ⟨r1, h1⟩ := x.θ
  obtain ⟨r2, h2⟩ := y.θ
  exact ⟨fun p o h => y.G p o (x.G p o h), y.F.trans x.F, r1 ++ r2, by rw [h2, h1, List.append_assoc]⟩
theorem GS.le.at {g g' : GS} (x : g.le g') {n : Nat} {a : Addr} (h : g.θ[n]? = some a) : g'.θ[n]? = some a := by
  obtain ⟨r, e⟩ := x.θ
  have hn : n < g.θ.length := (List.getElem?_eq_some_iff.mp h).1
  rw [e, List.getElem?_append_left hn]
  exact h

section
variable {K : PySem.W.Frag} {mg : Str → Option Value} {g g' : GS} {μ : Mu} {H : Hp}
theorem sqT_mono {a : Addr} {xs : List V} {G G' : Hp} (l : ∀ a o, G a = some o → G' a = some o) (h : SqT K G a xs) : SqT K G' a xs := by
  rcases h with (h | ⟨o, h⟩) | h
  · exact .inl (.inl (l _ _ h))
  · exact .inl (.inr ⟨o, l _ _ h⟩)
  · exact .inr h
theorem sqL_mono {a : Addr} {xs : List V} {G G' : Hp} (l : ∀ a o, G a = some o → G' a = some o) (h : SqL K G a xs) : SqL K G' a xs := by
  rcases h with (h | ⟨o, h⟩) | h
  · exact .inl (.inl (l _ _ h))
  · exact .inl (.inr ⟨o, l _ _ h⟩)
  · exact .inr h
mutual
theorem RV.mono (l : g.le g') : ∀ {d : D} {v : V}, RV K mg g d v → RV K mg g' d v
  | _, _, .non => .non
  | _, _, .bl b => .bl b
  | _, _, .int i => .int i
  | _, _, .str x => .str x
  | _, _, .tup h r => .tup (sqT_mono l.G h) (RVs.mono l r)
  | _, _, .lst h r => .lst (l.G _ _ h) (RVs.mono l r)
  | _, _, .dic h r => .dic (l.G _ _ h) (RKs.mono l r)
  | _, _, .obj c h r => .obj c (l.G _ _ h) (RFs.mono l r)
  | _, _, .cell h => .cell (l.at h)
  | _, _, .scr h => .scr (sqL_mono l.G h)
theorem RVs.mono (l : g.le g') : ∀ {d : List D} {v : List V}, RVs K mg g d v → RVs K mg g' d v
  | _, _, .nil => .nil
  | _, _, .cons h r => .cons (RV.mono l h) (RVs.mono l r)
theorem RKs.mono (l : g.le g') : ∀ {d : List (Key × D)} {v : List (Key × V)}, RKs K mg g d v → RKs K mg g' d v
  | _, _, .nil => .nil
  | _, _, .cons h r => .cons (RV.mono l h) (RKs.mono l r)
theorem RFs.mono (l : g.le g') : ∀ {d : List (Str × D)} {v : List (Str × V)}, RFs K mg g d v → RFs K mg g' d v
  | _, _, .nil => .nil
  | _, _, .cons h r => .cons (RV.mono l h) (RFs.mono l r)
end
theorem RC.mono (l : g.le g') {a : Addr} {u : HO} {o : MO} (h : RC K mg g a u o) : RC K mg g' a u o := by
  cases o with
  | lst ds => obtain ⟨xs, e, r⟩ := h; exact ⟨xs, e, r.mono l⟩
  | dic ds => obtain ⟨xs, e, r⟩ := h; exact ⟨xs, e, r.mono l⟩
  | ins c fs => obtain ⟨C, dx, f, e, m, r⟩ := h; exact ⟨C, dx, f, e, m, r.mono l⟩
  | frz d => exact h.elim
theorem RVs.length : ∀ {d : List D} {v : List V}, RVs K mg g d v → d.length = v.length
  | _, _, .nil => rfl
  | _, _, .cons _ r => by simp [RVs.length r]
theorem RVs.get : ∀ {ds : List D} {vs : List V} {i : Nat} {d : D}, RVs K mg g ds vs → ds[i]? = some d → ∃ v, vs[i]? = some v ∧ RV K mg g d v
  | _, _, _, _, .nil, e => by simp at e
  | _, _, 0, _, .cons r _, e => by simp at e; subst e; exact ⟨_, rfl, r⟩
  | _, _, i + 1, d, .cons _ t, e => by
    obtain ⟨u, h1, h2⟩ := RVs.get (i := i) (d := d) t (by simpa using e)
    exact ⟨u, by simpa using h1, h2⟩
theorem RVs.append : ∀ {a b : List D} {x y : List V}, RVs K mg g a x → RVs K mg g b y → RVs K mg g (a ++ b) (x ++ y)
  | _, _, _, _, .nil, s => s
  | _, _, _, _, .cons r t, s => .cons r (RVs.append t s)
theorem RVs.take : ∀ {a : List D} {x : List V} (n : Nat), RVs K mg g a x → RVs K mg g (a.take n) (x.take n)
  | _, _, 0, _ => .nil
  | _, _, _ + 1, .nil => .nil
  | _, _, n + 1, .cons r t => .cons r (RVs.take n t)
theorem RVs.drop : ∀ {a : List D} {x : List V} (n : Nat), RVs K mg g a x → RVs K mg g (a.drop n) (x.drop n)
  | _, _, 0, r => r
  | _, _, _ + 1, .nil => .nil
  | _, _, n + 1, .cons _ t => RVs.drop n t
theorem RVs.set {d : D} {v : V} (r : RV K mg g d v) : ∀ {a : List D} {x : List V} (i : Nat), RVs K mg g a x → RVs K mg g (a.set i d) (x.set i v)
  | _, _, _, .nil => .nil
  | _, _, 0, .cons _ t => .cons r t
  | _, _, i + 1, .cons q t => .cons q (RVs.set r i t)
theorem RVs.dropLast {a : List D} {x : List V} (h : RVs K mg g a x) : RVs K mg g a.dropLast x.dropLast := by
  rw [List.dropLast_eq_take, List.dropLast_eq_take, h.length]
  exact h.take _
theorem RVs.eraseIdx : ∀ {a : List D} {x : List V} (i : Nat), RVs K mg g a x → RVs K mg g (a.eraseIdx i) (x.eraseIdx i)
  | _, _, _, .nil => .nil
  | _, _, 0, .cons _ t => t
  | _, _, i + 1, .cons q t => .cons q (RVs.eraseIdx i t)
theorem RVs.reverse {a : List D} {x : List V} (h : RVs K mg g a x) : RVs K mg g a.reverse x.reverse := by
  induction h using RVs.rec (motive_1 := fun _ _ _ => True) (motive_3 := fun _ _ _ => True) (motive_4 := fun _ _ _ => True) with
  | nil => exact .nil
  | cons r t _ ih => simpa using ih.append (.cons r .nil)
  | _ => trivial
theorem RVs.none_of {ds : List D} {vs : List V} {i : Nat} (r : RVs K mg g ds vs) (e : ds[i]? = none) : vs[i]? = none := by
  have h := r.length
  rw [List.getElem?_eq_none_iff] at e ⊢
  omega
theorem RS.cells (R : RS K mg g μ H) {n : Nat} {o : MO} (e : μ[n]? = some o) : ∃ a, g.θ[n]? = some a := by
  have h := (List.getElem?_eq_some_iff.mp e).1
  have h2 : n < g.θ.length := by rw [R.len]; exact h
  exact ⟨g.θ[n], List.getElem?_eq_getElem h2⟩
theorem nodup_at {l : List Addr} (h : l.Nodup) {n m : Nat} {a : Addr} (e1 : l[n]? = some a) (e2 : l[m]? = some a) : n = m := by
  obtain ⟨h1, q1⟩ := List.getElem?_eq_some_iff.mp e1
  obtain ⟨h2, q2⟩ := List.getElem?_eq_some_iff.mp e2
  exact (List.getElem_inj h).mp (q1.trans q2.symm)
/-- a fresh address is nobody's -/
theorem RS.freshG (R : RS K mg g μ H) {p : Addr} (h : H p = none) : g.G p = none := by
  cases e : g.G p with
  | none => rfl
  | some o => rw [R.frz _ _ e] at h; cases h
theorem RS.freshF (R : RS K mg g μ H) {p : Addr} (h : H p = none) : g.F p = none := by
  cases e : g.F p with
  | none => rfl
  | some o => rw [R.frm _ _ e] at h; cases h
theorem RS.freshT (R : RS K mg g μ H) {p : Addr} (h : H p = none) : p ∉ g.θ := fun hm => by
  obtain ⟨n, hn, e⟩ := List.mem_iff_getElem.mp hm
  have e1 : g.θ[n]? = some p := by rw [List.getElem?_eq_getElem hn, e]
  have hn2 : n < μ.length := by rw [← R.len]; exact hn
  have e2 : μ[n]? = some μ[n] := List.getElem?_eq_getElem hn2
  by_cases hf : ∃ d, μ[n] = MO.frz d
  · obtain ⟨d, hd⟩ := hf
    rw [hd] at e2
    obtain ⟨⟨o, q⟩, _⟩ := R.fz n d p e2 e1
    rw [R.frz _ _ q] at h; cases h
  · obtain ⟨_, u, q, _⟩ := R.cel n _ p e2 e1 fun d z => hf ⟨d, z⟩
    rw [q] at h; cases h
/-- an address of nobody -/
structure GS.no (g : GS) (p : Addr) : Prop where
  G : g.G p = none
  F : g.F p = none
  θ : p ∉ g.θ
theorem RS.fresh (R : RS K mg g μ H) {p : Addr} (h : H p = none) : g.no p := ⟨R.freshG h, R.freshF h, R.freshT h⟩
/-- things not of ours may come and go -/
theorem RS.other {H' : Hp} (R : RS K mg g μ H) (h : ∀ a, ¬ g.no a → H' a = H a) : RS K mg g μ H' where
  frz := fun a o e => (h a fun z => by rw [z.G] at e; cases e).trans (R.frz a o e)
  frm := fun a o e => (h a fun z => by rw [z.F] at e; cases e).trans (R.frm a o e)
  dis := R.dis
  len := R.len
  nd := R.nd
  fz := R.fz
  cel := fun n o a e1 e2 e3 => by
    obtain ⟨q1, u, q2, q3⟩ := R.cel n o a e1 e2 e3
    exact ⟨q1, u, (h a fun z => z.θ (List.mem_of_getElem? e2)).trans q2, q3⟩
theorem RS.upd_no {p : Addr} {o : HO} (R : RS K mg g μ H) (h : g.no p) : RS K mg g μ (upd H p o) :=
  R.other fun a ha => upd_ne fun z => ha (z ▸ h)
theorem RS.upd_fresh {p : Addr} {o : HO} (R : RS K mg g μ H) (h : H p = none) : RS K mg g μ (upd H p o) := R.upd_no (R.fresh h)
/-- a thing that is nobody's is frozen -/
def GS.add (g : GS) (p : Addr) (o : HO) : GS := ⟨upd g.G p o, g.F, g.θ⟩
theorem GS.le_add {p : Addr} {o : HO} (h : g.G p = none) : g.le (g.add p o) := ⟨fun a u e => (upd_ne (ne_of_none e h)).trans e, rfl, [], by simp [GS.add]⟩
theorem RS.freeze {p : Addr} {o : HO} (R : RS K mg g μ H) (h : H p = some o) (h1 : g.no p) : RS K mg (g.add p o) μ H where
  frz := fun a u e => by
    by_cases hp : a = p
    · subst hp
      have e' : upd g.G a o a = some u := e
      rw [upd_same] at e'; cases e'; exact h
    · exact R.frz a u ((upd_ne hp).symm.trans e)
  frm := R.frm
  dis := fun a u e => by
    have hp : a ≠ p := fun z => by
      have e' : g.F a = some u := e
      rw [z, h1.F] at e'; cases e'
    exact (upd_ne hp).trans (R.dis a u e)
  len := R.len
  nd := R.nd
  fz := fun n d a e1 e2 => by
    obtain ⟨⟨u, q⟩, r⟩ := R.fz n d a e1 e2
    exact ⟨⟨u, (GS.le_add h1.G).G a u q⟩, r.mono (GS.le_add h1.G)⟩
  cel := fun n u a e1 e2 e3 => by
    obtain ⟨q1, v, q2, q3⟩ := R.cel n u a e1 e2 e3
    have hap : a ≠ p := fun z => h1.θ (z ▸ List.mem_of_getElem? e2)
    exact ⟨⟨(upd_ne hap).trans q1.1, q1.2⟩, v, q2, q3.mono (GS.le_add h1.G)⟩
theorem RS.lay {p : Addr} {o : HO} (R : RS K mg g μ H) (h : H p = none) : RS K mg (g.add p o) μ (upd H p o) :=
  (R.upd_fresh h).freeze upd_same (R.fresh h)
theorem RS.le_lay {p : Addr} {o : HO} (R : RS K mg g μ H) (h : H p = none) : g.le (g.add p o) := GS.le_add (R.freshG h)
theorem GS.add_at {p : Addr} {o : HO} : (g.add p o).G p = some o := upd_same
/-- a thing that is nobody's becomes a cell -/
def GS.cel (g : GS) (p : Addr) : GS := ⟨g.G, g.F, g.θ ++ [p]⟩
theorem GS.le_cel {p : Addr} : g.le (g.cel p) := ⟨fun _ _ e => e, rfl, [p], rfl⟩
theorem end_of {α : Type} {l : List α} {x : α} {n : Nat} (h : n < (l ++ [x]).length) (hn : ¬ n < l.length) : n = l.length := by
  rw [List.length_append, List.length_singleton] at h
  omega
theorem RS.celled {p : Addr} {u : HO} {o : MO} (R : RS K mg g μ H) (h : H p = some u) (h1 : g.no p) (hc : RC K mg g p u o) : RS K mg (g.cel p) (μ ++ [o]) H where
  frz := R.frz
  frm := R.frm
  dis := R.dis
  len := by simp [GS.cel, R.len]
  nd := by
    show (g.θ ++ [p]).Nodup
    rw [List.nodup_append]
    refine ⟨R.nd, by simp, fun a ha b hb => ?_⟩
    simp at hb
    subst hb
    exact fun z => h1.θ (z ▸ ha)
  fz := fun n d a e1 e2 => by
    by_cases hn : n < μ.length
    · rw [List.getElem?_append_left hn] at e1
      have e2' : (g.θ ++ [p])[n]? = some a := e2
      rw [List.getElem?_append_left (by rw [R.len]; exact hn)] at e2'
      obtain ⟨q, r⟩ := R.fz n d a e1 e2'
      exact ⟨q, r.mono GS.le_cel⟩
    · have hl := end_of (List.getElem?_eq_some_iff.mp e1).1 hn
      subst hl
      simp at e1
      subst e1
      exact hc.elim
  cel := fun n v a e1 e2 e3 => by
    by_cases hn : n < μ.length
    · rw [List.getElem?_append_left hn] at e1
      have e2' : (g.θ ++ [p])[n]? = some a := e2
      rw [List.getElem?_append_left (by rw [R.len]; exact hn)] at e2'
      obtain ⟨q1, w, q2, q3⟩ := R.cel n v a e1 e2' e3
      exact ⟨q1, w, q2, q3.mono GS.le_cel⟩
    · have hl := end_of (List.getElem?_eq_some_iff.mp e1).1 hn
      subst hl
      simp at e1
      subst e1
      have e2' : (g.θ ++ [p])[μ.length]? = some a := e2
      rw [← R.len] at e2'
      simp at e2'
      subst e2'
      exact ⟨⟨h1.G, h1.F⟩, u, h, hc.mono GS.le_cel⟩
/-- a cell is written -/
theorem RS.write {n : Nat} {a : Addr} {o o' : MO} {u : HO} (R : RS K mg g μ H) (e1 : μ[n]? = some o) (e2 : g.θ[n]? = some a) (hn : ∀ d, o ≠ MO.frz d) (hc : RC K mg g a u o') : RS K mg g (μ.set n o') (upd H a u) where
  frz := fun b v e => by
    have : b ≠ a := fun z => by
      rw [z, (R.cel n o a e1 e2 hn).1.1] at e; cases e
    rw [upd_ne this]
    exact R.frz b v e
  frm := fun b v e => by
    have : b ≠ a := fun z => by
      rw [z, (R.cel n o a e1 e2 hn).1.2] at e; cases e
    rw [upd_ne this]
    exact R.frm b v e
  dis := R.dis
  len := by rw [List.length_set, R.len]
  nd := R.nd
  fz := fun m d b q1 q2 => by
    by_cases hm : m = n
    · subst hm
      rw [List.getElem?_set_self (List.getElem?_eq_some_iff.mp e1).1] at q1
      cases q1
      exact hc.elim
    · rw [List.getElem?_set_ne (Ne.symm hm)] at q1
      exact R.fz m d b q1 q2
  cel := fun m v b q1 q2 q3 => by
    by_cases hm : m = n
    · subst hm
      rw [List.getElem?_set_self (List.getElem?_eq_some_iff.mp e1).1] at q1
      cases q1
      rw [e2] at q2; cases q2
      exact ⟨(R.cel m o a e1 e2 hn).1, u, upd_same, hc⟩
    · rw [List.getElem?_set_ne (Ne.symm hm)] at q1
      obtain ⟨p1, w, p2, p3⟩ := R.cel m v b q1 q2 q3
      have : b ≠ a := fun z => hm (nodup_at R.nd q2 (z ▸ e2))
      exact ⟨p1, w, (upd_ne this).trans p2, p3⟩
/-- a cell is frozen for good: d is what it holds -/
theorem RS.fixed {n : Nat} {a : Addr} {o : MO} {u : HO} {d : D} (R : RS K mg g μ H) (e1 : μ[n]? = some o) (e2 : g.θ[n]? = some a) (hn : ∀ d, o ≠ MO.frz d) (hu : H a = some u) (hd : RV K mg (g.add a u) d (.ref a)) :
    RS K mg (g.add a u) (μ.set n (MO.frz d)) H := by
  have hG := (R.cel n o a e1 e2 hn).1
  have l : g.le (g.add a u) := GS.le_add hG.1
  refine ⟨fun b v e => ?_, R.frm, fun b v e => ?_, by rw [List.length_set]; exact R.len, R.nd, fun m d' b q1 q2 => ?_, fun m v b q1 q2 q3 => ?_⟩
  · by_cases hb : b = a
    · subst hb
      have e' : upd g.G b u b = some v := e
      rw [upd_same] at e'; cases e'; exact hu
    · exact R.frz b v ((upd_ne hb).symm.trans e)
  · have hb : b ≠ a := fun z => by
      have e' : g.F b = some v := e
      rw [z, hG.2] at e'; cases e'
    exact (upd_ne hb).trans (R.dis b v e)
  · by_cases hm : m = n
    · subst hm
      rw [List.getElem?_set_self (List.getElem?_eq_some_iff.mp e1).1] at q1
      cases q1
      have q2' : g.θ[m]? = some b := q2
      rw [e2] at q2'; cases q2'
      exact ⟨⟨u, upd_same⟩, hd⟩
    · rw [List.getElem?_set_ne (Ne.symm hm)] at q1
      obtain ⟨⟨w, p1⟩, p2⟩ := R.fz m d' b q1 q2
      exact ⟨⟨w, l.G _ _ p1⟩, p2.mono l⟩
  · by_cases hm : m = n
    · subst hm
      rw [List.getElem?_set_self (List.getElem?_eq_some_iff.mp e1).1] at q1
      cases q1
      exact absurd rfl (q3 d)
    · rw [List.getElem?_set_ne (Ne.symm hm)] at q1
      obtain ⟨p1, w, p2, p3⟩ := R.cel m v b q1 q2 q3
      have : b ≠ a := fun z => hm (nodup_at R.nd q2 (z ▸ e2))
      exact ⟨⟨(upd_ne this).trans p1.1, p1.2⟩, w, p2, p3.mono l⟩
/-- aside: what nobody tells of stands as it is while something is reckoned -/
def GS.put (g : GS) (p : Addr) (o : HO) : GS := ⟨g.G, upd g.F p o, g.θ⟩
mutual
theorem RV.same {g g' : GS} (hG : g'.G = g.G) (hθ : g'.θ = g.θ) : ∀ {d : D} {v : V}, RV K mg g d v → RV K mg g' d v
  | _, _, .non => .non
  | _, _, .bl b => .bl b
  | _, _, .int i => .int i
  | _, _, .str x => .str x
  | _, _, .tup h r => .tup (hG ▸ h) (RVs.same hG hθ r)
  | _, _, .lst h r => .lst (hG ▸ h) (RVs.same hG hθ r)
  | _, _, .dic h r => .dic (hG ▸ h) (RKs.same hG hθ r)
  | _, _, .obj c h r => .obj c (hG ▸ h) (RFs.same hG hθ r)
  | _, _, .cell h => .cell (hθ ▸ h)
  | _, _, .scr h => .scr (hG ▸ h)
theorem RVs.same {g g' : GS} (hG : g'.G = g.G) (hθ : g'.θ = g.θ) : ∀ {d : List D} {v : List V}, RVs K mg g d v → RVs K mg g' d v
  | _, _, .nil => .nil
  | _, _, .cons h r => .cons (RV.same hG hθ h) (RVs.same hG hθ r)
theorem RKs.same {g g' : GS} (hG : g'.G = g.G) (hθ : g'.θ = g.θ) : ∀ {d : List (Key × D)} {v : List (Key × V)}, RKs K mg g d v → RKs K mg g' d v
  | _, _, .nil => .nil
  | _, _, .cons h r => .cons (RV.same hG hθ h) (RKs.same hG hθ r)
theorem RFs.same {g g' : GS} (hG : g'.G = g.G) (hθ : g'.θ = g.θ) : ∀ {d : List (Str × D)} {v : List (Str × V)}, RFs K mg g d v → RFs K mg g' d v
  | _, _, .nil => .nil
  | _, _, .cons h r => .cons (RV.same hG hθ h) (RFs.same hG hθ r)
end
theorem RC.same {g g' : GS} (hG : g'.G = g.G) (hθ : g'.θ = g.θ) {a : Addr} {u : HO} {o : MO} (h : RC K mg g a u o) : RC K mg g' a u o := by
  cases o with
  | lst ds => obtain ⟨xs, e, r⟩ := h; exact ⟨xs, e, r.same hG hθ⟩
  | dic ds => obtain ⟨xs, e, r⟩ := h; exact ⟨xs, e, r.same hG hθ⟩
  | ins c fs => obtain ⟨C, dx, f, e, m, r⟩ := h; exact ⟨C, dx, f, e, m, r.same hG hθ⟩
  | frz d => exact h.elim
theorem RS.aside {p : Addr} {o : HO} (R : RS K mg g μ H) (h : H p = some o) (h1 : g.no p) : RS K mg (g.put p o) μ H where
  frz := R.frz
  frm := fun a u e => by
    by_cases hp : a = p
    · subst hp
      have e' : upd g.F a o a = some u := e
      rw [upd_same] at e'; cases e'; exact h
    · exact R.frm a u ((upd_ne hp).symm.trans e)
  dis := fun a u e => by
    by_cases hp : a = p
    · subst hp; exact h1.G
    · exact R.dis a u ((upd_ne hp).symm.trans e)
  len := R.len
  nd := R.nd
  fz := fun n d a e1 e2 => by
    obtain ⟨q, r⟩ := R.fz n d a e1 e2
    exact ⟨q, RV.same (g := g) (g' := g.put p o) rfl rfl r⟩
  cel := fun n v a e1 e2 e3 => by
    obtain ⟨p1, w, p2, p3⟩ := R.cel n v a e1 e2 e3
    have : a ≠ p := fun z => h1.θ (z ▸ List.mem_of_getElem? e2)
    exact ⟨⟨p1.1, (upd_ne this).trans p1.2⟩, w, p2, RC.same (g := g) (g' := g.put p o) rfl rfl p3⟩
/-- .. and comes back: g' is later than the ghost with p aside -/
def GS.unput (g' : GS) (F : Hp) : GS := ⟨g'.G, F, g'.θ⟩
theorem GS.le_unput {p : Addr} {o : HO} (l : (g.put p o).le g') : g.le (g'.unput g.F) := ⟨l.G, rfl, l.θ⟩
theorem RS.back {p : Addr} {o : HO} (l : (g.put p o).le g') (h1 : g.no p) (R : RS K mg g' μ H) : RS K mg (g'.unput g.F) μ H ∧ H p = some o ∧ (g'.unput g.F).no p := by
  have hF : g'.F = upd g.F p o := l.F
  have hp : g'.F p = some o := by rw [hF]; exact upd_same
  refine ⟨⟨R.frz, fun a u e => ?_, fun a u e => ?_, R.len, R.nd, fun n d a e1 e2 => ?_, fun n v a e1 e2 e3 => ?_⟩, R.frm _ _ hp, ⟨R.dis _ _ hp, h1.F, fun hm => ?_⟩⟩
  · have e' : g.F a = some u := e
    have : a ≠ p := fun z => by rw [z, h1.F] at e'; cases e'
    exact R.frm a u (by rw [hF, upd_ne this]; exact e')
  · have e' : g.F a = some u := e
    have : a ≠ p := fun z => by rw [z, h1.F] at e'; cases e'
    exact R.dis a u (by rw [hF, upd_ne this]; exact e')
  · obtain ⟨q, r⟩ := R.fz n d a e1 e2
    exact ⟨q, RV.same (g := g') (g' := g'.unput g.F) rfl rfl r⟩
  · obtain ⟨p1, w, p2, p3⟩ := R.cel n v a e1 e2 e3
    have : a ≠ p := fun z => by rw [z, hp] at p1; cases p1.2
    exact ⟨⟨p1.1, by rw [hF, upd_ne this] at p1; exact p1.2⟩, w, p2, RC.same (g := g') (g' := g'.unput g.F) rfl rfl p3⟩
  · obtain ⟨n, hn, e⟩ := List.mem_iff_getElem.mp hm
    have e1 : g'.θ[n]? = some p := (List.getElem?_eq_getElem hn).trans (congrArg some e)
    have hn2 : n < μ.length := by rw [← R.len]; exact hn
    have e2 : μ[n]? = some μ[n] := List.getElem?_eq_getElem hn2
    by_cases hf : ∃ d, μ[n] = MO.frz d
    · obtain ⟨d, hd⟩ := hf
      rw [hd] at e2
      obtain ⟨⟨o', q⟩, _⟩ := R.fz n d p e2 e1
      rw [R.dis _ _ hp] at q; cases q
    · obtain ⟨⟨_, q⟩, _⟩ := R.cel n _ p e2 e1 fun d z => hf ⟨d, z⟩
      rw [hp] at q; cases q
end
end Yf

/-! Y2: what a piece of code does, as a function over plain values and cells; how it is read by the hand layer. -/
namespace Yf
open PySem PySem.Spec PyProof.Rows L2

inductive Out (α : Type) where
  | ok (a : α) | exc (x : Ex)
abbrev Sg := List (Option D)
abbrev ME (α : Type) := Sg → Mu → Option (Out α × Mu)
def retE {α : Type} (a : α) : ME α := fun _ μ => some (.ok a, μ)
def bindE {α β : Type} (m : ME α) (f : α → ME β) : ME β := fun σ μ => match m σ μ with
  | none => none
  | some (.exc x, μ') => some (.exc x, μ')
  | some (.ok a, μ') => f a σ μ'
/-- a partial function of the cells -/
def optE {α : Type} (f : Mu → Option α) : ME α := fun _ μ => match f μ with
  | none => none
  | some a => some (.ok a, μ)
/-- a partial change of the cells -/
def modE {α : Type} (f : Mu → Option (α × Mu)) : ME α := fun _ μ => match f μ with
  | none => none
  | some (a, μ') => some (.ok a, μ')

section
variable (K : PySem.W.Frag) (mg : Str → Option Value)
def RX (g : GS) (x : Ex) (cls : Value) (dx : Option Addr) (H : Hp) : Prop :=
  ∃ C, mg x.cls = some (.ref C) ∧ cls = .ref C ∧ (match x.fs with
    | [] => dx = none
    | fs => ∃ d fs', dx = some d ∧ H d = some (.xd fs') ∧ RFs K mg g fs fs')
/-- the slots -/
def RSl (g : GS) (σ : Sg) (τ : L2.St) : Prop := σ.length = τ.length ∧ ∀ (i : Nat) (d : D), σ[i]? = some (some d) → ∃ v, τ[i]? = some (some v) ∧ RV K mg g d v
def post {α β : Type} (Rl : GS → α → β → Hp → Prop) (W : WX) (g : GS) (τ : L2.St) (Q : β → Hp → Prop) : Option (Out α × Mu) → Prop
  | none => False
  | some (.ok a, μ') => ∀ g' H' b, g.le g' → RS K mg g' μ' H' → Rl g' a b H' → Q b H'
  | some (.exc x, μ') => ∀ g' H' cls dx, g.le g' → RS K mg g' μ' H' → RX K mg g' x cls dx H' → W cls dx τ H'
def tG {α β : Type} (Rl : GS → α → β → Hp → Prop) (W : WX) (m : ME α) : L2.St → Hp → (β → Hp → Prop) → Prop :=
  fun τ H Q => ∃ g σ μ, RS K mg g μ H ∧ RSl K mg g σ τ ∧ post K mg Rl W g τ Q (m σ μ)
abbrev RlV : GS → D → V → Hp → Prop := fun g d v _ => RV K mg g d v
abbrev RlB : GS → Bool → Bool → Hp → Prop := fun _ a b _ => a = b
abbrev RlA : GS → List D → List V → Hp → Prop := fun g ds vs _ => RVs K mg g ds vs
abbrev RlO : GS → Option Int → Option Int → Hp → Prop := fun _ a b _ => a = b
def RlF : GS → MO → V → Hp → Prop := fun g o v H => ∃ a u, v = .ref a ∧ H a = some u ∧ g.no a ∧ RC K mg g a u o
abbrev tY (W : WX) (m : ME D) : TE := tG K mg (RlV K mg) W m
abbrev tYB (W : WX) (m : ME Bool) : TT := tG K mg RlB W m
abbrev tYA (W : WX) (m : ME (List D)) : TA := tG K mg (RlA K mg) W m
abbrev tYO (W : WX) (m : ME (Option Int)) : TO := tG K mg RlO W m
abbrev tYF (W : WX) (m : ME MO) : TE := tG K mg (RlF K mg) W m
end

section
variable {K : PySem.W.Frag} {mg : Str → Option Value} {g g' : GS} {μ : Mu} {H : Hp} {σ : Sg} {τ : L2.St} {W : WX}
theorem RX.mono {x : Ex} {cls : Value} {dx : Option Addr} (l : g.le g') (h : RX K mg g x cls dx H) : RX K mg g' x cls dx H := by
  obtain ⟨C, h1, h2, h3⟩ := h
  refine ⟨C, h1, h2, ?_⟩
  cases hx : x.fs with
  | nil => rw [hx] at h3; exact h3
  | cons p r =>
    rw [hx] at h3
    obtain ⟨d, fs', e1, e2, r'⟩ := h3
    exact ⟨d, fs', e1, e2, r'.mono l⟩
theorem RSl.mono (l : g.le g') (h : RSl K mg g σ τ) : RSl K mg g' σ τ := ⟨h.1, fun i d e => by
  obtain ⟨v, e1, r⟩ := h.2 i d e
  exact ⟨v, e1, r.mono l⟩⟩
theorem post.mono {α β : Type} {Rl : GS → α → β → Hp → Prop} {Q Q' : β → Hp → Prop} {r : Option (Out α × Mu)} (h : post K mg Rl W g τ Q r) (l : g.le g') (hq : ∀ b H, Q b H → Q' b H) : post K mg Rl W g' τ Q' r := by
  match r, h with
  | some (.ok a, μ'), h => exact fun g2 H2 b l2 R2 V2 => hq _ _ (h g2 H2 b (l.trans l2) R2 V2)
  | some (.exc x, μ'), h => exact fun g2 H2 cls dx l2 R2 X2 => h g2 H2 cls dx (l.trans l2) R2 X2
/-- one part, then the rest -/
theorem tG_step {α β γ δ : Type} {Rl : GS → α → β → Hp → Prop} {Rl2 : GS → γ → δ → Hp → Prop} {m : ME α} {f : α → ME γ} {Q : δ → Hp → Prop} {R : β → Hp → Prop} (hR : RS K mg g μ H) (hS : RSl K mg g σ τ) (hp : post K mg Rl2 W g τ Q (bindE m f σ μ))
    (hk : ∀ a μ1 g1 H1 b, m σ μ = some (.ok a, μ1) → g.le g1 → RS K mg g1 μ1 H1 → RSl K mg g1 σ τ → Rl g1 a b H1 → post K mg Rl2 W g1 τ Q (f a σ μ1) → R b H1) : tG K mg Rl W m τ H R := by
  refine ⟨g, σ, μ, hR, hS, ?_⟩
  unfold bindE at hp
  cases hm : m σ μ with
  | none => rw [hm] at hp; exact hp
  | some p =>
    obtain ⟨o, μ1⟩ := p
    rw [hm] at hp
    cases o with
    | exc x => exact hp
    | ok a => exact fun g1 H1 b l1 R1 V1 => hk a μ1 g1 H1 b hm l1 R1 (hS.mono l1) V1 (post.mono hp l1 fun _ _ h => h)
/-- the last part -/
theorem tG_last {α β : Type} {Rl : GS → α → β → Hp → Prop} {m : ME α} {Q : β → Hp → Prop} (hR : RS K mg g μ H) (hS : RSl K mg g σ τ) (hp : post K mg Rl W g τ Q (m σ μ)) : tG K mg Rl W m τ H Q := ⟨g, σ, μ, hR, hS, hp⟩
theorem post_ret {α β : Type} {Rl : GS → α → β → Hp → Prop} {a : α} {b : β} {Q : β → Hp → Prop} (hR : RS K mg g μ H) (hp : post K mg Rl W g τ Q (some (.ok a, μ))) (h : Rl g a b H) : Q b H := hp g H b (.refl _) hR h
/-- an optional end -/
theorem post_opt {β γ : Type} {Rl : GS → γ → β → Hp → Prop} {f : Mu → Option γ} {Q : β → Hp → Prop} (hp : post K mg Rl W g τ Q (optE f σ μ)) : ∃ c, f μ = some c ∧ post K mg Rl W g τ Q (some (.ok c, μ)) := by
  unfold optE at hp
  cases h : f μ with
  | none => rw [h] at hp; exact hp.elim
  | some c => rw [h] at hp; exact ⟨c, rfl, hp⟩
theorem post_mod {γ β : Type} {Rl : GS → γ → β → Hp → Prop} {f : Mu → Option (γ × Mu)} {Q : β → Hp → Prop} (hp : post K mg Rl W g τ Q (modE f σ μ)) : ∃ c μ', f μ = some (c, μ') ∧ post K mg Rl W g τ Q (some (.ok c, μ')) := by
  unfold modE at hp
  cases h : f μ with
  | none => rw [h] at hp; exact hp.elim
  | some p => obtain ⟨c, μ'⟩ := p; rw [h] at hp; exact ⟨c, μ', rfl, hp⟩
end

/-! ### what a value holds -/
def lstOf (μ : Mu) : D → Option (List D)
  | .lst ds => some ds
  | .cell n => match μ[n]? with
    | some (.lst ds) => some ds
    | some (.frz (.lst ds)) => some ds
    | _ => none
  | _ => none
def tupOf : D → Option (List D)
  | .tup ds => some ds
  | _ => none
/-- a list or a tuple -/
def seqOf (μ : Mu) (d : D) : Option (List D) := match d with
  | .tup ds => some ds
  | .scr ns => some (ns.map D.int)
  | d => lstOf μ d
def celOf (μ : Mu) : D → Option (Nat × List D)
  | .cell n => match μ[n]? with
    | some (.lst ds) => some (n, ds)
    | _ => none
  | _ => none
def dicOf (μ : Mu) : D → Option (List (Key × D))
  | .dic ds => some ds
  | .cell n => match μ[n]? with
    | some (.dic ds) => some ds
    | some (.frz (.dic ds)) => some ds
    | _ => none
  | _ => none
def celDic (μ : Mu) : D → Option (Nat × List (Key × D))
  | .cell n => match μ[n]? with
    | some (.dic ds) => some (n, ds)
    | _ => none
  | _ => none
def fldsOf (μ : Mu) : D → Option (Str × List (Str × D))
  | .obj c fs => some (c, fs)
  | .cell n => match μ[n]? with
    | some (.ins c fs) => some (c, fs)
    | some (.frz (.obj c fs)) => some (c, fs)
    | _ => none
  | _ => none
section
variable {K : PySem.W.Frag} {mg : Str → Option Value} {g g' : GS} {μ : Mu} {H : Hp}
theorem RVs.ints : ∀ {ns : List Int} {vs : List V}, RVs K mg g (ns.map D.int) vs → vs = ns.map V.int
  | [], _, .nil => rfl
  | n :: ns, _, .cons r t => by
    cases r
    rw [RVs.ints t]
    rfl
theorem RVs.of_ints : ∀ {ns : List Int}, RVs K mg g (ns.map D.int) (ns.map V.int)
  | [] => .nil
  | n :: ns => .cons (.int n) RVs.of_ints
theorem lstOf_ok {d : D} {v : V} {ds : List D} (R : RS K mg g μ H) (r : RV K mg g d v) (e : lstOf μ d = some ds) : ∃ a xs, v = .ref a ∧ H a = some (.lst xs) ∧ RVs K mg g ds xs := by
  cases r with
  | lst h q => cases e; exact ⟨_, _, rfl, R.frz _ _ h, q⟩
  | @cell a n h =>
    unfold lstOf at e
    dsimp only at e
    split at e
    · rename_i ds' hm
      cases e
      obtain ⟨_, u, q2, q3⟩ := R.cel n _ a hm h (by simp)
      obtain ⟨xs, rfl, r⟩ := q3
      exact ⟨a, xs, rfl, q2, r⟩
    · rename_i ds' hm
      cases e
      obtain ⟨_, q⟩ := R.fz n _ a hm h
      cases q with
      | lst h2 r2 => exact ⟨_, _, rfl, R.frz _ _ h2, r2⟩
    · cases e
  | _ => simp [lstOf] at e
theorem seqOf_ok {d : D} {v : V} {ds : List D} (R : RS K mg g μ H) (r : RV K mg g d v) (e : seqOf μ d = some ds) : ∃ a xs, v = .ref a ∧ (SqL K H a xs ∨ SqT K H a xs) ∧ RVs K mg g ds xs := by
  cases r with
  | tup h q => cases e; exact ⟨_, _, rfl, .inr (sqT_mono R.frz h), q⟩
  | scr h => cases e; exact ⟨_, _, rfl, .inl (sqL_mono R.frz h), RVs.of_ints⟩
  | lst h q =>
    obtain ⟨a, xs, e1, e2, r⟩ := lstOf_ok R (RV.lst h q) e
    exact ⟨a, xs, e1, .inl (SqL.of e2), r⟩
  | cell h =>
    obtain ⟨a, xs, e1, e2, r⟩ := lstOf_ok R (RV.cell h) e
    exact ⟨a, xs, e1, .inl (SqL.of e2), r⟩
  | _ => simp [seqOf, lstOf] at e
theorem celOf_ok {d : D} {v : V} {n : Nat} {ds : List D} (R : RS K mg g μ H) (r : RV K mg g d v) (e : celOf μ d = some (n, ds)) : ∃ a xs, v = .ref a ∧ g.θ[n]? = some a ∧ μ[n]? = some (.lst ds) ∧ H a = some (.lst xs) ∧ RVs K mg g ds xs := by
  cases r with
  | @cell a m h =>
    unfold celOf at e
    dsimp only at e
    split at e
    · rename_i ds' hm
      cases e
      obtain ⟨_, u, q2, q3⟩ := R.cel _ _ a hm h (by simp)
      obtain ⟨xs, rfl, r⟩ := q3
      exact ⟨a, xs, rfl, h, hm, q2, r⟩
    · cases e
  | _ => simp [celOf] at e
theorem dicOf_ok {d : D} {v : V} {ds : List (Key × D)} (R : RS K mg g μ H) (r : RV K mg g d v) (e : dicOf μ d = some ds) : ∃ a xs, v = .ref a ∧ H a = some (.dK xs) ∧ RKs K mg g ds xs := by
  cases r with
  | dic h q => cases e; exact ⟨_, _, rfl, R.frz _ _ h, q⟩
  | @cell a n h =>
    unfold dicOf at e
    dsimp only at e
    split at e
    · rename_i ds' hm
      cases e
      obtain ⟨_, u, q2, q3⟩ := R.cel n _ a hm h (by simp)
      obtain ⟨xs, rfl, r⟩ := q3
      exact ⟨a, xs, rfl, q2, r⟩
    · rename_i ds' hm
      cases e
      obtain ⟨_, q⟩ := R.fz n _ a hm h
      cases q with
      | dic h2 r2 => exact ⟨_, _, rfl, R.frz _ _ h2, r2⟩
    · cases e
  | _ => simp [dicOf] at e
theorem celDic_ok {d : D} {v : V} {n : Nat} {ds : List (Key × D)} (R : RS K mg g μ H) (r : RV K mg g d v) (e : celDic μ d = some (n, ds)) : ∃ a xs, v = .ref a ∧ g.θ[n]? = some a ∧ μ[n]? = some (.dic ds) ∧ H a = some (.dK xs) ∧ RKs K mg g ds xs := by
  cases r with
  | @cell a m h =>
    unfold celDic at e
    dsimp only at e
    split at e
    · rename_i ds' hm
      cases e
      obtain ⟨_, u, q2, q3⟩ := R.cel _ _ a hm h (by simp)
      obtain ⟨xs, rfl, r⟩ := q3
      exact ⟨a, xs, rfl, h, hm, q2, r⟩
    · cases e
  | _ => simp [celDic] at e
theorem fldsOf_ok {d : D} {v : V} {c : Str} {fs : List (Str × D)} (R : RS K mg g μ H) (r : RV K mg g d v) (e : fldsOf μ d = some (c, fs)) : ∃ a C dx xs, v = .ref a ∧ mg c = some (.ref C) ∧ H a = some (.ins C dx xs) ∧ RFs K mg g fs xs := by
  cases r with
  | obj m h q => cases e; exact ⟨_, _, _, _, rfl, m, R.frz _ _ h, q⟩
  | @cell a n h =>
    unfold fldsOf at e
    dsimp only at e
    split at e
    · rename_i hm
      cases e
      obtain ⟨_, u, q2, q3⟩ := R.cel n _ a hm h (by simp)
      obtain ⟨C, dx, xs, rfl, m, r⟩ := q3
      exact ⟨a, C, dx, xs, rfl, m, q2, r⟩
    · rename_i hm
      cases e
      obtain ⟨_, q⟩ := R.fz n _ a hm h
      cases q with
      | obj m h2 r2 => exact ⟨_, _, _, _, rfl, m, R.frz _ _ h2, r2⟩
    · cases e
  | _ => simp [fldsOf] at e
end
end Yf

/-! Y3: the operators over plain values, and that the hand layer's rules serve them. -/
namespace Yf
open PySem PySem.Spec PyProof.Rows L2

/-! ### plain data -/
mutual
def toPy0 : D → Option PyData
  | .non => some .none
  | .bl b => some (.bool b)
  | .int i => some (.int i)
  | .str x => some (.str x)
  | .tup ds => (toPys0 ds).map .tuple
  | .lst ds => (toPys0 ds).map .list
  | _ => none
def toPys0 : List D → Option (List PyData)
  | [] => some []
  | d :: ds => match toPy0 d, toPys0 ds with
    | some x, some xs => some (x :: xs)
    | _, _ => none
end
def toPy (μ : Mu) (d : D) : Option PyData := match d with
  | .cell n => match lstOf μ (.cell n) with
    | some ds => (toPys0 ds).map .list
    | none => none
  | d => toPy0 d
section
variable {K : PySem.W.Frag} {mg : Str → Option Value} {g g' : GS} {μ : Mu} {H : Hp}
mutual
theorem toPy0_ok (R : RS K mg g μ H) : ∀ (d : D) (v : V) (p : PyData), RV K mg g d v → toPy0 d = some p → Dp K H v p
  | .non, _, _, r, e => by cases r; cases e; exact .non
  | .bl b, _, _, r, e => by cases r; cases e; exact .bl b
  | .int i, _, _, r, e => by cases r; cases e; exact .int i
  | .str x, _, _, r, e => by cases r; cases e; exact .str x
  | .tup ds, _, _, r, e => by
    unfold toPy0 at e
    cases q : toPys0 ds with
    | none => rw [q] at e; cases e
    | some ps =>
      rw [q] at e; cases e
      cases r with
      | tup h r => exact .tup (sqT_mono R.frz h) (toPys0_ok R ds _ _ r q)
  | .lst ds, _, _, r, e => by
    unfold toPy0 at e
    cases q : toPys0 ds with
    | none => rw [q] at e; cases e
    | some ps =>
      rw [q] at e; cases e
      cases r with
      | lst h r => exact .lst (SqL.of (R.frz _ _ h)) (toPys0_ok R ds _ _ r q)
  | .dic _, _, _, _, e => by simp [toPy0] at e
  | .obj _ _, _, _, _, e => by simp [toPy0] at e
  | .cell _, _, _, _, e => by simp [toPy0] at e
  | .scr _, _, _, _, e => by simp [toPy0] at e
theorem toPys0_ok (R : RS K mg g μ H) : ∀ (d : List D) (v : List V) (p : List PyData), RVs K mg g d v → toPys0 d = some p → DpAll K H v p
  | [], _, _, r, e => by cases r; cases e; exact .nil
  | d :: ds, _, _, r, e => by
    unfold toPys0 at e
    cases q : toPy0 d with
    | none => rw [q] at e; cases e
    | some x =>
      rw [q] at e
      cases q2 : toPys0 ds with
      | none => rw [q2] at e; cases e
      | some xs =>
        rw [q2] at e; cases e
        cases r with
        | cons h r => exact .cons (toPy0_ok R d _ _ h q) (toPys0_ok R ds _ _ r q2)
end
theorem toPy_ok (R : RS K mg g μ H) {d : D} {v : V} {p : PyData} (r : RV K mg g d v) (e : toPy μ d = some p) : Dp K H v p := by
  cases d with
  | cell n =>
    unfold toPy at e
    dsimp only at e
    cases q : lstOf μ (.cell n) with
    | none => rw [q] at e; cases e
    | some ds =>
      rw [q] at e
      dsimp only at e
      cases q2 : toPys0 ds with
      | none => rw [q2] at e; cases e
      | some ps =>
        rw [q2] at e; cases e
        obtain ⟨a, xs, rfl, h1, h2⟩ := lstOf_ok R r q
        exact .lst (SqL.of h1) (toPys0_ok R _ _ _ h2 q2)
  | _ => exact toPy0_ok R _ _ _ r e
end

mutual
theorem toPy0_plain : ∀ (d : D) (p : PyData), toPy0 d = some p → p.plain = true
  | .non, _, e => by cases e; rfl
  | .bl _, _, e => by cases e; rfl
  | .int _, _, e => by cases e; rfl
  | .str _, _, e => by cases e; rfl
  | .tup ds, _, e => by
    unfold toPy0 at e
    cases q : toPys0 ds with
    | none => rw [q] at e; cases e
    | some ps => rw [q] at e; cases e; exact toPys0_plain ds ps q
  | .lst ds, _, e => by
    unfold toPy0 at e
    cases q : toPys0 ds with
    | none => rw [q] at e; cases e
    | some ps => rw [q] at e; cases e; exact toPys0_plain ds ps q
  | .dic _, _, e => by simp [toPy0] at e
  | .obj _ _, _, e => by simp [toPy0] at e
  | .cell _, _, e => by simp [toPy0] at e
  | .scr _, _, e => by simp [toPy0] at e
theorem toPys0_plain : ∀ (d : List D) (p : List PyData), toPys0 d = some p → PyData.plainAll p = true
  | [], _, e => by cases e; rfl
  | d :: ds, _, e => by
    unfold toPys0 at e
    cases q : toPy0 d with
    | none => rw [q] at e; cases e
    | some x =>
      rw [q] at e
      cases q2 : toPys0 ds with
      | none => rw [q2] at e; cases e
      | some xs =>
        rw [q2] at e; cases e
        show (x.plain && PyData.plainAll xs) = true
        rw [toPy0_plain d x q, toPys0_plain ds xs q2]
        rfl
end
theorem toPy_plain {μ : Mu} {d : D} {p : PyData} (e : toPy μ d = some p) : p.plain = true := by
  cases d with
  | cell n =>
    unfold toPy at e
    dsimp only at e
    cases q : lstOf μ (.cell n) with
    | none => rw [q] at e; cases e
    | some ds =>
      rw [q] at e
      dsimp only at e
      cases q2 : toPys0 ds with
      | none => rw [q2] at e; cases e
      | some ps => rw [q2] at e; cases e; exact toPys0_plain ds ps q2
  | _ => exact toPy0_plain _ _ e

/-! ### two-place operators -/
/-- f serves r: from values and what f says of them, r's wants -/
def OpS (K : PySem.W.Frag) (mg : Str → Option Value) (r : R2) (f : Mu → D → D → Option D) : Prop :=
  ∀ (g : GS) (μ : Mu) (H : Hp) (dx dy d : D) (vx vy : V) (Q : VK), RS K mg g μ H → RV K mg g dx vx → RV K mg g dy vy → f μ dx dy = some d →
    (∀ g' H' v, g.le g' → RS K mg g' μ H' → RV K mg g' d v → Q v H') → r vx vy H Q
def UnS (K : PySem.W.Frag) (mg : Str → Option Value) (r : V → Hp → VK → Prop) (f : Mu → D → Option D) : Prop :=
  ∀ (g : GS) (μ : Mu) (H : Hp) (dx d : D) (vx : V) (Q : VK), RS K mg g μ H → RV K mg g dx vx → f μ dx = some d →
    (∀ g' H' v, g.le g' → RS K mg g' μ H' → RV K mg g' d v → Q v H') → r vx H Q
instance (i j : Int) : Decidable (CDiv i j) := inferInstanceAs (Decidable (_ ∧ _))
instance (i j : Int) : Decidable (CPow i j) := inferInstanceAs (Decidable (_ ∧ _ ∧ _))
instance (i j : Int) : Decidable (CMul i j) := inferInstanceAs (Decidable (_ ∨ _))
def binD (op : Operator) (μ : Mu) (x y : D) : Option D := match op with
  | .Add => match x, y with
    | .int i, .int j => some (.int (i + j))
    | .str a, .str b => if a.length + b.length ≤ sizeLine then some (.str (a ++ b)) else none
    | .tup a, .tup b => if a.length + b.length ≤ sizeLine then some (.tup (a ++ b)) else none
    | x, y => match lstOf μ x, lstOf μ y with
      | some a, some b => if a.length + b.length ≤ sizeLine then some (.lst (a ++ b)) else none
      | _, _ => none
  | .Sub => match x, y with | .int i, .int j => some (.int (i - j)) | _, _ => none
  | .Mult => match x, y with | .int i, .int j => if CMul i j then some (.int (i * j)) else none | _, _ => none
  | .Mod => match x, y with | .int i, .int j => if 0 < j then some (.int (i % j)) else none | _, _ => none
  | .FloorDiv => match x, y with | .int i, .int j => if CDiv i j then some (.int (i / j)) else none | _, _ => none
  | .Pow => match x, y with | .int i, .int j => if CPow i j then some (.int (i ^ j.toNat)) else none | _, _ => none
  | .LShift => match x, y with | .int i, .int j => if CPow i j then some (.int (i * 2 ^ j.toNat)) else none | _, _ => none
  | .RShift => match x, y with | .int i, .int j => if 0 ≤ j then some (.int (i / 2 ^ j.toNat)) else none | _, _ => none
  | .BitAnd => match x, y with | .int i, .int j => some (.int (Builtin.bitAnd i j)) | _, _ => none
  | _ => none
def rAddA (K : PySem.W.Frag) : R2 := fun x y H Q => (rI0 fun i j => .int (i + j)) x y H Q ∨ (∃ i j, x = .str i ∧ y = .str j ∧ i.length + j.length ≤ sizeLine ∧ Q (.str (i ++ j)) H) ∨ rCatA K x y H Q ∨ rCat x y H Q
def binR (K : PySem.W.Frag) : Operator → R2
  | .Add => rAddA K
  | .Sub => rI0 fun i j => .int (i - j)
  | .Mult => rI CMul fun i j => .int (i * j)
  | .Mod => rI (fun _ j => 0 < j) fun i j => .int (i % j)
  | .FloorDiv => rI CDiv fun i j => .int (i / j)
  | .Pow => rI CPow fun i j => .int (i ^ j.toNat)
  | .LShift => rI CPow fun i j => .int (i * 2 ^ j.toNat)
  | .RShift => rI (fun _ j => 0 ≤ j) fun i j => .int (i / 2 ^ j.toNat)
  | .BitAnd => rI0 fun i j => .int (Builtin.bitAnd i j)
  | _ => fun _ _ _ _ => False
theorem bin_op {X : Cx} : ∀ op, OpR X (binaryOp op) (binR X.K op)
  | .Add => op_add.or (op_add_str.or (op_catA.or op_cat))
  | .Sub => op_sub
  | .Mult => op_mul
  | .Mod => op_mod
  | .FloorDiv => op_fdiv
  | .Pow => op_pow
  | .LShift => op_shl
  | .RShift => op_shr
  | .BitAnd => op_and
  | .MatMult => fun _ _ _ _ _ _ _ _ _ _ _ _ h => h.elim
  | .Div => fun _ _ _ _ _ _ _ _ _ _ _ _ h => h.elim
  | .BitOr => fun _ _ _ _ _ _ _ _ _ _ _ _ h => h.elim
  | .BitXor => fun _ _ _ _ _ _ _ _ _ _ _ _ h => h.elim
section
variable {K : PySem.W.Frag} {mg : Str → Option Value}
/-- two ints -/
theorem ints_of {f : Int → Int → Option D} {dx dy d : D} (h : (match dx, dy with | .int i, .int j => f i j | _, _ => none) = some d) : ∃ i j, dx = .int i ∧ dy = .int j ∧ f i j = some d := by
  split at h
  · exact ⟨_, _, rfl, rfl, h⟩
  · cases h
theorem rv_int {g : GS} {i : Int} {v : V} (h : RV K mg g (.int i) v) : v = .int i := by cases h; rfl
theorem rv_str {g : GS} {i : Str} {v : V} (h : RV K mg g (.str i) v) : v = .str i := by cases h; rfl
theorem rv_bl {g : GS} {i : Bool} {v : V} (h : RV K mg g (.bl i) v) : v = .bl i := by cases h; rfl
theorem rv_non {g : GS} {v : V} (h : RV K mg g .non v) : v = .non := by cases h; rfl
theorem opS_I {C : Int → Int → Prop} {k : Int → Int → Int} {dec : ∀ i j, Decidable (C i j)} : OpS K mg (rI C fun i j => .int (k i j)) (fun μ x y => match x, y with | .int i, .int j => @ite _ (C i j) (dec i j) (some (.int (k i j))) none | _, _ => none) := by
  intro g μ H dx dy d vx vy Q R r1 r2 e q
  obtain ⟨i, j, rfl, rfl, e⟩ := ints_of e
  dsimp only at e
  split at e
  · rename_i hc
    cases e
    rw [rv_int r1, rv_int r2]
    exact ⟨i, j, rfl, rfl, hc, q g H _ (.refl _) R (.int _)⟩
  · cases e
theorem opS_I0 {k : Int → Int → Int} : OpS K mg (rI0 fun i j => .int (k i j)) (fun μ x y => match x, y with | .int i, .int j => some (.int (k i j)) | _, _ => none) := by
  intro g μ H dx dy d vx vy Q R r1 r2 e q
  obtain ⟨i, j, rfl, rfl, e⟩ := ints_of e
  cases e
  rw [rv_int r1, rv_int r2]
  exact ⟨i, j, rfl, rfl, q g H _ (.refl _) R (.int _)⟩
/-- a new list of such items -/
theorem new_lst {g : GS} {μ : Mu} {H : Hp} {ds : List D} {xs : List V} {Q : VK} (R : RS K mg g μ H) (r : RVs K mg g ds xs) (q : ∀ g' H' v, g.le g' → RS K mg g' μ H' → RV K mg g' (.lst ds) v → Q v H') : ∀ p, H p = none → Q (.ref p) (upd H p (.lst xs)) :=
  fun p hp => q _ _ _ (R.le_lay hp) (R.lay hp) (.lst GS.add_at (r.mono (R.le_lay hp)))
theorem new_tup {g : GS} {μ : Mu} {H : Hp} {ds : List D} {xs : List V} {Q : VK} (R : RS K mg g μ H) (r : RVs K mg g ds xs) (q : ∀ g' H' v, g.le g' → RS K mg g' μ H' → RV K mg g' (.tup ds) v → Q v H') : ∀ p, H p = none → Q (.ref p) (upd H p (.tup xs)) :=
  fun p hp => q _ _ _ (R.le_lay hp) (R.lay hp) (.tup (SqT.of GS.add_at) (r.mono (R.le_lay hp)))
theorem RVs.nil_iff {g : GS} {ds : List D} {xs : List V} (r : RVs K mg g ds xs) : xs = [] ↔ ds = [] := by
  cases r <;> simp
theorem add_S : OpS K mg (rAddA K) (binD .Add) := by
  intro g μ H dx dy d vx vy Q R r1 r2 e q
  have lists : ∀ dx dy vx vy, RV K mg g dx vx → RV K mg g dy vy → (match lstOf μ dx, lstOf μ dy with
      | some a, some b => if a.length + b.length ≤ sizeLine then some (D.lst (a ++ b)) else none
      | _, _ => none) = some d → rAddA K vx vy H Q := by
    intro dx dy vx vy r1 r2 e
    cases h1 : lstOf μ dx with
    | none => rw [h1] at e; cases e
    | some a =>
      cases h2 : lstOf μ dy with
      | none => rw [h1, h2] at e; cases e
      | some b =>
        rw [h1, h2] at e
        dsimp only at e
        split at e
        · rename_i hc
          cases e
          obtain ⟨p1, xs, rfl, m1, s1⟩ := lstOf_ok R r1 h1
          obtain ⟨p2, ys, rfl, m2, s2⟩ := lstOf_ok R r2 h2
          exact .inr (.inr (.inr ⟨p1, p2, xs, ys, rfl, rfl, m1, m2, by rw [← s1.length, ← s2.length]; exact hc, new_lst R (s1.append s2) q⟩))
        · cases e
  unfold binD at e
  dsimp only at e
  split at e
  · rename_i i j
    cases e
    rw [rv_int r1, rv_int r2]
    exact .inl ⟨i, j, rfl, rfl, q g H _ (.refl _) R (.int _)⟩
  · rename_i a b
    split at e
    · rename_i hc
      cases e
      rw [rv_str r1, rv_str r2]
      exact .inr (.inl ⟨a, b, rfl, rfl, hc, q g H _ (.refl _) R (.str _)⟩)
    · cases e
  · rename_i a b
    split at e
    · rename_i hc
      cases e
      cases r1 with
      | @tup p1 xs _ m1 s1 =>
        cases r2 with
        | @tup p2 ys _ m2 s2 =>
          refine .inr (.inr (.inl ⟨p1, p2, xs, ys, rfl, rfl, sqT_mono R.frz m1, sqT_mono R.frz m2, by rw [← s1.length, ← s2.length]; exact hc, fun z => ?_, fun z1 z2 => ?_, fun _ _ => new_tup R (s1.append s2) q⟩))
          · rw [s1.nil_iff] at z
            subst z
            exact q g H _ (.refl _) R (.tup m2 s2)
          · rw [s2.nil_iff] at z2
            subst z2
            rw [List.append_nil] at q
            exact q g H _ (.refl _) R (.tup m1 s1)
    · cases e
  · exact lists dx dy vx vy r1 r2 e
theorem bin_S : ∀ op, OpS K mg (binR K op) (binD op)
  | .Add => add_S
  | .Sub => opS_I0
  | .Mult => opS_I (dec := fun _ _ => inferInstance)
  | .Mod => opS_I (dec := fun _ _ => inferInstance)
  | .FloorDiv => opS_I (dec := fun _ _ => inferInstance)
  | .Pow => opS_I (dec := fun _ _ => inferInstance)
  | .LShift => opS_I (dec := fun _ _ => inferInstance)
  | .RShift => opS_I (dec := fun _ _ => inferInstance)
  | .BitAnd => opS_I0
  | .MatMult => fun _ _ _ _ _ _ _ _ _ _ _ _ e _ => by cases e
  | .Div => fun _ _ _ _ _ _ _ _ _ _ _ _ e _ => by cases e
  | .BitOr => fun _ _ _ _ _ _ _ _ _ _ _ _ e _ => by cases e
  | .BitXor => fun _ _ _ _ _ _ _ _ _ _ _ _ e _ => by cases e
end
end Yf

/-! Y4: subscripts, comparisons, truth and the built-in functions over plain values. -/
namespace Yf
open PySem PySem.Spec PyProof.Rows L2

section
variable {K : PySem.W.Frag} {mg : Str → Option Value} {g g' : GS} {μ : Mu} {H : Hp}
/-! ### a new thing, frozen -/
def toD : MO → D
  | .lst ds => .lst ds
  | .dic kds => .dic kds
  | .ins c fs => .obj c fs
  | .frz d => d
theorem freezes {o : MO} {v : V} (R : RS K mg g μ H) (h : RlF K mg g o v H) : ∃ g', g.le g' ∧ RS K mg g' μ H ∧ RV K mg g' (toD o) v := by
  obtain ⟨a, u, rfl, hu, hn, hc⟩ := h
  have l : g.le (g.add a u) := GS.le_add hn.G
  refine ⟨g.add a u, l, R.freeze hu hn, ?_⟩
  cases o with
  | lst ds => obtain ⟨xs, rfl, r⟩ := hc; exact .lst GS.add_at (r.mono l)
  | dic ds => obtain ⟨xs, rfl, r⟩ := hc; exact .dic GS.add_at (r.mono l)
  | ins c fs => obtain ⟨C, dx, xs, rfl, m, r⟩ := hc; exact .obj m GS.add_at (r.mono l)
  | frz d => exact hc.elim
/-- a new list at p -/
theorem rlf_lst {p : Addr} {xs : List V} {ds : List D} (R : RS K mg g μ H) (hp : H p = none) (r : RVs K mg g ds xs) : RS K mg g μ (upd H p (.lst xs)) ∧ RlF K mg g (.lst ds) (.ref p) (upd H p (.lst xs)) :=
  ⟨R.upd_fresh hp, p, _, rfl, upd_same, R.fresh hp, xs, rfl, r⟩

/-! ### places -/
theorem atI_ok {ds : List D} {xs : List V} {i : Int} {d : D} (r : RVs K mg g ds xs) (e : atI ds i = some d) : ∃ v, atI xs i = some v ∧ RV K mg g d v := by
  unfold atI at e ⊢
  rw [← r.length]
  cases h : ixN ds.length i with
  | none => rw [h] at e; cases e
  | some j =>
    rw [h] at e
    exact r.get e
def idxD (μ : Mu) (x y : D) : Option D := match y with
  | .int i => match x with
    | .str z => if z.length ≤ sizeLine then (atI z.cps.toList i).map fun c => .str ⟨#[c]⟩ else none
    | x => (seqOf μ x).bind fun ds => atI ds i
  | _ => none
theorem idx_S : OpS K mg (rIx K) idxD := by
  intro g μ H dx dy d vx vy Q R r1 r2 e q
  unfold idxD at e
  split at e
  · rename_i i
    rw [rv_int r2]
    split at e
    · rename_i z
      split at e
      · rename_i hz
        rw [rv_str r1]
        cases h : atI z.cps.toList i with
        | none => rw [h] at e; cases e
        | some c =>
          rw [h] at e
          cases e
          exact .inr (.inr ⟨z, i, c, rfl, rfl, hz, h, q g H _ (.refl _) R (.str _)⟩)
      · cases e
    · cases h : seqOf μ dx with
      | none => rw [h] at e; cases e
      | some ds =>
        rw [h] at e
        obtain ⟨a, xs, rfl, hs, r⟩ := seqOf_ok R r1 h
        obtain ⟨v, hv, rv⟩ := atI_ok r (show atI ds i = some d from e)
        rcases hs with hs | hs
        · exact .inl ⟨a, xs, i, v, rfl, rfl, hs, hv, q g H _ (.refl _) R rv⟩
        · exact .inr (.inl ⟨a, xs, i, v, rfl, rfl, hs, hv, q g H _ (.refl _) R rv⟩)
  · cases e

/-! ### dicts -/
def keyOf : D → Option Key
  | .int i => some (.inl i)
  | .str x => some (.inr x)
  | _ => none
theorem keyOf_ok {d : D} {v : V} {k : Key} (r : RV K mg g d v) (e : keyOf d = some k) : v = kV k := by
  cases r <;> simp [keyOf] at e
  · subst e; rfl
  · subst e; rfl
def valD (kds : List (Key × D)) (k : Key) : Option D := (kds.find? fun kv => decide (kv.1 = k)).map (·.2)
def putD (kds : List (Key × D)) (k : Key) (d : D) : List (Key × D) :=
  if kds.any fun kv => decide (kv.1 = k) then kds.map fun kv => if kv.1 = k then (kv.1, d) else kv else kds ++ [(k, d)]
theorem valD_ok {k : Key} : ∀ {kds : List (Key × D)} {ks : List (Key × V)}, RKs K mg g kds ks → (∀ d, valD kds k = some d → ∃ v, valV ks k = some v ∧ RV K mg g d v) ∧ (valD kds k = none → valV ks k = none)
  | _, _, .nil => ⟨fun d e => by simp [valD] at e, fun _ => by simp [valV]⟩
  | _, _, .cons (k := k') (d := d') (v := v') (ds := ds) (vs := vs) h r => by
    have ih := valD_ok (k := k) r
    by_cases hk : k' = k
    · subst hk
      refine ⟨fun d e => ?_, fun e => ?_⟩
      · have : d' = d := by simpa [valD] using e
        subst this
        exact ⟨v', by simp [valV], h⟩
      · simp [valD] at e
    · have e1 : valD ((k', d') :: ds) k = valD ds k := by simp [valD, hk]
      have e2 : valV ((k', v') :: vs) k = valV vs k := by simp [valV, hk]
      rw [e1, e2]
      exact ih
theorem RKs.length : ∀ {kds : List (Key × D)} {ks : List (Key × V)}, RKs K mg g kds ks → kds.length = ks.length
  | _, _, .nil => rfl
  | _, _, .cons _ r => by simp [RKs.length r]
theorem RKs.append : ∀ {a b : List (Key × D)} {x y : List (Key × V)}, RKs K mg g a x → RKs K mg g b y → RKs K mg g (a ++ b) (x ++ y)
  | _, _, _, _, .nil, s => s
  | _, _, _, _, .cons r t, s => .cons r (RKs.append t s)
theorem RKs.repl {k : Key} {d : D} {v : V} (h : RV K mg g d v) : ∀ {kds : List (Key × D)} {ks : List (Key × V)}, RKs K mg g kds ks →
    RKs K mg g (kds.map fun kv => if kv.1 = k then (kv.1, d) else kv) (ks.map fun kv => if kv.1 = k then (kv.1, v) else kv)
  | _, _, .nil => .nil
  | _, _, .cons (k := k') (ds := ds) (vs := vs) h' r => by
    have ih := RKs.repl (k := k) h r
    by_cases hk : k' = k
    · simp only [List.map_cons, hk, if_true]
      exact .cons h ih
    · simp only [List.map_cons, hk, if_false]
      exact .cons h' ih
theorem RKs.any {k : Key} : ∀ {kds : List (Key × D)} {ks : List (Key × V)}, RKs K mg g kds ks → (kds.any fun kv => decide (kv.1 = k)) = ks.any fun kv => decide (kv.1 = k)
  | _, _, .nil => rfl
  | _, _, .cons _ r => by rw [List.any_cons, List.any_cons, RKs.any r]
theorem putD_ok {k : Key} {d : D} {v : V} {kds : List (Key × D)} {ks : List (Key × V)} (r : RKs K mg g kds ks) (h : RV K mg g d v) : RKs K mg g (putD kds k d) (putK ks k v) := by
  unfold putD putK
  rw [r.any]
  split
  · exact r.repl h
  · exact r.append (.cons h .nil)
def dgetD (μ : Mu) (x y : D) : Option D := match dicOf μ x, keyOf y with
  | some kds, some k => valD kds k
  | _, _ => none
theorem dget_ok {dx dy d : D} {vx vy : V} (R : RS K mg g μ H) (r1 : RV K mg g dx vx) (r2 : RV K mg g dy vy) (e : dgetD μ dx dy = some d) : ∃ a v, vx = .ref a ∧ DGet H a vy (some v) ∧ RV K mg g d v := by
  unfold dgetD at e
  cases h1 : dicOf μ dx with
  | none => rw [h1] at e; cases e
  | some kds =>
    cases h2 : keyOf dy with
    | none => rw [h1, h2] at e; cases e
    | some k =>
      rw [h1, h2] at e
      obtain ⟨a, ks, rfl, hH, r⟩ := dicOf_ok R r1 h1
      rw [keyOf_ok r2 h2]
      obtain ⟨v, e2, rv⟩ := (valD_ok (k := k) r).1 d e
      exact ⟨a, v, rfl, by rw [← e2]; exact DGet.k hH, rv⟩
def dinD (μ : Mu) (x y : D) : Option Bool := match dicOf μ y, keyOf x with
  | some kds, some k => some (valD kds k).isSome
  | _, _ => none
theorem din_ok {dx dy : D} {b : Bool} {vx vy : V} (R : RS K mg g μ H) (r1 : RV K mg g dx vx) (r2 : RV K mg g dy vy) (e : dinD μ dx dy = some b) : ∃ a o, vy = .ref a ∧ DGet H a vx o ∧ o.isSome = b := by
  unfold dinD at e
  cases h1 : dicOf μ dy with
  | none => rw [h1] at e; cases e
  | some kds =>
    cases h2 : keyOf dx with
    | none => rw [h1, h2] at e; cases e
    | some k =>
      rw [h1, h2] at e
      cases e
      obtain ⟨a, ks, rfl, hH, r⟩ := dicOf_ok R r2 h1
      rw [keyOf_ok r1 h2]
      refine ⟨a, _, rfl, DGet.k hH, ?_⟩
      cases e : valD kds k with
      | none => rw [(valD_ok (k := k) r).2 e]; rfl
      | some z => obtain ⟨w, e2, _⟩ := (valD_ok (k := k) r).1 z e; rw [e2]; rfl

/-! ### comparisons -/
def flatD : D → Bool
  | .non => true | .bl _ => true | .int _ => true | .str _ => true
  | _ => false
def eqD : D → D → Bool
  | .non, .non => true
  | .bl a, .bl b => a == b
  | .bl a, .int b => (if a then 1 else 0) == b
  | .int a, .bl b => a == (if b then 1 else 0)
  | .int a, .int b => a == b
  | .str a, .str b => a == b
  | _, _ => false
theorem flat_ok {d : D} {v : V} (r : RV K mg g d v) (e : flatD d = true) : flatV v = true := by
  cases r <;> first | rfl | cases e
theorem eqD_ok {d e : D} {v w : V} (r1 : RV K mg g d v) (r2 : RV K mg g e w) (f1 : flatD d = true) (f2 : flatD e = true) : eqV v w = eqD d e := by
  cases r1 <;> first | (cases f1; done) | (cases r2 <;> first | (cases f2; done) | rfl)
theorem flats_ok : ∀ {ds : List D} {vs : List V}, RVs K mg g ds vs → ds.all flatD = true → vs.all flatV = true
  | _, _, .nil, _ => rfl
  | _, _, .cons r t, e => by
    rw [List.all_cons, Bool.and_eq_true] at e ⊢
    exact ⟨flat_ok r e.1, flats_ok t e.2⟩
theorem inV_ok {d : D} {v : V} (r1 : RV K mg g d v) (f1 : flatD d = true) : ∀ {ds : List D} {vs : List V}, RVs K mg g ds vs → ds.all flatD = true → inV v vs = ds.any fun z => eqD z d
  | _, _, .nil, _ => rfl
  | _, _, .cons r t, e => by
    rw [List.all_cons, Bool.and_eq_true] at e
    have ih := inV_ok r1 f1 t e.2
    unfold inV at ih ⊢
    rw [List.any_cons, List.any_cons, ih, eqD_ok r r1 e.1 f1]
def scalD : D → D → Bool
  | .non, .non => true | .non, .int _ => true | .int _, .non => true | .non, .bl _ => true | .bl _, .non => true | .non, .str _ => true | .str _, .non => true
  | .int _, .int _ => true | .bl _, .bl _ => true | .str _, .str _ => true
  | .int _, .str _ => true | .str _, .int _ => true | .bl _, .str _ => true | .str _, .bl _ => true
  | _, _ => false
theorem scal_ok {d e : D} {v w : V} (r1 : RV K mg g d v) (r2 : RV K mg g e w) (h : scalD d e = true) : scal v w = true ∧ decide (v = w) = eqD d e := by
  cases r1 <;> cases r2 <;> first | (cases h; done) | exact ⟨rfl, by simp [eqD, Bool.beq_eq_decide_eq]⟩
def eqDD (μ : Mu) (x y : D) : Option Bool :=
  if scalD x y then some (eqD x y) else
  match toPy μ x, toPy μ y with
  | some a, some b => if min a.depth b.depth ≤ 60 then some (PyData.eqv a b) else none
  | _, _ => none
def listed : PyData → Option (List PyData)
  | .list bs => some bs
  | .tuple bs => some bs
  | _ => none
def inDD (μ : Mu) (x y : D) : Option Bool := match dinD μ x y with
  | some b => some b
  | none => match x, y with
    | .str a, .str b => some (!(Builtin.Str.occurrences b a 0 b.length 1).isEmpty)
    | x, y => match seqOf μ y with
      | some ds => if flatD x && ds.all flatD then some (ds.any fun z => eqD z x) else
        match toPy μ x, (toPy μ y).bind listed with
        | some a, some bs => if min (PyData.depthAll bs) a.depth ≤ 60 then some (bs.any fun z => PyData.eqv z a) else none
        | _, _ => none
      | none => none
def ltI (f : Int → Int → Bool) (x y : D) : Option Bool := match x, y with
  | .int i, .int j => some (f i j)
  | _, _ => none
def cmpD (op : CmpOp) (μ : Mu) (x y : D) : Option Bool := match op with
  | .Eq => eqDD μ x y
  | .NotEq => (eqDD μ x y).map not
  | .Lt => ltI (fun i j => decide (i < j)) x y
  | .LtE => ltI (fun i j => decide (i ≤ j)) x y
  | .Gt => ltI (fun i j => decide (j < i)) x y
  | .GtE => ltI (fun i j => decide (j ≤ i)) x y
  | .In => inDD μ x y
  | .NotIn => (inDD μ x y).map not
  | .Is => match y with | .non => (match x with | .cell _ => some false | .tup _ => some false | .lst _ => some false | .dic _ => some false | .obj _ _ => some false | .scr _ => some false | .non => some true | .int _ => some false | .bl _ => some false | .str _ => some false) | _ => none
  | .IsNot => match y with | .non => (match x with | .cell _ => some true | .tup _ => some true | .lst _ => some true | .dic _ => some true | .obj _ _ => some true | .scr _ => some true | .non => some false | .int _ => some true | .bl _ => some true | .str _ => some true) | _ => none
def rDIn (neg : Bool) : R2 := fun y x H Q => ∃ a o, x = .ref a ∧ DGet H a y o ∧ Q (.bl (if neg then !o.isSome else o.isSome)) H
theorem op_din {X : Cx} (hu : X.A.units + 1 < cLine) : OpR X (compareOp .In) (rDIn false) := by
  intro pins s σ H x y v u Q I rx ry h
  obtain ⟨a, o, rfl, gt, q⟩ := h
  cases ry
  exact d_in hu I gt rx fun s' I' => ⟨.bl o.isSome, H, I', rfl, q⟩
theorem op_dnotin {X : Cx} (hu : X.A.units + 1 < cLine) : OpR X (compareOp .NotIn) (rDIn true) := by
  intro pins s σ H x y v u Q I rx ry h
  obtain ⟨a, o, rfl, gt, q⟩ := h
  cases ry
  exact d_notIn hu I gt rx fun s' I' => ⟨.bl (!o.isSome), H, I', rfl, q⟩
def rEqP (K : PySem.W.Frag) (neg : Bool) : R2 := fun x y H Q => ∃ d e, Dp K H x d ∧ Dp K H y e ∧ d.plain = true ∧ e.plain = true ∧ min d.depth e.depth ≤ 60 ∧ Q (.bl (if neg then !PyData.eqv d e else PyData.eqv d e)) H
def rInP (K : PySem.W.Frag) (neg : Bool) : R2 := fun x y H Q => ∃ d ds, Dp K H x d ∧ (Dp K H y (.list ds) ∨ Dp K H y (.tuple ds)) ∧ d.plain = true ∧ PyData.plainAll ds = true ∧ min (PyData.depthAll ds) d.depth ≤ 60 ∧
  Q (.bl (if neg then !ds.any fun z => PyData.eqv z d else ds.any fun z => PyData.eqv z d)) H
theorem op_eqP {X : Cx} (hu : X.A.units + 64 < cLine) : OpR X (compareOp .Eq) (rEqP X.K false) := by
  intro pins s σ H x y v u Q I rx ry h
  obtain ⟨d, e, hd, he, pd, pe, hm, q⟩ := h
  obtain ⟨as, r1⟩ := Dp.reads I d x v hd rx
  obtain ⟨bs, r2⟩ := Dp.reads I e y u he ry
  exact SeqAt.eq_plain r1 r2 pd pe (by omega) ⟨.bl _, H, I, rfl, q⟩
theorem op_neP {X : Cx} (hu : X.A.units + 64 < cLine) : OpR X (compareOp .NotEq) (rEqP X.K true) := by
  intro pins s σ H x y v u Q I rx ry h
  obtain ⟨d, e, hd, he, pd, pe, hm, q⟩ := h
  obtain ⟨as, r1⟩ := Dp.reads I d x v hd rx
  obtain ⟨bs, r2⟩ := Dp.reads I e y u he ry
  exact SeqAt.ne_plain r1 r2 pd pe (by omega) ⟨.bl _, H, I, rfl, q⟩
theorem op_inP {X : Cx} (hu : X.A.units + 64 < cLine) : OpR X (compareOp .In) (rInP X.K false) := by
  intro pins s σ H x y v u Q I rx ry h
  obtain ⟨d, ds, hd, he | he, pd, pe, hm, q⟩ := h
  · obtain ⟨as, r1⟩ := Dp.reads I d x v hd rx
    obtain ⟨bs, r2⟩ := Dp.reads I _ y u he ry
    exact SeqAt.in_list_data r2 r1 pe pd (by omega) ⟨.bl _, H, I, rfl, q⟩
  · obtain ⟨as, r1⟩ := Dp.reads I d x v hd rx
    obtain ⟨bs, r2⟩ := Dp.reads I _ y u he ry
    exact SeqAt.in_tuple_data r2 r1 pe pd (by omega) ⟨.bl _, H, I, rfl, q⟩
theorem op_notInP {X : Cx} (hu : X.A.units + 64 < cLine) : OpR X (compareOp .NotIn) (rInP X.K true) := by
  intro pins s σ H x y v u Q I rx ry h
  obtain ⟨d, ds, hd, he | he, pd, pe, hm, q⟩ := h
  · obtain ⟨as, r1⟩ := Dp.reads I d x v hd rx
    obtain ⟨bs, r2⟩ := Dp.reads I _ y u he ry
    exact SeqAt.notIn_list_data r2 r1 pe pd (by omega) ⟨.bl _, H, I, rfl, q⟩
  · obtain ⟨as, r1⟩ := Dp.reads I d x v hd rx
    obtain ⟨bs, r2⟩ := Dp.reads I _ y u he ry
    exact SeqAt.notIn_tuple_data r2 r1 pe pd (by omega) ⟨.bl _, H, I, rfl, q⟩
def cmpR (K : PySem.W.Frag) : CmpOp → R2
  | .Eq => fun x y H Q => rEq x y H Q ∨ rEqP K false x y H Q
  | .NotEq => fun x y H Q => rNe x y H Q ∨ rEqP K true x y H Q
  | .Lt => rI0 fun i j => .bl (decide (i < j))
  | .LtE => rI0 fun i j => .bl (decide (i ≤ j))
  | .Gt => rI0 fun i j => .bl (decide (j < i))
  | .GtE => rI0 fun i j => .bl (decide (j ≤ i))
  | .In => fun x y H Q => rDIn false x y H Q ∨ (∃ i j, x = .str i ∧ y = .str j ∧ Q (.bl (!(Builtin.Str.occurrences j i 0 j.length 1).isEmpty)) H) ∨ rIn K false x y H Q ∨ rInP K false x y H Q
  | .NotIn => fun x y H Q => rDIn true x y H Q ∨ (∃ i j, x = .str i ∧ y = .str j ∧ Q (.bl (!(!(Builtin.Str.occurrences j i 0 j.length 1).isEmpty))) H) ∨ rIn K true x y H Q ∨ rInP K true x y H Q
  | .Is => fun x y H Q => y = .non ∧ Q (.bl (decide (x = .non))) H
  | .IsNot => fun x y H Q => y = .non ∧ Q (.bl (!decide (x = .non))) H
theorem cmp_op {X : Cx} (hu : X.A.units + 64 < cLine) : ∀ op, OpR X (compareOp op) (cmpR X.K op)
  | .Eq => op_eq.or (op_eqP hu)
  | .NotEq => op_ne.or (op_neP hu)
  | .Lt => op_lt
  | .LtE => op_le
  | .Gt => op_gt
  | .GtE => op_ge
  | .In => (op_din (by omega)).or (op_in_str.or (op_in_seq.or (op_inP hu)))
  | .NotIn => (op_dnotin (by omega)).or (op_notIn_str.or (op_notIn_seq.or (op_notInP hu)))
  | .Is => op_isN
  | .IsNot => op_notN
theorem rv_dec_non {d : D} {v : V} {b : Bool} (r : RV K mg g d v) (e : cmpD .Is [] d .non = some b) : decide (v = .non) = b := by
  cases r <;> simp [cmpD] at e <;> subst e <;> simp
theorem is_eq (μ : Mu) (x y : D) : cmpD .Is μ x y = cmpD .Is [] x y := rfl
theorem isnot_eq (μ : Mu) (x y : D) : cmpD .IsNot μ x y = (cmpD .Is [] x y).map not := by
  cases y <;> cases x <;> rfl
theorem lt_S {f : Int → Int → Bool} : OpS K mg (rI0 fun i j => .bl (f i j)) (fun μ x y => (ltI f x y).map .bl) := by
  intro g μ H dx dy d vx vy Q R r1 r2 e q
  have e : (ltI f dx dy).map D.bl = some d := e
  unfold ltI at e
  split at e
  · cases e
    rw [rv_int r1, rv_int r2]
    exact ⟨_, _, rfl, rfl, q g H _ (.refl _) R (.bl _)⟩
  · cases e
theorem lid {n : Nat} {x : Bool} {c : Bool} (h : (if n ≤ 60 then some x else none) = some c) : n ≤ 60 ∧ x = c := by
  split at h
  · rename_i hc
    cases h
    exact ⟨hc, rfl⟩
  · cases h
theorem eqDD_ok {dx dy : D} {vx vy : V} {b : Bool} (R : RS K mg g μ H) (r1 : RV K mg g dx vx) (r2 : RV K mg g dy vy) (e : eqDD μ dx dy = some b) :
    (scal vx vy = true ∧ decide (vx = vy) = b) ∨ ∃ p q, Dp K H vx p ∧ Dp K H vy q ∧ p.plain = true ∧ q.plain = true ∧ min p.depth q.depth ≤ 60 ∧ PyData.eqv p q = b := by
  unfold eqDD at e
  split at e
  · rename_i hs
    cases e
    exact .inl (scal_ok r1 r2 hs)
  · split at e
    · rename_i p q h1 h2
      obtain ⟨s1, rfl⟩ := lid e
      exact .inr ⟨p, q, toPy_ok R r1 h1, toPy_ok R r2 h2, toPy_plain h1, toPy_plain h2, s1, rfl⟩
    · cases e
theorem inDD_ok {dx dy : D} {vx vy : V} {b : Bool} (R : RS K mg g μ H) (r1 : RV K mg g dx vx) (r2 : RV K mg g dy vy) (e : inDD μ dx dy = some b) :
    (∃ a o, vy = .ref a ∧ DGet H a vx o ∧ o.isSome = b) ∨ (∃ i j, vx = .str i ∧ vy = .str j ∧ (!(Builtin.Str.occurrences j i 0 j.length 1).isEmpty) = b) ∨
      (∃ p xs, vy = .ref p ∧ (SqL K H p xs ∨ SqT K H p xs) ∧ flatV vx = true ∧ xs.all flatV = true ∧ inV vx xs = b) ∨
      ∃ d ds, Dp K H vx d ∧ (Dp K H vy (.list ds) ∨ Dp K H vy (.tuple ds)) ∧ d.plain = true ∧ PyData.plainAll ds = true ∧ min (PyData.depthAll ds) d.depth ≤ 60 ∧ (ds.any fun z => PyData.eqv z d) = b := by
  unfold inDD at e
  split at e
  · rename_i c h
    cases e
    exact .inl (din_ok R r1 r2 h)
  · split at e
    · rename_i a b' _
      cases e
      rw [rv_str r1, rv_str r2]
      exact .inr (.inl ⟨_, _, rfl, rfl, rfl⟩)
    · split at e
      · rename_i ds h
        split at e
        · rename_i hf
          cases e
          rw [Bool.and_eq_true] at hf
          obtain ⟨a, xs, rfl, hs, r⟩ := seqOf_ok R r2 h
          exact .inr (.inr (.inl ⟨a, xs, rfl, hs, flat_ok r1 hf.1, flats_ok r hf.2, inV_ok r1 hf.1 r hf.2⟩))
        · split at e
          · rename_i p qs h1 h2
            obtain ⟨s1, e3⟩ := lid e
            cases h3 : toPy μ dy with
            | none => rw [h3] at h2; cases h2
            | some z =>
              rw [h3] at h2
              have z1 := toPy_ok R r2 h3
              have z2 := toPy_plain h3
              cases z with
              | list bs => cases h2; exact .inr (.inr (.inr ⟨p, _, toPy_ok R r1 h1, .inl z1, toPy_plain h1, z2, s1, e3⟩))
              | tuple bs => cases h2; exact .inr (.inr (.inr ⟨p, _, toPy_ok R r1 h1, .inr z1, toPy_plain h1, z2, s1, e3⟩))
              | _ => cases h2
          · cases e
      · cases e
theorem cmp_S : ∀ op, OpS K mg (cmpR K op) (fun μ x y => (cmpD op μ x y).map .bl) := by
  intro op g μ H dx dy d vx vy Q R r1 r2 e q
  have e : (cmpD op μ dx dy).map D.bl = some d := e
  cases hb : cmpD op μ dx dy with
  | none => rw [hb] at e; cases e
  | some b =>
    rw [hb] at e
    cases e
    have fin : Q (.bl b) H := q g H _ (.refl _) R (.bl b)
    cases op with
    | Eq =>
      rcases eqDD_ok R r1 r2 hb with ⟨h1, h2⟩ | ⟨p, q', h1, h2, h3, h4, h5, h6⟩
      · exact .inl ⟨h1, by rw [h2]; exact fin⟩
      · exact .inr ⟨p, q', h1, h2, h3, h4, h5, by rw [if_neg (by decide), h6]; exact fin⟩
    | NotEq =>
      have hb' : (eqDD μ dx dy).map not = some b := hb
      cases hc : eqDD μ dx dy with
      | none => rw [hc] at hb'; cases hb'
      | some c =>
        rw [hc] at hb'
        cases hb'
        rcases eqDD_ok R r1 r2 hc with ⟨h1, h2⟩ | ⟨p, q', h1, h2, h3, h4, h5, h6⟩
        · exact .inl ⟨h1, by rw [h2]; exact fin⟩
        · exact .inr ⟨p, q', h1, h2, h3, h4, h5, by rw [if_pos rfl, h6]; exact fin⟩
    | Lt => exact lt_S g μ H dx dy _ vx vy Q R r1 r2 (congrArg (Option.map D.bl) hb) q
    | LtE => exact lt_S g μ H dx dy _ vx vy Q R r1 r2 (congrArg (Option.map D.bl) hb) q
    | Gt => exact lt_S g μ H dx dy _ vx vy Q R r1 r2 (congrArg (Option.map D.bl) hb) q
    | GtE => exact lt_S g μ H dx dy _ vx vy Q R r1 r2 (congrArg (Option.map D.bl) hb) q
    | In =>
      rcases inDD_ok R r1 r2 hb with ⟨a, o, h1, h2, h3⟩ | ⟨i, j, h1, h2, h3⟩ | ⟨p, xs, h1, h2, h3, h4, h5⟩ | ⟨p, ps, h1, h2, h3, h4, h5, h6⟩
      · exact .inl ⟨a, o, h1, h2, by rw [if_neg (by decide), h3]; exact fin⟩
      · exact .inr (.inl ⟨i, j, h1, h2, by rw [h3]; exact fin⟩)
      · exact .inr (.inr (.inl ⟨p, xs, h1, h2, h3, h4, by rw [if_neg (by decide), h5]; exact fin⟩))
      · exact .inr (.inr (.inr ⟨p, ps, h1, h2, h3, h4, h5, by rw [if_neg (by decide), h6]; exact fin⟩))
    | NotIn =>
      have hb' : (inDD μ dx dy).map not = some b := hb
      cases hc : inDD μ dx dy with
      | none => rw [hc] at hb'; cases hb'
      | some c =>
        rw [hc] at hb'
        cases hb'
        rcases inDD_ok R r1 r2 hc with ⟨a, o, h1, h2, h3⟩ | ⟨i, j, h1, h2, h3⟩ | ⟨p, xs, h1, h2, h3, h4, h5⟩ | ⟨p, ps, h1, h2, h3, h4, h5, h6⟩
        · exact .inl ⟨a, o, h1, h2, by rw [if_pos rfl, h3]; exact fin⟩
        · exact .inr (.inl ⟨i, j, h1, h2, by rw [h3]; exact fin⟩)
        · exact .inr (.inr (.inl ⟨p, xs, h1, h2, h3, h4, by rw [if_pos rfl, h5]; exact fin⟩))
        · exact .inr (.inr (.inr ⟨p, ps, h1, h2, h3, h4, h5, by rw [if_pos rfl, h6]; exact fin⟩))
    | Is =>
      cases dy with
      | non =>
        rw [rv_non r2]
        exact ⟨rfl, by rw [rv_dec_non r1 hb]; exact fin⟩
      | _ => exact absurd hb (by simp [cmpD])
    | IsNot =>
      cases dy with
      | non =>
        rw [isnot_eq] at hb
        cases hc : cmpD .Is [] dx .non with
        | none => rw [hc] at hb; cases hb
        | some c =>
          rw [hc] at hb
          cases hb
          rw [rv_non r2]
          exact ⟨rfl, by rw [rv_dec_non r1 hc]; exact fin⟩
      | _ => exact absurd hb (by simp [cmpD])
end
end Yf

/-! Y5: built-in functions and methods, slices, truth. -/
namespace Yf
open PySem PySem.Spec PyProof.Rows L2

section
variable (K : PySem.W.Frag) (mg : Str → Option Value)
/-- what a function of values is to serve -/
def CallS (r : List V → Hp → VK → Prop) (f : Mu → List D → Option D) : Prop :=
  ∀ (g : GS) (μ : Mu) (H : Hp) (ds : List D) (d : D) (vs : List V) (Q : VK), RS K mg g μ H → RVs K mg g ds vs → f μ ds = some d →
    (∀ g' H' v, g.le g' → RS K mg g' μ H' → RV K mg g' d v → Q v H') → r vs H Q
/-- .. that tells a new thing -/
def CallF (r : List V → Hp → VK → Prop) (f : Mu → List D → Option MO) : Prop :=
  ∀ (g : GS) (μ : Mu) (H : Hp) (ds : List D) (o : MO) (vs : List V) (Q : VK), RS K mg g μ H → RVs K mg g ds vs → f μ ds = some o →
    (∀ H' v, RS K mg g μ H' → RlF K mg g o v H' → Q v H') → r vs H Q
/-- a method, that may write -/
def MetS (r : V → List V → Hp → VK → Prop) (f : Mu → D → List D → Option (D × Mu)) : Prop :=
  ∀ (g : GS) (μ μ' : Mu) (H : Hp) (dx : D) (vx : V) (ds : List D) (d : D) (vs : List V) (Q : VK), RS K mg g μ H → RV K mg g dx vx → RVs K mg g ds vs → f μ dx ds = some (d, μ') →
    (∀ g' H' v, g.le g' → RS K mg g' μ' H' → RV K mg g' d v → Q v H') → r vx vs H Q
end
section
variable {K : PySem.W.Frag} {mg : Str → Option Value} {g g' : GS} {μ : Mu} {H : Hp}
theorem rvs1 {d : D} {vs : List V} (r : RVs K mg g [d] vs) : ∃ v, vs = [v] ∧ RV K mg g d v := by
  cases r with
  | cons h t => cases t; exact ⟨_, rfl, h⟩
theorem rvs2 {d e : D} {vs : List V} (r : RVs K mg g [d, e] vs) : ∃ v w, vs = [v, w] ∧ RV K mg g d v ∧ RV K mg g e w := by
  cases r with
  | cons h t => obtain ⟨w, rfl, h2⟩ := rvs1 t; exact ⟨_, w, rfl, h, h2⟩
theorem rvs0 {vs : List V} (r : RVs K mg g [] vs) : vs = [] := by cases r; rfl

end
/-! ### str of data -/
def strPD (μ : Mu) : List D → Option D
  | [d] => match toPy μ d with
    | some p => if (listed p).isSome = true ∧ p.showable = true ∧ p.depth ≤ 60 ∧ p.shown.length ≤ sizeLine then some (.str p.shown) else none
    | none => none
  | _ => none
def rStrP (K : PySem.W.Frag) : List V → Hp → VK → Prop := fun xs H Q => ∃ a p, xs = [.ref a] ∧ Dp K H (.ref a) p ∧ p.plain = true ∧ p.showable = true ∧ p.depth ≤ 60 ∧ p.shown.length ≤ sizeLine ∧ Q (.str p.shown) H
mutual
theorem noDict_plain : ∀ p : PyData, p.plain = true → p.hasDict = false
  | .none, _ => rfl
  | .bool _, _ => rfl
  | .int _, _ => rfl
  | .str _, _ => rfl
  | .list xs, h => noDicts_plain xs h
  | .tuple xs, h => noDicts_plain xs h
  | .dict _, h => by cases h
theorem noDicts_plain : ∀ p : List PyData, PyData.plainAll p = true → PyData.hasDictAll p = false
  | [], _ => rfl
  | x :: xs, h => by
    have h' : (x.plain && PyData.plainAll xs) = true := h
    rw [Bool.and_eq_true] at h'
    show (x.hasDict || PyData.hasDictAll xs) = false
    rw [noDict_plain x h'.1, noDicts_plain xs h'.2]
    rfl
end
theorem call_strP {X : Cx} (hg : X.A.guards = some []) (hu : X.A.units + 64 < cLine) : CallR X (.type "str") (rStrP X.K) := by
  intro pins s σ H xs us Q I r h
  obtain ⟨a, p, rfl, hd, pl, hs, h6, hz, q⟩ := h
  obtain ⟨u, rfl, ru⟩ := vals1 r
  obtain ⟨as, rd⟩ := Dp.reads I p _ u hd ru
  cases ru
  exact str_of_reads rd hs (fun z => by rw [noDict_plain p pl] at z; cases z) hg (by omega) (fun _ _ e => e) (fun h' t tk k => ⟨.str p.shown, H, I.kept k, ⟨_, rfl⟩, q⟩) hz
section
variable {K : PySem.W.Frag} {mg : Str → Option Value}
theorem strP_S : CallS K mg (rStrP K) strPD := by
  intro g μ H ds d vs Q R r e q
  unfold strPD at e
  split at e
  · rename_i d0
    obtain ⟨v, rfl, r1⟩ := rvs1 r
    split at e
    · rename_i p hp
      split at e
      · rename_i hc
        cases e
        have z := toPy_ok R r1 hp
        have pl := toPy_plain hp
        cases z with
        | lst h1 h2 => exact ⟨_, _, rfl, .lst h1 h2, pl, hc.2.1, hc.2.2.1, hc.2.2.2, q g H _ (.refl _) R (.str _)⟩
        | tup h1 h2 => exact ⟨_, _, rfl, .tup h1 h2, pl, hc.2.1, hc.2.2.1, hc.2.2.2, q g H _ (.refl _) R (.str _)⟩
        | _ => exact absurd hc.1 (by simp [listed])
      · cases e
    · cases e
  · cases e
end
section
variable {K : PySem.W.Frag} {mg : Str → Option Value} {g g' : GS} {μ : Mu} {H : Hp}
/-! ### functions that tell a value -/
def intsOf : List D → Option (List Int)
  | [] => some []
  | .int i :: r => (intsOf r).map (i :: ·)
  | _ => none
def blsOf : List D → Option (List Bool)
  | [] => some []
  | .bl b :: r => (blsOf r).map (b :: ·)
  | _ => none
theorem intsOf_eq : ∀ {ds : List D} {ns : List Int}, intsOf ds = some ns → ds = ns.map D.int
  | [], _, e => by cases e; rfl
  | d :: r, ns, e => by
    cases d <;> simp only [intsOf] at e <;> try (cases e; done)
    cases h : intsOf r with
    | none => rw [h] at e; cases e
    | some ms => rw [h] at e; cases e; rw [intsOf_eq h]; rfl
theorem intsOf_map : ∀ ns : List Int, intsOf (ns.map D.int) = some ns
  | [] => rfl
  | n :: ns => by simp [intsOf, intsOf_map ns]
theorem blsOf_eq : ∀ {ds : List D} {ns : List Bool}, blsOf ds = some ns → ds = ns.map D.bl
  | [], _, e => by cases e; rfl
  | d :: r, ns, e => by
    cases d <;> simp only [blsOf] at e <;> try (cases e; done)
    cases h : blsOf r with
    | none => rw [h] at e; cases e
    | some ms => rw [h] at e; cases e; rw [blsOf_eq h]; rfl
theorem blsOf_map : ∀ ns : List Bool, blsOf (ns.map D.bl) = some ns
  | [] => rfl
  | n :: ns => by simp [blsOf, blsOf_map ns]
theorem RVs.bls : ∀ {ns : List Bool} {vs : List V}, RVs K mg g (ns.map D.bl) vs → vs = ns.map V.bl
  | [], _, .nil => rfl
  | n :: ns, _, .cons r t => by
    cases r
    rw [RVs.bls t]
    rfl
def maxOf : List Int → Option Int
  | [] => none
  | n :: r => some (r.foldl max n)
def minOf : List Int → Option Int
  | [] => none
  | n :: r => some (r.foldl min n)
theorem foldl_max_ge : ∀ (l : List Int) (n : Int), n ≤ l.foldl max n ∧ (∀ y ∈ l, y ≤ l.foldl max n) ∧ (l.foldl max n = n ∨ l.foldl max n ∈ l)
  | [], n => ⟨Int.le_refl _, by simp, .inl rfl⟩
  | a :: l, n => by
    obtain ⟨h1, h2, h3⟩ := foldl_max_ge l (max n a)
    simp only [List.foldl_cons, List.mem_cons]
    refine ⟨by omega, fun y hy => ?_, ?_⟩
    · rcases hy with rfl | hy
      · omega
      · exact h2 y hy
    · rcases h3 with h3 | h3
      · rw [h3]; omega
      · exact .inr (.inr h3)
theorem foldl_min_le : ∀ (l : List Int) (n : Int), l.foldl min n ≤ n ∧ (∀ y ∈ l, l.foldl min n ≤ y) ∧ (l.foldl min n = n ∨ l.foldl min n ∈ l)
  | [], n => ⟨Int.le_refl _, by simp, .inl rfl⟩
  | a :: l, n => by
    obtain ⟨h1, h2, h3⟩ := foldl_min_le l (min n a)
    simp only [List.foldl_cons, List.mem_cons]
    refine ⟨by omega, fun y hy => ?_, ?_⟩
    · rcases hy with rfl | hy
      · omega
      · exact h2 y hy
    · rcases h3 with h3 | h3
      · rw [h3]; omega
      · exact .inr (.inr h3)
inductive Bif where
  | len | max2 | min2 | maxL | minL | sum | all | any | tupleOf | intOf | strOf | divmod
def lenD (μ : Mu) : List D → Option D
  | [.str z] => if z.length ≤ sizeLine then some (.int z.length) else none
  | [d] => match dicOf μ d with
    | some kds => some (.int kds.length)
    | none => (seqOf μ d).map fun ds => .int ds.length
  | _ => none
def max2D (_ : Mu) : List D → Option D
  | [.int i, .int j] => some (.int (if j > i then j else i))
  | _ => none
def min2D (_ : Mu) : List D → Option D
  | [.int i, .int j] => some (.int (if j < i then j else i))
  | _ => none
def maxLD (μ : Mu) : List D → Option D
  | [d] => ((lstOf μ d).bind intsOf).bind fun ns => (maxOf ns).map .int
  | _ => none
def minLD (μ : Mu) : List D → Option D
  | [d] => ((lstOf μ d).bind intsOf).bind fun ns => (minOf ns).map .int
  | _ => none
def sumD (μ : Mu) : List D → Option D
  | [d] => ((lstOf μ d).bind intsOf).map fun ns => .int ns.sum
  | _ => none
def allD (μ : Mu) : List D → Option D
  | [d] => ((lstOf μ d).bind blsOf).map fun bs => .bl (bs.all id)
  | _ => none
def anyD (μ : Mu) : List D → Option D
  | [d] => ((lstOf μ d).bind blsOf).map fun bs => .bl (bs.any id)
  | _ => none
def tupleD (μ : Mu) : List D → Option D
  | [.tup ds] => some (.tup ds)
  | [d] => (lstOf μ d).map .tup
  | _ => none
def intD (_ : Mu) : List D → Option D
  | [.int i] => some (.int i)
  | [.bl b] => some (.int (if b then 1 else 0))
  | [.str x] => match PySem.intText? x with
    | some n => if x.length ≤ 640 then some (.int n) else none
    | none => none
  | _ => none
def strD (μ : Mu) : List D → Option D
  | [.int i] => if i.natAbs.log2 < 1920 then some (.str (toString i)) else none
  | [.str x] => some (.str x)
  | ds => strPD μ ds
def divmodD (_ : Mu) : List D → Option D
  | [.int i, .int j] => if CDiv i j then some (.tup [.int (i / j), .int (i % j)]) else none
  | _ => none
def bifD : Bif → Mu → List D → Option D
  | .len => lenD | .max2 => max2D | .min2 => min2D | .maxL => maxLD | .minL => minLD | .sum => sumD | .all => allD | .any => anyD
  | .tupleOf => tupleD | .intOf => intD | .strOf => strD | .divmod => divmodD
def bifN : Bif → Str
  | .len => "len" | .max2 => "max" | .min2 => "min" | .maxL => "max" | .minL => "min" | .sum => "sum" | .all => "all" | .any => "any"
  | .tupleOf => "tuple" | .intOf => "int" | .strOf => "str" | .divmod => "divmod"
def bifT : Bif → Bool
  | .tupleOf => true | .intOf => true | .strOf => true
  | _ => false
def bifI : Bif → String
  | .len => "len" | .max2 => "max" | .min2 => "min" | .maxL => "max" | .minL => "min" | .sum => "sum" | .all => "all" | .any => "any"
  | .tupleOf => "tuple" | .intOf => "int" | .strOf => "str" | .divmod => "divmod"
def bifV (b : Bif) : Value := if bifT b then .type (bifI b) else .builtin (bifI b)
def rLenA (K : PySem.W.Frag) : List V → Hp → VK → Prop := fun xs H Q => (∃ a kvs, xs = [V.ref a] ∧ H a = some (.dK kvs) ∧ Q (.int kvs.length) H) ∨ ∃ x n, xs = [x] ∧ LenV K x H n ∧ Q (.int n) H
def rMinMax (K : PySem.W.Frag) (mx : Bool) : List V → Hp → VK → Prop := fun vs H Q => if mx then rMax K vs H Q else rMin K vs H Q
def bifR (K : PySem.W.Frag) : Bif → List V → Hp → VK → Prop
  | .len => rLenA K
  | .max2 => fun xs H Q => ∃ i j, xs = [.int i, .int j] ∧ Q (.int (if j > i then j else i)) H
  | .min2 => fun xs H Q => ∃ i j, xs = [.int i, .int j] ∧ Q (.int (if j < i then j else i)) H
  | .maxL => rMax K
  | .minL => rMin K
  | .sum => rSum K
  | .all => rAll K
  | .any => rAny K
  | .tupleOf => fun xs H Q => ∃ p ys, xs = [.ref p] ∧ ((SqL K H p ys ∧ ∀ l, H l = none → Q (.ref l) (upd H l (.tup ys))) ∨ (SqT K H p ys ∧ Q (.ref p) H))
  | .intOf => fun xs H Q => ((∃ i, xs = [.int i] ∧ Q (.int i) H) ∨ ∃ k, xs = [.bl k] ∧ Q (.int (if k then 1 else 0)) H) ∨ ∃ a n, xs = [.str a] ∧ PySem.intText? a = some n ∧ a.length ≤ 640 ∧ Q (.int n) H
  | .strOf => fun xs H Q => (∃ i, xs = [.int i] ∧ i.natAbs.log2 < 1920 ∧ Q (.str (toString i)) H) ∨ (∃ a, xs = [.str a] ∧ Q (.str a) H) ∨ rStrP K xs H Q
  | .divmod => fun xs H Q => ∃ i j, xs = [.int i, .int j] ∧ CDiv i j ∧ ∀ p, H p = none → Q (.ref p) (upd H p (.tup [.int (i / j), .int (i % j)]))
theorem bif_call {X : Cx} (hc : X.calm = true) (hg : X.A.guards = some []) (hu : X.A.units + 64 < cLine) : ∀ b, CallR X (bifV b) (bifR X.K b)
  | .len => call_lenD.or call_len
  | .max2 => call_max2 hc
  | .min2 => call_min2 hc
  | .maxL => cr_max hc
  | .minL => cr_min hc
  | .sum => cr_sum hc
  | .all => cr_all hc
  | .any => cr_any hc
  | .tupleOf => call_tuple_of
  | .intOf => call_int1.or call_int_str
  | .strOf => call_str_int.or (SkE.call_str_str.or (call_strP hg hu))
  | .divmod => call_divmod
theorem lst_ints {d : D} {v : V} {ns : List Int} (R : RS K mg g μ H) (r : RV K mg g d v) (e : ((lstOf μ d).bind intsOf) = some ns) : ∃ a, v = .ref a ∧ SqL K H a (ns.map V.int) := by
  cases h : lstOf μ d with
  | none => rw [h] at e; cases e
  | some ds =>
    rw [h] at e
    have e2 := intsOf_eq (show intsOf ds = some ns from e)
    subst e2
    obtain ⟨a, xs, rfl, h1, h2⟩ := lstOf_ok R r h
    rw [RVs.ints h2] at h1
    exact ⟨a, rfl, SqL.of h1⟩
theorem lst_bls {d : D} {v : V} {ns : List Bool} (R : RS K mg g μ H) (r : RV K mg g d v) (e : ((lstOf μ d).bind blsOf) = some ns) : ∃ a, v = .ref a ∧ SqL K H a (ns.map V.bl) := by
  cases h : lstOf μ d with
  | none => rw [h] at e; cases e
  | some ds =>
    rw [h] at e
    have e2 := blsOf_eq (show blsOf ds = some ns from e)
    subst e2
    obtain ⟨a, xs, rfl, h1, h2⟩ := lstOf_ok R r h
    rw [RVs.bls h2] at h1
    exact ⟨a, rfl, SqL.of h1⟩
theorem len_S : CallS K mg (rLenA K) lenD := by
  intro g μ H ds d vs Q R r e q
  unfold lenD at e
  split at e
  · obtain ⟨v, rfl, r1⟩ := rvs1 r
    split at e
    · rename_i hz
      cases e
      rw [rv_str r1]
      exact .inr ⟨_, _, rfl, ⟨hz, rfl⟩, q g H _ (.refl _) R (.int _)⟩
    · cases e
  · rename_i d0 _
    obtain ⟨v, rfl, r1⟩ := rvs1 r
    split at e
    · rename_i kds h
      cases e
      obtain ⟨a, ks, rfl, h1, h2⟩ := dicOf_ok R r1 h
      exact .inl ⟨a, ks, rfl, h1, by rw [← h2.length]; exact q g H _ (.refl _) R (.int _)⟩
    · cases h : seqOf μ d0 with
      | none => rw [h] at e; cases e
      | some es =>
        rw [h] at e
        cases e
        obtain ⟨a, xs, rfl, h1, h2⟩ := seqOf_ok R r1 h
        refine .inr ⟨_, es.length, rfl, ?_, q g H _ (.refl _) R (.int _)⟩
        rcases h1 with h1 | h1
        · exact .inl ⟨xs, h1, h2.length⟩
        · exact .inr ⟨xs, h1, h2.length⟩
  · cases e
theorem bif_S : ∀ b, CallS K mg (bifR K b) (bifD b) := by
  intro b
  cases b with
  | len => exact len_S
  | max2 =>
    intro g μ H ds d vs Q R r e q
    replace e : max2D μ ds = some d := e
    unfold max2D at e
    split at e
    · cases e
      obtain ⟨v, w, rfl, r1, r2⟩ := rvs2 r
      rw [rv_int r1, rv_int r2]
      exact ⟨_, _, rfl, q g H _ (.refl _) R (.int _)⟩
    · cases e
  | min2 =>
    intro g μ H ds d vs Q R r e q
    replace e : min2D μ ds = some d := e
    unfold min2D at e
    split at e
    · cases e
      obtain ⟨v, w, rfl, r1, r2⟩ := rvs2 r
      rw [rv_int r1, rv_int r2]
      exact ⟨_, _, rfl, q g H _ (.refl _) R (.int _)⟩
    · cases e
  | maxL =>
    intro g μ H ds d vs Q R r e q
    replace e : maxLD μ ds = some d := e
    unfold maxLD at e
    split at e
    · rename_i d0
      obtain ⟨v, rfl, r1⟩ := rvs1 r
      cases h : (lstOf μ d0).bind intsOf with
      | none => rw [h] at e; cases e
      | some ns =>
        rw [h] at e
        obtain ⟨a, rfl, hs⟩ := lst_ints R r1 h
        cases ns with
        | nil => cases e
        | cons n ns =>
          cases e
          obtain ⟨f1, f2, f3⟩ := foldl_max_ge ns n
          refine ⟨a, _, rfl, hs, by simp, fun m hm hy => ?_⟩
          have : m = ns.foldl max n := by
            have h1 := hy (ns.foldl max n) (by simp only [List.mem_cons]; exact f3.imp id id)
            rcases List.mem_cons.mp hm with rfl | hm
            · omega
            · have := f2 m hm; omega
          rw [this]
          exact q g H _ (.refl _) R (.int _)
    · cases e
  | minL =>
    intro g μ H ds d vs Q R r e q
    replace e : minLD μ ds = some d := e
    unfold minLD at e
    split at e
    · rename_i d0
      obtain ⟨v, rfl, r1⟩ := rvs1 r
      cases h : (lstOf μ d0).bind intsOf with
      | none => rw [h] at e; cases e
      | some ns =>
        rw [h] at e
        obtain ⟨a, rfl, hs⟩ := lst_ints R r1 h
        cases ns with
        | nil => cases e
        | cons n ns =>
          cases e
          obtain ⟨f1, f2, f3⟩ := foldl_min_le ns n
          refine ⟨a, _, rfl, hs, by simp, fun m hm hy => ?_⟩
          have : m = ns.foldl min n := by
            have h1 := hy (ns.foldl min n) (by simp only [List.mem_cons]; exact f3.imp id id)
            rcases List.mem_cons.mp hm with rfl | hm
            · omega
            · have := f2 m hm; omega
          rw [this]
          exact q g H _ (.refl _) R (.int _)
    · cases e
  | sum =>
    intro g μ H ds d vs Q R r e q
    replace e : sumD μ ds = some d := e
    unfold sumD at e
    split at e
    · rename_i d0
      obtain ⟨v, rfl, r1⟩ := rvs1 r
      cases h : (lstOf μ d0).bind intsOf with
      | none => rw [h] at e; cases e
      | some ns =>
        rw [h] at e
        cases e
        obtain ⟨a, rfl, hs⟩ := lst_ints R r1 h
        exact ⟨a, ns, rfl, hs, q g H _ (.refl _) R (.int _)⟩
    · cases e
  | all =>
    intro g μ H ds d vs Q R r e q
    replace e : allD μ ds = some d := e
    unfold allD at e
    split at e
    · rename_i d0
      obtain ⟨v, rfl, r1⟩ := rvs1 r
      cases h : (lstOf μ d0).bind blsOf with
      | none => rw [h] at e; cases e
      | some ns =>
        rw [h] at e
        cases e
        obtain ⟨a, rfl, hs⟩ := lst_bls R r1 h
        exact ⟨a, ns, rfl, hs, q g H _ (.refl _) R (.bl _)⟩
    · cases e
  | any =>
    intro g μ H ds d vs Q R r e q
    replace e : anyD μ ds = some d := e
    unfold anyD at e
    split at e
    · rename_i d0
      obtain ⟨v, rfl, r1⟩ := rvs1 r
      cases h : (lstOf μ d0).bind blsOf with
      | none => rw [h] at e; cases e
      | some ns =>
        rw [h] at e
        cases e
        obtain ⟨a, rfl, hs⟩ := lst_bls R r1 h
        exact ⟨a, ns, rfl, hs, q g H _ (.refl _) R (.bl _)⟩
    · cases e
  | tupleOf =>
    intro g μ H ds d vs Q R r e q
    replace e : tupleD μ ds = some d := e
    unfold tupleD at e
    split at e
    · cases e
      obtain ⟨v, rfl, r1⟩ := rvs1 r
      cases r1 with
      | tup h1 h2 => exact ⟨_, _, rfl, .inr ⟨sqT_mono R.frz h1, q g H _ (.refl _) R (.tup h1 h2)⟩⟩
    · rename_i d0 _
      obtain ⟨v, rfl, r1⟩ := rvs1 r
      cases h : lstOf μ d0 with
      | none => rw [h] at e; cases e
      | some es =>
        rw [h] at e
        cases e
        obtain ⟨a, xs, rfl, h1, h2⟩ := lstOf_ok R r1 h
        exact ⟨a, xs, rfl, .inl ⟨SqL.of h1, new_tup R h2 q⟩⟩
    · cases e
  | intOf =>
    intro g μ H ds d vs Q R r e q
    replace e : intD μ ds = some d := e
    unfold intD at e
    split at e
    · cases e
      obtain ⟨v, rfl, r1⟩ := rvs1 r
      rw [rv_int r1]
      exact .inl (.inl ⟨_, rfl, q g H _ (.refl _) R (.int _)⟩)
    · cases e
      obtain ⟨v, rfl, r1⟩ := rvs1 r
      rw [rv_bl r1]
      exact .inl (.inr ⟨_, rfl, q g H _ (.refl _) R (.int _)⟩)
    · obtain ⟨v, rfl, r1⟩ := rvs1 r
      rw [rv_str r1]
      split at e
      · rename_i n hn
        split at e
        · rename_i hl
          cases e
          exact .inr ⟨_, n, rfl, hn, hl, q g H _ (.refl _) R (.int _)⟩
        · cases e
      · cases e
    · cases e
  | strOf =>
    intro g μ H ds d vs Q R r e q
    replace e : strD μ ds = some d := e
    unfold strD at e
    split at e
    · obtain ⟨v, rfl, r1⟩ := rvs1 r
      rw [rv_int r1]
      split at e
      · rename_i hl
        cases e
        exact .inl ⟨_, rfl, hl, q g H _ (.refl _) R (.str _)⟩
      · cases e
    · cases e
      obtain ⟨v, rfl, r1⟩ := rvs1 r
      rw [rv_str r1]
      exact .inr (.inl ⟨_, rfl, q g H _ (.refl _) R (.str _)⟩)
    · exact .inr (.inr (strP_S g μ H ds d vs Q R r e q))
  | divmod =>
    intro g μ H ds d vs Q R r e q
    replace e : divmodD μ ds = some d := e
    unfold divmodD at e
    split at e
    · obtain ⟨v, w, rfl, r1, r2⟩ := rvs2 r
      rw [rv_int r1, rv_int r2]
      split at e
      · rename_i hc
        cases e
        exact ⟨_, _, rfl, hc, new_tup R (.cons (.int _) (.cons (.int _) .nil)) q⟩
      · cases e
    · cases e
end
end Yf
namespace Yf
open PySem PySem.Spec PyProof.Rows L2
/-! ### functions that tell a new thing -/
inductive Bff where
  | listOf | sortI
def sortI (ns : List Int) : List Int := ns.mergeSort fun a b => decide (a ≤ b)
def listD (μ : Mu) : List D → Option MO
  | [d] => (seqOf μ d).map .lst
  | _ => none
def sortID (μ : Mu) : List D → Option MO
  | [d] => ((lstOf μ d).bind intsOf).map fun ns => .lst ((sortI ns).map .int)
  | _ => none
def bffD : Bff → Mu → List D → Option MO
  | .listOf => listD | .sortI => sortID
def bffN : Bff → Str
  | .listOf => "list" | .sortI => "sorted"
def bffV : Bff → Value
  | .listOf => .type "list" | .sortI => .builtin "sorted"
def bffT : Bff → Bool
  | .listOf => true | .sortI => false
def bffR (K : PySem.W.Frag) : Bff → List V → Hp → VK → Prop
  | .listOf => fun xs H Q => ∃ p ys, xs = [.ref p] ∧ (SqL K H p ys ∨ SqT K H p ys) ∧ ∀ l, H l = none → Q (.ref l) (upd H l (.lst ys))
  | .sortI => rSortedI K
theorem bff_call {X : Cx} : ∀ b, CallR X (bffV b) (bffR X.K b)
  | .listOf => call_list_of
  | .sortI => cr_sortedI
theorem sortI_perm (ns : List Int) : (sortI ns).Perm ns := List.mergeSort_perm ns _
theorem sortI_sorted (ns : List Int) : (sortI ns).Pairwise (· ≤ ·) := by
  have h := List.pairwise_mergeSort (le := fun a b : Int => decide (a ≤ b)) (fun a b c h1 h2 => by simp at *; omega) (fun a b => by simp; omega) ns
  exact h.imp fun h => by simpa using h
theorem sorted_one {l m : List Int} (hp : l.Perm m) (h1 : l.Pairwise (· ≤ ·)) (h2 : m.Pairwise (· ≤ ·)) : l = m :=
  hp.eq_of_pairwise (fun a b _ _ h1 h2 => by omega) h1 h2
section
variable {K : PySem.W.Frag} {mg : Str → Option Value}
theorem bff_S : ∀ b, CallF K mg (bffR K b) (bffD b) := by
  intro b
  cases b with
  | listOf =>
    intro g μ H ds o vs Q R r e q
    replace e : listD μ ds = some o := e
    unfold listD at e
    split at e
    · rename_i d0
      obtain ⟨v, rfl, r1⟩ := rvs1 r
      cases h : seqOf μ d0 with
      | none => rw [h] at e; cases e
      | some es =>
        rw [h] at e
        cases e
        obtain ⟨a, xs, rfl, h1, h2⟩ := seqOf_ok R r1 h
        exact ⟨a, xs, rfl, h1, fun l hl => let z := rlf_lst R hl h2; q _ _ z.1 z.2⟩
    · cases e
  | sortI =>
    intro g μ H ds o vs Q R r e q
    replace e : sortID μ ds = some o := e
    unfold sortID at e
    split at e
    · rename_i d0
      obtain ⟨v, rfl, r1⟩ := rvs1 r
      cases h : (lstOf μ d0).bind intsOf with
      | none => rw [h] at e; cases e
      | some ns =>
        rw [h] at e
        cases e
        obtain ⟨a, rfl, hs⟩ := lst_ints R r1 h
        refine ⟨a, ns, rfl, hs, fun ns' p h1 h2 hp => ?_⟩
        have e2 : ns' = sortI ns := sorted_one (h1.trans (sortI_perm ns).symm) h2 (sortI_sorted ns)
        rw [e2]
        have z := rlf_lst (ds := (sortI ns).map .int) R hp RVs.of_ints
        exact q _ _ z.1 z.2
    · cases e
end
end Yf
namespace Yf
open PySem PySem.Spec PyProof.Rows L2
/-! ### methods of built-in types -/
inductive Bm where
  | append | extend | pop | popAt | clear | reverse | count
def appendD (μ : Mu) (x : D) : List D → Option (D × Mu)
  | [d] => match celOf μ x with
    | some (n, ds) => if ds.length < sizeLine then some (.non, μ.set n (.lst (ds ++ [d]))) else none
    | none => none
  | _ => none
def extendD (μ : Mu) (x : D) : List D → Option (D × Mu)
  | [d] => match celOf μ x, lstOf μ d with
    | some (n, ds), some es => if ds.length + es.length ≤ sizeLine then some (.non, μ.set n (.lst (ds ++ es))) else none
    | _, _ => none
  | _ => none
def popD (μ : Mu) (x : D) : List D → Option (D × Mu)
  | [] => match celOf μ x with
    | some (n, ds) => match ds[ds.length - 1]? with
      | some d => some (d, μ.set n (.lst ds.dropLast))
      | none => none
    | none => none
  | _ => none
def popAtD (μ : Mu) (x : D) : List D → Option (D × Mu)
  | [.int i] => match celOf μ x with
    | some (n, ds) => if -(2 ^ 63) ≤ i ∧ i < 2 ^ 63 then match ixN ds.length i with
      | some k => match ds[k]? with
        | some d => some (d, μ.set n (.lst (ds.eraseIdx k)))
        | none => none
      | none => none
      else none
    | none => none
  | _ => none
def clearD (μ : Mu) (x : D) : List D → Option (D × Mu)
  | [] => match celOf μ x with
    | some (n, _) => some (.non, μ.set n (.lst []))
    | none => none
  | _ => none
def reverseD (μ : Mu) (x : D) : List D → Option (D × Mu)
  | [] => match celOf μ x with
    | some (n, ds) => some (.non, μ.set n (.lst ds.reverse))
    | none => none
  | _ => none
def countD (μ : Mu) (x : D) : List D → Option (D × Mu)
  | [d] => match toPy μ x, toPy μ d with
    | some (.list ps), some p => if min (PyData.depthAll ps) p.depth ≤ 60 then some (.int (ps.countP fun y => PyData.eqv y p), μ) else none
    | _, _ => none
  | _ => none
def bmD : Bm → Mu → D → List D → Option (D × Mu)
  | .append => appendD | .extend => extendD | .pop => popD | .popAt => popAtD | .clear => clearD | .reverse => reverseD | .count => countD
def bmN : Bm → Str
  | .append => "append" | .extend => "extend" | .pop => "pop" | .popAt => "pop" | .clear => "clear" | .reverse => "reverse" | .count => "count"
def bmT : Bm → String
  | .append => "list" | .extend => "list" | .pop => "list" | .popAt => "list" | .clear => "list" | .reverse => "list" | .count => "list"
def bmI : Bm → String
  | .append => "list.append" | .extend => "list.extend" | .pop => "list.pop" | .popAt => "list.pop" | .clear => "list.clear" | .reverse => "list.reverse" | .count => "list.count"
theorem bm_pa : ∀ m, PlainAttrs (bmT m)
  | .append => PySem.F.plainAttrs_list | .extend => PySem.F.plainAttrs_list | .pop => PySem.F.plainAttrs_list | .popAt => PySem.F.plainAttrs_list
  | .clear => PySem.F.plainAttrs_list | .reverse => PySem.F.plainAttrs_list | .count => PySem.F.plainAttrs_list
theorem bm_slot : ∀ m, Slot (bmT m) (bmN m) (bmI m)
  | .append => PySem.F.slot_list_append | .extend => PySem.F.slot_list_extend | .pop => PySem.F.slot_list_pop | .popAt => PySem.F.slot_list_pop
  | .clear => PySem.F.slot_list_clear | .reverse => PySem.F.slot_list_reverse | .count => PySem.F.slot_list_count
theorem bm_ty : ∀ m, typeOf (.builtin (bmI m)) = pure (.type "method_descriptor")
  | .append => PySem.F.type_list_append | .extend => PySem.F.type_list_extend | .pop => PySem.F.type_list_pop | .popAt => PySem.F.type_list_pop
  | .clear => PySem.F.type_list_clear | .reverse => PySem.F.type_list_reverse | .count => PySem.F.type_list_count
def rCntP (K : PySem.W.Frag) : V → List V → Hp → VK → Prop := fun x vs H Q => ∃ a y ds d, x = .ref a ∧ vs = [y] ∧ Dp K H (.ref a) (.list ds) ∧ Dp K H y d ∧ PyData.plainAll ds = true ∧ d.plain = true ∧ min (PyData.depthAll ds) d.depth ≤ 60 ∧
  Q (.int (ds.countP fun y => PyData.eqv y d)) H
theorem mt_countP {X : Cx} (hu : X.A.units + 64 < cLine) : MtR X "list.count" (rCntP X.K) := by
  intro pins s σ H x vs v us Q I rx rv h
  obtain ⟨a, y, ds, d, rfl, rfl, hl, hy, pl, pd, h6, q⟩ := h
  obtain ⟨u, rfl, ru⟩ := Vals.one rv
  cases rx
  obtain ⟨bs, r1⟩ := Dp.reads I d y u hy ru
  cases hl with
  | lst hs ha =>
    obtain ⟨its, rv, pn, hlen⟩ := I.list hs
    obtain ⟨as, h4⟩ := Dp.readsAll I ds _ its ha rv
    exact SeqAt.count_list_data pn.isList (show ReadsAll s.heap its.toArray.toList ds as from h4) r1 pl pd (by omega) ⟨.int _, H, I.tok _, ⟨_, rfl⟩, q⟩
def bmR (K : PySem.W.Frag) : Bm → V → List V → Hp → VK → Prop
  | .append => rAppend | .extend => rExtend | .pop => rPop | .popAt => rPopAt | .clear => rClear | .reverse => rReverse | .count => rCntP K
theorem bm_met {X : Cx} (hu : X.A.units + 64 < cLine) : ∀ m, MtR X (bmI m) (bmR X.K m)
  | .append => mt_append | .extend => mt_extend | .pop => mt_pop | .popAt => mt_popAt | .clear => mt_clear | .reverse => mt_reverse | .count => mt_countP hu
def tyD (T : String) (μ : Mu) (d : D) : Bool := match d with
  | .str _ => T == "str"
  | d => (T == "list" && (lstOf μ d).isSome) || (T == "dict" && (dicOf μ d).isSome)
section
variable {K : PySem.W.Frag} {mg : Str → Option Value} {g g' : GS} {μ : Mu} {H : Hp}
theorem tyD_ok {T : String} {d : D} {v : V} (R : RS K mg g μ H) (r : RV K mg g d v) (e : tyD T μ d = true) : tyV K T v H := by
  unfold tyD at e
  split at e
  · rw [rv_str r]
    exact eq_of_beq e
  · rw [Bool.or_eq_true, Bool.and_eq_true, Bool.and_eq_true] at e
    rcases e with ⟨e1, e2⟩ | ⟨e1, e2⟩
    · obtain ⟨ds, h⟩ := Option.isSome_iff_exists.mp e2
      obtain ⟨a, xs, rfl, h1, _⟩ := lstOf_ok R r h
      exact .inl ⟨eq_of_beq e1, xs, SqL.of h1⟩
    · obtain ⟨ds, h⟩ := Option.isSome_iff_exists.mp e2
      obtain ⟨a, xs, rfl, h1, _⟩ := dicOf_ok R r h
      exact .inr (.inr (.inl ⟨eq_of_beq e1, .inl ⟨xs, h1⟩⟩))
/-- a list cell is written -/
theorem cel_write {n : Nat} {ds es : List D} {a : Addr} {xs : List V} (R : RS K mg g μ H) (e1 : μ[n]? = some (.lst ds)) (e2 : g.θ[n]? = some a) (r : RVs K mg g es xs) : RS K mg g (μ.set n (.lst es)) (upd H a (.lst xs)) :=
  R.write e1 e2 (by simp) ⟨xs, rfl, r⟩
theorem bm_S : ∀ m, MetS K mg (bmR K m) (bmD m) := by
  intro m
  cases m with
  | append =>
    intro g μ μ' H dx vx ds d vs Q R r1 r2 e q
    replace e : appendD μ dx ds = some (d, μ') := e
    unfold appendD at e
    split at e
    · obtain ⟨v, rfl, rv⟩ := rvs1 r2
      split at e
      · rename_i n es h
        split at e
        · rename_i hl
          cases e
          obtain ⟨a, xs, rfl, h1, h2, h3, h4⟩ := celOf_ok R r1 h
          exact ⟨a, xs, v, rfl, rfl, h3, by rw [← h4.length]; exact hl, q g _ _ (.refl _) (cel_write R h2 h1 (h4.append (.cons rv .nil))) .non⟩
        · cases e
      · cases e
    · cases e
  | extend =>
    intro g μ μ' H dx vx ds d vs Q R r1 r2 e q
    replace e : extendD μ dx ds = some (d, μ') := e
    unfold extendD at e
    split at e
    · obtain ⟨v, rfl, rv⟩ := rvs1 r2
      split at e
      · rename_i n es fs h hf
        split at e
        · rename_i hl
          cases e
          obtain ⟨a, xs, rfl, h1, h2, h3, h4⟩ := celOf_ok R r1 h
          obtain ⟨b, ys, rfl, k1, k2⟩ := lstOf_ok R rv hf
          exact ⟨a, b, xs, ys, rfl, rfl, h3, k1, by rw [← h4.length, ← k2.length]; exact hl, q g _ _ (.refl _) (cel_write R h2 h1 (h4.append k2)) .non⟩
        · cases e
      · cases e
    · cases e
  | pop =>
    intro g μ μ' H dx vx ds d vs Q R r1 r2 e q
    replace e : popD μ dx ds = some (d, μ') := e
    unfold popD at e
    split at e
    · rw [rvs0 r2]
      split at e
      · rename_i n es h
        split at e
        · rename_i d0 hd
          cases e
          obtain ⟨a, xs, rfl, h1, h2, h3, h4⟩ := celOf_ok R r1 h
          obtain ⟨v, hv, rv⟩ := h4.get hd
          exact ⟨a, xs, v, rfl, rfl, h3, by rw [← h4.length]; exact hv, q g _ _ (.refl _) (cel_write R h2 h1 h4.dropLast) rv⟩
        · cases e
      · cases e
    · cases e
  | popAt =>
    intro g μ μ' H dx vx ds d vs Q R r1 r2 e q
    replace e : popAtD μ dx ds = some (d, μ') := e
    unfold popAtD at e
    split at e
    · obtain ⟨v, rfl, rv⟩ := rvs1 r2
      rw [rv_int rv]
      split at e
      · rename_i n es h
        split at e
        · rename_i hl
          split at e
          · rename_i k hk
            split at e
            · rename_i d0 hd
              cases e
              obtain ⟨a, xs, rfl, h1, h2, h3, h4⟩ := celOf_ok R r1 h
              obtain ⟨w, hv, rw'⟩ := h4.get hd
              exact ⟨a, xs, _, k, w, rfl, rfl, h3, hl.1, hl.2, by rw [← h4.length]; exact (ixN_seq hk).1, hv, q g _ _ (.refl _) (cel_write R h2 h1 (h4.eraseIdx k)) rw'⟩
            · cases e
          · cases e
        · cases e
      · cases e
    · cases e
  | clear =>
    intro g μ μ' H dx vx ds d vs Q R r1 r2 e q
    replace e : clearD μ dx ds = some (d, μ') := e
    unfold clearD at e
    split at e
    · rw [rvs0 r2]
      split at e
      · rename_i n es h
        cases e
        obtain ⟨a, xs, rfl, h1, h2, h3, h4⟩ := celOf_ok R r1 h
        exact ⟨a, xs, rfl, rfl, h3, q g _ _ (.refl _) (cel_write R h2 h1 .nil) .non⟩
      · cases e
    · cases e
  | reverse =>
    intro g μ μ' H dx vx ds d vs Q R r1 r2 e q
    replace e : reverseD μ dx ds = some (d, μ') := e
    unfold reverseD at e
    split at e
    · rw [rvs0 r2]
      split at e
      · rename_i n es h
        cases e
        obtain ⟨a, xs, rfl, h1, h2, h3, h4⟩ := celOf_ok R r1 h
        exact ⟨a, xs, rfl, rfl, h3, q g _ _ (.refl _) (cel_write R h2 h1 h4.reverse) .non⟩
      · cases e
    · cases e
  | count =>
    intro g μ μ' H dx vx ds d vs Q R r1 r2 e q
    replace e : countD μ dx ds = some (d, μ') := e
    unfold countD at e
    split at e
    · obtain ⟨v, rfl, rv⟩ := rvs1 r2
      split at e
      · rename_i ps p h1 h2
        split at e
        · rename_i hl
          cases e
          have z := toPy_ok R r1 h1
          have zp := toPy_plain h1
          have y := toPy_ok R rv h2
          cases z with
          | lst k1 k2 => exact ⟨_, v, ps, p, rfl, rfl, .lst k1 k2, y, zp, toPy_plain h2, hl, q g H _ (.refl _) R (.int _)⟩
        · cases e
      · cases e
    · cases e

/-! ### truth -/
def truD (μ : Mu) : D → Option Bool
  | .non => some false
  | .bl b => some b
  | .int i => some (i != 0)
  | .str y => if y.length ≤ sizeLine then some ((y.length : Int) != 0) else none
  | d => match dicOf μ d with
    | some kds => some (!kds.isEmpty)
    | none => (seqOf μ d).map fun ds => !ds.isEmpty
theorem RVs.empty {ds : List D} {vs : List V} (r : RVs K mg g ds vs) : ds.isEmpty = vs.isEmpty := by cases r <;> rfl
theorem RKs.empty {ds : List (Key × D)} {vs : List (Key × V)} (r : RKs K mg g ds vs) : ds.isEmpty = vs.isEmpty := by cases r <;> rfl
theorem tru_ok2 {d : D} {v : V} {b : Bool} (R : RS K mg g μ H) (r : RV K mg g d v) (e : truD μ d = some b) : TruV K v H b := by
  have big : (match dicOf μ d with
    | some kds => some (!kds.isEmpty)
    | none => (seqOf μ d).map fun ds => !ds.isEmpty) = some b → TruV K v H b := by
    intro e
    split at e
    · rename_i kds h
      cases e
      obtain ⟨a, ks, rfl, h1, h2⟩ := dicOf_ok R r h
      exact .inr (.inr ⟨ks, h1, by rw [h2.empty]⟩)
    · cases h : seqOf μ d with
      | none => rw [h] at e; cases e
      | some es =>
        rw [h] at e
        cases e
        obtain ⟨a, xs, rfl, h1, h2⟩ := seqOf_ok R r h
        rcases h1 with h1 | h1
        · exact .inl ⟨xs, h1, congrArg not h2.empty⟩
        · exact .inr (.inl ⟨xs, h1, congrArg not h2.empty⟩)
  cases d with
  | non => cases r; cases e; rfl
  | bl _ => cases r; cases e; rfl
  | int _ => cases r; cases e; rfl
  | str y =>
    cases r
    replace e : (if y.length ≤ sizeLine then some ((y.length : Int) != 0) else none) = some b := e
    split at e
    · rename_i hl
      cases e
      exact ⟨hl, rfl⟩
    · cases e
  | _ => exact big e
/-! ### slices -/
def cutD (xs : List D) (lo hi : Option Int) : List D := (xs.drop (HT.sIx xs.length 0 lo)).take (HT.sIx xs.length xs.length hi - HT.sIx xs.length 0 lo)
theorem cut_ok {ds : List D} {xs : List V} (r : RVs K mg g ds xs) (lo hi : Option Int) : RVs K mg g (cutD ds lo hi) (cutV xs lo hi) := by
  unfold cutD cutV
  rw [r.length]
  exact (r.drop _).take _
end
end Yf

/-! Y6: expressions: each form, by what its parts do. -/
namespace Yf
open PySem PySem.Spec PyProof.Rows L2

/-! ### what is asked of the text -/
def noStar : Expr → Bool
  | .Starred .. => false
  | _ => true
theorem star_cons {e : Expr} {es : List Expr} {env : Env} (h : noStar e = true) : starEach (e :: es) env = (false, eval e env) :: starEach es env := by
  cases e <;> first | (cases h; done) | rfl
theorem star_plain {pos : Pos} {env : Env} : ∀ {es : List Expr}, es.all noStar = true → (backTo pos (starEach es env)).any (·.1) = false
  | [], _ => rfl
  | e :: es, h => by
    rw [List.all_cons, Bool.and_eq_true] at h
    rw [star_cons h.1]
    have ih := star_plain (pos := pos) (env := env) h.2
    unfold backTo at ih ⊢
    rw [List.map_cons, List.any_cons, ih]
    rfl
/-- no subscript of it is a slice -/
def noSlice : Expr → Bool
  | .Slice .. => false
  | _ => true
theorem plainIx_of {e : Expr} (h : noSlice e = true) : PlainIx e := by
  intro o i
  cases e <;> first | (cases h; done) | rfl
theorem noSl_of {e : Expr} (h : noSlice e = true) : NoSl e := by
  intro o i
  cases e <;> first | (cases h; done) | rfl
def noSetD : Expr → Bool
  | .Set .. => false
  | _ => true
theorem noSet_in {op : CmpOp} {e : Expr} (h : noSetD e = true) : behindInMarks op e = false := by
  cases e <;> first | (cases h; done) | rfl
/-- its test is the truth of its value -/
def valTest : Expr → Bool
  | .UnaryOp .Not _ _ => false
  | .BoolOp .. => false
  | .IfExp .. => false
  | .Compare .. => false
  | _ => true
theorem valTest_ok {e : Expr} {env : Env} (h : valTest e = true) : ∀ whole, isTrue e env whole = (do let v ← whole; standAt e.pos; holding [v] (truthy v)) := by
  intro whole
  cases e with
  | UnaryOp op x p => cases op <;> first | (cases h; done) | rfl
  | BoolOp _ _ _ => cases h
  | IfExp _ _ _ _ => cases h
  | Compare _ _ _ _ => cases h
  | _ => rfl
/-- no call of super -/
def noCall0 : Expr → Bool
  | .Call (.Name _ _) [] [] _ => false
  | _ => true
theorem attrB {o : Expr} {f : Str} {env : Env} (h : noCall0 o = true) : attributeBase o f env (eval o env) = eval o env := by
  unfold attributeBase
  split
  · cases h
  · rfl

section
variable {X : Cx} {W : WX} {e a b c o : Expr} {es : List Expr} {pos p : Pos} {ma mb mc mo : ME D} {mt : ME Bool} {ms : ME (List D)}
abbrev YE (X : Cx) (W : WX) (e : Expr) (m : ME D) : Prop := PE X e (tY X.K X.mg W m)
abbrev YF (X : Cx) (W : WX) (e : Expr) (m : ME MO) : Prop := PE X e (tYF X.K X.mg W m)
abbrev YT (X : Cx) (W : WX) (e : Expr) (m : ME Bool) : Prop := PT X e (tYB X.K X.mg W m)
abbrev YA (X : Cx) (W : WX) (es : List Expr) (m : ME (List D)) : Prop := PA X es (tYA X.K X.mg W m)
theorem PE.by {t t' : TE} (h : PE X e t) (i : ∀ σ H Q, t' σ H Q → t σ H Q) : PE X e t' := ⟨fun pins s σ H Q I q => h.run pins s σ H Q I (i σ H Q q)⟩
theorem PT.by {t t' : TT} (h : PT X e t) (i : ∀ σ H Q, t' σ H Q → t σ H Q) : PT X e t' := ⟨fun pins s σ H Q I q => h.run pins s σ H Q I (i σ H Q q)⟩
theorem PA.by {t t' : TA} (h : PA X es t) (i : ∀ σ H Q, t' σ H Q → t σ H Q) : PA X es t' := ⟨fun pos pins s σ H Q I q => h.run pos pins s σ H Q I (i σ H Q q)⟩
theorem PW.by {t t' : TT} (h : PW X e t) (i : ∀ σ H Q, t' σ H Q → t σ H Q) : PW X e t' := ⟨fun wh pins s σ H Q I q => h.run wh pins s σ H Q I (i σ H Q q)⟩

/-! ### names and constants -/
def varE (i : Nat) : ME D := fun σ μ => match σ[i]? with
  | some (some d) => some (.ok d, μ)
  | _ => none
theorem y_var {i : Nat} {x : Str} (hN : X.N[i]? = some x) (hv : Vis X.env.scope x) (h1 : (x == ("__debug__" : Str)) = false) (h2 : (x == ("__classdict__" : Str)) = false) : YE X W (.Name x p) (varE i) := by
  refine PE.by (pe_var hN hv h1 h2) fun τ H Q ⟨g, σ, μ, R, S, q⟩ => ?_
  unfold varE at q
  split at q
  · rename_i d hd
    obtain ⟨v, e1, r⟩ := S.2 i d hd
    exact ⟨v, e1, post_ret R q r⟩
  · exact q.elim
theorem y_const {t : V} {d : D} (h : PE X e (tC t)) (r : ∀ g, RV X.K X.mg g d t) : YE X W e (retE d) :=
  PE.by h fun τ H Q ⟨g, σ, μ, R, S, q⟩ => post_ret R q (r g)
theorem y_int {i j} : YE X W (.Constant (.int i) j p) (retE (.int i)) := y_const pe_int fun _ => .int i
theorem y_bl {i j} : YE X W (.Constant (.bool i) j p) (retE (.bl i)) := y_const pe_bl fun _ => .bl i
theorem y_non {j} : YE X W (.Constant .none j p) (retE .non) := y_const pe_non fun _ => .non
theorem y_str {x j} : YE X W (.Constant (.str x) j p) (retE (.str x)) := y_const pe_str fun _ => .str x

/-! ### operators -/
theorem y_op {op : Operator} {r : R2} {f : Mu → D → D → Option D} (ho : OpR X (binaryOp op) r) (hs : OpS X.K X.mg r f) (ha : YE X W a ma) (hb : YE X W b mb) :
    YE X W (.BinOp a op b pos) (bindE ma fun x => bindE mb fun y => optE fun μ => f μ x y) :=
  PE.by (pe_op ho ha hb) fun τ H Q ⟨g, σ, μ, R, S, q⟩ =>
    tG_step R S q fun x μ1 g1 H1 v1 _ l1 R1 S1 V1 q1 => tG_step R1 S1 q1 fun y μ2 g2 H2 v2 _ l2 R2 S2 V2 q2 => by
      obtain ⟨d, e1, q3⟩ := post_opt q2
      exact hs g2 μ2 H2 x y d v1 v2 Q R2 (V1.mono l2) V2 e1 q3
theorem y_cmp {op : CmpOp} (hu : X.A.units + 64 < cLine) (hm : noSetD b = true) (ha : YE X W a ma) (hb : YE X W b mb) :
    YE X W (.Compare a [op] [b] pos) (bindE ma fun x => bindE mb fun y => optE fun μ => (cmpD op μ x y).map .bl) :=
  PE.by (pe_cmpR (cmp_op hu op) ha hb (noSet_in hm)) fun τ H Q ⟨g, σ, μ, R, S, q⟩ =>
    tG_step R S q fun x μ1 g1 H1 v1 _ l1 R1 S1 V1 q1 => tG_step R1 S1 q1 fun y μ2 g2 H2 v2 _ l2 R2 S2 V2 q2 => by
      obtain ⟨d, e1, q3⟩ := post_opt q2
      exact cmp_S op g2 μ2 H2 x y d v1 v2 Q R2 (V1.mono l2) V2 e1 q3
theorem yt_cmp {op : CmpOp} (hu : X.A.units + 64 < cLine) (hm : noSetD b = true) (ha : YE X W a ma) (hb : YE X W b mb) :
    YT X W (.Compare a [op] [b] pos) (bindE ma fun x => bindE mb fun y => optE fun μ => cmpD op μ x y) :=
  PT.by (pt_cmpR (cmp_op hu op) ha hb (noSet_in hm)) fun τ H Q ⟨g, σ, μ, R, S, q⟩ =>
    tG_step R S q fun x μ1 g1 H1 v1 _ l1 R1 S1 V1 q1 => tG_step R1 S1 q1 fun y μ2 g2 H2 v2 _ l2 R2 S2 V2 q2 => by
      obtain ⟨d, e1, q3⟩ := post_opt q2
      refine cmp_S op g2 μ2 H2 x y (.bl d) v1 v2 _ R2 (V1.mono l2) V2 (by simp [e1]) fun g' H' v l R' r => ⟨d, rv_bl r, q3 g' H' d l R' rfl⟩
def ifE {α : Type} (m : ME Bool) (m1 m2 : ME α) : ME α := bindE m fun k => if k = true then m1 else m2
def chainE (op op' : CmpOp) (ma mb mc : ME D) : ME Bool := bindE ma fun x => bindE mb fun y => ifE (optE fun μ => cmpD op μ x y) (bindE mc fun z => optE fun μ => cmpD op' μ y z) (retE false)
theorem post_if {K : PySem.W.Frag} {mg : Str → Option Value} {α β : Type} {Rl : GS → α → β → Hp → Prop} {g : GS} {τ : L2.St} {Q : β → Hp → Prop} {σ : Sg} {μ : Mu} {f : Mu → Option Bool} {m1 m2 : ME α}
    (hp : post K mg Rl W g τ Q (ifE (optE f) m1 m2 σ μ)) : ∃ k, f μ = some k ∧ (k = true → post K mg Rl W g τ Q (m1 σ μ)) ∧ (k = false → post K mg Rl W g τ Q (m2 σ μ)) := by
  unfold ifE bindE optE at hp
  cases h : f μ with
  | none => rw [h] at hp; exact hp.elim
  | some k =>
    rw [h] at hp
    cases k with
    | true => exact ⟨true, rfl, fun _ => hp, fun z => nomatch z⟩
    | false => exact ⟨false, rfl, (fun z => nomatch z), fun _ => hp⟩
theorem marks2 {op op' : CmpOp} (h1 : noSetD b = true) (h2 : noSetD c = true) : lastMarks [op, op'] [b, c] = false := noSet_in h2
theorem chain_by {β : Type} {Rl : GS → Bool → β → Hp → Prop} {op op' : CmpOp} {τ : L2.St} {H : Hp} {Q : β → Hp → Prop} {T : VK} (hT : ∀ g μ H k, RS X.K X.mg g μ H → post X.K X.mg Rl W g τ Q (some (.ok k, μ)) → T (.bl k) H)
    (h : ∃ g σ μ, RS X.K X.mg g μ H ∧ RSl X.K X.mg g σ τ ∧ post X.K X.mg Rl W g τ Q (chainE op op' ma mb mc σ μ)) : tChain (cmpR X.K op) (cmpR X.K op') (tY X.K X.mg W ma) (tY X.K X.mg W mb) (tY X.K X.mg W mc) τ H T := by
  obtain ⟨g, σ, μ, R, S, q⟩ := h
  refine tG_step R S q fun x μ1 g1 H1 v1 _ l1 R1 S1 V1 q1 => tG_step R1 S1 q1 fun y μ2 g2 H2 v2 _ l2 R2 S2 V2 q2 => ?_
  obtain ⟨k, e1, q3, q4⟩ := post_if q2
  refine cmp_S op g2 μ2 H2 x y (.bl k) v1 v2 _ R2 (V1.mono l2) V2 (by simp [e1]) fun g3 H3 v l3 R3 r => ⟨k, rv_bl r, ?_⟩
  cases k with
  | false =>
    rw [if_neg Bool.false_ne_true]
    exact hT g3 μ2 H3 false R3 (post.mono (q4 rfl) l3 fun _ _ h => h)
  | true =>
    rw [if_pos rfl]
    refine tG_step R3 (S2.mono l3) (post.mono (q3 rfl) l3 fun _ _ h => h) fun z μ4 g4 H4 v4 _ l4 R4 S4 V4 q5 => ?_
    obtain ⟨k2, e2, q6⟩ := post_opt q5
    exact cmp_S op' g4 μ4 H4 y z (.bl k2) v2 v4 _ R4 (V2.mono (l3.trans l4)) V4 (by simp [e2]) fun g5 H5 v5 l5 R5 r5 => by
      rw [rv_bl r5]
      exact hT g5 μ4 H5 k2 R5 (post.mono q6 l5 fun _ _ h => h)
theorem y_chain {op op' : CmpOp} (hu : X.A.units + 64 < cLine) (ha : YE X W a ma) (hb : YE X W b mb) (hc : YE X W c mc) (h1 : noSetD b = true) (h2 : noSetD c = true) :
    YE X W (.Compare a [op, op'] [b, c] pos) (bindE (chainE op op' ma mb mc) fun k => retE (.bl k)) := by
  refine PE.by (pe_chain (cmp_op hu op) (cmp_op hu op') ha hb hc (marks2 h1 h2)) fun τ H Q ⟨g, σ, μ, R, S, q⟩ => chain_by (β := V) (Rl := fun g k v _ => v = .bl k) (Q := Q) (fun g μ H k R q => post_ret R q rfl) ⟨g, σ, μ, R, S, ?_⟩
  unfold bindE at q
  revert q
  cases chainE op op' ma mb mc σ μ with
  | none => exact id
  | some p =>
    obtain ⟨o, μ'⟩ := p
    cases o with
    | exc x => exact id
    | ok k => exact fun q g' H' v l R' r => by rw [r]; exact q g' H' _ l R' (.bl k)
theorem yt_chain {op op' : CmpOp} (hu : X.A.units + 64 < cLine) (ha : YE X W a ma) (hb : YE X W b mb) (hc : YE X W c mc) (h1 : noSetD b = true) (h2 : noSetD c = true) :
    YT X W (.Compare a [op, op'] [b, c] pos) (chainE op op' ma mb mc) :=
  PT.by (pt_chain (cmp_op hu op) (cmp_op hu op') ha hb hc (marks2 h1 h2)) fun τ H Q h => chain_by (Rl := RlB) (Q := Q) (fun g μ H k R q => ⟨k, rfl, post_ret R q rfl⟩) h

/-! ### tests -/
def truE (m : ME D) : ME Bool := bindE m fun d => optE fun μ => truD μ d
theorem yt_val (h : valTest e = true) (ha : YE X W e ma) : YT X W e (truE ma) :=
  PT.by (pt_truth ha (valTest_ok h)) fun τ H Q ⟨g, σ, μ, R, S, q⟩ => tG_step R S q fun d μ1 g1 H1 v1 _ l1 R1 S1 V1 q1 => by
    obtain ⟨k, e1, q2⟩ := post_opt q1
    exact ⟨k, tru_ok2 R1 V1 e1, post_ret R1 q2 rfl⟩
def notB (m : ME Bool) : ME Bool := bindE m fun b => retE !b
theorem yt_not {m : ME Bool} (h : YT X W a m) : YT X W (.UnaryOp .Not a pos) (notB m) :=
  PT.by (pt_not h) fun τ H Q ⟨g, σ, μ, R, S, q⟩ => tG_step R S q fun d μ1 g1 H1 v1 _ l1 R1 S1 V1 q1 => by
    have e : d = v1 := V1
    subst e
    exact post_ret R1 q1 rfl
/-- and, or: as tests -/
abbrev YW (X : Cx) (W : WX) (e : Expr) (m : ME Bool) : Prop := PW X e (tYB X.K X.mg W m)
variable {rest : List Expr} {m1 m2 : ME Bool}
theorem tyb_if {Ta Tb : TT} {τ : L2.St} {H : Hp} {Q : Bool → Hp → Prop} {m : ME Bool} (ha : ∀ g σ μ H, RS X.K X.mg g μ H → RSl X.K X.mg g σ τ → post X.K X.mg RlB W g τ Q (m1 σ μ) → Ta τ H Q)
    (hb : ∀ g σ μ H, RS X.K X.mg g μ H → RSl X.K X.mg g σ τ → post X.K X.mg RlB W g τ Q (m2 σ μ) → Tb τ H Q) (h : tYB X.K X.mg W (ifE m m1 m2) τ H Q) :
    tYB X.K X.mg W m τ H fun c H1 => if c = true then Ta τ H1 Q else Tb τ H1 Q := by
  obtain ⟨g, σ, μ, R, S, q⟩ := h
  refine tG_step R S q fun d μ1 g1 H1 v1 _ l1 R1 S1 V1 q1 => ?_
  have e : d = v1 := V1
  subst e
  cases d with
  | true => rw [if_pos rfl] at q1 ⊢; exact ha g1 σ μ1 H1 R1 S1 q1
  | false => rw [if_neg Bool.false_ne_true] at q1 ⊢; exact hb g1 σ μ1 H1 R1 S1 q1
theorem yw_and1 (h : YT X W a m1) : YW X W (.BoolOp .And [a] pos) m1 := pw_and1 h
theorem yw_or1 (h : YT X W a m1) : YW X W (.BoolOp .Or [a] pos) m1 := pw_or1 h
theorem yw_and (ha : YT X W a m1) (hb : YW X W (.BoolOp .And (b :: rest) pos) m2) : YW X W (.BoolOp .And (a :: b :: rest) pos) (ifE m1 m2 (retE false)) :=
  PW.by (pw_and ha hb) fun τ H Q h => tyb_if (Ta := tYB X.K X.mg W m2) (Tb := fun _ H Q => Q false H) (fun g σ μ H R S q => ⟨g, σ, μ, R, S, q⟩) (fun g σ μ H R S q => post_ret R q rfl) h
theorem yw_or (ha : YT X W a m1) (hb : YW X W (.BoolOp .Or (b :: rest) pos) m2) : YW X W (.BoolOp .Or (a :: b :: rest) pos) (ifE m1 (retE true) m2) :=
  PW.by (pw_or ha hb) fun τ H Q h => tyb_if (Ta := fun _ H Q => Q true H) (Tb := tYB X.K X.mg W m2) (fun g σ μ H R S q => post_ret R q rfl) (fun g σ μ H R S q => ⟨g, σ, μ, R, S, q⟩) h
/-- .. as values: all but the last True or False -/
def asB (m : ME D) : ME Bool := bindE m fun d => optE fun _ => match d with | .bl b => some b | _ => none
theorem tye_if {Ta Tb : TE} {τ : L2.St} {H : Hp} {Q : VK} {n1 n2 : ME D} {m : ME D} (ha : ∀ g σ μ H, RS X.K X.mg g μ H → RSl X.K X.mg g σ τ → post X.K X.mg (RlV X.K X.mg) W g τ Q (n1 σ μ) → Ta τ H Q)
    (hb : ∀ g σ μ H, RS X.K X.mg g μ H → RSl X.K X.mg g σ τ → post X.K X.mg (RlV X.K X.mg) W g τ Q (n2 σ μ) → Tb τ H Q) (h : tY X.K X.mg W (ifE (asB m) n1 n2) τ H Q) :
    tY X.K X.mg W m τ H fun x H1 => ∃ c, x = .bl c ∧ if c = true then Ta τ H1 Q else Tb τ H1 Q := by
  obtain ⟨g, σ, μ, R, S, q⟩ := h
  have q' : post X.K X.mg (RlV X.K X.mg) W g τ Q (bindE m (fun d => ifE (optE fun _ => match d with | .bl b => some b | _ => none) n1 n2) σ μ) := by
    revert q
    unfold ifE asB bindE
    cases m σ μ with
    | none => exact id
    | some p =>
      obtain ⟨o, μ'⟩ := p
      cases o <;> exact id
  refine tG_step R S q' fun d μ1 g1 H1 v1 _ l1 R1 S1 V1 q1 => ?_
  obtain ⟨k, e1, q2, q3⟩ := post_if q1
  cases d with
  | bl t =>
    cases e1
    refine ⟨k, rv_bl V1, ?_⟩
    cases k with
    | true => rw [if_pos rfl]; exact ha g1 σ μ1 H1 R1 S1 (q2 rfl)
    | false => rw [if_neg Bool.false_ne_true]; exact hb g1 σ μ1 H1 R1 S1 (q3 rfl)
  | _ => cases e1
theorem y_one {op : BoolOp} (h : YE X W a ma) : YE X W (.BoolOp op [a] pos) ma := pe_one h
theorem y_and (ha : YE X W a ma) (hb : YE X W (.BoolOp .And (b :: rest) pos) mb) : YE X W (.BoolOp .And (a :: b :: rest) pos) (ifE (asB ma) mb (retE (.bl false))) :=
  PE.by (pe_and ha hb) fun τ H Q h => tye_if (Ta := tY X.K X.mg W mb) (Tb := fun _ H Q => Q (.bl false) H) (fun g σ μ H R S q => ⟨g, σ, μ, R, S, q⟩) (fun g σ μ H R S q => post_ret R q (.bl false)) h
theorem y_or (ha : YE X W a ma) (hb : YE X W (.BoolOp .Or (b :: rest) pos) mb) : YE X W (.BoolOp .Or (a :: b :: rest) pos) (ifE (asB ma) (retE (.bl true)) mb) :=
  PE.by (pe_or ha hb) fun τ H Q h => tye_if (Ta := fun _ H Q => Q (.bl true) H) (Tb := tY X.K X.mg W mb) (fun g σ μ H R S q => post_ret R q (.bl true)) (fun g σ μ H R S q => ⟨g, σ, μ, R, S, q⟩) h
theorem y_not (ha : YE X W a ma) : YE X W (.UnaryOp .Not a pos) (bindE (asB ma) fun b => retE (.bl !b)) := by
  refine PE.by (pe_not ha) fun τ H Q ⟨g, σ, μ, R, S, q⟩ => ?_
  have q' : post X.K X.mg (RlV X.K X.mg) W g τ Q (bindE ma (fun d => bindE (optE fun _ => match d with | .bl b => some b | _ => none) fun b => retE (.bl !b)) σ μ) := by
    revert q
    unfold asB bindE
    cases ma σ μ with
    | none => exact id
    | some p =>
      obtain ⟨o, μ'⟩ := p
      cases o <;> exact id
  refine tG_step R S q' fun d μ1 g1 H1 v1 _ l1 R1 S1 V1 q1 => ?_
  unfold bindE optE at q1
  cases d with
  | bl b => exact ⟨b, rv_bl V1, post_ret R1 q1 (.bl _)⟩
  | _ => exact q1.elim
theorem y_neg (ha : YE X W a ma) : YE X W (.UnaryOp .USub a pos) (bindE ma fun d => optE fun _ => match d with | .int i => some (.int (-i)) | _ => none) :=
  PE.by (pe_un un_neg ha) fun τ H Q ⟨g, σ, μ, R, S, q⟩ => tG_step R S q fun d μ1 g1 H1 v1 _ l1 R1 S1 V1 q1 => by
    obtain ⟨x, e1, q2⟩ := post_opt q1
    cases d with
    | int i => cases e1; rw [rv_int V1]; exact ⟨i, rfl, post_ret R1 q2 (.int _)⟩
    | _ => cases e1
theorem y_if {m : ME Bool} (hc : YT X W c m) (ha : YE X W a ma) (hb : YE X W b mb) : YE X W (.IfExp c a b pos) (ifE m ma mb) :=
  PE.by (pe_ifExp hc ha hb) fun τ H Q ⟨g, σ, μ, R, S, q⟩ => tG_step R S q fun d μ1 g1 H1 v1 _ l1 R1 S1 V1 q1 => by
    have e : d = v1 := V1
    subst e
    cases d with
    | true => rw [if_pos rfl] at q1 ⊢; exact ⟨g1, σ, μ1, R1, S1, q1⟩
    | false => rw [if_neg Bool.false_ne_true] at q1 ⊢; exact ⟨g1, σ, μ1, R1, S1, q1⟩

/-! ### arguments, displays -/
def consE (m : ME D) (ms : ME (List D)) : ME (List D) := bindE m fun d => bindE ms fun ds => retE (d :: ds)
theorem ya_nil : YA X W [] (retE []) := PA.by pa_nil fun τ H Q ⟨g, σ, μ, R, S, q⟩ => post_ret R q .nil
theorem ya_cons (hn : noStar e = true) (h : YE X W e ma) (hs : YA X W es ms) : YA X W (e :: es) (consE ma ms) :=
  PA.by (pa_cons h hs (star_cons hn)) fun τ H Q ⟨g, σ, μ, R, S, q⟩ =>
    tG_step R S q fun x μ1 g1 H1 v1 _ l1 R1 S1 V1 q1 => tG_step R1 S1 q1 fun y μ2 g2 H2 v2 _ l2 R2 S2 V2 q2 => post_ret R2 q2 (.cons (V1.mono l2) V2)
def frzE (m : ME MO) : ME D := bindE m fun o => retE (toD o)
/-- what is new is frozen -/
theorem y_frz {m : ME MO} (h : YF X W e m) : YE X W e (frzE m) :=
  PE.by h fun τ H Q ⟨g, σ, μ, R, S, q⟩ => tG_step R S q fun o μ1 g1 H1 v1 _ l1 R1 S1 V1 q1 => by
    obtain ⟨g2, l2, R2, V2⟩ := freezes R1 V1
    exact q1 g2 H1 v1 l2 R2 V2
/-- .. or a cell -/
def celE (m : ME MO) : ME D := bindE m fun o => modE fun μ => some (.cell μ.length, μ ++ [o])
theorem y_cel {m : ME MO} (h : YF X W e m) : YE X W e (celE m) :=
  PE.by h fun τ H Q ⟨g, σ, μ, R, S, q⟩ => tG_step R S q fun o μ1 g1 H1 v1 _ l1 R1 S1 V1 q1 => by
    obtain ⟨a, u, rfl, hu, hn, hc⟩ := V1
    refine q1 (g1.cel a) H1 _ GS.le_cel (R1.celled hu hn hc) (.cell ?_)
    show (g1.θ ++ [a])[μ1.length]? = some a
    rw [← R1.len]
    simp
theorem y_lst (h : YA X W es ms) : YF X W (.List es pos) (bindE ms fun ds => optE fun _ => if ds.length ≤ sizeLine then some (.lst ds) else none) :=
  PE.by (pe_lst h) fun τ H Q ⟨g, σ, μ, R, S, q⟩ => tG_step R S q fun ds μ1 g1 H1 vs _ l1 R1 S1 V1 q1 => by
    obtain ⟨o, e1, q2⟩ := post_opt q1
    split at e1
    · rename_i hl
      cases e1
      refine ⟨by rw [← V1.length]; exact hl, fun p hp => ?_⟩
      have z := rlf_lst R1 hp V1
      exact q2 g1 _ _ (.refl _) z.1 z.2
    · cases e1
theorem y_tup {k : Nat} (h : YA X W es ms) : YE X W (.Tuple es k pos) (bindE ms fun ds => optE fun _ => if ds.length ≤ sizeLine then some (.tup ds) else none) :=
  PE.by (pe_tup h) fun τ H Q ⟨g, σ, μ, R, S, q⟩ => tG_step R S q fun ds μ1 g1 H1 vs _ l1 R1 S1 V1 q1 => by
    obtain ⟨o, e1, q2⟩ := post_opt q1
    split at e1
    · rename_i hl
      cases e1
      refine ⟨by rw [← V1.length]; exact hl, new_tup R1 V1 fun g' H' v l R' r => q2 g' H' v l R' r⟩
    · cases e1

/-! ### subscripts -/
theorem y_idx (hn : noSlice b = true) (ha : YE X W a ma) (hb : YE X W b mb) : YE X W (.Subscript a b pos) (bindE ma fun x => bindE mb fun y => optE fun μ => idxD μ x y) :=
  PE.by (pe_ix ix_seq ha hb (plainIx_of hn)) fun τ H Q ⟨g, σ, μ, R, S, q⟩ =>
    tG_step R S q fun x μ1 g1 H1 v1 _ l1 R1 S1 V1 q1 => tG_step R1 S1 q1 fun y μ2 g2 H2 v2 _ l2 R2 S2 V2 q2 => by
      obtain ⟨d, e1, q3⟩ := post_opt q2
      exact idx_S g2 μ2 H2 x y d v1 v2 Q R2 (V1.mono l2) V2 e1 q3
theorem y_dget (hu : X.A.units + 64 < cLine) (hn : noSlice b = true) (ha : YE X W a ma) (hb : YE X W b mb) : YE X W (.Subscript a b pos) (bindE ma fun x => bindE mb fun y => optE fun μ => dgetD μ x y) :=
  PE.by (pe_dget (by omega) ha hb (noSl_of hn)) fun τ H Q ⟨g, σ, μ, R, S, q⟩ =>
    tG_step R S q fun x μ1 g1 H1 v1 _ l1 R1 S1 V1 q1 => tG_step R1 S1 q1 fun y μ2 g2 H2 v2 _ l2 R2 S2 V2 q2 => by
      obtain ⟨d, e1, q3⟩ := post_opt q2
      obtain ⟨p, v, ep, hd, r⟩ := dget_ok R2 (V1.mono l2) V2 e1
      exact ⟨p, v, ep, hd, post_ret R2 q3 r⟩
abbrev YO (X : Cx) (W : WX) (e : Option Expr) (m : ME (Option Int)) : Prop := PO X e (tYO X.K X.mg W m)
def partE (m : ME D) : ME (Option Int) := bindE m fun d => optE fun _ => match d with | .int i => some (some i) | _ => none
theorem PO.by {oe : Option Expr} {t t' : TO} (h : PO X oe t) (i : ∀ σ H Q, t' σ H Q → t σ H Q) : PO X oe t' := ⟨fun pins s σ H Q I q => h.run pins s σ H Q I (i σ H Q q)⟩
theorem yo_none : YO X W none (retE none) := PO.by po_none fun τ H Q ⟨g, σ, μ, R, S, q⟩ => post_ret R q rfl
theorem yo_some (h : YE X W e ma) : YO X W (some e) (partE ma) :=
  PO.by (po_some h) fun τ H Q ⟨g, σ, μ, R, S, q⟩ => tG_step R S q fun d μ1 g1 H1 v1 _ l1 R1 S1 V1 q1 => by
    obtain ⟨x, e1, q2⟩ := post_opt q1
    cases d with
    | int i => cases e1; rw [rv_int V1]; exact ⟨i, rfl, post_ret R1 q2 rfl⟩
    | _ => cases e1
/-- of a list: new -/
def slL (μ : Mu) (d : D) (lo hi : Option Int) : Option MO := match d with
  | .scr ns => some (.lst (cutD (ns.map .int) lo hi))
  | d => (lstOf μ d).map fun ds => .lst (cutD ds lo hi)
/-- of a text, a tuple -/
def slV (d : D) (lo hi : Option Int) : Option D := match d with
  | .str z => if z.length ≤ sizeLine then some (.str (cutS z lo hi)) else none
  | .tup ds => some (.tup (cutD ds lo hi))
  | _ => none
variable {lo hi : Option Expr} {ml mh : ME (Option Int)} {p2 : Pos}
theorem y_slL (ha : YE X W a ma) (hl : YO X W lo ml) (hh : YO X W hi mh) : YF X W (.Subscript a (.Slice lo hi none p2) pos) (bindE ma fun x => bindE ml fun l => bindE mh fun h => optE fun μ => slL μ x l h) :=
  PE.by (pe_slice sl_list ha hl hh) fun τ H Q ⟨g, σ, μ, R, S, q⟩ =>
    tG_step R S q fun x μ1 g1 H1 v1 _ l1 R1 S1 V1 q1 => tG_step R1 S1 q1 fun i μ2 g2 H2 i' _ l2 R2 S2 V2 q2 => tG_step R2 S2 q2 fun j μ3 g3 H3 j' _ l3 R3 S3 V3 q3 => by
      have e1 : i = i' := V2
      have e2 : j = j' := V3
      subst e1
      subst e2
      obtain ⟨o, e, q4⟩ := post_opt q3
      have V1' := V1.mono (l2.trans l3)
      unfold slL at e
      split at e
      · rename_i ns _
        cases e
        cases V1' with
        | scr hs =>
          refine ⟨_, _, rfl, sqL_mono R3.frz hs, fun p hp => ?_⟩
          have z := rlf_lst (ds := cutD (ns.map D.int) i j) (xs := cutV (ns.map V.int) i j) R3 hp (cut_ok (RVs.of_ints (ns := ns)) i j)
          exact q4 g3 _ _ (.refl _) z.1 z.2
      · cases h : lstOf μ3 x with
        | none => rw [h] at e; cases e
        | some ds =>
          rw [h] at e
          cases e
          obtain ⟨p0, xs, rfl, h1, h2⟩ := lstOf_ok R3 V1' h
          refine ⟨_, _, rfl, SqL.of h1, fun p hp => ?_⟩
          have z := rlf_lst R3 hp (cut_ok h2 i j)
          exact q4 g3 _ _ (.refl _) z.1 z.2
end
end Yf

/-! Y7: more expressions: slices, fields, built-in calls, methods, isinstance, globals. -/
namespace Yf
open PySem PySem.Spec PyProof.Rows L2
section
variable {X : Cx} {W : WX} {e a b c o : Expr} {es : List Expr} {pos p p2 : Pos} {ma mb mc mo : ME D} {ms : ME (List D)}
/-! ### slices of tuples and texts -/
def rSlV (K : PySem.W.Frag) : V → Option Int → Option Int → Hp → VK → Prop := fun x lo hi H Q => rSlS x lo hi H Q ∨ rSlA K x lo hi H Q
theorem sl_V : SlR X (rSlV X.K) := by
  intro pins s σ H x v vl vu lo hi sl Q I rx hs pl pu h
  rcases h with h | h
  · exact sl_str pins s σ H x v vl vu lo hi sl Q I rx hs pl pu h
  · exact sl_tupA pins s σ H x v vl vu lo hi sl Q I rx hs pl pu h
theorem cutD_all {xs : List D} {lo hi : Option Int} (h : HT.sIx xs.length 0 lo = 0 ∧ HT.sIx xs.length xs.length hi = xs.length) : cutD xs lo hi = xs := by
  unfold cutD
  rw [h.1, h.2]
  simp
variable {lo hi : Option Expr} {ml mh : ME (Option Int)}
theorem y_slV (ha : YE X W a ma) (hl : YO X W lo ml) (hh : YO X W hi mh) : YE X W (.Subscript a (.Slice lo hi none p2) pos) (bindE ma fun x => bindE ml fun l => bindE mh fun h => optE fun _ => slV x l h) :=
  PE.by (pe_slice sl_V ha hl hh) fun τ H Q ⟨g, σ, μ, R, S, q⟩ =>
    tG_step R S q fun x μ1 g1 H1 v1 _ l1 R1 S1 V1 q1 => tG_step R1 S1 q1 fun i μ2 g2 H2 i' _ l2 R2 S2 V2 q2 => tG_step R2 S2 q2 fun j μ3 g3 H3 j' _ l3 R3 S3 V3 q3 => by
      have e1 : i = i' := V2
      have e2 : j = j' := V3
      subst e1
      subst e2
      obtain ⟨d, e, q4⟩ := post_opt q3
      have V1' := V1.mono (l2.trans l3)
      unfold slV at e
      split at e
      · split at e
        · rename_i z hz
          cases e
          rw [rv_str V1']
          exact .inl ⟨_, rfl, hz, post_ret R3 q4 (.str _)⟩
        · cases e
      · cases e
        cases V1' with
        | tup h r =>
          refine .inr ⟨_, _, rfl, sqT_mono R3.frz h, fun hw => ?_, fun _ => new_tup R3 (cut_ok r i j) fun g' H' v l R' r' => q4 g' H' v l R' r'⟩
          rw [← r.length] at hw
          rw [cutD_all hw] at q4
          exact post_ret R3 q4 (.tup h r)
      · cases e
/-! ### fields -/
def fldE (c f : Str) (m : ME D) : ME D := bindE m fun d => optE fun μ => match fldsOf μ d with
  | some (c', fs) => if c' = c then fs.lookup f else none
  | none => none
theorem RFs.look {K : PySem.W.Frag} {mg : Str → Option Value} {g : GS} {f : Str} : ∀ {fs : List (Str × D)} {xs : List (Str × V)} {d : D}, RFs K mg g fs xs → fs.lookup f = some d → ∃ v, xs.lookup f = some v ∧ RV K mg g d v
  | _, _, _, .nil, h => by cases h
  | (k, d0) :: ds, (_, v0) :: vs, d, .cons r t, h => by
    rw [List.lookup_cons] at h ⊢
    cases hk : f == k with
    | true => rw [hk] at h; cases h; exact ⟨_, rfl, r⟩
    | false => rw [hk] at h; exact RFs.look t h
theorem y_fld {c f : Str} {C : Addr} (hm : X.mg c = some (.ref C)) (hc : Cls X.K C) (hn : NoAttr X.K C f) (h0 : noCall0 o = true) (ho : YE X W o mo) : YE X W (.Attribute o f pos) (fldE c f mo) :=
  PE.by (pe_fld ho (attrB h0)) fun τ H Q ⟨g, σ, μ, R, S, q⟩ => tG_step R S q fun x μ1 g1 H1 v1 _ l1 R1 S1 V1 q1 => by
    obtain ⟨d, e, q2⟩ := post_opt q1
    split at e
    · rename_i c' fs h
      split at e
      · rename_i hcc
        subst hcc
        obtain ⟨a, C', dx, xs, rfl, m, h1, r⟩ := fldsOf_ok R1 V1 h
        rw [hm] at m
        cases m
        obtain ⟨v, h2, rv⟩ := r.look e
        exact ⟨a, C, dx, xs, v, rfl, h1, hc, hn, h2, post_ret R1 q2 rv⟩
      · cases e
    · cases e
/-! ### built-in functions -/
theorem bif_boot (b : Bif) : bootBuiltins (bifN b) = some (bifV b) := by
  cases b <;> decide +kernel
theorem bff_boot (b : Bff) : bootBuiltins (bffN b) = some (bffV b) := by
  cases b <;> decide +kernel
theorem bif_nm (b : Bif) : bifN b ≠ "__name__" ∧ (bifN b == ("__debug__" : Str)) = false := by
  cases b <;> decide +kernel
theorem bff_nm (b : Bff) : bffN b ≠ "__name__" ∧ (bffN b == ("__debug__" : Str)) = false := by
  cases b <;> decide +kernel
def bifE (b : Bif) (ms : ME (List D)) : ME D := bindE ms fun ds => optE fun μ => bifD b μ ds
def bffE (b : Bff) (ms : ME (List D)) : ME MO := bindE ms fun ds => optE fun μ => bffD b μ ds
/-- what the rules of this layer ask of the air -/
structure Air (X : Cx) : Prop where
  calm : X.calm = true
  gd : X.A.guards = some []
  un : X.A.units + 64 < cLine
theorem y_bif (b : Bif) (air : Air X) (hg : Gl X (bifN b)) (hm : X.mg (bifN b) = none) (h1 : noStar e = true) (h2 : es.all noStar = true) (ha : YA X W (e :: es) ms) : YE X W (.Call (.Name (bifN b) p) (e :: es) [] pos) (bifE b ms) := by
  have main : PE X (.Call (.Name (bifN b) p) (e :: es) [] pos) (tCB (bifR X.K b) (tYA X.K X.mg W ms)) := by
    have hc := bif_call air.calm air.gd air.un b
    have hv := bif_boot b
    unfold bifV at hc hv
    split at hc
    · rename_i ht
      rw [if_pos ht] at hv
      exact pe_callTy hc hg hm hv ha (bif_nm b).1 (bif_nm b).2 (star_cons h1) (star_plain h2)
    · rename_i ht
      rw [if_neg ht] at hv
      exact pe_callB hc hg hm hv ha (bif_nm b).1 (bif_nm b).2 (star_cons h1) (star_plain h2)
  refine PE.by main fun τ H Q ⟨g, σ, μ, R, S, q⟩ => tG_step R S q fun x μ1 g1 H1 v1 _ l1 R1 S1 V1 q1 => ?_
  obtain ⟨d, e, q2⟩ := post_opt q1
  exact bif_S b g1 μ1 H1 x d v1 Q R1 V1 e q2
theorem y_bff (b : Bff) (hg : Gl X (bffN b)) (hm : X.mg (bffN b) = none) (h1 : noStar e = true) (h2 : es.all noStar = true) (ha : YA X W (e :: es) ms) : YF X W (.Call (.Name (bffN b) p) (e :: es) [] pos) (bffE b ms) := by
  have main : PE X (.Call (.Name (bffN b) p) (e :: es) [] pos) (tCB (bffR X.K b) (tYA X.K X.mg W ms)) := by
    cases b with
    | listOf => exact pe_callTy (bff_call .listOf) hg hm (bff_boot .listOf) ha (bff_nm .listOf).1 (bff_nm .listOf).2 (star_cons h1) (star_plain h2)
    | sortI => exact pe_callB (bff_call .sortI) hg hm (bff_boot .sortI) ha (bff_nm .sortI).1 (bff_nm .sortI).2 (star_cons h1) (star_plain h2)
  refine PE.by main fun τ H Q ⟨g, σ, μ, R, S, q⟩ => tG_step R S q fun x μ1 g1 H1 v1 _ l1 R1 S1 V1 q1 => ?_
  obtain ⟨d, e, q2⟩ := post_opt q1
  exact bff_S b g1 μ1 H1 x d v1 Q R1 V1 e fun H' v R' F => q2 g1 H' v (.refl _) R' F
/-! ### methods of built-in types -/
def bmE (m : Bm) (mo : ME D) (ms : ME (List D)) : ME D := bindE mo fun x => bindE (optE fun μ => if tyD (bmT m) μ x = true then some () else none) fun _ => bindE ms fun ds => modE fun μ => bmD m μ x ds
theorem post_chk {K : PySem.W.Frag} {mg : Str → Option Value} {α β γ : Type} {Rl : GS → α → β → Hp → Prop} {g : GS} {τ : L2.St} {Q : β → Hp → Prop} {σ : Sg} {μ : Mu} {f : Mu → Option γ} {m : γ → ME α}
    (hp : post K mg Rl W g τ Q (bindE (optE f) m σ μ)) : ∃ k, f μ = some k ∧ post K mg Rl W g τ Q (m k σ μ) := by
  unfold bindE optE at hp
  cases h : f μ with
  | none => rw [h] at hp; exact hp.elim
  | some k => rw [h] at hp; exact ⟨k, rfl, hp⟩
theorem few_args {env : Env} {es : List Expr} (h : es.all noStar = true) (hl : es.length < 30) : ((backTo pos (starEach es env)).all (fun x => !x.1) && (backToKw pos (keywordEach [] env)).all (fun x => x.1.isSome)
      && decide (es.length + ([] : List Keyword).length + (if ([] : List Keyword).isEmpty then 0 else 1) < 30)) = true := by
  have h1 : (backTo pos (starEach es env)).all (fun x => !x.1) = true := by
    have z := star_plain (pos := pos) (env := env) h
    rw [List.any_eq_false] at z
    rw [List.all_eq_true]
    intro x hx
    have := z x hx
    simp at this
    simp [this]
  have h2 : (backToKw pos (keywordEach [] env)).all (fun x => x.1.isSome) = true := rfl
  rw [h1, h2]
  simp [hl]
theorem y_bm (m : Bm) (air : Air X) (h0 : noCall0 o = true) (h1 : noStar e = true) (h2 : es.all noStar = true) (h3 : (e :: es).length < 30) (hl : (p.endLine == pos.line) = true) (ho : YE X W o mo) (ha : YA X W (e :: es) ms) :
    YE X W (.Call (.Attribute o (bmN m) p) (e :: es) [] pos) (bmE m mo ms) := by
  have hall : (e :: es).all noStar = true := by rw [List.all_cons, h1, h2]; rfl
  refine PE.by (pe_bm (bm_pa m) (bm_slot m) (bm_ty m) (bm_met air.un m) ho ha (attrB h0) (few_args hall h3) hl (star_cons h1) (star_plain h2)) fun τ H Q ⟨g, σ, μ, R, S, q⟩ => tG_step R S q fun x μ1 g1 H1 v1 _ l1 R1 S1 V1 q1 => ?_
  obtain ⟨_, e1, q1⟩ := post_chk q1
  split at e1
  · rename_i ht
    refine ⟨tyD_ok R1 V1 ht, tG_step R1 S1 q1 fun ds μ2 g2 H2 vs _ l2 R2 S2 V2 q2 => ?_⟩
    obtain ⟨d, μ3, e2, q3⟩ := post_mod q2
    exact bm_S m g2 μ2 μ3 H2 x v1 ds d vs Q R2 (V1.mono l2) V2 e2 q3
  · cases e1
theorem y_bm0 (m : Bm) (air : Air X) (h0 : noCall0 o = true) (hl : (p.endLine == pos.line) = true) (ho : YE X W o mo) :
    YE X W (.Call (.Attribute o (bmN m) p) [] [] pos) (bmE m mo (retE [])) := by
  refine PE.by (pe_bm0 (bm_pa m) (bm_slot m) (bm_ty m) (bm_met air.un m) ho (attrB h0) hl) fun τ H Q ⟨g, σ, μ, R, S, q⟩ => tG_step R S q fun x μ1 g1 H1 v1 _ l1 R1 S1 V1 q1 => ?_
  obtain ⟨_, e1, q1⟩ := post_chk q1
  split at e1
  · rename_i ht
    refine ⟨tyD_ok R1 V1 ht, ?_⟩
    have q1' : post X.K X.mg (RlV X.K X.mg) W g1 τ Q (modE (fun μ => bmD m μ x []) σ μ1) := q1
    obtain ⟨d, μ3, e2, q3⟩ := post_mod q1'
    exact bm_S m g1 μ1 μ3 H1 x v1 [] d [] Q R1 V1 .nil e2 q3
  · cases e1
/-! ### isinstance -/
inductive Ty where
  | non | bool | int | str | list | tuple | dict
  deriving DecidableEq
def tyS : Ty → String
  | .non => "NoneType" | .bool => "bool" | .int => "int" | .str => "str" | .list => "list" | .tuple => "tuple" | .dict => "dict"
def tyOfD (μ : Mu) : D → Option Ty
  | .non => some .non
  | .bl _ => some .bool
  | .int _ => some .int
  | .str _ => some .str
  | .tup _ => some .tuple
  | .lst _ => some .list
  | .scr _ => some .list
  | .dic _ => some .dict
  | .cell n => match μ[n]? with
    | some (.lst _) => some .list
    | some (.dic _) => some .dict
    | some (.frz (.lst _)) => some .list
    | some (.frz (.dic _)) => some .dict
    | _ => none
  | .obj _ _ => none
def isTy (t u : Ty) : Bool := t == u || (t == .bool && u == .int)
theorem kit_tab (t u : Ty) : kitB (tyS t) (tyS u) = some (isTy t u) := by
  cases t <;> cases u <;> decide +kernel
theorem tyOfD_ok {K : PySem.W.Frag} {mg : Str → Option Value} {g : GS} {μ : Mu} {H : Hp} {d : D} {v : V} {t : Ty} (R : RS K mg g μ H) (r : RV K mg g d v) (e : tyOfD μ d = some t) : TyX K H v (.type (tyS t)) := by
  cases r with
  | non => cases e; exact .base .non
  | bl b => cases e; exact .base (.bl b)
  | int i => cases e; exact .base (.int i)
  | str x => cases e; exact .base (.str x)
  | tup h _ =>
    cases e
    rcases sqT_mono R.frz h with (h | ⟨o, h⟩) | ⟨o, its, n, h1, h2, _⟩
    · exact .base (.tup h)
    · exact .fTuple h
    · exact .kTuple h1 h2
  | lst h _ => cases e; exact .base (.lst (R.frz _ _ h))
  | scr h =>
    cases e
    rcases sqL_mono R.frz h with (h | ⟨o, h⟩) | ⟨o, its, n, h1, h2, _⟩
    · exact .base (.lst h)
    · exact .base (.frz h)
    · exact .kList h1 h2
  | dic h _ => cases e; exact .base (.dK (R.frz _ _ h))
  | @cell a n h =>
    unfold tyOfD at e
    dsimp only at e
    split at e
    · rename_i ds hm
      cases e
      obtain ⟨a', xs, e1, h1, _⟩ := lstOf_ok (ds := ds) R (RV.cell h) (by simp [lstOf, hm])
      cases e1
      exact .base (.lst h1)
    · rename_i ds hm
      cases e
      obtain ⟨a', xs, e1, h1, _⟩ := dicOf_ok (ds := ds) R (RV.cell h) (by simp [dicOf, hm])
      cases e1
      exact .base (.dK h1)
    · rename_i ds hm
      cases e
      obtain ⟨a', xs, e1, h1, _⟩ := lstOf_ok (ds := ds) R (RV.cell h) (by simp [lstOf, hm])
      cases e1
      exact .base (.lst h1)
    · rename_i ds hm
      cases e
      obtain ⟨a', xs, e1, h1, _⟩ := dicOf_ok (ds := ds) R (RV.cell h) (by simp [dicOf, hm])
      cases e1
      exact .base (.dK h1)
    · cases e
  | obj _ _ _ => cases e
def tyNm : Ty → Str
  | .non => "NoneType" | .bool => "bool" | .int => "int" | .str => "str" | .list => "list" | .tuple => "tuple" | .dict => "dict"
theorem ty_boot (t : Ty) (h : t ≠ .non) : bootBuiltins (tyNm t) = some (.type (tyS t)) ∧ tyNm t ≠ "__name__" ∧ (tyNm t == ("__debug__" : Str)) = false := by
  cases t with
  | non => exact absurd rfl h
  | _ => decide +kernel
/-- as a class -/
theorem pe_ty (t : Ty) (h : t ≠ .non) (hg : Gl X (tyNm t)) (hm : X.mg (tyNm t) = none) : PE X (.Name (tyNm t) p) (tC (.ty (tyS t))) :=
  pe_bltn hg hm (ty_boot t h).1 rfl (ty_boot t h).2.1 (ty_boot t h).2.2
def isiE (t : Ty) (m : ME D) : ME D := bindE m fun d => optE fun μ => (tyOfD μ d).map fun u => .bl (isTy u t)
def isi2E (t t' : Ty) (m : ME D) : ME D := bindE m fun d => optE fun μ => (tyOfD μ d).map fun u => .bl (isTy u t || isTy u t')
theorem y_isi (t : Ty) (h : t ≠ .non) (hg : Gl X "isinstance") (hm : X.mg "isinstance" = none) (hg2 : Gl X (tyNm t)) (hm2 : X.mg (tyNm t) = none) (h1 : noStar e = true) (he : YE X W e ma) :
    YE X W (.Call (.Name "isinstance" p) [e, .Name (tyNm t) p2] [] pos) (isiE t ma) := by
  refine PE.by (pe_callB call_isi hg hm boot_isinstance (pa_cons he (pa_cons (pe_ty t h hg2 hm2) pa_nil) (star_cons h1)) (by decide) (by decide) (star_cons h1) rfl) fun τ H Q ⟨g, σ, μ, R, S, q⟩ => tG_step R S q fun x μ1 g1 H1 v1 _ l1 R1 S1 V1 q1 => ?_
  obtain ⟨d, e1, q2⟩ := post_opt q1
  cases hu : tyOfD μ1 x with
  | none => rw [hu] at e1; cases e1
  | some u =>
    rw [hu] at e1
    cases e1
    exact ⟨v1, _, _, _, _, rfl, .ty _, tyOfD_ok R1 V1 hu, kit_ty (kit_tab u t), post_ret R1 q2 (.bl _)⟩
theorem y_isi2 {k : Nat} {p3 p4 : Pos} (t t' : Ty) (h : t ≠ .non) (h' : t' ≠ .non) (hg : Gl X "isinstance") (hm : X.mg "isinstance" = none) (hg2 : Gl X (tyNm t)) (hm2 : X.mg (tyNm t) = none) (hg3 : Gl X (tyNm t')) (hm3 : X.mg (tyNm t') = none) (h1 : noStar e = true) (he : YE X W e ma) :
    YE X W (.Call (.Name "isinstance" p) [e, .Tuple [.Name (tyNm t) p2, .Name (tyNm t') p3] k p4] [] pos) (isi2E t t' ma) := by
  refine PE.by (pe_callB call_isiT hg hm boot_isinstance (pa_cons he (pa_cons (pe_tup (pa_cons (pe_ty t h hg2 hm2) (pa_cons (pe_ty t' h' hg3 hm3) pa_nil))) pa_nil) (star_cons h1)) (by decide) (by decide) (star_cons h1) rfl) fun τ H Q ⟨g, σ, μ, R, S, q⟩ => tG_step R S q fun x μ1 g1 H1 v1 _ l1 R1 S1 V1 q1 => ?_
  obtain ⟨d, e1, q2⟩ := post_opt q1
  cases hu : tyOfD μ1 x with
  | none => rw [hu] at e1; cases e1
  | some u =>
    rw [hu] at e1
    cases e1
    refine ⟨by show 2 ≤ sizeLine; decide, fun p hp => ?_⟩
    have R2 : RS X.K X.mg g1 μ1 (upd H1 p (.tup [.ty (tyS t), .ty (tyS t')])) := R1.upd_fresh hp
    refine ⟨v1, p, _, _, _, isTy u t || isTy u t', rfl, upd_same, .cons (.ty _) (.cons (.ty _) .nil), tyOfD_ok R2 V1 hu, ?_, q2 g1 _ _ (.refl _) R2 (.bl _)⟩
    refine kitAny_cons (kit_ty (kit_tab u t)) (fun z => ?_) (fun z => by rw [z]; rfl)
    refine kitAny_cons (kit_ty (kit_tab u t')) (fun z2 => ?_) (fun z2 => by rw [z2, Bool.or_true])
    rw [z, z2]
    rfl
/-! ### globals -/
theorem y_glob {x : Str} {v : V} {u : Value} {d : D} (hg : Gl X x) (hm : X.mg x = some u) (rr : RelV v u) (hd : (x == ("__debug__" : Str)) = false) (r : ∀ g, RV X.K X.mg g d v) : YE X W (.Name x p) (retE d) :=
  y_const (pe_glob hg hm rr hd) r
end
end Yf

/-! Y8: statements. -/
namespace Yf
open PySem PySem.Spec PyProof.Rows L2

inductive Fl where
  | nx | bk | ct | rt (d : D) | ex (x : Ex)
abbrev MS := Sg → Mu → Option (Fl × Sg × Mu)
abbrev MG := D → Sg → Mu → Option (Sg × Mu)
section
variable (K : PySem.W.Frag) (mg : Str → Option Value)
def postS (W : WX) (g : GS) (E : Ends) : Option (Fl × Sg × Mu) → Prop
  | none => False
  | some (.nx, σ', μ') => ∀ g' H' τ', g.le g' → RS K mg g' μ' H' → RSl K mg g' σ' τ' → E.nx τ' H'
  | some (.bk, σ', μ') => ∀ g' H' τ', g.le g' → RS K mg g' μ' H' → RSl K mg g' σ' τ' → E.bk τ' H'
  | some (.ct, σ', μ') => ∀ g' H' τ', g.le g' → RS K mg g' μ' H' → RSl K mg g' σ' τ' → E.ct τ' H'
  | some (.rt d, _, μ') => ∀ g' H' v, g.le g' → RS K mg g' μ' H' → RV K mg g' d v → E.rt v H'
  | some (.ex x, σ', μ') => ∀ g' H' τ' cls dx, g.le g' → RS K mg g' μ' H' → RSl K mg g' σ' τ' → RX K mg g' x cls dx H' → W cls dx τ' H'
def tYS (W : WX) (m : MS) : TS := fun E τ H => ∃ g σ μ, RS K mg g μ H ∧ RSl K mg g σ τ ∧ postS K mg W g E (m σ μ)
def postG (g : GS) (Q : L2.St → Hp → Prop) : Option (Sg × Mu) → Prop
  | none => False
  | some (σ', μ') => ∀ g' H' τ', g.le g' → RS K mg g' μ' H' → RSl K mg g' σ' τ' → Q τ' H'
def tYG (f : MG) : TG := fun v τ H Q => ∃ g σ μ d, RS K mg g μ H ∧ RSl K mg g σ τ ∧ RV K mg g d v ∧ postG K mg g Q (f d σ μ)
def tYGs (f : List D → Sg → Mu → Option (Sg × Mu)) : TGs := fun vs τ H Q => ∃ g σ μ ds, RS K mg g μ H ∧ RSl K mg g σ τ ∧ RVs K mg g ds vs ∧ postG K mg g Q (f ds σ μ)
end
def bindS {α : Type} (m : ME α) (f : α → MS) : MS := fun σ μ => match m σ μ with
  | none => none
  | some (.exc x, μ') => some (.ex x, σ, μ')
  | some (.ok a, μ') => f a σ μ'
def nxS : MS := fun σ μ => some (.nx, σ, μ)
def bkS : MS := fun σ μ => some (.bk, σ, μ)
def ctS : MS := fun σ μ => some (.ct, σ, μ)
def rtS (d : D) : MS := fun σ μ => some (.rt d, σ, μ)
def neverS : MS := fun _ _ => none
def seqS (a b : MS) : MS := fun σ μ => match a σ μ with
  | some (.nx, σ', μ') => b σ' μ'
  | r => r
def asgS (f : MG) (d : D) : MS := fun σ μ => match f d σ μ with
  | none => none
  | some (σ', μ') => some (.nx, σ', μ')
def ifS (c : ME Bool) (a b : MS) : MS := bindS c fun k => if k = true then a else b
def setG (i : Nat) : MG := fun d σ μ => some (σ.set i (some d), μ)

section
variable {K : PySem.W.Frag} {mg : Str → Option Value} {g g' : GS} {μ : Mu} {H : Hp} {σ : Sg} {τ : L2.St} {W : WX} {E E' : Ends}
theorem postS.mono {r : Option (Fl × Sg × Mu)} (h : postS K mg W g E r) (l : g.le g') : postS K mg W g' E r := by
  match r, h with
  | some (.nx, σ', μ'), h => exact fun g2 H2 τ2 l2 => h g2 H2 τ2 (l.trans l2)
  | some (.bk, σ', μ'), h => exact fun g2 H2 τ2 l2 => h g2 H2 τ2 (l.trans l2)
  | some (.ct, σ', μ'), h => exact fun g2 H2 τ2 l2 => h g2 H2 τ2 (l.trans l2)
  | some (.rt d, σ', μ'), h => exact fun g2 H2 τ2 l2 => h g2 H2 τ2 (l.trans l2)
  | some (.ex x, σ', μ'), h => exact fun g2 H2 τ2 cls dx l2 => h g2 H2 τ2 cls dx (l.trans l2)
theorem postG.mono {Q : L2.St → Hp → Prop} {r : Option (Sg × Mu)} (h : postG K mg g Q r) (l : g.le g') : postG K mg g' Q r := by
  match r, h with
  | some (σ', μ'), h => exact fun g2 H2 τ2 l2 => h g2 H2 τ2 (l.trans l2)
theorem postG_asg {f : MG} {d : D} (h : postS K mg W g E (asgS f d σ μ)) : postG K mg g E.nx (f d σ μ) := by
  unfold asgS at h
  cases e : f d σ μ with
  | none => rw [e] at h; exact h.elim
  | some p => rw [e] at h; exact h
/-- one expression, then the rest -/
theorem tS_step {α β : Type} {Rl : GS → α → β → Hp → Prop} {m : ME α} {f : α → MS} {R : β → Hp → Prop} (hR : RS K mg g μ H) (hS : RSl K mg g σ τ) (hp : postS K mg W g E (bindS m f σ μ))
    (hk : ∀ a μ1 g1 H1 b, m σ μ = some (.ok a, μ1) → g.le g1 → RS K mg g1 μ1 H1 → RSl K mg g1 σ τ → Rl g1 a b H1 → postS K mg W g1 E (f a σ μ1) → R b H1) : tG K mg Rl W m τ H R := by
  refine ⟨g, σ, μ, hR, hS, ?_⟩
  unfold bindS at hp
  cases hm : m σ μ with
  | none => rw [hm] at hp; exact hp
  | some p =>
    obtain ⟨o, μ1⟩ := p
    rw [hm] at hp
    cases o with
    | exc x => exact fun g1 H1 cls dx l1 R1 X1 => hp g1 H1 τ cls dx l1 R1 (hS.mono l1) X1
    | ok a => exact fun g1 H1 b l1 R1 V1 => hk a μ1 g1 H1 b hm l1 R1 (hS.mono l1) V1 (hp.mono l1)
theorem RSl.set {d : D} {v : V} (S : RSl K mg g σ τ) (r : RV K mg g d v) (i : Nat) : RSl K mg g (σ.set i (some d)) (τ.set i (some v)) := by
  refine ⟨by simp [S.1], fun j e hj => ?_⟩
  by_cases hij : i = j
  · subst hij
    by_cases hl : i < σ.length
    · rw [List.getElem?_set_self hl] at hj
      cases hj
      exact ⟨v, List.getElem?_set_self (by rw [← S.1]; exact hl), r⟩
    · rw [List.getElem?_eq_none (by simpa using hl)] at hj
      cases hj
  · rw [List.getElem?_set_ne hij] at hj ⊢
    exact S.2 j e hj
end

section
variable {X : Cx} {W : WX} {e a b c o : Expr} {es : List Expr} {st : Stmt} {rest : List Stmt} {pos p p2 : Pos} {m ma mb mc mo : ME D} {mt : ME Bool} {ms : ME (List D)} {s s1 s2 : MS}
abbrev YS (X : Cx) (W : WX) (st : Stmt) (m : MS) : Prop := PS X st (tYS X.K X.mg W m)
abbrev YSs (X : Cx) (W : WX) (st : List Stmt) (m : MS) : Prop := PSs X st (tYS X.K X.mg W m)
abbrev YG (X : Cx) (tg : Expr) (f : MG) : Prop := PG X tg (tYG X.K X.mg f)
abbrev YGs (X : Cx) (tg : List Expr) (f : List D → Sg → Mu → Option (Sg × Mu)) : Prop := PGs X tg (tYGs X.K X.mg f)
theorem PS.by {t t' : TS} (h : PS X st t) (i : ∀ E σ H, t' E σ H → t E σ H) : PS X st t' := ⟨fun pins s σ H E I q => h.run pins s σ H E I (i E σ H q)⟩
theorem PSs.by {t t' : TS} (h : PSs X rest t) (i : ∀ E σ H, t' E σ H → t E σ H) : PSs X rest t' := ⟨fun pins s σ H E I q => h.run pins s σ H E I (i E σ H q)⟩
theorem PG.by {t t' : TG} (h : PG X e t) (i : ∀ v σ H Q, t' v σ H Q → t v σ H Q) : PG X e t' := ⟨fun pins s σ H v u Q I r q => h.run pins s σ H v u Q I r (i v σ H Q q)⟩
theorem PGs.by {t t' : TGs} (h : PGs X es t) (i : ∀ v σ H Q, t' v σ H Q → t v σ H Q) : PGs X es t' := ⟨fun pins s σ H v u Q I r q => h.run pins s σ H v u Q I r (i v σ H Q q)⟩
theorem ys_nil : YSs X W [] nxS := PSs.by pss_nil fun E τ H ⟨g, σ, μ, R, S, q⟩ => q g H τ (.refl _) R S
theorem ys_cons (h1 : YS X W st s1) (h2 : YSs X W rest s2) : YSs X W (st :: rest) (seqS s1 s2) :=
  PSs.by (pss_cons h1 h2) fun E τ H ⟨g, σ, μ, R, S, q⟩ => by
    refine ⟨g, σ, μ, R, S, ?_⟩
    unfold seqS at q
    match h : s1 σ μ with
    | none => rw [h] at q; exact q
    | some (.nx, σ', μ') =>
      rw [h] at q
      exact fun g' H' τ' l R' S' => ⟨g', σ', μ', R', S', q.mono l⟩
    | some (.bk, σ', μ') => rw [h] at q; exact q
    | some (.ct, σ', μ') => rw [h] at q; exact q
    | some (.rt d, σ', μ') => rw [h] at q; exact q
    | some (.ex x, σ', μ') => rw [h] at q; exact q
theorem ys_one (h1 : YS X W st s1) : YSs X W [st] s1 := pss_one h1
theorem y_pass : YS X W (.Pass pos) nxS := PS.by ps_pass fun E τ H ⟨g, σ, μ, R, S, q⟩ => q g H τ (.refl _) R S
theorem y_break : YS X W (.Break pos) bkS := PS.by ps_break fun E τ H ⟨g, σ, μ, R, S, q⟩ => q g H τ (.refl _) R S
theorem y_cont : YS X W (.Continue pos) ctS := PS.by ps_continue fun E τ H ⟨g, σ, μ, R, S, q⟩ => q g H τ (.refl _) R S
theorem y_doc {x : Str} {j : Nat} {pos' : Pos} : YS X W (.Expr (.Constant (.str x) j pos) pos') nxS := PS.by ps_doc fun E τ H ⟨g, σ, μ, R, S, q⟩ => q g H τ (.refl _) R S
theorem y_never : YS X W st neverS := PS.by ps_never fun E τ H ⟨g, σ, μ, R, S, q⟩ => q
def dropS (m : ME D) : MS := bindS m fun _ => nxS
theorem y_expr (he : YE X W e m) (hs : swapsWith e none pos.line X.env = pure false) : YS X W (.Expr e pos) (dropS m) :=
  PS.by (ps_expr he hs) fun E τ H ⟨g, σ, μ, R, S, q⟩ => tS_step R S q fun d μ1 g1 H1 v _ l1 R1 S1 V1 q1 => q1 g1 H1 τ (.refl _) R1 S1
def retS (m : ME D) : MS := bindS m rtS
theorem y_ret (he : YE X W e m) : YS X W (.Return (some e) pos) (retS m) :=
  PS.by (ps_ret he) fun E τ H ⟨g, σ, μ, R, S, q⟩ => tS_step R S q fun d μ1 g1 H1 v _ l1 R1 S1 V1 q1 => q1 g1 H1 v (.refl _) R1 V1
theorem y_retN : YS X W (.Return none pos) (rtS .non) :=
  PS.by ps_retN fun E τ H ⟨g, σ, μ, R, S, q⟩ => q g H _ (.refl _) R .non
theorem y_ifs {ta tb : List Stmt} (hc : YT X W c mt) (ha : YSs X W ta s1) (hb : YSs X W tb s2) : YS X W (.If c ta tb pos) (ifS mt s1 s2) :=
  PS.by (ps_if hc ha hb) fun E τ H ⟨g, σ, μ, R, S, q⟩ => tS_step R S q fun k μ1 g1 H1 v _ l1 R1 S1 V1 q1 => by
    have ek : k = v := V1
    subst ek
    cases k with
    | true => rw [if_pos rfl] at q1 ⊢; exact ⟨g1, σ, μ1, R1, S1, q1⟩
    | false => rw [if_neg Bool.false_ne_true] at q1 ⊢; exact ⟨g1, σ, μ1, R1, S1, q1⟩
/-! ### targets -/
theorem yg_name {i : Nat} {x : Str} (hN : X.N.Nodup) (hi : X.N[i]? = some x) (hx : Loc X.env.scope x) (hf : X.fn x = true ∨ X.env.scope.names.lookup x = some .local) : YG X (.Name x pos) (setG i) :=
  PG.by (pg_name hN hi hx hf) fun v τ H Q ⟨g, σ, μ, d, R, S, r, q⟩ => q g H _ (.refl _) R (S.set r i)
def nilG : List D → Sg → Mu → Option (Sg × Mu) := fun ds σ μ => match ds with
  | [] => some (σ, μ)
  | _ => none
def consG (f : MG) (fs : List D → Sg → Mu → Option (Sg × Mu)) : List D → Sg → Mu → Option (Sg × Mu) := fun ds σ μ => match ds with
  | [] => none
  | d :: ds => match f d σ μ with
    | none => none
    | some (σ', μ') => fs ds σ' μ'
theorem ygs_nil : YGs X [] nilG := PGs.by pgs_nil fun vs τ H Q ⟨g, σ, μ, ds, R, S, r, q⟩ => by
  cases r with
  | nil => exact ⟨rfl, q g H τ (.refl _) R S⟩
  | cons _ _ => exact q.elim
theorem assign_cons {env : Env} (h : noStar e = true) : (assignEach (e :: es) env).map (·.2) = assign e env :: (assignEach es env).map (·.2) := by
  cases e <;> first | (cases h; done) | rfl
theorem assign_each {env : Env} : ∀ {es : List Expr}, es.all noStar = true → (assignEach es env).length = es.length ∧ (assignEach es env).findIdx? (·.1) = none
  | [], _ => ⟨rfl, rfl⟩
  | e :: es, h => by
    rw [List.all_cons, Bool.and_eq_true] at h
    obtain ⟨h1, h2⟩ := assign_each (env := env) h.2
    have z : assignEach (e :: es) env = (false, assign e env) :: assignEach es env := by
      have h3 := h.1
      cases e <;> first | (cases h3; done) | rfl
    rw [z]
    refine ⟨by rw [List.length_cons, List.length_cons, h1], ?_⟩
    rw [List.findIdx?_cons, h2]
    rfl
theorem ygs_cons {f : MG} {fs : List D → Sg → Mu → Option (Sg × Mu)} (hn : noStar e = true) (h1 : YG X e f) (h2 : YGs X es fs) : YGs X (e :: es) (consG f fs) :=
  PGs.by (pgs_cons h1 h2 (assign_cons hn)) fun vs τ H Q ⟨g, σ, μ, ds, R, S, r, q⟩ => by
    cases r with
    | nil => exact q.elim
    | @cons d v ds vs r t =>
      refine ⟨v, vs, rfl, g, σ, μ, d, R, S, r, ?_⟩
      replace q : postG X.K X.mg g Q (match f d σ μ with | none => none | some (σ', μ') => fs ds σ' μ') := q
      cases hf : f d σ μ with
      | none => rw [hf] at q; exact q
      | some pr =>
        obtain ⟨σ', μ'⟩ := pr
        rw [hf] at q
        exact fun g' H' τ' l R' S' => ⟨g', σ', μ', ds, R', S', t.mono l, q.mono l⟩
def tupG (n : Nat) (fs : List D → Sg → Mu → Option (Sg × Mu)) : MG := fun d σ μ => match d with
  | .tup ds => if ds.length = n then fs ds σ μ else none
  | _ => none
theorem yg_tup {k : Nat} {fs : List D → Sg → Mu → Option (Sg × Mu)} (hc : X.calm = true) (hn : es.all noStar = true) (h : YGs X es fs) : YG X (.Tuple es k pos) (tupG es.length fs) :=
  PG.by (pg_tup hc h (assign_each hn).1 (assign_each hn).2) fun v τ H Q ⟨g, σ, μ, d, R, S, r, q⟩ => by
    cases r with
    | @tup a xs ds h0 r0 =>
      replace q : postG X.K X.mg g Q (if ds.length = es.length then fs ds σ μ else none) := q
      split at q
      · rename_i hl
        exact ⟨a, xs, rfl, sqT_mono R.frz h0, by rw [← r0.length]; exact hl, g, σ, μ, ds, R, S, r0, q⟩
      · exact q.elim
    | _ => exact q.elim
/-- o[i] = v -/
def okE {α : Type} (m : ME α) (σ : Sg) (μ : Mu) : Option (α × Mu) := match m σ μ with
  | some (.ok a, μ') => some (a, μ')
  | _ => none
def setI (μ : Mu) (x y d : D) : Option Mu := match y with
  | .int k => match celOf μ x with
    | some (n, ds) => match ixN ds.length k with
      | some j => some (μ.set n (.lst (ds.set j d)))
      | none => none
    | none => none
  | _ => none
def setK (μ : Mu) (x y d : D) : Option Mu := match celDic μ x, keyOf y with
  | some (n, ks), some k => if ks.length < 1000000 then some (μ.set n (.dic (putD ks k d))) else none
  | _, _ => none
def subG (st : Mu → D → D → D → Option Mu) (mo mi : ME D) : MG := fun d σ μ => match okE mo σ μ with
  | none => none
  | some (x, μ1) => match okE mi σ μ1 with
    | none => none
    | some (y, μ2) => (st μ2 x y d).map fun μ3 => (σ, μ3)
def SetS (K : PySem.W.Frag) (mg : Str → Option Value) (t : TSet) (f : Mu → D → D → D → Option Mu) : Prop :=
  ∀ (g : GS) (μ μ' : Mu) (H : Hp) (dx dy d : D) (vx vy v : V) (Q : Hp → Prop), RS K mg g μ H → RV K mg g dx vx → RV K mg g dy vy → RV K mg g d v → f μ dx dy d = some μ' →
    (∀ H', RS K mg g μ' H' → Q H') → t vx vy v H Q
theorem setI_S {K : PySem.W.Frag} {mg : Str → Option Value} : SetS K mg rSetL setI := by
  intro g μ μ' H dx dy d vx vy v Q R r1 r2 r3 e q
  unfold setI at e
  split at e
  · rename_i k
    split at e
    · rename_i n ds h
      split at e
      · rename_i j hj
        cases e
        obtain ⟨a, xs, rfl, h1, h2, h3, h4⟩ := celOf_ok R r1 h
        rw [rv_int r2]
        exact ⟨a, xs, k, j, rfl, rfl, h3, by rw [← h4.length]; exact hj, q _ (cel_write R h2 h1 (h4.set r3 j))⟩
      · cases e
    · cases e
  · cases e
theorem yg_sub {i : Expr} {mi : ME D} {t : TSet} {f : Mu → D → D → D → Option Mu} (hset : PSet X t) (hS : SetS X.K X.mg t f) (ho : YE X W o mo) (hi : YE X W i mi)
    (ha : ∀ v, assign (.Subscript o i pos) X.env v = (do
      let ov ← holding [v] (eval o X.env)
      let iv ← holding [v, ov] (eval i X.env)
      standAt pos
      holding [v, ov, iv] (setItem ov iv v)
      release [v, ov, iv] [])) : YG X (.Subscript o i pos) (subG f mo mi) :=
  PG.by (pg_sub ho hi hset ha) fun v τ H Q ⟨g, σ, μ, d, R, S, r, q⟩ => by
    unfold subG okE at q
    refine ⟨g, σ, μ, R, S, ?_⟩
    match h1 : mo σ μ with
    | none => rw [h1] at q; exact q
    | some (.exc x, μ1) => rw [h1] at q; exact q.elim
    | some (.ok x, μ1) =>
      rw [h1] at q
      dsimp only at q
      refine fun g1 H1 v1 l1 R1 V1 => ⟨g1, σ, μ1, R1, S.mono l1, ?_⟩
      match h2 : mi σ μ1 with
      | none => rw [h2] at q; exact q
      | some (.exc y, μ2) => rw [h2] at q; exact q.elim
      | some (.ok y, μ2) =>
        rw [h2] at q
        dsimp only at q
        refine fun g2 H2 v2 l2 R2 V2 => ?_
        cases h3 : f μ2 x y d with
        | none => rw [h3] at q; exact q.elim
        | some μ3 =>
          rw [h3] at q
          exact hS g2 μ2 μ3 H2 x y d v1 v2 v _ R2 (V1.mono l2) V2 (r.mono (l1.trans l2)) h3 fun H' R' => q g2 H' τ (l1.trans l2) R' (S.mono (l1.trans l2))
/-! ### assignments -/
def letS (m : ME D) (f : MG) : MS := bindS m (asgS f)
theorem y_asg {tg : Expr} {f : MG} (he : YE X W e m) (hg : YG X tg f) (hs : swapsWithSole [tg] e pos.line X.env = pure false) (hw : swappedStores [tg] e X.env = pure none) (hn : noStar tg = true) :
    YS X W (.Assign [tg] e pos) (letS m f) :=
  PS.by (ps_asg he hg hs hw (assign_cons hn)) fun E τ H ⟨g, σ, μ, R, S, q⟩ => tS_step R S q fun d μ1 g1 H1 v _ l1 R1 S1 V1 q1 => ⟨g1, σ, μ1, d, R1, S1, V1, postG_asg q1⟩
theorem y_set {i : Nat} {x : Str} {pos' : Pos} (hN : X.N.Nodup) (hi : X.N[i]? = some x) (hx : Loc X.env.scope x) (hf : X.fn x = true ∨ X.env.scope.names.lookup x = some .local) (he : YE X W e m) (hs : swapsWith e (some (.Name x pos')) pos.line X.env = pure false) :
    YS X W (.Assign [.Name x pos'] e pos) (letS m (setG i)) :=
  PS.by (ps_set hN hi hx he hs hf) fun E τ H ⟨g, σ, μ, R, S, q⟩ => tS_step R S q fun d μ1 g1 H1 v _ l1 R1 S1 V1 q1 => postG_asg q1 g1 H1 _ (.refl _) R1 (S1.set V1 i)
/-- a, b = x, y with plain names -/
def parS (i j : Nat) (ms : ME (List D)) : MS := bindS ms fun ds => match ds with
  | [x, y] => fun σ μ => some (.nx, (σ.set i (some x)).set j (some y), μ)
  | _ => neverS
theorem y_par {i j : Nat} {x y : Str} {px py pt : Pos} {kt k2 : Nat} {pt2 : Pos} (hc : X.calm = true) (hN : X.N.Nodup) (hi : X.N[i]? = some x) (hj : X.N[j]? = some y) (hij : i ≠ j)
    (hx : X.env.scope.names.lookup x = some .local) (hy : X.env.scope.names.lookup y = some .local) (ha : YA X W [a, b] ms)
    (hw : swappedStores [.Tuple [.Name x px, .Name y py] kt pt] (.Tuple [a, b] k2 pt2) X.env = pure (some [x, y]))
    (hs : swapsWithSole [.Tuple [.Name x px, .Name y py] kt pt] (.Tuple [a, b] k2 pt2) pos.line X.env = pure false) :
    YS X W (.Assign [.Tuple [.Name x px, .Name y py] kt pt] (.Tuple [a, b] k2 pt2) pos) (parS i j ms) :=
  PS.by (ps_par hc hN hi hj hij hx hy ha hw hs) fun E τ H ⟨g, σ, μ, R, S, q⟩ => tS_step R S q fun ds μ1 g1 H1 vs _ l1 R1 S1 V1 q1 => by
    match ds, V1, q1 with
    | [], _, q1 => exact q1.elim
    | [_], _, q1 => exact q1.elim
    | _ :: _ :: _ :: _, _, q1 => exact q1.elim
    | [d1, d2], V1, q1 =>
      obtain ⟨v, w, rfl, r1, r2⟩ := rvs2 V1
      exact ⟨v, w, rfl, q1 g1 H1 _ (.refl _) R1 ((S1.set r1 i).set r2 j)⟩
/-- name += an int -/
def augS (i : Nat) (f : D → D → Option D) (m : ME D) : MS := bindS (varE i) fun x => bindS m fun y => match f x y with
  | some z => asgS (setG i) z
  | none => neverS
def addI (x y : D) : Option D := match x, y with
  | .int i, .int j => some (.int (i + j))
  | _, _ => none
theorem y_augI {i : Nat} {x : Str} {pos' : Pos} (hN : X.N.Nodup) (hi : X.N[i]? = some x) (hx : Loc X.env.scope x) (hf : X.fn x = true ∨ X.env.scope.names.lookup x = some .local) (he : YE X W e m) :
    YS X W (.AugAssign (.Name x pos') .Add e pos) (augS i addI m) :=
  PS.by (ps_aug hN hi hx he ip_add hf) fun E τ H ⟨g, σ, μ, R, S, q⟩ => by
    unfold augS at q
    have q' : ∃ d0, σ[i]? = some (some d0) ∧ postS X.K X.mg W g E (bindS m (fun y => match addI d0 y with | some z => asgS (setG i) z | none => neverS) σ μ) := by
      unfold bindS varE at q
      split at q
      · exact q.elim
      · rename_i h; split at h <;> cases h
      · rename_i h
        split at h
        · rename_i d0 hd0
          cases h
          exact ⟨_, hd0, q⟩
        · cases h
    obtain ⟨d0, hd0, q⟩ := q'
    obtain ⟨v0, h0, r0⟩ := S.2 i d0 hd0
    refine ⟨v0, h0, tS_step R S q fun d μ1 g1 H1 v _ l1 R1 S1 V1 q1 => ?_⟩
    cases d0 with
    | int i0 =>
      cases d with
      | int j0 =>
        rw [rv_int r0, rv_int V1]
        exact ⟨i0, j0, rfl, rfl, q1 g1 H1 _ (.refl _) R1 (S1.set (.int _) i)⟩
      | _ => exact q1.elim
    | _ => exact q1.elim
/-! ### while -/
def turnW (c : ME Bool) (b : MS) (k : MS) : MS := bindS c fun t => if t = true then (fun σ μ => match b σ μ with
  | some (.nx, σ', μ') => k σ' μ'
  | some (.ct, σ', μ') => k σ' μ'
  | some (.bk, σ', μ') => some (.nx, σ', μ')
  | r => r) else nxS
def whileN (c : ME Bool) (b : MS) : Nat → MS
  | 0 => neverS
  | n + 1 => turnW c b (whileN c b n)
theorem turnW_mono {c : ME Bool} {b k k' : MS} (h : ∀ σ μ r, k σ μ = some r → k' σ μ = some r) : ∀ σ μ r, turnW c b k σ μ = some r → turnW c b k' σ μ = some r := by
  intro σ μ r
  unfold turnW bindS
  match c σ μ with
  | none => exact id
  | some (.exc x, μ') => exact id
  | some (.ok false, μ') => exact id
  | some (.ok true, μ') =>
    dsimp only
    rw [if_pos rfl, if_pos rfl]
    match b σ μ' with
    | none => exact id
    | some (.nx, σ2, μ2) => exact h σ2 μ2 r
    | some (.ct, σ2, μ2) => exact h σ2 μ2 r
    | some (.bk, σ2, μ2) => exact id
    | some (.rt d, σ2, μ2) => exact id
    | some (.ex x, σ2, μ2) => exact id
theorem whileN_succ {c : ME Bool} {b : MS} : ∀ (n : Nat) (σ : Sg) (μ : Mu) (r), whileN c b n σ μ = some r → whileN c b (n + 1) σ μ = some r
  | 0, _, _, _, h => by cases h
  | n + 1, σ, μ, r, h => turnW_mono (whileN_succ n) σ μ r h
theorem whileN_le {c : ME Bool} {b : MS} {n m : Nat} (h : n ≤ m) {σ : Sg} {μ : Mu} {r} (e : whileN c b n σ μ = some r) : whileN c b m σ μ = some r := by
  induction h with
  | refl => exact e
  | step _ ih => exact whileN_succ _ _ _ _ ih
open Classical in
/-- the loop, with fuel enough -/
noncomputable def whileS (c : ME Bool) (b : MS) : MS := fun σ μ => if h : ∃ n, (whileN c b n σ μ).isSome = true then whileN c b h.choose σ μ else none
theorem whileS_of {c : ME Bool} {b : MS} {n : Nat} {σ : Sg} {μ : Mu} {r} (e : whileN c b n σ μ = some r) : whileS c b σ μ = some r := by
  unfold whileS
  have h : ∃ n, (whileN c b n σ μ).isSome = true := ⟨n, by rw [e]; rfl⟩
  rw [dif_pos h]
  obtain ⟨r', h'⟩ := Option.isSome_iff_exists.mp h.choose_spec
  rw [h']
  have h1 := whileN_le (Nat.le_max_left h.choose n) h'
  have h2 := whileN_le (Nat.le_max_right h.choose n) e
  rw [h1] at h2
  exact h2
theorem whileS_get {c : ME Bool} {b : MS} {σ : Sg} {μ : Mu} {r} (e : whileS c b σ μ = some r) : ∃ n, whileN c b n σ μ = some r := by
  unfold whileS at e
  split at e
  · rename_i h; exact ⟨_, e⟩
  · cases e
/-- its first turn -/
theorem whileS_step (c : ME Bool) (b : MS) : whileS c b = turnW c b (whileS c b) := by
  funext σ μ
  cases h : turnW c b (whileS c b) σ μ with
  | some r =>
    have z : ∃ n, turnW c b (whileN c b n) σ μ = some r := by
      revert h
      unfold turnW bindS
      match c σ μ with
      | none => intro h; cases h
      | some (.exc x, μ') => exact fun h => ⟨0, h⟩
      | some (.ok false, μ') => exact fun h => ⟨0, h⟩
      | some (.ok true, μ') =>
        dsimp only
        rw [if_pos rfl]
        match hb : b σ μ' with
        | none => intro h; cases h
        | some (.nx, σ2, μ2) =>
          intro h
          obtain ⟨n, hn⟩ := whileS_get h
          exact ⟨n, by rw [if_pos rfl, hb]; exact hn⟩
        | some (.ct, σ2, μ2) =>
          intro h
          obtain ⟨n, hn⟩ := whileS_get h
          exact ⟨n, by rw [if_pos rfl, hb]; exact hn⟩
        | some (.bk, σ2, μ2) => exact fun h => ⟨0, by rw [if_pos rfl, hb]; exact h⟩
        | some (.rt d, σ2, μ2) => exact fun h => ⟨0, by rw [if_pos rfl, hb]; exact h⟩
        | some (.ex x, σ2, μ2) => exact fun h => ⟨0, by rw [if_pos rfl, hb]; exact h⟩
    obtain ⟨n, hn⟩ := z
    exact whileS_of (n := n + 1) hn
  | none =>
    cases h2 : whileS c b σ μ with
    | none => rfl
    | some r =>
      obtain ⟨n, hn⟩ := whileS_get h2
      cases n with
      | zero => cases hn
      | succ n =>
        have := turnW_mono (k := whileN c b n) (k' := whileS c b) (fun σ μ r e => whileS_of e) σ μ r hn
        rw [h] at this
        cases this
theorem y_while {body : List Stmt} (hp : PassesOwn (model X.prog X.w) X.A X.env X.xe) (hc : YT X W c mt) (hb : YSs X W body s) : YS X W (.While c body [] pos) (whileS mt s) :=
  PS.by (ps_while hp hc hb) fun E τ H ⟨g, σ, μ, R, S, q⟩ => by
    have q' : ∃ n, postS X.K X.mg W g E (whileN mt s n σ μ) := by
      cases h : whileS mt s σ μ with
      | none => rw [h] at q; exact q.elim
      | some r => obtain ⟨n, hn⟩ := whileS_get h; exact ⟨n, by rw [hn, ← h]; exact q⟩
    refine ⟨fun n τ H => ∃ g σ μ, RS X.K X.mg g μ H ∧ RSl X.K X.mg g σ τ ∧ postS X.K X.mg W g E (whileN mt s n σ μ), q'.imp fun n hn => ⟨g, σ, μ, R, S, hn⟩, ?_⟩
    rintro n τ1 H1 ⟨g1, σ1, μ1, R1, S1, q1⟩
    cases n with
    | zero => exact q1.elim
    | succ n =>
      refine tS_step R1 S1 (show postS X.K X.mg W g1 E (turnW mt s (whileN mt s n) σ1 μ1) from q1) fun k μ2 g2 H2 v _ l2 R2 S2 V2 q2 => ?_
      have ek : k = v := V2
      subst ek
      cases k with
      | false => rw [if_neg Bool.false_ne_true] at q2 ⊢; exact q2 g2 H2 τ1 (.refl _) R2 S2
      | true =>
        rw [if_pos rfl] at q2 ⊢
        refine ⟨fun τ H => ∃ g σ μ, RS X.K X.mg g μ H ∧ RSl X.K X.mg g σ τ ∧ postS X.K X.mg W g E (whileN mt s n σ μ), fun σ' H' h => ⟨n, Nat.lt_succ_self n, h⟩, g2, σ1, μ2, R2, S2, ?_⟩
        match h : s σ1 μ2 with
        | none => rw [h] at q2; exact q2
        | some (.nx, σ3, μ3) => rw [h] at q2; exact fun g3 H3 τ3 l3 R3 S3 => ⟨g3, σ3, μ3, R3, S3, q2.mono l3⟩
        | some (.ct, σ3, μ3) => rw [h] at q2; exact fun g3 H3 τ3 l3 R3 S3 => ⟨g3, σ3, μ3, R3, S3, q2.mono l3⟩
        | some (.bk, σ3, μ3) => rw [h] at q2; exact q2
        | some (.rt d, σ3, μ3) => rw [h] at q2; exact q2
        | some (.ex x, σ3, μ3) => rw [h] at q2; exact q2
end
end Yf

/-! Y9: what loops walk; for; list comprehensions; dict displays. -/
namespace Yf
open PySem PySem.Spec PyProof.Rows L2 RZ

/-- later, whatever stands aside -/
structure GS.lo (g g' : GS) : Prop where
  G : ∀ a o, g.G a = some o → g'.G a = some o
  θ : ∃ r, g'.θ = g.θ ++ r
theorem GS.le.lo {g g' : GS} (l : g.le g') : g.lo g' := ⟨l.G, l.θ⟩
theorem GS.lo.refl (g : GS) : g.lo g := (GS.le.refl g).lo
theorem GS.lo.trans {a b c : GS} (x : a.lo b) (y : b.lo c) : a.lo c := by
  obtain ⟨r1, h1⟩ := x.θ
  obtain ⟨r2, h2⟩ := y.θ
  exact ⟨fun p o h => y.G p o (x.G p o h), r1 ++ r2, by rw [h2, h1, List.append_assoc]⟩
section
variable {K : PySem.W.Frag} {mg : Str → Option Value} {g g' : GS}
theorem GS.lo.mid (l : g.lo g') : (GS.mk g.G g'.F g.θ).le g' := ⟨l.G, rfl, l.θ⟩
theorem RV.lo {d : D} {v : V} (l : g.lo g') (r : RV K mg g d v) : RV K mg g' d v := (RV.same (g := g) (g' := ⟨g.G, g'.F, g.θ⟩) rfl rfl r).mono l.mid
theorem RVs.lo {d : List D} {v : List V} (l : g.lo g') (r : RVs K mg g d v) : RVs K mg g' d v := (RVs.same (g := g) (g' := ⟨g.G, g'.F, g.θ⟩) rfl rfl r).mono l.mid
theorem RSl.lo {σ : Sg} {τ : L2.St} (l : g.lo g') (S : RSl K mg g σ τ) : RSl K mg g' σ τ := ⟨S.1, fun i d e => by
  obtain ⟨v, e1, r⟩ := S.2 i d e
  exact ⟨v, e1, r.lo l⟩⟩
end
/-- an iterator: what it tells, as long as al holds of the cells -/
abbrev ItD := List D × (Mu → Prop)
def ItOk (K : PySem.W.Frag) (mg : Str → Option Value) (g : GS) (i : ItD) (J : It) : Prop :=
  ∀ g' μ H k, g.lo g' → RS K mg g' μ H → i.2 μ → (∀ d, i.1[k]? = some d → J.go k H ∧ ∀ x H', J.yld k H x H' → ∃ g2, g'.le g2 ∧ RS K mg g2 μ H' ∧ RV K mg g2 d x) ∧ (i.1.length = k → J.stop k H)
abbrev RlI (K : PySem.W.Frag) (mg : Str → Option Value) : GS → ItD → It → Hp → Prop := fun g i J _ => ItOk K mg g i J
abbrev tYI (K : PySem.W.Frag) (mg : Str → Option Value) (W : WX) (m : ME ItD) : TI := tG K mg (RlI K mg) W m
section
variable {X : Cx} {W : WX} {tg e a b c o : Expr} {es : List Expr} {st : Stmt} {rest : List Stmt} {pos p p2 : Pos} {m ma mb mc mo : ME D} {mt : ME Bool} {ms : ME (List D)} {s s1 s2 : MS}
abbrev YI (X : Cx) (W : WX) (tg e : Expr) (m : ME ItD) : Prop := PI X tg e (tYI X.K X.mg W m)
theorem PI.by {t t' : TI} (h : PI X tg e t) (i : ∀ σ H Q, t' σ H Q → t σ H Q) : PI X tg e t' := ⟨fun pins s σ H Q I q => h.run pins s σ H Q I (i σ H Q q)⟩
theorem PI.or {t u : TI} (h : PI X tg e t) (h2 : PI X tg e u) : PI X tg e (fun σ H R => t σ H R ∨ u σ H R) := ⟨fun pins s σ H R I q => q.elim (h.run pins s σ H R I) (h2.run pins s σ H R I)⟩
/-! ### lists and tuples -/
def lsq (μ : Mu) (d : D) : Option (List D) := match d with
  | .tup _ => none
  | d => seqOf μ d
theorem lsq_ok {K : PySem.W.Frag} {mg : Str → Option Value} {g : GS} {μ : Mu} {H : Hp} {d : D} {v : V} {ds : List D} (R : RS K mg g μ H) (r : RV K mg g d v) (e : lsq μ d = some ds) : ∃ a xs, v = .ref a ∧ SqL K H a xs ∧ RVs K mg g ds xs := by
  cases r with
  | tup _ _ => cases e
  | scr h => cases e; exact ⟨_, _, rfl, sqL_mono R.frz h, RVs.of_ints⟩
  | lst h q => cases e; exact ⟨_, _, rfl, SqL.of (R.frz _ _ h), q⟩
  | cell h =>
    obtain ⟨a, xs, e1, e2, r⟩ := lstOf_ok R (RV.cell h) e
    exact ⟨a, xs, e1, SqL.of e2, r⟩
  | _ => simp [lsq, seqOf, lstOf] at e
theorem it_list {K : PySem.W.Frag} {mg : Str → Option Value} {g : GS} {d : D} {a : Addr} {ds : List D} (r : RV K mg g d (.ref a)) : ItOk K mg g (ds, fun μ => lsq μ d = some ds) (Itl K a) := by
  intro g' μ H k l R al
  obtain ⟨a', xs, e1, hs, rs⟩ := lsq_ok R (r.lo l) al
  cases e1
  refine ⟨fun d0 hd => ?_, fun hk => ⟨xs, hs, by rw [← rs.length]; exact Nat.le_of_eq hk⟩⟩
  obtain ⟨x, hx, rx⟩ := rs.get hd
  refine ⟨⟨xs, x, hs, hx⟩, fun x' H' ⟨e2, y⟩ => ?_⟩
  subst e2
  have z := y xs hs
  rw [hx] at z
  cases z
  exact ⟨g', .refl _, R, rx⟩
theorem it_tup {K : PySem.W.Frag} {mg : Str → Option Value} {g : GS} {d : D} {a : Addr} {ds : List D} (r : RV K mg g d (.ref a)) : ItOk K mg g (ds, fun μ => tupOf d = some ds) (Itt K a) := by
  intro g' μ H k l R al
  cases r.lo l with
  | tup h0 rs =>
    cases al
    have hs := sqT_mono R.frz h0
    refine ⟨fun d0 hd => ?_, fun hk => ⟨_, hs, by rw [← rs.length]; exact Nat.le_of_eq hk⟩⟩
    obtain ⟨x, hx, rx⟩ := rs.get hd
    refine ⟨⟨_, x, hs, hx⟩, fun x' H' ⟨e2, y⟩ => ?_⟩
    subst e2
    have z := y _ hs
    rw [hx] at z
    cases z
    exact ⟨g', .refl _, R, rx⟩
  | _ => cases al
def inL (m : ME D) : ME ItD := bindE m fun d => optE fun μ => (lsq μ d).map fun ds => (ds, fun μ => lsq μ d = some ds)
def inT (m : ME D) : ME ItD := bindE m fun d => optE fun _ => (tupOf d).map fun ds => (ds, fun _ => tupOf d = some ds)
theorem yi_list (he : YE X W e m) : YI X W tg e (inL m) :=
  PI.by (pi_list he) fun τ H Q ⟨g, σ, μ, R, S, q⟩ => tG_step R S q fun d μ1 g1 H1 v _ l1 R1 S1 V1 q1 => by
    obtain ⟨i, e1, q2⟩ := post_opt q1
    cases h : lsq μ1 d with
    | none => rw [h] at e1; cases e1
    | some ds =>
      rw [h] at e1
      cases e1
      obtain ⟨a, xs, rfl, hs, rs⟩ := lsq_ok R1 V1 h
      exact ⟨a, rfl, ⟨xs, hs⟩, post_ret R1 q2 (it_list V1)⟩
theorem yi_tup (he : YE X W e m) : YI X W tg e (inT m) :=
  PI.by (pi_tup he) fun τ H Q ⟨g, σ, μ, R, S, q⟩ => tG_step R S q fun d μ1 g1 H1 v _ l1 R1 S1 V1 q1 => by
    obtain ⟨i, e1, q2⟩ := post_opt q1
    cases h : tupOf d with
    | none => rw [h] at e1; cases e1
    | some ds =>
      rw [h] at e1
      cases e1
      cases d with
      | tup ds' =>
        cases V1 with
        | tup h0 rs => cases h; exact ⟨_, rfl, ⟨_, sqT_mono R1.frz h0⟩, post_ret R1 q2 (it_tup (.tup h0 rs))⟩
      | _ => cases h
/-! ### range -/
def rngI (lo : Int) (n : Nat) : List D := (List.range n).map fun (i : Nat) => .int (lo + i)
theorem it_range {K : PySem.W.Frag} {mg : Str → Option Value} {g : GS} {lo : Int} {n : Nat} : ItOk K mg g (rngI lo n, fun _ => True) (Itr lo n) := by
  intro g' μ H k l R _
  refine ⟨fun d hd => ?_, fun hk => show n ≤ k from Nat.le_of_eq (by simpa [rngI] using hk)⟩
  unfold rngI at hd
  rw [List.getElem?_map] at hd
  by_cases hk : k < n
  · rw [List.getElem?_range hk] at hd
    cases hd
    exact ⟨hk, fun x H' ⟨e1, e2⟩ => ⟨g', .refl _, e1 ▸ R, e2 ▸ .int _⟩⟩
  · rw [List.getElem?_eq_none (by simpa using hk)] at hd
    cases hd
def big62 (i : Int) : Prop := -(2 ^ 62) ≤ i ∧ i < 2 ^ 62
instance (i : Int) : Decidable (big62 i) := inferInstanceAs (Decidable (_ ∧ _))
def inR1 (ms : ME (List D)) : ME ItD := bindE ms fun ds => optE fun _ => match ds with
  | [.int j] => if big62 j then some (rngI 0 j.toNat, fun _ => True) else none
  | _ => none
def inR2 (ms : ME (List D)) : ME ItD := bindE ms fun ds => optE fun _ => match ds with
  | [.int i, .int j] => if big62 i ∧ big62 j then some (rngI i (j - i).toNat, fun _ => True) else none
  | _ => none
theorem yi_range1 (hg : Gl X "range") (hm : X.mg "range" = none) (h1 : noStar a = true) (ha : YA X W [a] ms) : YI X W tg (.Call (.Name "range" p) [a] [] pos) (inR1 ms) :=
  PI.by (pi_range1 hg hm ha (star_cons h1)) fun τ H Q ⟨g, σ, μ, R, S, q⟩ => tG_step R S q fun ds μ1 g1 H1 vs hms l1 R1 S1 V1 q1 => by
    obtain ⟨i, e1, q2⟩ := post_opt q1
    split at e1
    · obtain ⟨v, rfl, r⟩ := rvs1 V1
      split at e1
      · rename_i hb
        cases e1
        rw [rv_int r]
        exact ⟨_, rfl, hb.1, hb.2, post_ret R1 q2 it_range⟩
      · cases e1
    · cases e1
theorem yi_range2 (hg : Gl X "range") (hm : X.mg "range" = none) (h1 : noStar a = true) (h2 : noStar b = true) (ha : YA X W [a, b] ms) : YI X W tg (.Call (.Name "range" p) [a, b] [] pos) (inR2 ms) :=
  PI.by (pi_range2 hg hm ha (by rw [star_cons h1, star_cons h2]; rfl) (by rw [star_cons h2]; rfl)) fun τ H Q ⟨g, σ, μ, R, S, q⟩ => tG_step R S q fun ds μ1 g1 H1 vs hms l1 R1 S1 V1 q1 => by
    obtain ⟨i, e1, q2⟩ := post_opt q1
    split at e1
    · obtain ⟨v, w, rfl, r, r'⟩ := rvs2 V1
      split at e1
      · rename_i hb
        cases e1
        rw [rv_int r, rv_int r']
        exact ⟨_, _, rfl, ⟨hb.1.1, hb.1.2, hb.2.1, hb.2.2⟩, post_ret R1 q2 it_range⟩
      · cases e1
    · cases e1
/-! ### enumerate, zip of lists -/
def enumD (ds : List D) : List D := (List.range ds.length).zipWith (fun (i : Nat) d => .tup [.int (i : Int), d]) ds
def zipD (ds es : List D) : List D := ds.zipWith (fun d e => .tup [d, e]) es
theorem it_enum {K : PySem.W.Frag} {mg : Str → Option Value} {g : GS} {d : D} {a : Addr} {ds : List D} (r : RV K mg g d (.ref a)) : ItOk K mg g (enumD ds, fun μ => lsq μ d = some ds) (Ite K a) := by
  intro g' μ H k l R al
  obtain ⟨a', xs, e1, hs, rs⟩ := lsq_ok R (r.lo l) al
  cases e1
  refine ⟨fun d0 hd => ?_, fun hk => ⟨xs, hs, by rw [← rs.length]; exact Nat.le_of_eq (by simpa [enumD] using hk)⟩⟩
  unfold enumD at hd
  rw [List.getElem?_zipWith] at hd
  cases hr : (List.range ds.length)[k]? with
  | none => rw [hr] at hd; cases hd
  | some k' =>
    cases hx0 : ds[k]? with
    | none => rw [hr, hx0] at hd; cases hd
    | some d1 =>
      rw [hr, hx0] at hd
      cases hd
      have hk : k' = k := by
        have hkl := (List.getElem?_eq_some_iff.mp hx0).1
        rw [List.getElem?_range hkl] at hr
        cases hr
        rfl
      subst hk
      obtain ⟨x, hx, rx⟩ := rs.get hx0
      refine ⟨⟨xs, x, hs, hx⟩, fun x' H' ⟨T, y, e2, hT, e3, hy⟩ => ?_⟩
      have z := hy xs hs
      rw [hx] at z
      cases z
      subst e2
      subst e3
      have lg := R.le_lay (o := .tup [.int (k' : Int), x]) hT
      exact ⟨_, lg, R.lay hT, .tup (.inl (.inl GS.add_at)) (.cons (.int _) (.cons (rx.mono lg) .nil))⟩
theorem it_zip {K : PySem.W.Frag} {mg : Str → Option Value} {g : GS} {d e : D} {a b : Addr} {ds es : List D} (r : RV K mg g d (.ref a)) (r2 : RV K mg g e (.ref b)) : ItOk K mg g (zipD ds es, fun μ => lsq μ d = some ds ∧ lsq μ e = some es) (Itz K a b) := by
  intro g' μ H k l R al
  obtain ⟨a', xs, e1, hs, rs⟩ := lsq_ok R (r.lo l) al.1
  obtain ⟨b', ys, e2, hs2, rs2⟩ := lsq_ok R (r2.lo l) al.2
  cases e1
  cases e2
  refine ⟨fun d0 hd => ?_, fun hk => ⟨xs, ys, hs, hs2, by
    have hk' : (zipD ds es).length = k := hk
    rw [← rs.length, ← rs2.length]
    unfold zipD at hk'
    rw [List.length_zipWith] at hk'
    omega⟩⟩
  unfold zipD at hd
  rw [List.getElem?_zipWith] at hd
  cases hx0 : ds[k]? with
  | none => rw [hx0] at hd; cases hd
  | some d1 =>
    cases hy0 : es[k]? with
    | none => rw [hx0, hy0] at hd; cases hd
    | some e1 =>
      rw [hx0, hy0] at hd
      cases hd
      obtain ⟨x, hx, rx⟩ := rs.get hx0
      obtain ⟨y, hy, ry⟩ := rs2.get hy0
      refine ⟨⟨xs, ys, x, y, hs, hs2, hx, hy⟩, fun x' H' ⟨T, x1, y1, e2, hT, e3, hx', hy'⟩ => ?_⟩
      have z := hx' xs hs
      rw [hx] at z
      cases z
      have z := hy' ys hs2
      rw [hy] at z
      cases z
      subst e2
      subst e3
      have lg := R.le_lay (o := .tup [x, y]) hT
      exact ⟨_, lg, R.lay hT, .tup (.inl (.inl GS.add_at)) (.cons (rx.mono lg) (.cons (ry.mono lg) .nil))⟩
theorem it_zipT {K : PySem.W.Frag} {mg : Str → Option Value} {g : GS} {a b : Addr} {ds es : List D} (r : RV K mg g (.tup ds) (.ref a)) (r2 : RV K mg g (.tup es) (.ref b)) : ItOk K mg g (zipD ds es, fun _ => True) (ItzT K a b) := by
  intro g' μ H k l R _
  cases r.lo l with
  | tup h0 rs =>
  cases r2.lo l with
  | tup h1 rs2 =>
  have hs := sqT_mono R.frz h0
  have hs2 := sqT_mono R.frz h1
  refine ⟨fun d0 hd => ?_, fun hk => ⟨_, _, hs, hs2, by
    have hk' : (zipD ds es).length = k := hk
    rw [← rs.length, ← rs2.length]
    unfold zipD at hk'
    rw [List.length_zipWith] at hk'
    omega⟩⟩
  unfold zipD at hd
  rw [List.getElem?_zipWith] at hd
  cases hx0 : ds[k]? with
  | none => rw [hx0] at hd; cases hd
  | some d1 =>
    cases hy0 : es[k]? with
    | none => rw [hx0, hy0] at hd; cases hd
    | some e1 =>
      rw [hx0, hy0] at hd
      cases hd
      obtain ⟨x, hx, rx⟩ := rs.get hx0
      obtain ⟨y, hy, ry⟩ := rs2.get hy0
      refine ⟨⟨_, _, x, y, hs, hs2, hx, hy⟩, fun x' H' ⟨T, x1, y1, e2, hT, e3, hx', hy'⟩ => ?_⟩
      have z := hx' _ hs
      rw [hx] at z
      cases z
      have z := hy' _ hs2
      rw [hy] at z
      cases z
      subst e2
      subst e3
      have lg := R.le_lay (o := .tup [x, y]) hT
      exact ⟨_, lg, R.lay hT, .tup (.inl (.inl GS.add_at)) (.cons (rx.mono lg) (.cons (ry.mono lg) .nil))⟩
def inEnum (ms : ME (List D)) : ME ItD := bindE ms fun ds => optE fun μ => match ds with
  | [d] => (lsq μ d).map fun ds => (enumD ds, fun μ => lsq μ d = some ds)
  | _ => none
def inZip (ms : ME (List D)) : ME ItD := bindE ms fun ds => optE fun μ => match ds with
  | [.tup ds, .tup es] => some (zipD ds es, fun _ => True)
  | [d, e] => match lsq μ d, lsq μ e with
    | some ds, some es => some (zipD ds es, fun μ => lsq μ d = some ds ∧ lsq μ e = some es)
    | _, _ => none
  | _ => none
variable {elts : List Expr} {kk : Nat} {tpos : Pos}
theorem yi_enum (hg : Gl X "enumerate") (hm : X.mg "enumerate" = none) (h1 : noStar a = true) (ha : YA X W [a] ms) : YI X W (.Tuple elts kk tpos) (.Call (.Name "enumerate" p) [a] [] pos) (inEnum ms) :=
  PI.by (pi_enum hg hm ha (star_cons h1)) fun τ H Q ⟨g, σ, μ, R, S, q⟩ => tG_step R S q fun ds μ1 g1 H1 vs hms l1 R1 S1 V1 q1 => by
    obtain ⟨i, e1, q2⟩ := post_opt q1
    split at e1
    · rename_i d
      obtain ⟨v, rfl, r⟩ := rvs1 V1
      cases h : lsq μ1 d with
      | none => rw [h] at e1; cases e1
      | some ds =>
        rw [h] at e1
        cases e1
        obtain ⟨a, xs, rfl, hs, rs⟩ := lsq_ok R1 r h
        exact ⟨a, xs, rfl, hs, post_ret R1 q2 (it_enum r)⟩
    · cases e1
theorem yi_zip (hg : Gl X "zip") (hm : X.mg "zip" = none) (h1 : noStar a = true) (h2 : noStar b = true) (ha : YA X W [a, b] ms) : YI X W (.Tuple elts kk tpos) (.Call (.Name "zip" p) [a, b] [] pos) (inZip ms) :=
  PI.by (pi_zipA hg hm ha (star_cons h1) (star_plain (by rw [List.all_cons, h2]; rfl))) fun τ H Q ⟨g, σ, μ, R, S, q⟩ => tG_step R S q fun ds μ1 g1 H1 vs hms l1 R1 S1 V1 q1 => by
    obtain ⟨i, e1, q2⟩ := post_opt q1
    split at e1
    · obtain ⟨v, w, rfl, r1, r2⟩ := rvs2 V1
      cases e1
      cases r1 with
      | tup h0 rs =>
        cases r2 with
        | tup h1 rs2 => exact ⟨_, _, _, _, rfl, .inr ⟨sqT_mono R1.frz h0, sqT_mono R1.frz h1, post_ret R1 q2 (it_zipT (.tup h0 rs) (.tup h1 rs2))⟩⟩
    · rename_i d e _
      obtain ⟨v, w, rfl, r1, r2⟩ := rvs2 V1
      split at e1
      · rename_i ds es hd he
        cases e1
        obtain ⟨a, xs, rfl, hs, rs⟩ := lsq_ok R1 r1 hd
        obtain ⟨b, ys, rfl, hs2, rs2⟩ := lsq_ok R1 r2 he
        exact ⟨a, b, xs, ys, rfl, .inl ⟨hs, hs2, post_ret R1 q2 (it_zip r1 r2)⟩⟩
      · cases e1
    · cases e1
/-! ### for -/
open Classical in
noncomputable def forD (al : Mu → Prop) (f : MG) (b : MS) : List D → MS
  | [] => fun σ μ => if al μ then some (.nx, σ, μ) else none
  | d :: ds => fun σ μ => if al μ then (match f d σ μ with
    | none => none
    | some (σ', μ') => match b σ' μ' with
      | some (.nx, σ2, μ2) => forD al f b ds σ2 μ2
      | some (.ct, σ2, μ2) => forD al f b ds σ2 μ2
      | some (.bk, σ2, μ2) => some (.nx, σ2, μ2)
      | r => r) else none
noncomputable def forS (mi : ME ItD) (f : MG) (b : MS) : MS := bindS mi fun i => forD i.2 f b i.1
theorem y_for {body : List Stmt} {mi : ME ItD} {f : MG} (hp : PassesOwn (model X.prog X.w) X.A X.env X.xe) (hc : X.calm = true) (hi : YI X W tg c mi) (hg : YG X tg f) (hb : YSs X W body s) (hs : ∀ x, foldedSetIterable c X.env x = pure x) :
    YS X W (.For tg c body [] pos) (forS mi f s) :=
  PS.by (ps_for hp hc hi hg hb hs) fun E τ H ⟨g, σ, μ, R, S, q⟩ => tS_step R S q fun i μ1 g1 H1 J _ l1 R1 S1 V1 q1 => by
    obtain ⟨ds, al⟩ := i
    refine ⟨fun i m τ H => m = ds.length - i ∧ i ≤ ds.length ∧ ∃ g σ μ, g1.le g ∧ RS X.K X.mg g μ H ∧ RSl X.K X.mg g σ τ ∧ postS X.K X.mg W g E (forD al f s (ds.drop i) σ μ),
      ⟨ds.length, by simp, Nat.zero_le _, g1, σ, μ1, .refl _, R1, S1, q1⟩, ?_⟩
    rintro i m τ2 H2 ⟨rfl, hil, g2, σ2, μ2, l2, R2, S2, q2⟩
    by_cases hlt : i < ds.length
    · rw [List.drop_eq_getElem_cons hlt] at q2
      unfold forD at q2
      split at q2
      · rename_i hal
        obtain ⟨z1, z2⟩ := (V1 g2 μ2 H2 i l2.lo R2 hal).1 ds[i] (List.getElem?_eq_getElem hlt)
        refine .inr ⟨z1, fun τ H => ∃ g σ μ, g1.le g ∧ RS X.K X.mg g μ H ∧ RSl X.K X.mg g σ τ ∧ postS X.K X.mg W g E (forD al f s (ds.drop (i + 1)) σ μ), fun τ' H' h => ⟨ds.length - (i + 1), by omega, rfl, hlt, h⟩, fun x H3 hy => ?_⟩
        obtain ⟨g3, l3, R3, V3⟩ := z2 x H3 hy
        refine ⟨g3, σ2, μ2, ds[i], R3, S2.mono l3, V3, ?_⟩
        match hf : f ds[i] σ2 μ2 with
        | none => rw [hf] at q2; exact q2
        | some (σ4, μ4) =>
          rw [hf] at q2
          dsimp only at q2
          refine fun g4 H4 τ4 l4 R4 S4 => ⟨g4, σ4, μ4, R4, S4, ?_⟩
          have l14 := l2.trans (l3.trans l4)
          have l24 := l3.trans l4
          match hbm : s σ4 μ4 with
          | none => rw [hbm] at q2; exact q2
          | some (.nx, σ5, μ5) => rw [hbm] at q2; exact fun g5 H5 τ5 l5 R5 S5 => ⟨g5, σ5, μ5, l14.trans l5, R5, S5, q2.mono (l24.trans l5)⟩
          | some (.ct, σ5, μ5) => rw [hbm] at q2; exact fun g5 H5 τ5 l5 R5 S5 => ⟨g5, σ5, μ5, l14.trans l5, R5, S5, q2.mono (l24.trans l5)⟩
          | some (.bk, σ5, μ5) => rw [hbm] at q2; exact fun g5 H5 τ5 l5 R5 S5 => q2 g5 H5 τ5 (l24.trans l5) R5 S5
          | some (.rt d, σ5, μ5) => rw [hbm] at q2; exact fun g5 H5 v l5 R5 S5 => q2 g5 H5 v (l24.trans l5) R5 S5
          | some (.ex x, σ5, μ5) => rw [hbm] at q2; exact fun g5 H5 τ5 cls dx l5 R5 S5 => q2 g5 H5 τ5 cls dx (l24.trans l5) R5 S5
      · exact q2.elim
    · have hi : i = ds.length := by omega
      subst hi
      rw [List.drop_length] at q2
      unfold forD at q2
      split at q2
      · rename_i hal
        exact .inl ⟨(V1 g2 μ2 H2 ds.length l2.lo R2 hal).2 rfl, q2 g2 H2 τ2 (.refl _) R2 S2⟩
      · exact q2.elim
end
end Yf

/-! Y10: list comprehensions, dict displays. -/
namespace Yf
open PySem PySem.Spec PyProof.Rows L2 RZ

/-! ### targets of comprehensions: only their own names -/
section
variable (K : PySem.W.Frag) (mg : Str → Option Value)
def postC (vs : List Nat) (τ : L2.St) (g : GS) (Q : L2.St → Hp → Prop) : Option (Sg × Mu) → Prop
  | none => False
  | some (σ', μ') => ∀ g' H' τ', g.le g' → RS K mg g' μ' H' → RSl K mg g' σ' τ' → wipe τ' vs = wipe τ vs → Q τ' H'
def tYC (vs : List Nat) (f : MG) : TG := fun v τ H Q => ∃ g σ μ d, RS K mg g μ H ∧ RSl K mg g σ τ ∧ RV K mg g d v ∧ postC K mg vs τ g Q (f d σ μ)
def tYCs (vs : List Nat) (f : List D → Sg → Mu → Option (Sg × Mu)) : TGs := fun xs τ H Q => ∃ g σ μ ds, RS K mg g μ H ∧ RSl K mg g σ τ ∧ RVs K mg g ds xs ∧ postC K mg vs τ g Q (f ds σ μ)
end
theorem wipe_set {τ : L2.St} {i : Nat} {v : Option V} : ∀ {vs : List Nat}, i ∈ vs → wipe (τ.set i v) vs = wipe τ vs
  | j :: vs, h => by
    by_cases hij : i ∈ vs
    · show (wipe (τ.set i v) vs).set j none = (wipe τ vs).set j none
      rw [wipe_set hij]
    · have e : i = j := by
        rcases List.mem_cons.mp h with h | h
        · exact h
        · exact absurd h hij
      subst e
      show (wipe (τ.set i v) vs).set i none = (wipe τ vs).set i none
      have z : ∀ (ws : List Nat), i ∉ ws → wipe (τ.set i v) ws = (wipe τ ws).set i v := by
        intro ws
        induction ws with
        | nil => intro _; rfl
        | cons j ws ih =>
          intro hm
          rw [List.mem_cons, not_or] at hm
          show (wipe (τ.set i v) ws).set j none = ((wipe τ ws).set j none).set i v
          rw [ih hm.2, List.set_comm _ _ hm.1]
      rw [z vs hij, List.set_set]
theorem wipe_none {τ : L2.St} {i : Nat} : ∀ {ws : List Nat}, wipe (τ.set i none) ws = (wipe τ ws).set i none
  | [] => rfl
  | j :: ws => by
    show (wipe (τ.set i none) ws).set j none = ((wipe τ ws).set j none).set i none
    rw [wipe_none]
    by_cases h : i = j
    · rw [h]
    · rw [List.set_comm _ _ h]
theorem wipe_idem {τ : L2.St} : ∀ {ws : List Nat}, wipe (wipe τ ws) ws = wipe τ ws
  | [] => rfl
  | j :: ws => by
    show (wipe ((wipe τ ws).set j none) ws).set j none = (wipe τ ws).set j none
    rw [wipe_none, wipe_idem, List.set_set]
/-- the block's own names forgotten -/
def wipeD (σ : Sg) : List Nat → Sg
  | [] => σ
  | v :: vs => (wipeD σ vs).set v none
section
variable {K : PySem.W.Frag} {mg : Str → Option Value} {g g' : GS} {μ : Mu} {H : Hp} {σ : Sg} {τ : L2.St} {W : WX} {E E' : Ends}
theorem RSl.wipe (S : RSl K mg g σ τ) : ∀ vs : List Nat, RSl K mg g (wipeD σ vs) (wipe τ vs)
  | [] => S
  | v :: vs => by
    have ih := RSl.wipe S vs
    refine ⟨by show ((wipeD σ vs).set v none).length = ((L2.wipe τ vs).set v none).length; rw [List.length_set, List.length_set, ih.1], fun j e hj => ?_⟩
    replace hj : ((wipeD σ vs).set v none)[j]? = some (some e) := hj
    show ∃ x, ((L2.wipe τ vs).set v none)[j]? = some (some x) ∧ RV K mg g e x
    by_cases hv : v = j
    · subst hv
      by_cases hl : v < (wipeD σ vs).length
      · rw [List.getElem?_set_self hl] at hj; cases hj
      · rw [List.getElem?_eq_none (by simpa using hl)] at hj; cases hj
    · rw [List.getElem?_set_ne hv] at hj ⊢
      exact ih.2 j e hj
end
section
variable {X : Cx} {W : WX} {tg e a b c o iter : Expr} {es : List Expr} {st : Stmt} {rest : List Stmt} {pos p p2 : Pos} {m ma mb mc mo : ME D} {mt : ME Bool} {ms : ME (List D)} {s s1 s2 : MS} {vs : List Nat}
abbrev YC (X : Cx) (vs : List Nat) (tg : Expr) (f : MG) : Prop := PG X tg (tYC X.K X.mg vs f)
abbrev YCs (X : Cx) (vs : List Nat) (tg : List Expr) (f : List D → Sg → Mu → Option (Sg × Mu)) : Prop := PGs X tg (tYCs X.K X.mg vs f)
theorem yc_name {i : Nat} {x : Str} (hi : i ∈ vs) (hN : X.N.Nodup) (hx : X.N[i]? = some x) (hl : Loc X.env.scope x) (hf : X.fn x = true ∨ X.env.scope.names.lookup x = some .local) : YC X vs (.Name x pos) (setG i) :=
  PG.by (pg_name hN hx hl hf) fun v τ H Q ⟨g, σ, μ, d, R, S, r, q⟩ => q g H _ (.refl _) R (S.set r i) (wipe_set hi)
theorem ycs_nil : YCs X vs [] nilG := PGs.by pgs_nil fun xs τ H Q ⟨g, σ, μ, ds, R, S, r, q⟩ => by
  cases r with
  | nil => exact ⟨rfl, q g H τ (.refl _) R S rfl⟩
  | cons _ _ => exact q.elim
theorem ycs_cons {f : MG} {fs : List D → Sg → Mu → Option (Sg × Mu)} (hn : noStar e = true) (h1 : YC X vs e f) (h2 : YCs X vs es fs) : YCs X vs (e :: es) (consG f fs) :=
  PGs.by (pgs_cons h1 h2 (assign_cons hn)) fun xs τ H Q ⟨g, σ, μ, ds, R, S, r, q⟩ => by
    cases r with
    | nil => exact q.elim
    | @cons d v ds ws r t =>
      refine ⟨v, ws, rfl, g, σ, μ, d, R, S, r, ?_⟩
      replace q : postC X.K X.mg vs τ g Q (match f d σ μ with | none => none | some (σ', μ') => fs ds σ' μ') := q
      cases hf : f d σ μ with
      | none => rw [hf] at q; exact q
      | some pr =>
        obtain ⟨σ', μ'⟩ := pr
        rw [hf] at q
        refine fun g' H' τ' l R' S' hw => ⟨g', σ', μ', ds, R', S', t.mono l, ?_⟩
        dsimp only at q
        match h3 : fs ds σ' μ' with
        | none => rw [h3] at q; exact q
        | some (σ3, μ3) => rw [h3] at q; exact fun g3 H3 τ3 l3 R3 S3 hw3 => q g3 H3 τ3 (l.trans l3) R3 S3 (hw3.trans hw)
theorem yc_tup {k : Nat} {fs : List D → Sg → Mu → Option (Sg × Mu)} (hc : X.calm = true) (hn : es.all noStar = true) (h : YCs X vs es fs) : YC X vs (.Tuple es k pos) (tupG es.length fs) :=
  PG.by (pg_tup hc h (assign_each hn).1 (assign_each hn).2) fun v τ H Q ⟨g, σ, μ, d, R, S, r, q⟩ => by
    cases r with
    | @tup a xs ds h0 r0 =>
      replace q : postC X.K X.mg vs τ g Q (if ds.length = es.length then fs ds σ μ else none) := q
      split at q
      · rename_i hl
        exact ⟨a, xs, rfl, sqT_mono R.frz h0, by rw [← r0.length]; exact hl, g, σ, μ, ds, R, S, r0, q⟩
      · exact q.elim
    | _ => exact q.elim
/-- tests of a clause -/
abbrev YTs (X : Cx) (W : WX) (ifs : List Expr) (m : ME Bool) : Prop := PTs X ifs (tYB X.K X.mg W m)
theorem yts_nil : YTs X W [] (retE true) := ⟨fun pins s σ H Q I ⟨g, σ', μ, R, S, q⟩ => pts_nil.run pins s σ H Q I (post_ret R q rfl)⟩
theorem yts_one (h : YT X W c mt) : YTs X W [c] mt := pts_one h
/-- inside a block nothing may be raised -/
abbrev W0 : WX := fun _ _ _ _ => False
open Classical in
noncomputable def lcGo (al : Mu → Prop) (f : MG) (mt : ME Bool) (me : ME D) (σ0 : Sg) : List D → List D → Mu → Option (Out MO × Mu)
  | [], acc, μ => if al μ then some (.ok (.lst acc), μ) else none
  | d :: ds, acc, μ => if al μ then (match f d σ0 μ with
    | none => none
    | some (σ', μ1) => match okE mt σ' μ1 with
      | none => none
      | some (false, μ2) => lcGo al f mt me σ0 ds acc μ2
      | some (true, μ2) => match okE me σ' μ2 with
        | none => none
        | some (y, μ3) => if acc.length < sizeLine then lcGo al f mt me σ0 ds (acc ++ [y]) μ3 else none) else none
noncomputable def lcE (vs : List Nat) (mi : ME ItD) (f : MG) (mt : ME Bool) (me : ME D) : ME MO := bindE mi fun i σ μ => lcGo i.2 f mt me (wipeD σ vs) i.1 [] μ
theorem okE_some {α : Type} {m : ME α} {σ : Sg} {μ μ' : Mu} {a : α} (h : okE m σ μ = some (a, μ')) : m σ μ = some (.ok a, μ') := by
  unfold okE at h
  split at h
  · rename_i h'; cases h; exact h'
  · cases h
theorem GS.put_put {g g2 : GS} {p : Addr} {o : HO} (l : (g.put p o).le g2) : g.lo g2 := ⟨l.G, l.θ⟩
theorem GS.lo_put {g : GS} {p : Addr} {o : HO} : g.lo (g.put p o) := ⟨fun _ _ h => h, [], by simp [GS.put]⟩
theorem GS.lo_unput {g : GS} {F : Hp} : g.lo (g.unput F) := ⟨fun _ _ h => h, [], by simp [GS.unput]⟩
theorem GS.lo.le' {g g' : GS} (l : g.lo g') (h : g'.F = g.F) : g.le g' := ⟨l.G, h, l.θ⟩
theorem lc_by {K : PySem.W.Frag} {mg : Str → Option Value} {mi : ME ItD} {f : MG} {me : ME D} {τ : L2.St} {H : Hp} {Q : VK} (h : tYF K mg W (lcE vs mi f mt me) τ H Q) :
    tLc (tYI K mg W mi) (tYC K mg vs f) (tYB K mg W0 mt) (tY K mg W0 me) vs τ H Q := by
  obtain ⟨g, σ, μ, R, S, q⟩ := h
  refine tG_step R S q fun i μ1 g1 H1 J _ l1 R1 S1 V1 q1 => ?_
  obtain ⟨ds, al⟩ := i
  have S0 := S1.wipe vs
  generalize hσ0 : wipeD σ vs = σ0 at q1 S0
  intro A hA
  refine ⟨fun i m H => m = ds.length - i ∧ i ≤ ds.length ∧ ∃ g μ acc xs, g1.le g ∧ RS K mg g μ H ∧ g.no A ∧ H A = some (.lst xs) ∧ RVs K mg g acc xs ∧ post K mg (RlF K mg) W g τ Q (lcGo al f mt me σ0 (ds.drop i) acc μ),
    ⟨ds.length, by simp, Nat.zero_le _, g1, μ1, [], [], .refl _, R1.upd_fresh hA, R1.fresh hA, upd_same, .nil, ?_⟩, ?_⟩
  · subst hσ0; exact q1
  rintro i m H2 ⟨rfl, hil, g2, μ2, acc, xs, l2, R2, hno, hA2, r2, q2⟩
  by_cases hlt : i < ds.length
  · rw [List.drop_eq_getElem_cons hlt] at q2
    unfold lcGo at q2
    split at q2
    · rename_i hal
      have Ra := R2.aside hA2 hno
      obtain ⟨z1, z2⟩ := (V1 _ μ2 H2 i (l2.lo.trans GS.lo_put) Ra hal).1 ds[i] (List.getElem?_eq_getElem hlt)
      refine .inr ⟨z1, fun H => ∃ g μ acc xs, g1.le g ∧ RS K mg g μ H ∧ g.no A ∧ H A = some (.lst xs) ∧ RVs K mg g acc xs ∧ post K mg (RlF K mg) W g τ Q (lcGo al f mt me σ0 (ds.drop (i + 1)) acc μ),
        fun H' h => ⟨ds.length - (i + 1), by omega, rfl, hlt, h⟩, fun x H3 hy => ?_⟩
      obtain ⟨g3, l3, R3, V3⟩ := z2 x H3 hy
      match hf : f ds[i] σ0 μ2 with
      | none => rw [hf] at q2; exact q2.elim
      | some (σ4, μ4) =>
        rw [hf] at q2
        dsimp only at q2
        refine ⟨g3, σ0, μ2, ds[i], R3, (S0.lo l2.lo).lo (GS.lo_put.trans l3.lo), V3, ?_⟩
        rw [hf]
        intro g4 H4 τ4 l4 R4 S4 hw
        refine ⟨hw.trans wipe_idem, g4, σ4, μ4, R4, S4, ?_⟩
        -- the test
        match hk : okE mt σ4 μ4 with
        | none => rw [hk] at q2; exact q2.elim
        | some (k, μ5) =>
          rw [hk] at q2
          rw [okE_some hk]
          intro g5 H5 kk l5 R5 V5
          have ek : k = kk := V5
          subst ek
          have l35 : (g2.put A (.lst xs)).le g5 := l3.trans (l4.trans l5)
          cases k with
          | false =>
            rw [if_neg Bool.false_ne_true]
            obtain ⟨Rb, hA5, hn5⟩ := RS.back l35 hno R5
            have l25 : g2.le (g5.unput g2.F) := GS.le_unput l35
            exact ⟨_, μ5, acc, xs, l2.trans l25, Rb, hn5, hA5, r2.mono l25, post.mono q2 l25 fun _ _ h => h⟩
          | true =>
            rw [if_pos rfl]
            dsimp only at q2
            match hy2 : okE me σ4 μ5 with
            | none => rw [hy2] at q2; exact q2.elim
            | some (y, μ6) =>
              rw [hy2] at q2
              dsimp only at q2
              split at q2
              · rename_i hsz
                refine ⟨g5, σ4, μ5, R5, S4.mono l5, ?_⟩
                rw [okE_some hy2]
                intro g6 H6 v6 l6 R6 V6
                have l36 := l35.trans l6
                obtain ⟨Rb, hA6, hn6⟩ := RS.back l36 hno R6
                have l26 : g2.le (g6.unput g2.F) := GS.le_unput l36
                refine ⟨xs, hA6, by rw [← r2.length]; exact hsz, _, μ6, acc ++ [y], xs ++ [v6], l2.trans l26, Rb.upd_no hn6, hn6, upd_same, (r2.mono l26).append (.cons (V6.lo GS.lo_unput) .nil), post.mono q2 l26 fun _ _ h => h⟩
              · exact q2.elim
    · exact q2.elim
  · have hi : i = ds.length := by omega
    subst hi
    rw [List.drop_length] at q2
    unfold lcGo at q2
    split at q2
    · rename_i hal
      exact .inl ⟨(V1 g2 μ2 H2 ds.length l2.lo R2 hal).2 rfl, q2 g2 H2 _ (.refl _) R2 ⟨A, _, rfl, hA2, hno, xs, rfl, r2⟩⟩
    · exact q2.elim
theorem y_lc {scope : Scope} {own : List (Str × Nat)} {mi : ME ItD} {f : MG} {me : ME D} {ifs : List Expr} (hc : X.calm = true) (hN : X.N.Nodup) (hi : YI X W tg iter mi) (ok : BlkOk X.N X.env.scope scope own)
    (hg : ∀ (s : Shared) (H : Hp) (C : Addr) (cl : List (Str × Addr)) (fp : List Addr), YC (X.blk s H scope (compEnvC scope cl C X.env) fp) (own.map (·.2)) tg f)
    (ht : ∀ (s : Shared) (H : Hp) (C : Addr) (cl : List (Str × Addr)) (fp : List Addr), YTs (X.blk s H scope (compEnvC scope cl C X.env) fp) W0 ifs mt)
    (he : ∀ (s : Shared) (H : Hp) (C : Addr) (cl : List (Str × Addr)) (fp : List Addr), YE (X.blk s H scope (compEnvC scope cl C X.env) fp) W0 e me) (hs : ∀ x, foldedSetIterable iter X.env x = pure x) :
    YF X W (.ListComp e [⟨tg, iter, ifs, 0⟩] scope pos) (lcE (own.map (·.2)) mi f mt me) :=
  PE.by (pe_lc (g := tYC X.K X.mg (own.map (·.2)) f) (tt := tYB X.K X.mg W0 mt) (te := tY X.K X.mg W0 me) hc hN hi ok hg ht he hs) fun τ H Q h => lc_by h
/-- name = [..] on one line -/
theorem y_setLc {i : Nat} {y : Str} {py spos : Pos} {scope : Scope} {own : List (Str × Nat)} {mi : ME ItD} {f : MG} {me : ME D} {ifs : List Expr} {cv : ME MO → ME D} (hcv : ∀ (mf : ME MO) τ H Q, tY X.K X.mg W (cv mf) τ H Q → tYF X.K X.mg W mf τ H Q)
    (hc : X.calm = true) (hN : X.N.Nodup) (hy : X.N[i]? = some y) (hyl : X.env.scope.names.lookup y = some .local)
    (hsw : swapsWith (.ListComp e [⟨tg, iter, ifs, 0⟩] scope pos) (some (.Name y py)) spos.line X.env = pure true) (hi : YI X W tg iter mi) (ok : BlkOk X.N X.env.scope scope own)
    (hg : ∀ (s : Shared) (H : Hp) (C : Addr) (cl : List (Str × Addr)) (fp : List Addr), YC (X.blk s H scope (compEnvC scope cl C X.env) fp) (own.map (·.2)) tg f)
    (ht : ∀ (s : Shared) (H : Hp) (C : Addr) (cl : List (Str × Addr)) (fp : List Addr), YTs (X.blk s H scope (compEnvC scope cl C X.env) fp) W0 ifs mt)
    (he : ∀ (s : Shared) (H : Hp) (C : Addr) (cl : List (Str × Addr)) (fp : List Addr), YE (X.blk s H scope (compEnvC scope cl C X.env) fp) W0 e me) (hs : ∀ x, foldedSetIterable iter X.env x = pure x) :
    YS X W (.Assign [.Name y py] (.ListComp e [⟨tg, iter, ifs, 0⟩] scope pos) spos) (letS (cv (lcE (own.map (·.2)) mi f mt me)) (setG i)) :=
  PS.by (ps_setLc (own := own) (g := tYC X.K X.mg (own.map (fun q : Str × Nat => q.2)) f) (tt := tYB X.K X.mg W0 mt) (te := tY X.K X.mg W0 me) hc hN hy hyl hsw hi ok hg ht he hs) fun E τ H ⟨g, σ, μ, R, S, q⟩ => show tLc (tYI X.K X.mg W mi) (tYC X.K X.mg (own.map (·.2)) f) (tYB X.K X.mg W0 mt) (tY X.K X.mg W0 me) (own.map (·.2)) τ H (fun v H1 => E.nx (List.set τ i (some v)) H1) from
    lc_by (hcv _ _ _ _ (tS_step R S q fun d μ1 g1 H1 v _ l1 R1 S1 V1 q1 => postG_asg q1 g1 H1 _ (.refl _) R1 (S1.set V1 i)))
theorem frz_by {K : PySem.W.Frag} {mg : Str → Option Value} (mf : ME MO) (τ : L2.St) (H : Hp) (Q : VK) (h : tY K mg W (frzE mf) τ H Q) : tYF K mg W mf τ H Q := by
  obtain ⟨g, σ, μ, R, S, q⟩ := h
  refine tG_step R S q fun o μ1 g1 H1 v1 _ l1 R1 S1 V1 q1 => ?_
  obtain ⟨g2, l2, R2, V2⟩ := freezes R1 V1
  exact q1 g2 H1 v1 l2 R2 V2
theorem cel_by {K : PySem.W.Frag} {mg : Str → Option Value} (mf : ME MO) (τ : L2.St) (H : Hp) (Q : VK) (h : tY K mg W (celE mf) τ H Q) : tYF K mg W mf τ H Q := by
  obtain ⟨g, σ, μ, R, S, q⟩ := h
  refine tG_step R S q fun o μ1 g1 H1 v1 _ l1 R1 S1 V1 q1 => ?_
  obtain ⟨a, u, rfl, hu, hn, hc⟩ := V1
  refine q1 (g1.cel a) H1 _ GS.le_cel (R1.celled hu hn hc) (.cell ?_)
  show (g1.θ ++ [a])[μ1.length]? = some a
  rw [← R1.len]
  simp
/-! ### dict displays with text keys -/
def mergeD (kds : List (Key × D)) (more : List (Key × D)) : List (Key × D) := more.foldl (fun acc kv => putD acc kv.1 kv.2) kds
def pairsE : List (ME D × ME D) → ME (List (Key × D))
  | [] => retE []
  | (mk, mv) :: r => bindE mk fun k => bindE mv fun v => bindE (optE fun _ => keyOf k) fun k => bindE (pairsE r) fun ps => retE ((k, v) :: ps)
def dispE (ps : List (ME D × ME D)) : ME MO := bindE (pairsE ps) fun kvs => optE fun _ => if kvs.length ≤ 15 then some (.dic (mergeD [] kvs)) else none
inductive YPs (X : Cx) (W : WX) : List (Option Expr) → List Expr → List (ME D × ME D) → Prop
  | nil : YPs X W [] [] []
  | cons {k v : Expr} {ks : List (Option Expr)} {vs : List Expr} {mk mv : ME D} {r : List (ME D × ME D)} : YE X W k mk → YE X W v mv → YPs X W ks vs r → YPs X W (some k :: ks) (v :: vs) ((mk, mv) :: r)
theorem YPs.rule {keys : List (Option Expr)} {vals : List Expr} {ps : List (ME D × ME D)} (h : YPs X W keys vals ps) : PPs X pos keys vals (ps.map fun q => (tY X.K X.mg W q.1, tY X.K X.mg W q.2)) := by
  induction h with
  | nil => exact pps_nil
  | cons hk hv _ ih => exact pps_cons hk hv ih
theorem YPs.facts {keys : List (Option Expr)} {vals : List Expr} {ps : List (ME D × ME D)} (h : YPs X W keys vals ps) : keys.all (·.isSome) = true ∧ keys.length = vals.length := by
  induction h with
  | nil => exact ⟨rfl, rfl⟩
  | cons hk hv _ ih => exact ⟨by rw [List.all_cons, ih.1]; rfl, by rw [List.length_cons, List.length_cons, ih.2]⟩
theorem bind_bind {α β γ : Type} (m : ME α) (f : α → ME β) (h : β → ME γ) : bindE (bindE m f) h = bindE m fun a => bindE (f a) h := by
  funext σ μ
  unfold bindE
  match m σ μ with
  | none => rfl
  | some (.exc x, μ') => rfl
  | some (.ok a, μ') => rfl
theorem ret_bind {α β : Type} (a : α) (f : α → ME β) : bindE (retE a) f = f a := rfl
theorem RFs.lo {K : PySem.W.Frag} {mg : Str → Option Value} {g g' : GS} {d : List (Str × D)} {v : List (Str × V)} (l : g.lo g') (r : RFs K mg g d v) : RFs K mg g' d v := (RFs.same (g := g) (g' := ⟨g.G, g'.F, g.θ⟩) rfl rfl r).mono l.mid
theorem RX.lo {K : PySem.W.Frag} {mg : Str → Option Value} {g g' : GS} {H : Hp} {x : Ex} {cls : Value} {dx : Option Addr} (l : g.lo g') (h : RX K mg g x cls dx H) : RX K mg g' x cls dx H := by
  obtain ⟨C, h1, h2, h3⟩ := h
  refine ⟨C, h1, h2, ?_⟩
  cases hx : x.fs with
  | nil => rw [hx] at h3; exact h3
  | cons p r =>
    rw [hx] at h3
    obtain ⟨d, fs', e1, e2, r'⟩ := h3
    exact ⟨d, fs', e1, e2, r'.lo l⟩
theorem GS.unput_le {g g' : GS} (F : Hp) (l : g.le g') : (g.unput F).le (g'.unput F) := ⟨l.G, rfl, l.θ⟩
/-- one part, while p stands aside -/
theorem tG_put {α β γ δ : Type} {K : PySem.W.Frag} {mg : Str → Option Value} {g g' : GS} {σ : Sg} {μ : Mu} {H : Hp} {τ : L2.St} {W : WX} {Rl : GS → α → β → Hp → Prop} {Rl2 : GS → γ → δ → Hp → Prop} {m : ME α} {f : α → ME γ} {Q : δ → Hp → Prop} {R : β → Hp → Prop} {p : Addr} {o : HO}
    (hl : (g.put p o).le g') (h1 : g.no p) (hR : RS K mg g' μ H) (hS : RSl K mg g' σ τ) (hp : post K mg Rl2 W (g'.unput g.F) τ Q (bindE m f σ μ))
    (hk : ∀ a μ1 g1 H1 b, g'.le g1 → RS K mg g1 μ1 H1 → RSl K mg g1 σ τ → Rl g1 a b H1 → post K mg Rl2 W (g1.unput g.F) τ Q (f a σ μ1) → R b H1) : tG K mg Rl W m τ H R := by
  refine ⟨g', σ, μ, hR, hS, ?_⟩
  unfold bindE at hp
  match hm : m σ μ with
  | none => rw [hm] at hp; exact hp
  | some (.exc x, μ1) =>
    rw [hm] at hp
    exact fun g1 H1 cls dx l1 R1 X1 => hp (g1.unput g.F) H1 cls dx (GS.unput_le _ l1) (RS.back (hl.trans l1) h1 R1).1 (X1.lo GS.lo_unput)
  | some (.ok a, μ1) =>
    rw [hm] at hp
    exact fun g1 H1 b l1 R1 V1 => hk a μ1 g1 H1 b l1 R1 (hS.mono l1) V1 (post.mono hp (GS.unput_le _ l1) fun _ _ h => h)
theorem pairs_put {K : PySem.W.Frag} {mg : Str → Option Value} {α β : Type} {Rl : GS → α → β → Hp → Prop} {τ : L2.St} {Q : β → Hp → Prop} {W : WX} {g : GS} {p : Addr} {o : HO} (h1 : g.no p) :
    ∀ {ps : List (ME D × ME D)} {f : List (Key × D) → ME α} {T : List (V × V) → Hp → Prop} {g' : GS} {σ : Sg} {μ : Mu} {H : Hp}, (g.put p o).le g' → RS K mg g' μ H → RSl K mg g' σ τ → post K mg Rl W (g'.unput g.F) τ Q (bindE (pairsE ps) f σ μ) →
    (∀ kds μ1 g1 H1 kvs, g'.le g1 → RS K mg g1 μ1 H1 → RSl K mg g1 σ τ → RKs K mg g1 kds kvs → post K mg Rl W (g1.unput g.F) τ Q (f kds σ μ1) → T (kvs.map fun kv => (kV kv.1, kv.2)) H1) →
    tPairs (ps.map fun q => (tY K mg W q.1, tY K mg W q.2)) τ H T
  | [], f, T, g', σ, μ, H, hl, R, S, q, k => k [] μ g' H [] (.refl _) R S .nil q
  | (mk, mv) :: r, f, T, g', σ, μ, H, hl, R, S, q, k => by
    have q' : post K mg Rl W (g'.unput g.F) τ Q (bindE mk (fun x => bindE mv fun v => bindE (optE fun _ => keyOf x) fun kk => bindE (pairsE r) fun ps => f ((kk, v) :: ps)) σ μ) := by
      have z : bindE (pairsE ((mk, mv) :: r)) f = bindE mk (fun x => bindE mv fun v => bindE (optE fun _ => keyOf x) fun kk => bindE (pairsE r) fun ps => f ((kk, v) :: ps)) := by
        show bindE (bindE mk _) f = _
        simp only [bind_bind, ret_bind]
      rw [← z]
      exact q
    refine tG_put hl h1 R S q' fun x μ1 g1 H1 u l1 R1 S1 V1 q1 => tG_put (hl.trans l1) h1 R1 S1 q1 fun v μ2 g2 H2 w l2 R2 S2 V2 q2 => ?_
    obtain ⟨kk, ek, q3⟩ := post_chk q2
    refine pairs_put h1 (hl.trans (l1.trans l2)) R2 S2 q3 fun kds μ3 g3 H3 kvs l3 R3 S3 V3 q4 => ?_
    have z := k ((kk, v) :: kds) μ3 g3 H3 ((kk, w) :: kvs) (l1.trans (l2.trans l3)) R3 S3 (.cons (V2.mono l3) V3) q4
    rw [List.map_cons] at z
    dsimp only at z
    rw [← keyOf_ok V1 ek] at z
    exact z
theorem RKs.merge {K : PySem.W.Frag} {mg : Str → Option Value} {g : GS} : ∀ {more : List (Key × D)} {mv : List (Key × V)} {kds : List (Key × D)} {kvs : List (Key × V)}, RKs K mg g more mv → RKs K mg g kds kvs → RKs K mg g (mergeD kds more) (mergeK kvs mv)
  | _, _, _, _, .nil, r => r
  | (k, d) :: ds, (_, v) :: vs, kds, kvs, .cons h t, r => RKs.merge (more := ds) (mv := vs) t (putD_ok r h)
theorem RKs.lo {K : PySem.W.Frag} {mg : Str → Option Value} {g g' : GS} {d : List (Key × D)} {v : List (Key × V)} (l : g.lo g') (r : RKs K mg g d v) : RKs K mg g' d v := (RKs.same (g := g) (g' := ⟨g.G, g'.F, g.θ⟩) rfl rfl r).mono l.mid
theorem y_disp {keys : List (Option Expr)} {vals : List Expr} {ps : List (ME D × ME D)} (h : YPs X W keys vals ps) (h0 : keys ≠ []) (h15 : keys.length ≤ 15) : YF X W (.Dict keys vals pos) (dispE ps) :=
  PE.by (pe_disp h.rule h.facts.1 h.facts.2 h0 h15) fun τ H Q ⟨g, σ, μ, R, S, q⟩ => by
    intro A hA
    have hno := R.fresh hA
    have Ra := (R.upd_fresh (o := .dK []) hA).aside upd_same hno
    refine pairs_put hno (.refl _) Ra (S.lo GS.lo_put) (show post X.K X.mg (RlF X.K X.mg) W ((g.put A (.dK [])).unput g.F) τ Q (dispE ps σ μ) from q) fun kds μ1 g1 H1 kvs l1 R1 S1 V1 q1 => ?_
    obtain ⟨Rb, hA1, hn1⟩ := RS.back l1 hno R1
    obtain ⟨od, e1, q2⟩ := post_opt q1
    split at e1
    · rename_i hl
      cases e1
      refine ⟨hA1, kvs, rfl, by rw [← V1.length]; exact hl, ?_⟩
      exact q2 _ _ _ (.refl _) (Rb.upd_no hn1) ⟨A, _, rfl, upd_same, hn1, _, rfl, (V1.lo GS.lo_unput).merge .nil⟩
    · cases e1
def disp0 : ME MO := retE (.dic [])
theorem y_disp0 : YF X W (.Dict [] [] pos) disp0 :=
  PE.by pe_dnewK fun τ H Q ⟨g, σ, μ, R, S, q⟩ => fun A hA => q g _ _ (.refl _) (R.upd_fresh hA) ⟨A, _, rfl, upd_same, R.fresh hA, [], rfl, .nil⟩
end
end Yf

/-! Y11: enumerate over tuples. -/
namespace Yf
open PySem PySem.Spec PyProof.Rows L2 RZ
/-- the cell enumerate(v) lays over v's iterator -/
abbrev enC (i : Addr) : Obj := { cls := .type "enumerate", data := .fields #[.none, .bool false, .ref i, rawInt 0, .none, .none] }
theorem meets_enum1 {v : Value} {o : Obj} {P : Heap → Prop} (B : Begins v o P) :
    Meets (Builtin.«enumerate.__new__» ⟨[.type "enumerate", v], []⟩) (fun _ R s => P s.heap ∧ R (.ok (.ret (.ref (s.heap.push o).objs.size))) { s with heap := (s.heap.push o).push (enC s.heap.objs.size) }) :=
  .of_wp fun prog w A R s q => by
    obtain ⟨hp, gn, dd, tk, os⟩ := s
    obtain ⟨qa, qb⟩ := q
    have es := sub_enumerate
    have bi : ∀ {A' : Around} {E : Value → Shared → Prop} {Q : Value → Shared → Prop}, Q (.ref hp.objs.size) ⟨hp.push o, gn, dd, tk, os⟩ → wpAny (model prog w) A' (pyIter v) Q E ⟨hp, gn, dd, tk, os⟩ :=
      fun z => B.iter prog w _ _ ⟨hp, gn, dd, tk, os⟩ _ qa z
    wp_walk using bi
    refine wpAny_stack_any fun stk => wpAny_pure ?_
    split
    · rename_i c _ _ _ _ _
      cases (c == Value.type "enumerate")
      · wp_walk using bi
        exact ⟨_, rfl, qb⟩
      · wp_walk using bi
        exact ⟨_, rfl, qb⟩
    · wp_walk using bi
      exact ⟨_, rfl, qb⟩
theorem call_enum1 {prog : Program} {w : World} {A : Around} {E : Value → Shared → Prop} {s : Shared} {v : Value} {o : Obj} {P : Heap → Prop} {Q : Value → Shared → Prop} (B : Begins v o P) (hP : P s.heap)
    (k : ∀ h', IsEnum h' (s.heap.objs.size + 1) s.heap.objs.size 0 .none → h'.get? s.heap.objs.size = some o → (∀ b u, s.heap.get? b = some u → h'.get? b = some u) → Q (.ref (s.heap.objs.size + 1)) { s with heap := h' }) :
    wpAny (model prog w) A (call (.type "enumerate") [v]) Q E s := by
  refine callType_new F.called_enumerate (by decide) (F.typeCall_enumerate_1 _) (F.newCall_enumerate_1 _) (fun obj => F.args_object_init_2 obj _) F.entry_enumerate_new (meets_enum1 B) ⟨hP, ?_⟩
  have sz : (s.heap.push o).objs.size = s.heap.objs.size + 1 := Heap.size_push ..
  have en : IsEnum ((s.heap.push o).push (enC s.heap.objs.size)) (s.heap.objs.size + 1) s.heap.objs.size 0 .none := by
    have z := Heap.get?_push_size (s.heap.push o) (o := enC s.heap.objs.size) rfl
    rw [sz] at z
    exact z
  show _ ∧ _
  rw [sz]
  exact ⟨⟨_, en, rfl⟩, k _ en (Heap.get?_push_of_some _ (Heap.get?_push_size _ B.free)) fun b u x => Heap.get?_push_of_some _ (Heap.get?_push_of_some _ x)⟩
/-- the tuple at a, each item in a new pair -/
def IteT (K : PySem.W.Frag) (a : Addr) : It :=
  ⟨fun i H => ∃ (xs : List V) (x : V), SqT K H a xs ∧ xs[i]? = some x,
   fun i H v H' => ∃ T x, v = .ref T ∧ H T = none ∧ H' = upd H T (.tup [.int (i : Nat), x]) ∧ ∀ xs, SqT K H a xs → xs[i]? = some x,
   fun i H => ∃ xs : List V, SqT K H a xs ∧ xs.length = i⟩
theorem turn_enumT {P : Program} {w : World} {K : PySem.W.Frag} {elts : List Expr} {kk : Nat} {tpos : Pos} (a e it : Addr) :
    Turn P w K (.Tuple elts kk tpos) (IteT K a) [e, it] e (fun i h => (∃ old, IsEnum h e it ((i : Nat) : Int) old) ∧ h.IsTupleIter it a i ∧ e ≠ it ∧ a ≠ it ∧ a ≠ e) where
  mem := by simp
  obj := fun i h st b hb => by
    obtain ⟨⟨old, he⟩, ⟨o, ho, hc, hd⟩, _⟩ := st
    rcases (show b = e ∨ b = it by simpa using hb) with z | z
    · rw [z]; exact ⟨_, he, fun v q => nomatch q⟩
    · rw [z]; exact ⟨o, ho, fun v q => by rw [hd] at q; cases q⟩
  keep := fun i h h' st k => let ⟨⟨old, he⟩, hi, hne⟩ := st; ⟨⟨old, k e (by simp) _ he⟩, hi.at fun o q => k it (by simp) o q, hne⟩
  item := by
    intro X hP hw hK hc i pins s σ H E I hf st hg
    subst hP hw hK
    obtain ⟨⟨old, he⟩, hit, hne, hai, hae⟩ := st
    obtain ⟨xs, x, hq, hx⟩ := hg
    obtain ⟨its, rv, p, hz⟩ := I.tuple hq
    obtain ⟨u, hu, ru⟩ := rv.get hx
    have hel : e < s.heap.objs.size := Heap.lt_size he
    have hil : it < s.heap.objs.size := by obtain ⟨_, q, _⟩ := hit; exact Heap.lt_size q
    have hlt : i < its.toArray.size := by
      have z := (List.getElem?_eq_some_iff.mp hu).1
      simpa using z
    have D : Draws X.prog X.w X.A.in1 it [it, a] its.toArray.size (fun i v => its.toArray[i]? = some v) (fun i h => h.IsTupleIter it a i ∧ h.IsTuple a its.toArray) := Draws.tuple (show X.A.in1.handled = none from I.ok.hd hc) it a hai its.toArray
    refine wpAny_pyNext_enum_itemD D he ⟨hit, p⟩ hlt hne (by simp [hne, Ne.symm hae]) fun y h' tk hPx ho hit' hT hsz hk => ?_
    have ey : y = u := by
      have z : its[i]? = some y := by simpa using hPx
      rw [hu] at z
      exact (Option.some.inj z).symm
    subst ey
    refine ⟨_, rfl, wpAny_letOwnedTupleGo_enum (s := { s with heap := h', toks := tk + 1 }) ho fun h'' he' sb => ?_⟩
    have hT2 : h''.get? s.heap.objs.size = some { cls := .type "tuple", data := .seq #[.int i tk, y] } := (sb.2 _ (Nat.ne_of_gt hel)).trans hT
    have new : ObjOk X.prog X.w (upd H s.heap.objs.size (.tup [.int (i : Nat), x])) h'' s.heap.objs.size (.tup [.int (i : Nat), x]) :=
      ⟨by show 2 ≤ sizeLine; decide, [.int i tk, y], .cons ⟨_, rfl⟩ (.cons ru .nil), ⟨_, hT2, rfl, _, rfl⟩⟩
    have I1 : Inv X pins σ (upd H s.heap.objs.size (.tup [.int (i : Nat), x])) { s with heap := h'', toks := tk + 1 } :=
      I.turnedNew (ch := [e, it]) (fun b ob hb q => (sb.2 b (fun z => hb (by simp [z]))).trans (hk b ob (fun z => hb (by simp [z])) (fun z => hb (by simp [z])) q)) hf (Nat.le_refl _) new
    refine ⟨.ref s.heap.objs.size, _, I1, rfl, ⟨_, x, rfl, I.hok.fresh (Nat.le_refl _), rfl, fun ys hy => by rw [I.tuple_inj hy hq]; exact hx⟩, ⟨⟨y, ?_⟩, hit'.1.at fun o q => (sb.2 it (Ne.symm hne)).trans q, hne, hai, hae⟩, fun b hb => ?_⟩
    · rw [show ((i + 1 : Nat) : Int) = (i : Int) + 1 by omega]; exact he'
    · have hb' : b < s.heap.objs.size := by
        rcases (show b = e ∨ b = it by simpa using hb) with z | z
        · rw [z]; exact hel
        · rw [z]; exact hil
      rw [upd_ne (Nat.ne_of_lt hb')]
      exact (hf b hb).1
  done := by
    intro X hP hw hK hc i pins s σ H E I hf st hg
    subst hP hw hK
    obtain ⟨⟨old, he⟩, hit, hne, hai, hae⟩ := st
    obtain ⟨xs, hq, hx⟩ := hg
    obtain ⟨its, rv, p, hz⟩ := I.tuple hq
    have hl := rv.length
    have D : Draws X.prog X.w X.A.in1 it [it, a] its.toArray.size (fun i v => its.toArray[i]? = some v) (fun i h => h.IsTupleIter it a i ∧ h.IsTuple a its.toArray) := Draws.tuple (show X.A.in1.handled = none from I.ok.hd hc) it a hai its.toArray
    have hi : i = its.toArray.size := by rw [← hx, hl]; simp
    refine wpAny_pyNext_enum_endD D he (hi ▸ ⟨hit, p⟩) fun h' eb => ⟨rfl, ?_⟩
    obtain ⟨f0, f1, f2, f3, f4, f5⟩ := hf it (by simp)
    exact I.turned (t' := s.toks) (fun b o hb q => eb b o hb q) f0 f1 f3 f4 f5
  self := fun A i s Q E st h => let ⟨⟨_, he⟩, _⟩ := st; wpAny_pyIter_enum he h
theorem it_enumT {K : PySem.W.Frag} {mg : Str → Option Value} {g : GS} {a : Addr} {ds : List D} (r : RV K mg g (.tup ds) (.ref a)) : ItOk K mg g (enumD ds, fun _ => True) (IteT K a) := by
  intro g' μ H k l R _
  cases r.lo l with
  | tup h0 rs =>
  have hs := sqT_mono R.frz h0
  refine ⟨fun d0 hd => ?_, fun hk => ⟨_, hs, by rw [← rs.length]; simpa [enumD] using hk⟩⟩
  unfold enumD at hd
  rw [List.getElem?_zipWith] at hd
  cases hr : (List.range ds.length)[k]? with
  | none => rw [hr] at hd; cases hd
  | some k' =>
    cases hx0 : ds[k]? with
    | none => rw [hr, hx0] at hd; cases hd
    | some d1 =>
      rw [hr, hx0] at hd
      cases hd
      have hk : k' = k := by
        have hkl := (List.getElem?_eq_some_iff.mp hx0).1
        rw [List.getElem?_range hkl] at hr
        cases hr
        rfl
      subst hk
      obtain ⟨x, hx, rx⟩ := rs.get hx0
      refine ⟨⟨_, x, hs, hx⟩, fun x' H' ⟨T, y, e2, hT, e3, hy⟩ => ?_⟩
      have z := hy _ hs
      rw [hx] at z
      cases z
      subst e2
      subst e3
      have lg := R.le_lay (o := .tup [.int (k' : Int), x]) hT
      exact ⟨_, lg, R.lay hT, .tup (.inl (.inl GS.add_at)) (.cons (.int _) (.cons (rx.mono lg) .nil))⟩
section
variable {X : Cx} {W : WX} {a : Expr} {es elts : List Expr} {pos p tpos : Pos} {kk : Nat} {ms : ME (List D)}
def iEnumT (K : PySem.W.Frag) (ta : TA) : TI := fun σ H R => ta σ H fun vs H1 => ∃ a xs, vs = [.ref a] ∧ SqT K H1 a xs ∧ R (IteT K a) H1
theorem pi_enumT {ta : TA} (hg : Gl X "enumerate") (hm : X.mg "enumerate" = none) (ha : PA X [a] ta) (hs : starEach [a] X.env = [(false, eval a X.env)]) :
    PI X (.Tuple elts kk tpos) (.Call (.Name "enumerate" p) [a] [] pos) (iEnumT X.K ta) := by
  refine ⟨fun pins s σ H R I h => ?_⟩
  refine Call_ (ld_blt I hg hm boot_enumerate (PyProof.Rows.callWith_type1 (thn (ha.run pos pins s σ H _ I h) fun us s1 ⟨vs, H1, I1, r1, q1⟩ => ?_) hs rfl))
  obtain ⟨b, xs, ex, hq, q⟩ := q1
  subst ex
  cases r1 with
  | cons r rr =>
    cases rr
    cases r
    obtain ⟨its, rv, pt, hz⟩ := I1.tuple hq
    have hb : b < s1.heap.objs.size := by obtain ⟨o, ho, _⟩ := id pt; exact Heap.lt_size ho
    refine call_enum1 (begins_tuple b its.toArray) (show s1.heap.IsTuple b its.toArray from pt) fun h' he hit hk => wpAny_pyIter_enum he ?_
    have I2 : Inv X pins σ H1 { s1 with heap := h' } := I1.kept (t' := s1.toks) hk
    have ne1 : b ≠ s1.heap.objs.size := Nat.ne_of_lt hb
    have ne2 : b ≠ s1.heap.objs.size + 1 := Nat.ne_of_lt (Nat.lt_succ_of_lt hb)
    refine ⟨s1.heap.objs.size + 1, [s1.heap.objs.size + 1, s1.heap.objs.size], _, _, H1, rfl, I2, turn_enumT b (s1.heap.objs.size + 1) s1.heap.objs.size, ⟨⟨.none, he⟩, ⟨_, hit, rfl, rfl⟩, Nat.succ_ne_self _, ne1, ne2⟩, fun c hc => ?_, q⟩
    have hle : s1.heap.objs.size ≤ c := by
      rcases (show c = s1.heap.objs.size + 1 ∨ c = s1.heap.objs.size by simpa using hc) with z | z
      · rw [z]; exact Nat.le_add_right _ _
      · rw [z]; exact Nat.le_refl _
    exact I1.fpOk hle (I1.hok.fresh hle)
def inEnumT (ms : ME (List D)) : ME ItD := bindE ms fun ds => optE fun _ => match ds with
  | [.tup ds] => some (enumD ds, fun _ => True)
  | _ => none
theorem yi_enumT (hg : Gl X "enumerate") (hm : X.mg "enumerate" = none) (h1 : noStar a = true) (ha : YA X W [a] ms) : YI X W (.Tuple elts kk tpos) (.Call (.Name "enumerate" p) [a] [] pos) (inEnumT ms) :=
  PI.by (pi_enumT hg hm ha (star_cons h1)) fun τ H Q ⟨g, σ, μ, R, S, q⟩ => tG_step R S q fun ds μ1 g1 H1 vs hms l1 R1 S1 V1 q1 => by
    obtain ⟨i, e1, q2⟩ := post_opt q1
    split at e1
    · obtain ⟨v, rfl, r⟩ := rvs1 V1
      cases e1
      cases r with
      | tup h0 rs => exact ⟨_, _, rfl, sqT_mono R1.frz h0, post_ret R1 q2 (it_enumT (.tup h0 rs))⟩
    · cases e1
end
end Yf

/-! Y12: functions and calls. -/
namespace Yf
open PySem PySem.Spec PyProof.Rows L2 RZ

abbrev FD := List D → Mu → Option (Out D × Mu)
abbrev WQ (E : XK) : WX := fun cls dx _ H => E cls dx H
/-- a function's promise: what F tells -/
def spF (K : PySem.W.Frag) (mg : Str → Option Value) (F : FD) : Sp := fun vs H Q E => ∃ g μ ds, RS K mg g μ H ∧ RVs K mg g ds vs ∧ post K mg (RlV K mg) (WQ E) g [] Q (F ds μ)
/-- a body run on its arguments: n of them, k more names -/
def runF (n k : Nat) (m : MS) : FD := fun ds μ => if ds.length = n then (match m (ds.map some ++ List.replicate k none) μ with
  | some (.nx, _, μ') => some (.ok .non, μ')
  | some (.rt d, _, μ') => some (.ok d, μ')
  | some (.ex x, _, μ') => some (.exc x, μ')
  | _ => none) else none
structure FnG (P : Program) (w : World) (K : PySem.W.Frag) (mg : Str → Option Value) (base : Heap) (k : Nat) (f : Addr) (fd : FuncData) (n : Nat) (ps : List Str) (F : FD) : Prop where
  num : ps.length = n
  len : ∀ ds μ r, F ds μ = some r → ds.length = n
  run : ∀ (A : Around) (outer : List Env) (s : Shared) (H : Hp) (args : Args) (us : List Value) (vs : List V) (Q : VK) (E : XK), Room k A → A.guards = some [] → Env0 P w K mg base A outer s H → BindsTo s fd args (ps.zip us) → Vals vs us →
    spF K mg F vs H Q E → codeAny (model P w) A (.call (.ref f) args) (CR (L2.CX P w) outer P w H s Q E) s
theorem post_some {K : PySem.W.Frag} {mg : Str → Option Value} {α β : Type} {Rl : GS → α → β → Hp → Prop} {W : WX} {g : GS} {τ : L2.St} {Q : β → Hp → Prop} {r : Option (Out α × Mu)} (h : post K mg Rl W g τ Q r) : ∃ x, r = some x := by
  cases r with
  | none => exact h.elim
  | some x => exact ⟨x, rfl⟩
section
variable {P : Program} {w : World} {K : PySem.W.Frag} {mg : Str → Option Value} {base : Heap}
theorem FnG.mono {j k : Nat} {f : Addr} {fd : FuncData} {n : Nat} {ps : List Str} {F : FD} (G : FnG P w K mg base j f fd n ps F) (h : j ≤ k) : FnG P w K mg base k f fd n ps F :=
  ⟨G.num, G.len, fun A outer s H args us vs Q E hr => G.run A outer s H args us vs Q E (hr.mono h)⟩
/-- another reckoning that serves -/
theorem FnG.imp {k : Nat} {f : Addr} {fd : FuncData} {n : Nat} {ps : List Str} {F F' : FD} (G : FnG P w K mg base k f fd n ps F) (hl : ∀ ds μ r, F' ds μ = some r → ds.length = n) (h : ∀ vs H Q E, spF K mg F' vs H Q E → spF K mg F vs H Q E) : FnG P w K mg base k f fd n ps F' :=
  ⟨G.num, hl, fun A outer s H args us vs Q E hr hg e0 hb r hs => G.run A outer s H args us vs Q E hr hg e0 hb r (h _ _ _ _ hs)⟩
/-- what a body may lean on -/
structure Body (X : Cx) (W : WX) (k : Nat) : Prop extends Air X where
  po : PassesOwn (model X.prog X.w) X.A X.env X.xe
  pa : ∀ σ, PassesAt (L2.CX X.prog X.w) X σ (WE W σ)
  tk : Takes X W
  rm : Room k X.A
abbrev cxY (P : Program) (w : World) (K : PySem.W.Frag) (mg : Str → Option Value) (base : Heap) (N : List Str) (qual : Str) (scope : Scope) (f : Addr) (cd : Value) (A : Around) (outer : List Env) (s : Shared) (H : Hp) (E : XK) : Cx :=
  cxOf (L2.CX P w) P w K mg base N qual scope f cd A outer s H E
theorem start_sl {g : GS} {ds : List D} {vs : List V} {N : List Str} (r : RVs K mg g ds vs) : RSl K mg g (ds.map some ++ List.replicate (N.length - ds.length) none) (L2.start N vs) := by
  have hl := r.length
  unfold L2.start
  refine ⟨by simp [hl], fun i d e => ?_⟩
  by_cases hi : i < ds.length
  · rw [List.getElem?_append_left (by simpa using hi), List.getElem?_map] at e
    cases hd : ds[i]? with
    | none => rw [hd] at e; cases e
    | some d' =>
      rw [hd] at e
      cases e
      obtain ⟨v, hv, rv⟩ := r.get hd
      exact ⟨v, by rw [List.getElem?_append_left (by rw [List.length_map, ← hl]; exact hi), List.getElem?_map, hv]; rfl, rv⟩
  · rw [List.getElem?_append_right (by simpa using Nat.le_of_not_lt hi), List.getElem?_replicate] at e
    split at e <;> cases e
/-- THE RULE for a def -/
theorem fnG {x qual : Str} {st : Stmt} {f : Addr} {fd : FuncData} {N ps : List Str} {k n l : Nat} {m : MS} (Fn : Fun K x qual st f fd) (S : FnScope N ps (defScope st)) (hn : ps.length = n) (hl : N.length = n + l)
    (hb : ∀ (cdv : Value) (A : Around) (outer : List Env) (s : Shared) (H : Hp) (E : XK), Body (cxY P w K mg base N qual (defScope st) f cdv A outer s H E) (WQ E) k → YSs (cxY P w K mg base N qual (defScope st) f cdv A outer s H E) (WQ E) (defBody st) m) :
    FnG P w K mg base (k + 1) f fd n ps (runF n l m) := by
  obtain ⟨oc, od, kV, doc, pm, an, cdv, ct, osl, rfl, lk, hcd⟩ := Fn.ex
  refine ⟨hn, fun ds μ r e => ?_, fun A outer s H args us vs Q E hr hgd e0 hbd r hsp => ?_⟩
  · unfold runF at e
    split at e
    · assumption
    · cases e
  obtain ⟨g, μ, ds, R, rs, q⟩ := hsp
  have hds : ds.length = n := by
    unfold runF at q
    split at q
    · assumption
    · exact q.elim
  have hvl : vs.length = ps.length := by rw [← rs.length, hds, hn]
  have inK : K.In s.heap := e0.mod.kin.keeps fun b o e => (e0.bs b o e).1
  have noL : s.heap.NoLimit := e0.mod.nolimit.keeps fun b o e => (e0.bs b o e).1
  have kinds : ∀ y ∈ ps.zip us, (defScope st).names.lookup y.1 = some .local ∨ ((defScope st).names.lookup y.1 = some .cell ∧ ((cellsFrom (s.heap.objs.size + 1) (defScope st).names []).lookup y.1).isSome = true) := by
    rintro ⟨nm, vv⟩ hy
    rcases S.par nm (List.of_mem_zip hy).1 with z | z
    · exact .inl z
    · exact .inr ⟨z, PySem.W.cellsFrom_some _ _ _ (.inl z)⟩
  refine codeAny_call_function hr.depth (inK _ _ lk) rfl S.co S.gen rfl (PySem.W.codeRec_of inK hcd) (hbd _ _ _ _ ?_)
  refine wpAny_newFunctionEnv_cells S.kind kinds fun env he sx hx => ?_
  subst he
  refine ⟨noL.keeps hx.toInCall.keep, codeAny_func ?_⟩
  have J : Inv (cxY P w K mg base N qual (defScope st) f cdv A outer s H E) [] (L2.start N vs) H sx := inv_start S hr.hd e0 hvl r hx
  have tk : Takes (cxY P w K mg base N qual (defScope st) f cdv A outer s H E) (WQ E) := takes_of (E₁ := fun e' s'' => L2.CX P w outer H s E e' s'') rfl rfl rfl rfl
  have B : Body (cxY P w K mg base N qual (defScope st) f cdv A outer s H E) (WQ E) k := ⟨⟨rfl, hgd, by have := (hr.deeper (envOfC qual (defScope st) s.heap.objs.size f cdv)).un; show A.units + 3 + 64 < _; have h3 := hr.un; omega⟩, passes_of (E₁ := fun e' s'' => L2.CX P w outer H s E e' s'') (K := fun e s'' => L2.CX P w outer H s E e s'') rfl, fun σ => passAt tk σ, tk, hr.deeper _⟩
  have ht := hb cdv A outer s H E B
  have nl : N.length - ds.length = l := by omega
  have hq : tYS K mg (WQ E) m { nx := fun _ H' => Q .non H', rt := Q } (L2.start N vs) H := by
    refine ⟨g, _, μ, R, start_sl rs, ?_⟩
    rw [nl]
    unfold runF at q
    rw [if_pos hds] at q
    match hm : m (ds.map some ++ List.replicate l none) μ with
    | none => rw [hm] at q; exact q
    | some (.nx, σ', μ') => rw [hm] at q; exact fun g' H' τ' l R' S' => q g' H' .non l R' .non
    | some (.bk, σ', μ') => rw [hm] at q; exact q.elim
    | some (.ct, σ', μ') => rw [hm] at q; exact q.elim
    | some (.rt d, σ', μ') => rw [hm] at q; exact fun g' H' v l R' r' => q g' H' v l R' r'
    | some (.ex x, σ', μ') => rw [hm] at q; exact fun g' H' τ' cls dx l R' S' X' => q g' H' cls dx l R' X'
  refine wpAny_mono (ht.run [] sx (L2.start N vs) H _ J hq) (fun fl s' hs => ?_) fun e s' hs => hs
  have done : ∀ {σ' : L2.St} {H' : Hp} {v : V} {u : Value}, Inv (cxY P w K mg base N qual (defScope st) f cdv A outer s H E) [] σ' H' s' → RelV v u → Q v H' → CE outer P w H s Q u s' :=
    fun {σ' H' v u} J rv q => ⟨v, H', J.os, J.bare, J.base, J.hok, rv, q⟩
  cases fl with
  | ret u => obtain ⟨v, σ', H', J', rv, q'⟩ := hs; exact done J' rv q'
  | next => obtain ⟨σ', H', J', q'⟩ := hs; exact done (v := V.non) (u := Value.none) J' rfl q'
  | brk => obtain ⟨_, _, _, q'⟩ := hs; exact q'.elim
  | cont => obtain ⟨_, _, _, q'⟩ := hs; exact q'.elim
end
/-! ### calls -/
section
variable {X : Cx} {W : WX} {k n : Nat} {f C : Addr} {fd : FuncData} {ps : List Str} {F : FD} {x m : Str} {p pos apos : Pos} {e o : Expr} {es : List Expr} {mo : ME D} {ms : ME (List D)}
theorem runG {pins : List (Addr × Obj)} {σ : L2.St} {H : Hp} {s : Shared} {Q : VK} {us : List Value} {vs : List V} {E : XK} (G : FnG X.prog X.w X.K X.mg X.base k f fd n ps F) (hr : Room k X.A) (hgd : X.A.guards = some []) (hb : Binds X.K fd ps []) (hx : PassesAt (L2.CX X.prog X.w) X σ E)
    (I : Inv X pins σ H s) (r : Vals vs us) (h : spF X.K X.mg F vs H Q E) : wpAny (model X.prog X.w) X.A (call (.ref f) us) (EP X pins σ Q) X.xe s := by
  have hl : us.length = ps.length := by
    obtain ⟨g, μ, ds, R, rs, q⟩ := h
    obtain ⟨y, hy⟩ := post_some q
    rw [← r.length, ← rs.length, G.len _ _ _ hy, G.num]
  have b := hb s us I.kIn (by rw [List.append_nil]; exact hl)
  rw [List.append_nil] at b
  refine wpAny_call (codeAny_mono (G.run X.A X.stack s H ⟨us, []⟩ us vs Q E hr hgd I.env0 b r h) fun rr s' hq => ?_)
  match rr, hq with
  | .error e, hq => exact hx pins H s e s' I hq
  | .ok (.ret u), hq => exact I.after hq
  | .ok .next, hq => exact hq.elim
  | .ok .brk, hq => exact hq.elim
  | .ok .cont, hq => exact hq.elim
def callE (F : FD) (ms : ME (List D)) : ME D := bindE ms fun ds _ μ => F ds μ
/-- the promise, from what the call is to tell -/
theorem spF_of {K : PySem.W.Frag} {mg : Str → Option Value} {g : GS} {μ : Mu} {H : Hp} {τ : L2.St} {ds : List D} {vs : List V} {Q : VK} (R : RS K mg g μ H) (r : RVs K mg g ds vs) (q : post K mg (RlV K mg) W g τ Q (F ds μ)) : spF K mg F vs H Q (WE W τ) := by
  refine ⟨g, μ, ds, R, r, ?_⟩
  match h : F ds μ with
  | none => rw [h] at q; exact q
  | some (.ok d, μ') => rw [h] at q; exact q
  | some (.exc y, μ') => rw [h] at q; exact q
theorem y_call (G : FnG X.prog X.w X.K X.mg X.base k f fd n ps F) (hr : Room k X.A) (hgd : X.A.guards = some []) (hx : ∀ σ, PassesAt (L2.CX X.prog X.w) X σ (WE W σ)) (hg : Gl X x) (hm : X.mg x = some (.ref f)) (hk : PySem.W.keepIn X.K (.ref f) = true) (hb : Binds X.K fd ps [])
    (hd : (x == ("__debug__" : Str)) = false) (h1 : noStar e = true) (h2 : es.all noStar = true) (ha : YA X W (e :: es) ms) : YE X W (.Call (.Name x p) (e :: es) [] pos) (callE F ms) := by
  refine ⟨fun pins s τ H Q I ⟨g, σ, μ, R, S, q⟩ => ?_⟩
  refine wpAny_Call_Name_kw (ld_glob I hg hm ?_ hd)
  refine PySem.W.callWith_K (h₀ := X.base) I.ok.mod.kin hk (thn (ha.run pos pins s τ H (fun vs H1 => spF X.K X.mg F vs H1 Q (WE W τ)) I ?_) fun us s1 ⟨vs, H1, I1, r, q1⟩ => ⟨I1.kIn, ?_⟩) (star_cons h1) (star_plain h2)
  · exact tG_step R S q fun ds μ1 g1 H1 vs _ l1 R1 S1 V1 q1 => spF_of R1 V1 q1
  · exact runG G hr hgd hb (hx τ) I1 r q1
theorem y_call0 (G : FnG X.prog X.w X.K X.mg X.base k f fd n ps F) (hr : Room k X.A) (hgd : X.A.guards = some []) (hx : ∀ σ, PassesAt (L2.CX X.prog X.w) X σ (WE W σ)) (hg : Gl X x) (hm : X.mg x = some (.ref f)) (hk : PySem.W.keepIn X.K (.ref f) = true) (hb : Binds X.K fd ps [])
    (hd : (x == ("__debug__" : Str)) = false) : YE X W (.Call (.Name x p) [] [] pos) (callE F (retE [])) := by
  refine ⟨fun pins s τ H Q I ⟨g, σ, μ, R, S, q⟩ => ?_⟩
  refine wpAny_Call_Name_kw (ld_glob I hg hm ?_ hd)
  exact PySem.W.callWith_K0 I.kIn hk (runG (us := []) G hr hgd hb (hx τ) I .nil (spF_of R .nil q))
end
/-! ### a call that sees but the first n cells, and drops what it makes -/
mutual
def clD (n : Nat) : D → Bool
  | .tup ds => clDs n ds
  | .lst ds => clDs n ds
  | .dic kvs => clKs n kvs
  | .obj _ fs => clFs n fs
  | .cell m => decide (m < n)
  | _ => true
def clDs (n : Nat) : List D → Bool
  | [] => true
  | d :: ds => clD n d && clDs n ds
def clKs (n : Nat) : List (Key × D) → Bool
  | [] => true
  | (_, d) :: ds => clD n d && clKs n ds
def clFs (n : Nat) : List (Str × D) → Bool
  | [] => true
  | (_, d) :: ds => clD n d && clFs n ds
end
def clO (n : Nat) : MO → Bool
  | .lst ds => clDs n ds
  | .dic kvs => clKs n kvs
  | .ins _ fs => clFs n fs
  | .frz d => clD n d
section
variable {K : PySem.W.Frag} {mg : Str → Option Value} {g g' : GS} {n : Nat}
mutual
theorem RV.cut (hG : g'.G = g.G) (hθ : ∀ m a, m < n → g.θ[m]? = some a → g'.θ[m]? = some a) : ∀ {d : D} {v : V}, RV K mg g d v → clD n d = true → RV K mg g' d v
  | _, _, .non, _ => .non
  | _, _, .bl b, _ => .bl b
  | _, _, .int i, _ => .int i
  | _, _, .str x, _ => .str x
  | _, _, .tup h r, c => .tup (hG ▸ h) (RVs.cut hG hθ r c)
  | _, _, .lst h r, c => .lst (hG ▸ h) (RVs.cut hG hθ r c)
  | _, _, .dic h r, c => .dic (hG ▸ h) (RKs.cut hG hθ r c)
  | _, _, .obj m h r, c => .obj m (hG ▸ h) (RFs.cut hG hθ r c)
  | _, _, .cell h, c => .cell (hθ _ _ (of_decide_eq_true c) h)
  | _, _, .scr h, _ => .scr (hG ▸ h)
theorem RVs.cut (hG : g'.G = g.G) (hθ : ∀ m a, m < n → g.θ[m]? = some a → g'.θ[m]? = some a) : ∀ {d : List D} {v : List V}, RVs K mg g d v → clDs n d = true → RVs K mg g' d v
  | _, _, .nil, _ => .nil
  | d :: ds, _, .cons h r, c => by
    have c' : (clD n d && clDs n ds) = true := c
    rw [Bool.and_eq_true] at c'
    exact .cons (RV.cut hG hθ h c'.1) (RVs.cut hG hθ r c'.2)
theorem RKs.cut (hG : g'.G = g.G) (hθ : ∀ m a, m < n → g.θ[m]? = some a → g'.θ[m]? = some a) : ∀ {d : List (Key × D)} {v : List (Key × V)}, RKs K mg g d v → clKs n d = true → RKs K mg g' d v
  | _, _, .nil, _ => .nil
  | (k, d) :: ds, _, .cons h r, c => by
    have c' : (clD n d && clKs n ds) = true := c
    rw [Bool.and_eq_true] at c'
    exact .cons (RV.cut hG hθ h c'.1) (RKs.cut hG hθ r c'.2)
theorem RFs.cut (hG : g'.G = g.G) (hθ : ∀ m a, m < n → g.θ[m]? = some a → g'.θ[m]? = some a) : ∀ {d : List (Str × D)} {v : List (Str × V)}, RFs K mg g d v → clFs n d = true → RFs K mg g' d v
  | _, _, .nil, _ => .nil
  | (k, d) :: ds, _, .cons h r, c => by
    have c' : (clD n d && clFs n ds) = true := c
    rw [Bool.and_eq_true] at c'
    exact .cons (RV.cut hG hθ h c'.1) (RFs.cut hG hθ r c'.2)
end
theorem RC.cut (hG : g'.G = g.G) (hθ : ∀ m a, m < n → g.θ[m]? = some a → g'.θ[m]? = some a) {a : Addr} {u : HO} {o : MO} (h : RC K mg g a u o) (c : clO n o = true) : RC K mg g' a u o := by
  cases o with
  | lst ds => obtain ⟨xs, e, r⟩ := h; exact ⟨xs, e, r.cut hG hθ c⟩
  | dic ds => obtain ⟨xs, e, r⟩ := h; exact ⟨xs, e, r.cut hG hθ c⟩
  | ins c' fs => obtain ⟨C, dx, f, e, m, r⟩ := h; exact ⟨C, dx, f, e, m, r.cut hG hθ c⟩
  | frz d => exact h.elim
theorem RX.cut (hG : g'.G = g.G) (hθ : ∀ m a, m < n → g.θ[m]? = some a → g'.θ[m]? = some a) {H : Hp} {x : Ex} {cls : Value} {dx : Option Addr} (h : RX K mg g x cls dx H) (c : clFs n x.fs = true) : RX K mg g' x cls dx H := by
  obtain ⟨C, h1, h2, h3⟩ := h
  refine ⟨C, h1, h2, ?_⟩
  cases hx : x.fs with
  | nil => rw [hx] at h3; exact h3
  | cons p r =>
    rw [hx] at h3 c
    obtain ⟨d, fs', e1, e2, r'⟩ := h3
    exact ⟨d, fs', e1, e2, r'.cut hG hθ c⟩
end
/-- F sees but the first n cells; what it makes is dropped -/
def segF (n : Nat) (F : FD) : FD := fun ds μ => if n ≤ μ.length ∧ clDs n ds = true ∧ (μ.take n).all (clO n) = true then (match F ds (μ.take n) with
  | none => none
  | some (.ok d, μ') => if clD n d = true ∧ (μ'.take n).all (clO n) = true then some (.ok d, μ'.take n ++ μ.drop n) else none
  | some (.exc x, μ') => if clFs n x.fs = true ∧ (μ'.take n).all (clO n) = true then some (.exc x, μ'.take n ++ μ.drop n) else none) else none
def segA (F : FD) : FD := fun ds μ => segF μ.length F ds μ
section
variable {K : PySem.W.Frag} {mg : Str → Option Value}
theorem all_at {μ : Mu} {n m : Nat} {o : MO} (h : (μ.take n).all (clO n) = true) (hm : m < n) (e : μ[m]? = some o) : clO n o = true := by
  rw [List.all_eq_true] at h
  exact h o (List.mem_of_getElem? (by rw [List.getElem?_take_of_lt hm]; exact e))
open Classical in
theorem seg_spec {n : Nat} {F : FD} {vs : List V} {H : Hp} {Q : VK} {E : XK} (h : spF K mg (segF n F) vs H Q E) : spF K mg F vs H Q E := by
  obtain ⟨g, μ, ds, R, rs, q⟩ := h
  unfold segF at q
  split at q
  case isFalse => exact q.elim
  rename_i hc
  obtain ⟨hn, hds, hall⟩ := hc
  have hnθ : n ≤ g.θ.length := by rw [R.len]; exact hn
  let asd : Hp := fun a => if ∃ m o, n ≤ m ∧ g.θ[m]? = some a ∧ μ[m]? = some o ∧ ∀ d, o ≠ MO.frz d then H a else g.F a
  have asd_cell : ∀ m o a, n ≤ m → g.θ[m]? = some a → μ[m]? = some o → (∀ d, o ≠ MO.frz d) → asd a = H a := fun m o a h1 h2 h3 h4 => if_pos ⟨m, o, h1, h2, h3, h4⟩
  have asd_F : ∀ a u, g.F a = some u → asd a = some u := fun a u hu => by
    show ite _ _ _ = _
    split
    · rename_i hx
      obtain ⟨m, o, h1, h2, h3, h4⟩ := hx
      rw [(R.cel m o a h3 h2 h4).1.2] at hu
      cases hu
    · exact hu
  have asd_none : ∀ a, asd a = none → g.F a = none := fun a ha => by
    cases hf : g.F a with
    | none => rfl
    | some u => rw [asd_F a u hf] at ha; cases ha
  let g2 : GS := ⟨g.G, asd, g.θ.take n⟩
  have cut2 : ∀ m a, m < n → g.θ[m]? = some a → g2.θ[m]? = some a := fun m a hm e => by
    show (g.θ.take n)[m]? = _
    rw [List.getElem?_take_of_lt hm]; exact e
  have take_lt : ∀ {m : Nat} {a : Addr}, (g.θ.take n)[m]? = some a → m < n ∧ g.θ[m]? = some a := fun {m a} e => by
    by_cases hm : m < n
    · rw [List.getElem?_take_of_lt hm] at e; exact ⟨hm, e⟩
    · rw [List.getElem?_eq_none (by rw [List.length_take]; omega)] at e; cases e
  have R2 : RS K mg g2 (μ.take n) H := by
    refine ⟨R.frz, fun a o e => ?_, fun a o e => ?_, ?_, R.nd.sublist (List.take_sublist _ _), fun m d a e1 e2 => ?_, fun m o a e1 e2 e3 => ?_⟩
    · replace e : asd a = some o := e
      by_cases hx : ∃ m o, n ≤ m ∧ g.θ[m]? = some a ∧ μ[m]? = some o ∧ ∀ d, o ≠ MO.frz d
      · rw [show asd a = H a from if_pos hx] at e; exact e
      · rw [show asd a = g.F a from if_neg hx] at e; exact R.frm a o e
    · replace e : asd a = some o := e
      by_cases hx : ∃ m o, n ≤ m ∧ g.θ[m]? = some a ∧ μ[m]? = some o ∧ ∀ d, o ≠ MO.frz d
      · obtain ⟨m, o', h1, h2, h3, h4⟩ := hx
        exact (R.cel m o' a h3 h2 h4).1.1
      · rw [show asd a = g.F a from if_neg hx] at e; exact R.dis a o e
    · show (g.θ.take n).length = _
      rw [List.length_take, List.length_take, R.len]
    · obtain ⟨hm, e2'⟩ := take_lt e2
      rw [List.getElem?_take_of_lt hm] at e1
      obtain ⟨z1, z2⟩ := R.fz m d a e1 e2'
      exact ⟨z1, z2.cut (g := g) (g' := g2) rfl cut2 (all_at (o := .frz d) hall hm e1)⟩
    · obtain ⟨hm, e2'⟩ := take_lt e2
      rw [List.getElem?_take_of_lt hm] at e1
      obtain ⟨⟨z1, z2⟩, u, z3, z4⟩ := R.cel m o a e1 e2' e3
      refine ⟨⟨z1, ?_⟩, u, z3, z4.cut (g := g) (g' := g2) rfl cut2 (all_at hall hm e1)⟩
      show asd a = none
      have hx : ¬ ∃ m o, n ≤ m ∧ g.θ[m]? = some a ∧ μ[m]? = some o ∧ ∀ d, o ≠ MO.frz d := fun ⟨m', o', h1, h2, _, _⟩ => by
        have := nodup_at R.nd h2 e2'
        omega
      rw [show asd a = g.F a from if_neg hx]
      exact z2
  refine ⟨g2, μ.take n, ds, R2, rs.cut (g := g) (g' := g2) rfl cut2 hds, ?_⟩
  -- behind it
  have back : ∀ {g3 : GS} {μ' : Mu} {H3 : Hp}, g2.le g3 → RS K mg g3 μ' H3 → (μ'.take n).all (clO n) = true →
      g.le ⟨g3.G, g.F, g.θ⟩ ∧ RS K mg ⟨g3.G, g.F, g.θ⟩ (μ'.take n ++ μ.drop n) H3 ∧ ∀ m a, m < n → g3.θ[m]? = some a → g.θ[m]? = some a := by
    intro g3 μ' H3 l R3 hall'
    obtain ⟨r, hr⟩ := l.θ
    have hr' : g3.θ = g.θ.take n ++ r := hr
    have tl : (g.θ.take n).length = n := by rw [List.length_take]; omega
    have lm : n ≤ μ'.length := by rw [← R3.len, hr', List.length_append, tl]; omega
    have same : ∀ m, m < n → g3.θ[m]? = g.θ[m]? := fun m hm => by
      rw [hr', List.getElem?_append_left (by rw [tl]; exact hm), List.getElem?_take_of_lt hm]
    have l4 : g.le ⟨g3.G, g.F, g.θ⟩ := ⟨l.G, rfl, [], by simp⟩
    have hF : ∀ a, g3.F a = asd a := fun a => by rw [show g3.F = g2.F from l.F]
    have cut3 : ∀ m a, m < n → g3.θ[m]? = some a → g.θ[m]? = some a := fun m a hm e => by rw [← same m hm]; exact e
    have tl' : (μ'.take n).length = n := by rw [List.length_take]; omega
    refine ⟨l4, ⟨R3.frz, fun a o e => R3.frm a o ((hF a).trans (asd_F a o e)), fun a o e => R3.dis a o ((hF a).trans (asd_F a o e)), ?_, R.nd, fun m d a e1 e2 => ?_, fun m o a e1 e2 e3 => ?_⟩, cut3⟩
    · show g.θ.length = _
      rw [List.length_append, tl', List.length_drop, R.len]; omega
    · by_cases hm : m < n
      · rw [List.getElem?_append_left (by rw [tl']; exact hm), List.getElem?_take_of_lt hm] at e1
        obtain ⟨z1, z2⟩ := R3.fz m d a e1 (by rw [same m hm]; exact e2)
        exact ⟨z1, z2.cut (g := g3) (g' := ⟨g3.G, g.F, g.θ⟩) rfl cut3 (all_at (o := .frz d) hall' hm e1)⟩
      · rw [List.getElem?_append_right (by rw [tl']; omega), tl', List.getElem?_drop] at e1
        rw [show n + (m - n) = m by omega] at e1
        obtain ⟨⟨u, z1⟩, z2⟩ := R.fz m d a e1 e2
        exact ⟨⟨u, l.G a u z1⟩, z2.mono l4⟩
    · by_cases hm : m < n
      · rw [List.getElem?_append_left (by rw [tl']; exact hm), List.getElem?_take_of_lt hm] at e1
        obtain ⟨⟨z1, z2⟩, u, z3, z4⟩ := R3.cel m o a e1 (by rw [same m hm]; exact e2) e3
        exact ⟨⟨z1, asd_none a ((hF a).symm.trans z2)⟩, u, z3, z4.cut (g := g3) (g' := ⟨g3.G, g.F, g.θ⟩) rfl cut3 (all_at hall' hm e1)⟩
      · rw [List.getElem?_append_right (by rw [tl']; omega), tl', List.getElem?_drop] at e1
        rw [show n + (m - n) = m by omega] at e1
        have e2' : g.θ[m]? = some a := e2
        obtain ⟨⟨z1, z2⟩, u, z3, z4⟩ := R.cel m o a e1 e2' e3
        have h3 : g3.F a = some u := (hF a).trans ((asd_cell m o a (by omega) e2' e1 e3).trans z3)
        exact ⟨⟨R3.dis a u h3, z2⟩, u, R3.frm a u h3, z4.mono l4⟩
  match hF : F ds (μ.take n) with
  | none => rw [hF] at q; exact q
  | some (.ok d, μ') =>
    rw [hF] at q
    dsimp only at q
    split at q
    · rename_i hc
      intro g3 H3 v l R3 rv
      obtain ⟨z1, z2, z3⟩ := back l R3 hc.2
      exact q _ H3 v z1 z2 (rv.cut (g := g3) (g' := ⟨g3.G, g.F, g.θ⟩) rfl z3 hc.1)
    · exact q.elim
  | some (.exc x, μ') =>
    rw [hF] at q
    dsimp only at q
    split at q
    · rename_i hc
      intro g3 H3 cls dx l R3 rx
      obtain ⟨z1, z2, z3⟩ := back l R3 hc.2
      exact q _ H3 cls dx z1 z2 (rx.cut (g := g3) (g' := ⟨g3.G, g.F, g.θ⟩) rfl z3 hc.1)
    · exact q.elim
theorem segA_spec {F : FD} {vs : List V} {H : Hp} {Q : VK} {E : XK} (h : spF K mg (segA F) vs H Q E) : spF K mg F vs H Q E := by
  obtain ⟨g, μ, ds, R, rs, q⟩ := h
  exact seg_spec (n := μ.length) ⟨g, μ, ds, R, rs, q⟩
variable {P : Program} {w : World} {base : Heap}
theorem seg_len {n n' : Nat} {F : FD} (h : ∀ ds μ r, F ds μ = some r → ds.length = n') : ∀ ds μ r, segF n F ds μ = some r → ds.length = n' := by
  intro ds μ r e
  unfold segF at e
  split at e
  · match hF : F ds (μ.take n) with
    | none => rw [hF] at e; cases e
    | some y => exact h _ _ _ hF
  · cases e
theorem FnG.seg {k : Nat} {f : Addr} {fd : FuncData} {n' : Nat} {ps : List Str} {F : FD} (n : Nat) (G : FnG P w K mg base k f fd n' ps F) : FnG P w K mg base k f fd n' ps (segF n F) :=
  G.imp (seg_len G.len) fun _ _ _ _ h => seg_spec h
theorem FnG.segA {k : Nat} {f : Addr} {fd : FuncData} {n' : Nat} {ps : List Str} {F : FD} (G : FnG P w K mg base k f fd n' ps F) : FnG P w K mg base k f fd n' ps (segA F) :=
  G.imp (fun ds μ r e => seg_len G.len ds μ r e) fun _ _ _ _ h => segA_spec h
end
end Yf

/-! Y13: the law is called. -/
namespace Yf
open PySem PySem.Spec PyProof.Rows L2 RZ
/-- the law's own F tells True of every script -/
def LawF (F : FD) : Prop := ∀ ns : List Int, ns.length ≤ 63 → ∃ μ', F [.scr ns] [] = some (.ok (.bl true), μ')
section
variable {P : Program} {w : World} {K : PySem.W.Frag} {mg mb : Str → Option Value} {k : Nat} {fa a : Addr} {fd : FuncData} {x : Str} {F : FD} {sh : Shared} {vs : List Value} {ns : List Int}
theorem lawG (inK : K.In sh.heap) (hns : sh.heap.Ns mainGlobals mg) (hb : sh.heap.Ns builtinsNs mb) (hbb : ∀ y : Str, y ≠ "__name__" → mb y = bootBuiltins y) (noL : sh.heap.NoLimit) (hg : sh.gens = #[])
    (ha : sh.heap.get? a = some { cls := .type "list", data := .seq vs.toArray }) (hi : IntsAre vs ns) (hl : ns.length ≤ 63) (hr : Room k callerA)
    (G : ∀ base : Heap, K.In base → base.Ns mainGlobals mg → FnG P w K mg base k fa fd 1 [x] F) (hbind : ∀ (s : Shared) (u : Value), BindsTo s fd ⟨[u], []⟩ [(x, u)]) (hF : LawF F) :
    codeAny (model P w) callerA (.call (.ref fa) ⟨[.ref a], []⟩) (fun r s' => r = .ok (.ret (.bool true)) ∧ OldK sh.heap s'.heap ∧ s'.os = sh.os ∧ AllBare s'.gens) sh := by
  have rel := vals_ints hi
  have lv := hi.length
  have hl2 : ns.length ≤ sizeLine := Nat.le_trans hl (by decide)
  -- what is tracked: the script at most
  have main : ∀ H : Hp, (∀ b, H b = none ∨ ∃ o xs, H b = some (.frz o (.lst xs))) → SqL K H a (ns.map V.int) → HOk P w H sh.heap → (∀ b, H b ≠ none → b = a) → (H a ≠ none → K.lookup a = none) →
      codeAny (model P w) callerA (.call (.ref fa) ⟨[.ref a], []⟩) (fun r s' => r = .ok (.ret (.bool true)) ∧ OldK sh.heap s'.heap ∧ s'.os = sh.os ∧ AllBare s'.gens) sh := by
    intro H only hS hok isA notK
    have low : ∀ {b : Addr} {o : Obj}, sh.heap.get? b = some o → H b = none → (hidT sh.heap H).get? b = some o := fun e n => hidT_get e n
    have dictFree : ∀ {b : Addr} {o : Obj} {es : Array DictEntry} {ep : Nat}, sh.heap.get? b = some o → o.data = .dict es ep → H b = none := by
      intro b o es ep e d
      by_cases z : H b = none
      · exact z
      · have eb := isA b z
        rw [eb, ha] at e
        cases e
        cases (show Data.seq vs.toArray _ = Data.dict es ep from d)
    have nsLow : ∀ {b : Addr} {m : Str → Option Value}, sh.heap.Ns b m → (hidT sh.heap H).Ns b m := by
      rintro b m ⟨o, es, ep, e, d, r⟩
      exact ⟨o, es, ep, low e (dictFree e d), d, r⟩
    have kLow : K.In (hidT sh.heap H) := by
      intro b o e
      refine low (inK b o e) ?_
      by_cases z : H b = none
      · exact z
      · have eb := isA b z
        subst eb
        rw [notK z] at e
        cases e
    obtain ⟨mc, c1, c2⟩ := noL
    have md : Mod K mg (hidT sh.heap H) := ⟨kLow, nsLow hns, ⟨mb, nsLow hb, hbb⟩, ⟨mc, nsLow c1, c2⟩⟩
    have e0 : Env0 P w K mg (hidT sh.heap H) callerA [] sh H := ⟨rfl, md, fun b o e => of_hidT e, Nat.le_of_eq (hidT_size _ _), trivial, fun b hb => (nomatch (show b ∈ ([] : List Addr) from hb)), hok, .of_eq hg⟩
    obtain ⟨μ', hμ⟩ := hF ns hl
    have prom : spF K mg F [.ref a] H (fun v _ => v = .bl true) (fun _ _ _ => False) := by
      refine ⟨⟨H, fun _ => none, []⟩, [], [.scr ns], ⟨fun _ _ e => e, fun _ _ e => (nomatch e), fun _ _ e => (nomatch e), rfl, .nil, fun n d b e => ?_, fun n o b e => ?_⟩, .cons (.scr hS) .nil, ?_⟩
      · simp at e
      · simp at e
      · rw [hμ]
        exact fun g' H' v _ _ r => rv_bl r
    refine codeAny_mono ((G _ kLow (nsLow hns)).run callerA [] sh H ⟨[.ref a], []⟩ [.ref a] [.ref a] _ _ hr rfl e0 (hbind sh (.ref a)) (.cons rfl .nil) prom) fun r s' h => ?_
    match r, h with
    | .error e, h =>
      obtain ⟨_, _, _, _, _, _, _, _, _, _, _, _, z⟩ := h
      exact z.elim
    | .ok .next, h => exact h.elim
    | .ok .brk, h => exact h.elim
    | .ok .cont, h => exact h.elim
    | .ok (.ret u), h =>
      obtain ⟨v, H', os, bare, un, hok', rv, q⟩ := h
      subst q
      cases (show u = Value.bool true from rv)
      refine ⟨rfl, OldK.of_keep fun b o e => ?_, os, bare⟩
      rcases only b with z | ⟨ob, xs, z⟩
      · exact un.keep b o e z (fun y => nomatch (show b ∈ ([] : List Addr) from y)) (by simp)
      · obtain ⟨e1, _⟩ := hok b _ z
        obtain ⟨e2, _⟩ := hok' b _ (un.frzs b ob _ z)
        rw [e] at e1
        cases e1
        exact e2
  by_cases hk : ∃ o, K.lookup a = some o
  · obtain ⟨o, hk⟩ := hk
    have e := inK a o hk
    rw [ha] at e
    cases e
    refine main (fun _ => none) (fun _ => .inl rfl) (.inr ⟨_, vs.toArray, _, hk, rfl, rfl, rfl, ?_, by simpa using rel⟩) (fun b u z => nomatch (show (none : Option HO) = some u from z)) (fun b z => absurd rfl z) fun z => absurd rfl z
    rw [List.size_toArray, lv]
    exact hl2
  · have hk' : K.lookup a = none := by
      cases h : K.lookup a with
      | none => rfl
      | some o => exact absurd ⟨o, h⟩ hk
    let ob : Obj := { cls := .type "list", data := .seq vs.toArray }
    let Hs : Hp := fun b => if b = a then some (.frz ob (.lst (ns.map V.int))) else none
    have at_ : Hs a = some (.frz ob (.lst (ns.map V.int))) := if_pos rfl
    have off : ∀ b, b ≠ a → Hs b = none := fun b hb => if_neg hb
    refine main Hs (fun b => ?_) (.inl (.inr ⟨ob, at_⟩)) (fun b u z => ?_) (fun b z => ?_) fun _ => hk'
    · by_cases hb : b = a
      · exact .inr ⟨_, _, hb ▸ at_⟩
      · exact .inl (off b hb)
    · by_cases hb : b = a
      · subst hb
        rw [at_] at z
        cases z
        exact ⟨ha, by rw [List.length_map]; exact hl2, vs, _, rel, ha⟩
      · rw [off b hb] at z
        cases z
    · by_cases hb : b = a
      · exact hb
      · exact absurd (off b hb) z
end
/-- THE END: a law, by its F -/
theorem walkG {l : PySem.W.OpenLaw} {k : Nat} {q : Program} {loose : List Str} {XP : (Str → Option Value) → Heap → Prop} {YP : World → Heap → Prop} {d : DefRec} {x : Str} {F : FD} (hn : l.most = some 63) (hdf : d.params.defaults = []) (hr : Room k callerA) (hF : LawF F)
    (G : ∀ (w : World) (mg : Str → Option Value) (fa : Addr) (h : Heap), YP w h → h.Ns mainGlobals mg → mg d.name = some (.ref fa) →
      ∃ (K : PySem.W.Frag) (fd : FuncData), K.In h ∧ (∀ (s : Shared) (u : Value), BindsTo s fd ⟨[u], []⟩ [(x, u)]) ∧ ∀ base : Heap, K.In base → base.Ns mainGlobals mg → FnG l.prog w K mg base k fa fd 1 [x] F) :
    PySem.W.WalkO q loose XP YP l.row.toRowW d [] (fun f vs => PySem.call f vs) := by
  refine Att.attach_call hn hdf fun w s₀ s₁ mg mb fa o pm cd doc a vs ns Gr Y ho hd hcd hmg hobj hints hlen hg => ?_
  obtain ⟨K, fd, inK, hb, hG⟩ := G w mg fa _ Y Gr.T.g hmg
  exact lawG inK Gr.T.g Gr.T.b Gr.T.builtins Gr.T.nolimit hg hobj hints hlen hr hG hb hF
end Yf

/-! Y14: what generated proofs lean on. -/
namespace Yf
open PySem PySem.Spec PyProof.Rows L2 RZ
/-! ### stores into dict cells -/
def setKD (μ : Mu) (x y d : D) : Option Mu := match celDic μ x, keyOf y with
  | some (n, ks), some k => if ks.length < sizeLine then some (μ.set n (.dic (putD ks k d))) else none
  | _, _ => none
theorem setK_S {K : PySem.W.Frag} {mg : Str → Option Value} : SetS K mg rSetD setKD := by
  intro g μ μ' H dx dy d vx vy v Q R r1 r2 r3 e q
  unfold setKD at e
  split at e
  · rename_i n ks k h1 h2
    split at e
    · rename_i hl
      cases e
      obtain ⟨a, xs, rfl, e1, e2, e3, r⟩ := celDic_ok R r1 h1
      rw [keyOf_ok r2 h2]
      exact ⟨a, _, rfl, DPut.k e3 (by rw [← r.length]; exact hl), q _ (R.write e2 e1 (by simp) ⟨_, rfl, putD_ok r r3⟩)⟩
    · cases e
  · cases e
/-! ### a, b, c = x, y, z -/
theorem rvs3 {K : PySem.W.Frag} {mg : Str → Option Value} {g : GS} {d e f : D} {vs : List V} (r : RVs K mg g [d, e, f] vs) : ∃ u v w, vs = [u, v, w] ∧ RV K mg g d u ∧ RV K mg g e v ∧ RV K mg g f w := by
  cases r with
  | cons h t => obtain ⟨v, w, rfl, h2, h3⟩ := rvs2 t; exact ⟨_, v, w, rfl, h, h2, h3⟩
def par3S (i j l : Nat) (ms : ME (List D)) : MS := bindS ms fun ds => match ds with
  | [x, y, z] => fun σ μ => some (.nx, ((σ.set i (some x)).set j (some y)).set l (some z), μ)
  | _ => neverS
section
variable {X : Cx} {W : WX} {tg e a b c o iter : Expr} {es : List Expr} {pos p : Pos} {m mo : ME D} {ms : ME (List D)}
theorem y_par3 {i j l : Nat} {x y z : Str} {px py pz pt : Pos} {kt k2 : Nat} {pt2 : Pos} (hc : X.calm = true) (hN : X.N.Nodup) (hi : X.N[i]? = some x) (hj : X.N[j]? = some y) (hl : X.N[l]? = some z) (hij : i ≠ j) (hil : i ≠ l) (hjl : j ≠ l)
    (hx : X.env.scope.names.lookup x = some .local) (hy : X.env.scope.names.lookup y = some .local) (hz : X.env.scope.names.lookup z = some .local) (ha : YA X W [a, b, c] ms)
    (hw : swappedStores [.Tuple [.Name x px, .Name y py, .Name z pz] kt pt] (.Tuple [a, b, c] k2 pt2) X.env = pure (some [x, y, z]))
    (hs : swapsWithSole [.Tuple [.Name x px, .Name y py, .Name z pz] kt pt] (.Tuple [a, b, c] k2 pt2) pos.line X.env = pure false) :
    YS X W (.Assign [.Tuple [.Name x px, .Name y py, .Name z pz] kt pt] (.Tuple [a, b, c] k2 pt2) pos) (par3S i j l ms) :=
  PS.by (ps_par3 hc hN hi hj hl hij hil hjl hx hy hz ha hw hs) fun E τ H ⟨g, σ, μ, R, S, q⟩ => tS_step R S q fun ds μ1 g1 H1 vs _ l1 R1 S1 V1 q1 => by
    match ds, V1, q1 with
    | [], _, q1 => exact q1.elim
    | [_], _, q1 => exact q1.elim
    | [_, _], _, q1 => exact q1.elim
    | _ :: _ :: _ :: _ :: _, _, q1 => exact q1.elim
    | [d1, d2, d3], V1, q1 =>
      obtain ⟨u, v, w, rfl, r1, r2, r3⟩ := rvs3 V1
      exact ⟨u, v, w, rfl, q1 g1 H1 _ (.refl _) R1 (((S1.set r1 i).set r2 j).set r3 l)⟩
/-! ### a cell frozen for good -/
def fzD (μ : Mu) (d : D) : Option (D × Mu) := match d with
  | .cell n => match μ[n]? with
    | some (.frz d) => some (d, μ)
    | some o => some (toD o, μ.set n (.frz (toD o)))
    | none => none
  | d => some (d, μ)
def fzE (m : ME D) : ME D := bindE m fun d => modE fun μ => fzD μ d
theorem y_fz (h : YE X W e m) : YE X W e (fzE m) :=
  PE.by h fun τ H Q ⟨g, σ, μ, R, S, q⟩ => tG_step R S q fun d μ1 g1 H1 v1 _ l1 R1 S1 V1 q1 => by
    obtain ⟨d', μ', e1, q2⟩ := post_mod q1
    unfold fzD at e1
    split at e1
    · rename_i n
      split at e1
      · rename_i d0 h
        cases e1
        cases V1 with
        | cell ha => exact q2 g1 H1 _ (.refl _) R1 (R1.fz _ _ _ h ha).2
      · rename_i o hne h
        cases e1
        cases V1 with
        | @cell a _ ha =>
          have hn : ∀ d, o ≠ MO.frz d := fun d z => hne d (z ▸ rfl)
          obtain ⟨⟨z1, z2⟩, u, hu, rc⟩ := R1.cel _ o a h ha hn
          have lg : g1.le (g1.add a u) := GS.le_add z1
          have rv : RV X.K X.mg (g1.add a u) (toD o) (.ref a) := by
            cases o with
            | lst ds => obtain ⟨xs, rfl, r⟩ := rc; exact .lst GS.add_at (r.mono lg)
            | dic ds => obtain ⟨xs, rfl, r⟩ := rc; exact .dic GS.add_at (r.mono lg)
            | ins c fs => obtain ⟨C, dx, f, rfl, m, r⟩ := rc; exact .obj m GS.add_at (r.mono lg)
            | frz d => exact absurd rfl (hn d)
          exact q2 _ H1 _ lg (R1.fixed h ha hn hu rv) rv
      · cases e1
    · cases e1
      exact q2 g1 H1 v1 (.refl _) R1 V1
/-! ### contexts -/
structure BodyC (X : Cx) (W : WX) (k : Nat) : Prop extends Air X where
  pa : ∀ σ, PassesAt (L2.CX X.prog X.w) X σ (WE W σ)
  rm : Room k X.A
theorem Body.bc {k : Nat} (B : Body X W k) : BodyC X W k := ⟨B.toAir, B.pa, B.rm⟩
theorem BodyC.blk {k : Nat} (B : BodyC X W k) {s : Shared} {H : Hp} {scope : Scope} {env : Env} {fp : List Addr} : BodyC (X.blk s H scope env fp) W0 k :=
  ⟨⟨B.calm, B.gd, B.un⟩, fun σ pins H s e s' I c => by
    obtain ⟨_, _, _, _, _, _, _, _, _, _, _, _, z⟩ := c
    exact z.elim, B.rm⟩
/-- a function of the module -/
structure HasF (P : Program) (w : World) (K : PySem.W.Frag) (mg : Str → Option Value) (base : Heap) (k : Nat) (x : Str) (n : Nat) (F : FD) : Prop where
  ex : ∃ (f : Addr) (fd : FuncData) (ps : List Str), FnG P w K mg base k f fd n ps F ∧ mg x = some (.ref f) ∧ PySem.W.keepIn K (.ref f) = true ∧ Binds K fd ps []
theorem HasF.mono {P : Program} {w : World} {K : PySem.W.Frag} {mg : Str → Option Value} {base : Heap} {j k : Nat} {x : Str} {n : Nat} {F : FD} (D : HasF P w K mg base j x n F) (h : j ≤ k) : HasF P w K mg base k x n F := by
  obtain ⟨f, fd, ps, G, z⟩ := D.ex
  exact ⟨f, fd, ps, G.mono h, z⟩
theorem HasF.seg {P : Program} {w : World} {K : PySem.W.Frag} {mg : Str → Option Value} {base : Heap} {k : Nat} {x : Str} {n : Nat} {F : FD} (i : Nat) (D : HasF P w K mg base k x n F) : HasF P w K mg base k x n (segF i F) := by
  obtain ⟨f, fd, ps, G, z⟩ := D.ex
  exact ⟨f, fd, ps, G.seg i, z⟩
theorem HasF.segA {P : Program} {w : World} {K : PySem.W.Frag} {mg : Str → Option Value} {base : Heap} {k : Nat} {x : Str} {n : Nat} {F : FD} (D : HasF P w K mg base k x n F) : HasF P w K mg base k x n (segA F) := by
  obtain ⟨f, fd, ps, G, z⟩ := D.ex
  exact ⟨f, fd, ps, G.segA, z⟩
theorem y_callN {k j n : Nat} {x : Str} {F : FD} (B : BodyC X W j) (D : HasF X.prog X.w X.K X.mg X.base k x n F) (hk : k ≤ j) (hg : Gl X x) (hd : (x == ("__debug__" : Str)) = false) (h1 : noStar e = true) (h2 : es.all noStar = true) (ha : YA X W (e :: es) ms) :
    YE X W (.Call (.Name x p) (e :: es) [] pos) (callE F ms) := by
  obtain ⟨f, fd, ps, G, hm, kp, hb⟩ := D.ex
  exact y_call G (B.rm.mono hk) B.gd B.pa hg hm kp hb hd h1 h2 ha
theorem y_callN0 {k j n : Nat} {x : Str} {F : FD} (B : BodyC X W j) (D : HasF X.prog X.w X.K X.mg X.base k x n F) (hk : k ≤ j) (hg : Gl X x) (hd : (x == ("__debug__" : Str)) = false) : YE X W (.Call (.Name x p) [] [] pos) (callE F (retE [])) := by
  obtain ⟨f, fd, ps, G, hm, kp, hb⟩ := D.ex
  exact y_call0 G (B.rm.mono hk) B.gd B.pa hg hm kp hb hd
end
/-- nothing: for a function that calls itself, with no fuel -/
def noF : FD := fun _ _ => none
section
variable {P : Program} {w : World} {K : PySem.W.Frag} {mg : Str → Option Value} {base : Heap}
theorem hasF {x qual : Str} {st : Stmt} {f : Addr} {fd : FuncData} {N ps : List Str} {k n l : Nat} {m : MS} (Fn : Fun K x qual st f fd) (hm : mg x = some (.ref f)) (hb : Binds K fd ps []) (S : FnScope N ps (defScope st)) (hn : ps.length = n) (hl : N.length = n + l)
    (h : ∀ (cdv : Value) (A : Around) (outer : List Env) (s : Shared) (H : Hp) (E : XK), Body (cxY P w K mg base N qual (defScope st) f cdv A outer s H E) (WQ E) k → YSs (cxY P w K mg base N qual (defScope st) f cdv A outer s H E) (WQ E) (defBody st) m) :
    HasF P w K mg base (k + 1) x n (runF n l m) := ⟨f, fd, ps, fnG Fn S hn hl h, hm, Fn.kp, hb⟩
theorem hasNo {x qual : Str} {st : Stmt} {f : Addr} {fd : FuncData} {ps : List Str} {n : Nat} (Fn : Fun K x qual st f fd) (hm : mg x = some (.ref f)) (hb : Binds K fd ps []) (hn : ps.length = n) : HasF P w K mg base 0 x n noF :=
  ⟨f, fd, ps, ⟨hn, fun _ _ _ e => (nomatch e), fun _ _ _ _ _ _ _ _ _ _ _ _ _ _ ⟨_, _, _, _, _, q⟩ => q.elim⟩, hm, Fn.kp, hb⟩
end
/-! ### the hook: defs, facts, and one more wish of the written part -/
open He in
def obsE (fa : List Fa) (fn : List DefD) (ex : PySem.W.Frag → Bool) (K : PySem.W.Frag) : AlD × Bool := (obsD fa fn K, ex K)
open He in
def hookE (n : Nat) (fa : List Fa) (fn : List DefD) (ex : PySem.W.Frag → Bool) : PySem.W.Hook where
  α := AlD × Bool
  obs := fun s => obsE fa fn ex (frG s.heap.get? (asD s.heap.get? n))
  val := fun _ => (He.valD fn, true)
  says := fun _ h => ∃ K : PySem.W.Frag, K.In h ∧ SaysD fa fn K ∧ ex K = true
  of := fun _ _ e => ⟨_, frG_in, congrArg Prod.fst e, congrArg Prod.snd e⟩
  keeps := fun _ _ _ ⟨K, hK, c⟩ k => ⟨K, PySem.W.Frag.In.keeps hK k, c⟩
open He in
def obsEG (n : Nat) (fa : List Fa) (fn : List DefD) (ex : PySem.W.Frag → Bool) (s : PySem.W.SharedT) : AlD × Bool := obsE fa fn ex (frG (HandSHeadRun.getT s) (asD (HandSHeadRun.getT s) n))
open He in
theorem obsEG_eq {n : Nat} {fa : List Fa} {fn : List DefD} {ex : PySem.W.Frag → Bool} (s : PySem.W.SharedT) : obsEG n fa fn ex s = (hookE n fa fn ex).obs s.abs := by
  have e : HandSHeadRun.getT s = s.abs.heap.get? := funext (HandSHeadRun.getT_eq s)
  show obsE fa fn ex (frG (HandSHeadRun.getT s) (asD (HandSHeadRun.getT s) n)) = _
  rw [e]
  rfl
theorem strs_ok {K : PySem.W.Frag} {mg : Str → Option Value} {g : GS} : ∀ xs : List Str, RVs K mg g (xs.map .str) (xs.map .str)
  | [] => .nil
  | x :: xs => .cons (.str x) (strs_ok xs)
end Yf

/-! Y15: the rules in the form that the printer uses. -/
namespace Yf
open PySem PySem.Spec PyProof.Rows L2 RZ
def opE (op : Operator) (ma mb : ME D) : ME D := bindE ma fun x => bindE mb fun y => optE fun μ => binD op μ x y
def cmpB (op : CmpOp) (ma mb : ME D) : ME Bool := bindE ma fun x => bindE mb fun y => optE fun μ => cmpD op μ x y
def blE (m : ME Bool) : ME D := bindE m fun b => retE (.bl b)
def lstE (ms : ME (List D)) : ME MO := bindE ms fun ds => optE fun _ => if ds.length ≤ sizeLine then some (.lst ds) else none
def tupE (ms : ME (List D)) : ME D := bindE ms fun ds => optE fun _ => if ds.length ≤ sizeLine then some (.tup ds) else none
def idxE (ma mb : ME D) : ME D := bindE ma fun x => bindE mb fun y => optE fun μ => idxD μ x y
def dgtE (ma mb : ME D) : ME D := bindE ma fun x => bindE mb fun y => optE fun μ => dgetD μ x y
def negE (ma : ME D) : ME D := bindE ma fun d => optE fun _ => match d with | .int i => some (.int (-i)) | _ => none
def sliL (ma : ME D) (ml mh : ME (Option Int)) : ME MO := bindE ma fun x => bindE ml fun l => bindE mh fun h => optE fun μ => slL μ x l h
def sliV (ma : ME D) (ml mh : ME (Option Int)) : ME D := bindE ma fun x => bindE ml fun l => bindE mh fun h => optE fun _ => slV x l h
def norE (ma : ME D) : ME D := bindE (asB ma) fun b => retE (.bl !b)
section
variable {X : Cx} {W : WX} {k : Nat} {e a b c o : Expr} {es : List Expr} {pos p : Pos} {ma mb mc mo : ME D} {mt : ME Bool} {ms : ME (List D)}
theorem e_op {op : Operator} (ha : YE X W a ma) (hb : YE X W b mb) : YE X W (.BinOp a op b pos) (opE op ma mb) := y_op (bin_op op) (bin_S op) ha hb
theorem t_cmp {op : CmpOp} (B : BodyC X W k) (hm : noSetD b = true) (ha : YE X W a ma) (hb : YE X W b mb) : YT X W (.Compare a [op] [b] pos) (cmpB op ma mb) := yt_cmp B.un hm ha hb
theorem e_cmp {op : CmpOp} (B : BodyC X W k) (hm : noSetD b = true) (ha : YE X W a ma) (hb : YE X W b mb) : YE X W (.Compare a [op] [b] pos) (blE (cmpB op ma mb)) :=
  PE.by (y_cmp (op := op) B.un hm ha hb) fun τ H Q ⟨g, σ, μ, R, S, q⟩ => by
    refine ⟨g, σ, μ, R, S, ?_⟩
    unfold blE cmpB at q
    rw [bind_bind] at q
    unfold bindE optE retE at q
    unfold bindE optE
    revert q
    match ma σ μ with
    | none => exact id
    | some (.exc x, μ') => exact id
    | some (.ok x, μ') =>
      dsimp only
      match mb σ μ' with
      | none => exact id
      | some (.exc x, μ') => exact id
      | some (.ok y, μ2) =>
        dsimp only
        cases cmpD op μ2 x y <;> exact id
theorem t_ch {op op' : CmpOp} (B : BodyC X W k) (ha : YE X W a ma) (hb : YE X W b mb) (hc : YE X W c mc) (h1 : noSetD b = true) (h2 : noSetD c = true) : YT X W (.Compare a [op, op'] [b, c] pos) (chainE op op' ma mb mc) := yt_chain B.un ha hb hc h1 h2
theorem e_ch {op op' : CmpOp} (B : BodyC X W k) (ha : YE X W a ma) (hb : YE X W b mb) (hc : YE X W c mc) (h1 : noSetD b = true) (h2 : noSetD c = true) : YE X W (.Compare a [op, op'] [b, c] pos) (blE (chainE op op' ma mb mc)) := y_chain B.un ha hb hc h1 h2
theorem e_lst (h : YA X W es ms) : YF X W (.List es pos) (lstE ms) := y_lst h
theorem e_tup {j : Nat} (h : YA X W es ms) : YE X W (.Tuple es j pos) (tupE ms) := y_tup h
theorem e_idx (hn : noSlice b = true) (ha : YE X W a ma) (hb : YE X W b mb) : YE X W (.Subscript a b pos) (idxE ma mb) := y_idx hn ha hb
theorem e_dgt (B : BodyC X W k) (hn : noSlice b = true) (ha : YE X W a ma) (hb : YE X W b mb) : YE X W (.Subscript a b pos) (dgtE ma mb) := y_dget B.un hn ha hb
theorem e_neg (ha : YE X W a ma) : YE X W (.UnaryOp .USub a pos) (negE ma) := y_neg ha
theorem e_not (ha : YE X W a ma) : YE X W (.UnaryOp .Not a pos) (norE ma) := y_not ha
theorem e_sliL {lo hi : Option Expr} {ml mh : ME (Option Int)} {p2 : Pos} (ha : YE X W a ma) (hl : YO X W lo ml) (hh : YO X W hi mh) : YF X W (.Subscript a (.Slice lo hi none p2) pos) (sliL ma ml mh) := y_slL ha hl hh
theorem e_sliV {lo hi : Option Expr} {ml mh : ME (Option Int)} {p2 : Pos} (ha : YE X W a ma) (hl : YO X W lo ml) (hh : YO X W hi mh) : YE X W (.Subscript a (.Slice lo hi none p2) pos) (sliV ma ml mh) := y_slV ha hl hh
end
/-! ### the names of a comprehension's block, by program -/
def blkB (N : List Str) (sc scope : Scope) (own : List (Str × Nat)) : Bool :=
  decide (scope.kind = .function) && (scope.names.all fun y => decide (scope.names.lookup y.1 = some y.2)) && (own.all fun p => decide (N[p.2]? = some p.1)) &&
  (scope.names.all fun y => !(decide (y.2 = .free)) || decide (sc.names.lookup y.1 = some .cell) || decide (sc.names.lookup y.1 = some .free)) &&
  scope.names.all fun y => !(decide (y.2 = .local) || decide (y.2 = .cell)) || (own.map (·.1)).contains y.1 || !(N.contains y.1)
theorem blk_of {N : List Str} {sc scope : Scope} {own : List (Str × Nat)} (h : blkB N sc scope own = true) : BlkOk N sc scope own := by
  unfold blkB at h
  simp only [Bool.and_eq_true, List.all_eq_true, decide_eq_true_eq, Bool.or_eq_true, Bool.not_eq_true', decide_eq_false_iff_not, List.contains_iff_mem] at h
  obtain ⟨⟨⟨⟨h1, h2⟩, h3⟩, h4⟩, h5⟩ := h
  refine ⟨h1, h2, h3, fun y hy e => ?_, fun y hy e => ?_⟩
  · rcases h4 y hy with (z | z) | z
    · exact absurd e z
    · exact .inl z
    · exact .inr z
  · rcases h5 y hy with (z | z) | z
    · rcases e with e | e
      · simp [e] at z
      · simp [e] at z
    · exact .inl z
    · exact .inr (by simpa [List.contains_iff_mem] using z)
end Yf
namespace Yf
open PySem PySem.Spec PyProof.Rows L2 RZ
/-- a name of the module that stands for a plain value -/
def GlD (K : PySem.W.Frag) (mg : Str → Option Value) (x : Str) (d : D) : Prop := ∃ u v, mg x = some u ∧ RelV v u ∧ ∀ g, RV K mg g d v
theorem y_globD {X : Cx} {W : WX} {x : Str} {p : Pos} {d : D} (h : GlD X.K X.mg x d) (hg : Gl X x) (hd : (x == ("__debug__" : Str)) = false) : YE X W (.Name x p) (retE d) := by
  obtain ⟨u, v, hm, rr, r⟩ := h
  exact y_glob hg hm rr hd r
theorem glT {K : PySem.W.Frag} {mg : Str → Option Value} {x : Str} {a : Addr} {ds : List D} {vs : List V} (hm : mg x = some (.ref a)) (h : ∀ G, SqT K G a vs) (r : ∀ g, RVs K mg g ds vs) : GlD K mg x (.tup ds) :=
  ⟨_, .ref a, hm, rfl, fun g => .tup (h _) (r g)⟩
end Yf

namespace K75
open PySem PySem.Spec PyProof.Rows L2 RZ Yf
def top (i : Nat) : Stmt := PySem.Challenge.pw_oddlong_k75_uses_told.main.body.getD i (.Pass ⟨0, 0, 0, 0⟩)
def g_KINDS : D := .tup [.str "set", .str "add", .str "take", .str "tell", .str "ask", .str "jump", .str "zero", .str "stop", .str "farjump", .str "farzero", .str "skip"]
def g_SIZES : D := .tup [.str "none", .str "one", .str "two", .str "three", .str "four", .str "five", .str "six", .str "seven", .str "eight"]
def g_SPOTS : D := .tup [.str "a", .str "b", .str "c", .str "d"]
abbrev s_law_begin : Stmt := top 9
abbrev N_law_begin : List Str := ["_law_script", "_law_cells"]
abbrev s_law_kinds : Stmt := top 12
abbrev N_law_kinds : List Str := []
abbrev s_law_sizes : Stmt := top 13
abbrev N_law_sizes : List Str := []
abbrev s_law_length : Stmt := top 18
abbrev N_law_length : List Str := ["_law_number_here", "_law_many_here"]
abbrev s_law_uses_due : Stmt := top 19
abbrev N_law_uses_due : List Str := ["_law_program_here", "_law_kinds_here", "_law_spots", "_law_sizes_here", "_law_row_here", "_law_every", "_law_part", "_law_names", "_law_some", "_law_name"]
abbrev s_counted : Stmt := top 6
abbrev N_counted : List Str := ["names", "some", "name"]
abbrev s_spots_in : Stmt := top 5
abbrev N_spots_in : List Str := ["row", "part"]
abbrev s_figures_of : Stmt := top 4
abbrev N_figures_of : List Str := ["number", "many"]
abbrev s_uses_of : Stmt := top 7
abbrev N_uses_of : List Str := ["program", "kinds", "spots", "sizes", "row"]
abbrev s_law_same : Stmt := top 11
abbrev N_law_same : List Str := ["_law_found", "_law_due", "_law_one", "_law_other"]
abbrev s_law_right : Stmt := top 20
abbrev N_law_right : List Str := ["_law_program_here", "_law_due", "_law_kept", "_law_turn", "_law_found", "_law_k", "_law_some"]
abbrev s_law_take : Stmt := top 10
abbrev N_law_take : List Str := ["_law_box", "_law_many_here", "_law_turn", "_law_place", "_law_cell", "_law_digit", "_law_prime", "_law_mixed"]
abbrev s_law_number : Stmt := top 15
abbrev N_law_number : List Str := ["_law_box"]
abbrev s_law_row : Stmt := top 16
abbrev N_law_row : List Str := ["_law_box", "_law_many_here", "_law_way", "_law_spot", "_law_other", "_law_at"]
abbrev s_law_program : Stmt := top 17
abbrev N_law_program : List Str := ["_law_box", "_law_many_here", "_law_k"]
abbrev s_law_many : Stmt := top 14
abbrev N_law_many : List Str := ["_law_box", "_law_way"]
abbrev s_law : Stmt := top 21
abbrev N_law : List Str := ["_law_script", "_law_box", "_law_turn"]
noncomputable def F_law_begin : FD := runF 1 1 (seqS (letS (celE (bffE .listOf (consE (frzE (sliL (varE 0) (retE none) (partE (retE (.int 63))))) (retE [])))) (setG 1)) (seqS (ifS (cmpB .Eq (varE 1) (frzE (lstE (retE [])))) (letS (celE (lstE (consE (retE (.int 19)) (retE [])))) (setG 1)) nxS) (retS (celE (dispE [((retE (.str "cells")), (varE 1)), ((retE (.str "turn")), (retE (.int 0)))])))))
noncomputable def F_law_kinds : FD := runF 0 0 (retS (frzE (lstE (consE (retE (.str "set")) (consE (retE (.str "add")) (consE (retE (.str "take")) (consE (retE (.str "tell")) (consE (retE (.str "ask")) (consE (retE (.str "jump")) (consE (retE (.str "zero")) (consE (retE (.str "stop")) (consE (retE (.str "farjump")) (consE (retE (.str "farzero")) (consE (retE (.str "skip")) (retE [])))))))))))))))
noncomputable def F_law_sizes : FD := runF 0 0 (retS (frzE (lstE (consE (retE (.str "none")) (consE (retE (.str "one")) (consE (retE (.str "two")) (consE (retE (.str "three")) (consE (retE (.str "four")) (consE (retE (.str "five")) (consE (retE (.str "six")) (consE (retE (.str "seven")) (consE (retE (.str "eight")) (retE [])))))))))))))
noncomputable def F_law_length : FD := runF 1 1 (seqS (letS (retE (.int 0)) (setG 1)) (seqS (whileS (cmpB .Gt (opE .RShift (varE 0) (varE 1)) (retE (.int 0))) (letS (opE .Add (varE 1) (retE (.int 1))) (setG 1))) (retS (varE 1))))
noncomputable def F_law_uses_due : FD := runF 1 9 (seqS (par3S 1 2 3 (consE (celE (lstE (retE []))) (consE (celE (lstE (retE []))) (consE (celE (lstE (retE []))) (retE []))))) (seqS (forS (inL (varE 0)) (setG 4) (seqS (dropS (bmE .append (varE 1) (consE (idxE (varE 4) (retE (.int 0))) (retE [])))) (seqS (dropS (bmE .extend (varE 2) (consE (frzE (lcE (([("_law_part", 6)] : List (Str × Nat)).map (·.2)) (inT (sliV (varE 4) (partE (retE (.int 1))) (retE none))) (setG 6) (truE (isiE .str (varE 6))) (varE 6))) (retE [])))) (ifS (cmpB .Eq (idxE (varE 4) (retE (.int 0))) (retE (.str "set"))) (dropS (bmE .append (varE 3) (consE (idxE (callE (segF 0 F_law_sizes) (retE [])) (callE (segF 0 F_law_length) (consE (idxE (varE 4) (retE (.int 2))) (retE [])))) (retE [])))) nxS)))) (seqS (letS (frzE (lstE (consE (tupE (consE (callE (segF 0 F_law_kinds) (retE [])) (consE (varE 1) (retE [])))) (consE (tupE (consE (frzE (lstE (consE (retE (.str "a")) (consE (retE (.str "b")) (consE (retE (.str "c")) (consE (retE (.str "d")) (retE []))))))) (consE (varE 2) (retE [])))) (consE (tupE (consE (callE (segF 0 F_law_sizes) (retE [])) (consE (varE 3) (retE [])))) (retE [])))))) (setG 5)) (retS (bifE .tupleOf (consE (frzE (lcE (([("_law_names", 7), ("_law_some", 8)] : List (Str × Nat)).map (·.2)) (inL (varE 5)) (tupG 2 (consG (setG 7) (consG (setG 8) nilG))) (retE true) (frzE (lcE (([("_law_name", 9)] : List (Str × Nat)).map (·.2)) (inL (varE 7)) (setG 9) (retE true) (tupE (consE (varE 9) (consE (bmE .count (varE 8) (consE (varE 9) (retE []))) (retE [])))))))) (retE [])))))))
noncomputable def F_counted : FD := runF 2 1 (retS (celE (lcE (([("name", 2)] : List (Str × Nat)).map (·.2)) (inT (varE 0)) (setG 2) (retE true) (tupE (consE (varE 2) (consE (bmE .count (varE 1) (consE (varE 2) (retE []))) (retE [])))))))
noncomputable def F_spots_in : FD := runF 1 1 (retS (frzE (lcE (([("part", 1)] : List (Str × Nat)).map (·.2)) (inT (sliV (varE 0) (partE (retE (.int 1))) (retE none))) (setG 1) (cmpB .In (varE 1) (retE g_SPOTS)) (varE 1))))
noncomputable def F_figures_of : FD := runF 1 1 (seqS (letS (retE (.int 0)) (setG 1)) (seqS (whileS (cmpB .Gt (opE .RShift (varE 0) (varE 1)) (retE (.int 0))) (augS 1 addI (retE (.int 1)))) (retS (varE 1))))
noncomputable def F_uses_of : FD := runF 1 4 (seqS (letS (celE (lstE (retE []))) (setG 1)) (seqS (letS (celE (lstE (retE []))) (setG 2)) (seqS (letS (celE (lstE (retE []))) (setG 3)) (seqS (forS (inL (varE 0)) (setG 4) (seqS (dropS (bmE .append (varE 1) (consE (idxE (varE 4) (retE (.int 0))) (retE [])))) (seqS (dropS (bmE .extend (varE 2) (consE (callE (segF 0 F_spots_in) (consE (varE 4) (retE []))) (retE [])))) (ifS (cmpB .Eq (idxE (varE 4) (retE (.int 0))) (retE (.str "set"))) (dropS (bmE .append (varE 3) (consE (idxE (retE g_SIZES) (callE (segF 0 F_figures_of) (consE (idxE (varE 4) (retE (.int 2))) (retE [])))) (retE [])))) nxS)))) (retS (tupE (consE (callE F_counted (consE (retE g_KINDS) (consE (varE 1) (retE [])))) (consE (callE F_counted (consE (retE g_SPOTS) (consE (varE 2) (retE [])))) (consE (callE F_counted (consE (retE g_SIZES) (consE (varE 3) (retE [])))) (retE []))))))))))
noncomputable def F_law_same : Nat → FD
  | 0 => noF
  | n + 1 => runF 2 2 (seqS (ifS (cmpB .Is (varE 1) (retE .non)) (retS (blE (cmpB .Is (varE 0) (retE .non)))) nxS) (seqS (ifS (truE (isiE .bool (varE 1))) (retS (ifE (asB (isiE .bool (varE 0))) (blE (cmpB .Eq (varE 0) (varE 1))) (retE (.bl false)))) nxS) (seqS (ifS (truE (isi2E .list .tuple (varE 1))) (seqS (ifS (cmpB .NotEq (isiE .list (varE 0)) (isiE .list (varE 1))) (retS (retE (.bl false))) nxS) (seqS (ifS (ifE (cmpB .NotEq (isiE .tuple (varE 0)) (isiE .tuple (varE 1))) (retE true) (cmpB .NotEq (bifE .len (consE (varE 0) (retE []))) (bifE .len (consE (varE 1) (retE []))))) (retS (retE (.bl false))) nxS) (retS (bifE .all (consE (frzE (lcE (([("_law_one", 2), ("_law_other", 3)] : List (Str × Nat)).map (·.2)) (inZip (consE (varE 0) (consE (varE 1) (retE [])))) (tupG 2 (consG (setG 2) (consG (setG 3) nilG))) (retE true) (callE (F_law_same n) (consE (varE 2) (consE (varE 3) (retE [])))))) (retE [])))))) nxS) (seqS (ifS (truE (isiE .str (varE 1))) (retS (ifE (asB (isiE .str (varE 0))) (blE (cmpB .Eq (varE 0) (varE 1))) (retE (.bl false)))) nxS) (retS (ifE (asB (isiE .int (varE 0))) (ifE (asB (norE (isiE .bool (varE 0)))) (blE (cmpB .Eq (varE 0) (varE 1))) (retE (.bl false))) (retE (.bl false))))))))
def fuel_law_same : Nat := 6
noncomputable def F_law_right : FD := runF 1 6 (seqS (letS (callE (segF 0 F_law_uses_due) (consE (varE 0) (retE []))) (setG 1)) (seqS (letS (bifE .strOf (consE (varE 0) (retE []))) (setG 2)) (seqS (forS (inR1 (consE (retE (.int 2)) (retE []))) (setG 3) (seqS (letS (callE F_uses_of (consE (varE 0) (retE []))) (setG 4)) (seqS (ifS (ifE (notB (truE (callE (F_law_same fuel_law_same) (consE (varE 4) (consE (varE 1) (retE [])))))) (retE true) (cmpB .NotEq (bifE .strOf (consE (varE 0) (retE []))) (varE 2))) (retS (retE (.bl false))) nxS) (seqS (forS (inEnumT (consE (varE 4) (retE []))) (tupG 2 (consG (setG 5) (consG (setG 6) nilG))) (dropS (bmE .append (varE 6) (consE (varE 5) (retE []))))) (seqS (ifS (notB (truE (bifE .all (consE (frzE (lcE (([("_law_k", 5), ("_law_some", 6)] : List (Str × Nat)).map (·.2)) (inEnumT (consE (varE 4) (retE []))) (tupG 2 (consG (setG 5) (consG (setG 6) nilG))) (retE true) (blE (cmpB .Eq (idxE (varE 6) (negE (retE (.int 1)))) (varE 5))))) (retE []))))) (retS (retE (.bl false))) nxS) (dropS (bmE .clear (idxE (varE 4) (retE (.int 0))) (retE [])))))))) (retS (retE (.bl true))))))
noncomputable def F_law_take : FD := runF 2 6 (seqS (letS (opE .Add (dgtE (varE 0) (retE (.str "turn"))) (retE (.int 1))) (setG 2)) (seqS (letS (varE 2) (subG setKD (varE 0) (retE (.str "turn")))) (seqS (letS (opE .Mod (varE 2) (bifE .len (consE (dgtE (varE 0) (retE (.str "cells"))) (retE [])))) (setG 3)) (seqS (letS (idxE (dgtE (varE 0) (retE (.str "cells"))) (varE 3)) (setG 4)) (seqS (ifS (cmpB .GtE (varE 4) (opE .Pow (retE (.int 10)) (retE (.int 18)))) (seqS (letS (bifE .divmod (consE (varE 4) (consE (varE 1) (retE [])))) (tupG 2 (consG (subG setI (dgtE (varE 0) (retE (.str "cells"))) (varE 3)) (consG (setG 5) nilG)))) (retS (varE 5))) nxS) (seqS (letS (idxE (frzE (lstE (consE (retE (.int 2147483647)) (consE (retE (.int 2147483629)) (consE (retE (.int 2147483587)) (consE (retE (.int 2147483579)) (consE (retE (.int 2147483563)) (consE (retE (.int 2147483549)) (consE (retE (.int 2147483543)) (retE [])))))))))) (opE .Mod (varE 2) (retE (.int 7)))) (setG 6)) (seqS (letS (opE .Mod (opE .Mult (opE .Add (opE .Add (opE .Mod (varE 4) (varE 6)) (opE .Mult (opE .Mult (varE 2) (varE 2)) (retE (.int 7919)))) (retE (.int 11))) (retE (.int 48271))) (varE 6)) (setG 7)) (seqS (letS (opE .Mod (opE .Mult (opE .Mod (opE .Pow (varE 7) (retE (.int 5))) (varE 6)) (opE .Add (retE (.int 39373)) (varE 2))) (retE (.int 1999999973))) (setG 7)) (retS (opE .Mod (opE .FloorDiv (varE 7) (retE (.int 64))) (varE 1)))))))))))
noncomputable def F_law_number : FD := runF 1 0 (seqS (ifS (cmpB .Eq (callE F_law_take (consE (varE 0) (consE (retE (.int 2)) (retE [])))) (retE (.int 0))) (retS (callE F_law_take (consE (varE 0) (consE (retE (.int 256)) (retE []))))) nxS) (retS (idxE (frzE (lstE (consE (retE (.int 0)) (consE (retE (.int 1)) (consE (retE (.int 2)) (consE (retE (.int 127)) (consE (retE (.int 128)) (consE (retE (.int 255)) (retE []))))))))) (callE F_law_take (consE (varE 0) (consE (retE (.int 6)) (retE [])))))))
noncomputable def F_law_row : FD := runF 2 4 (seqS (letS (callE F_law_take (consE (varE 0) (consE (retE (.int 10)) (retE [])))) (setG 2)) (seqS (parS 3 4 (consE (idxE (retE (.str "abcd")) (callE F_law_take (consE (varE 0) (consE (retE (.int 4)) (retE []))))) (consE (idxE (retE (.str "abcd")) (callE F_law_take (consE (varE 0) (consE (retE (.int 4)) (retE []))))) (retE [])))) (seqS (letS (callE F_law_take (consE (varE 0) (consE (opE .Add (varE 1) (retE (.int 1))) (retE [])))) (setG 5)) (seqS (ifS (cmpB .Lt (varE 2) (retE (.int 2))) (retS (tupE (consE (retE (.str "set")) (consE (varE 3) (consE (callE F_law_number (consE (varE 0) (retE []))) (retE [])))))) nxS) (seqS (ifS (cmpB .Lt (varE 2) (retE (.int 4))) (retS (tupE (consE (idxE (frzE (lstE (consE (retE (.str "add")) (consE (retE (.str "take")) (retE []))))) (opE .Sub (varE 2) (retE (.int 2)))) (consE (varE 3) (consE (varE 4) (retE [])))))) nxS) (seqS (ifS (cmpB .Lt (varE 2) (retE (.int 6))) (retS (tupE (consE (idxE (frzE (lstE (consE (retE (.str "tell")) (consE (retE (.str "ask")) (retE []))))) (opE .Sub (varE 2) (retE (.int 4)))) (consE (varE 3) (retE []))))) nxS) (seqS (ifS (ifE (cmpB .Eq (varE 2) (retE (.int 6))) (cmpB .Eq (callE F_law_take (consE (varE 0) (consE (retE (.int 3)) (retE [])))) (retE (.int 0))) (retE false)) (retS (tupE (consE (retE (.str "stop")) (retE [])))) nxS) (retS (ifE (cmpB .Eq (varE 2) (retE (.int 7))) (tupE (consE (retE (.str "jump")) (consE (varE 5) (retE [])))) (tupE (consE (retE (.str "zero")) (consE (varE 3) (consE (varE 5) (retE []))))))))))))))
noncomputable def F_law_program : FD := runF 2 1 (retS (frzE (lcE (([("_law_k", 2)] : List (Str × Nat)).map (·.2)) (inR1 (consE (varE 1) (retE []))) (setG 2) (retE true) (callE F_law_row (consE (varE 0) (consE (varE 1) (retE [])))))))
noncomputable def F_law_many : FD := runF 1 1 (seqS (letS (callE F_law_take (consE (varE 0) (consE (retE (.int 8)) (retE [])))) (setG 1)) (retS (idxE (frzE (lstE (consE (opE .Add (retE (.int 13)) (callE F_law_take (consE (varE 0) (consE (retE (.int 28)) (retE []))))) (consE (opE .Add (retE (.int 150)) (callE F_law_take (consE (varE 0) (consE (retE (.int 51)) (retE []))))) (consE (callE F_law_take (consE (varE 0) (consE (retE (.int 13)) (retE [])))) (retE [])))))) (bifE .min2 (consE (varE 1) (consE (retE (.int 2)) (retE [])))))))
noncomputable def F_law : FD := runF 1 2 (seqS (letS (callE F_law_begin (consE (varE 0) (retE []))) (setG 1)) (retS (bifE .all (consE (frzE (lcE (([("_law_turn", 2)] : List (Str × Nat)).map (·.2)) (inR1 (consE (retE (.int 3)) (retE []))) (setG 2) (retE true) (callE (segF 0 F_law_right) (consE (callE F_law_program (consE (varE 1) (consE (callE F_law_many (consE (varE 1) (retE []))) (retE [])))) (retE []))))) (retE [])))))
structure Nms (K : PySem.W.Frag) (mg : Str → Option Value) : Prop where
  n_all : mg "all" = none
  n_bool : mg "bool" = none
  n_divmod : mg "divmod" = none
  n_enumerate : mg "enumerate" = none
  n_int : mg "int" = none
  n_isinstance : mg "isinstance" = none
  n_len : mg "len" = none
  n_list : mg "list" = none
  n_min : mg "min" = none
  n_range : mg "range" = none
  n_str : mg "str" = none
  n_tuple : mg "tuple" = none
  n_zip : mg "zip" = none
  g_KINDS : GlD K mg "KINDS" g_KINDS
  g_SIZES : GlD K mg "SIZES" g_SIZES
  g_SPOTS : GlD K mg "SPOTS" g_SPOTS
section
variable {P : Program} {w : World} {K : PySem.W.Frag} {mg : Str → Option Value} {base : Heap} {f : Addr} {fd : FuncData}
theorem sc_law_begin : FnScope N_law_begin ["_law_script"] (defScope s_law_begin) := ⟨rfl, rfl, rfl, by decide +kernel, rfl, by decide +kernel, by decide +kernel⟩
theorem d_law_begin (Z : Nms K mg) {k : Nat}  (Fn : Fun K "_law_begin" "_law_begin" s_law_begin f fd) (hm : mg "_law_begin" = some (.ref f)) : HasF P w K mg base (k + 1) "_law_begin" 1 F_law_begin := by
  have nd : N_law_begin.Nodup := sc_law_begin.nd
  exact hasF Fn hm (Fn.binds (ps := ["_law_script"]) fun _ _ _ _ _ _ us hl => match us, hl with | [_], _ => rfl) sc_law_begin rfl rfl fun cdv A outer s H E B => (ys_cons (y_set (i := 1) nd rfl (.inl rfl) (.inl rfl) (y_cel (y_bff .listOf rfl Z.n_list rfl rfl (ya_cons rfl (y_frz (e_sliL (y_var (i := 0) rfl (.inl rfl) (by decide) (by decide)) yo_none (yo_some y_int))) ya_nil))) rfl) (ys_cons (y_ifs (t_cmp B.bc rfl (y_var (i := 1) rfl (.inl rfl) (by decide) (by decide)) (y_frz (e_lst ya_nil))) (ys_one (y_set (i := 1) nd rfl (.inl rfl) (.inl rfl) (y_cel (e_lst (ya_cons rfl y_int ya_nil))) rfl)) ys_nil) (ys_one (y_ret (y_cel (y_disp (.cons y_str (y_var (i := 1) rfl (.inl rfl) (by decide) (by decide)) (.cons y_str y_int .nil)) (by simp) (by decide)))))))
theorem sc_law_kinds : FnScope N_law_kinds [] (defScope s_law_kinds) := ⟨rfl, rfl, rfl, by decide +kernel, rfl, by decide +kernel, by decide +kernel⟩
theorem d_law_kinds (Z : Nms K mg) {k : Nat}  (Fn : Fun K "_law_kinds" "_law_kinds" s_law_kinds f fd) (hm : mg "_law_kinds" = some (.ref f)) : HasF P w K mg base (k + 1) "_law_kinds" 0 F_law_kinds := by
  have nd : N_law_kinds.Nodup := sc_law_kinds.nd
  exact hasF Fn hm (Fn.binds (ps := []) fun _ _ _ _ _ _ us hl => match us, hl with | [], _ => rfl) sc_law_kinds rfl rfl fun cdv A outer s H E B => (ys_one (y_ret (y_frz (e_lst (ya_cons rfl y_str (ya_cons rfl y_str (ya_cons rfl y_str (ya_cons rfl y_str (ya_cons rfl y_str (ya_cons rfl y_str (ya_cons rfl y_str (ya_cons rfl y_str (ya_cons rfl y_str (ya_cons rfl y_str (ya_cons rfl y_str ya_nil)))))))))))))))
theorem sc_law_sizes : FnScope N_law_sizes [] (defScope s_law_sizes) := ⟨rfl, rfl, rfl, by decide +kernel, rfl, by decide +kernel, by decide +kernel⟩
theorem d_law_sizes (Z : Nms K mg) {k : Nat}  (Fn : Fun K "_law_sizes" "_law_sizes" s_law_sizes f fd) (hm : mg "_law_sizes" = some (.ref f)) : HasF P w K mg base (k + 1) "_law_sizes" 0 F_law_sizes := by
  have nd : N_law_sizes.Nodup := sc_law_sizes.nd
  exact hasF Fn hm (Fn.binds (ps := []) fun _ _ _ _ _ _ us hl => match us, hl with | [], _ => rfl) sc_law_sizes rfl rfl fun cdv A outer s H E B => (ys_one (y_ret (y_frz (e_lst (ya_cons rfl y_str (ya_cons rfl y_str (ya_cons rfl y_str (ya_cons rfl y_str (ya_cons rfl y_str (ya_cons rfl y_str (ya_cons rfl y_str (ya_cons rfl y_str (ya_cons rfl y_str ya_nil)))))))))))))
theorem sc_law_length : FnScope N_law_length ["_law_number_here"] (defScope s_law_length) := ⟨rfl, rfl, rfl, by decide +kernel, rfl, by decide +kernel, by decide +kernel⟩
theorem d_law_length (Z : Nms K mg) {k : Nat}  (Fn : Fun K "_law_length" "_law_length" s_law_length f fd) (hm : mg "_law_length" = some (.ref f)) : HasF P w K mg base (k + 1) "_law_length" 1 F_law_length := by
  have nd : N_law_length.Nodup := sc_law_length.nd
  exact hasF Fn hm (Fn.binds (ps := ["_law_number_here"]) fun _ _ _ _ _ _ us hl => match us, hl with | [_], _ => rfl) sc_law_length rfl rfl fun cdv A outer s H E B => (ys_cons (y_set (i := 1) nd rfl (.inl rfl) (.inl rfl) y_int rfl) (ys_cons (y_while B.po (t_cmp B.bc rfl (e_op (y_var (i := 0) rfl (.inl rfl) (by decide) (by decide)) (y_var (i := 1) rfl (.inl rfl) (by decide) (by decide))) y_int) (ys_one (y_set (i := 1) nd rfl (.inl rfl) (.inl rfl) (e_op (y_var (i := 1) rfl (.inl rfl) (by decide) (by decide)) y_int) rfl))) (ys_one (y_ret (y_var (i := 1) rfl (.inl rfl) (by decide) (by decide))))))
theorem sc_law_uses_due : FnScope N_law_uses_due ["_law_program_here"] (defScope s_law_uses_due) := ⟨rfl, rfl, rfl, by decide +kernel, rfl, by decide +kernel, by decide +kernel⟩
theorem d_law_uses_due (Z : Nms K mg) {k : Nat} {klaw_kinds : Nat} (D_law_kinds : HasF P w K mg base klaw_kinds "_law_kinds" 0 F_law_kinds) (hklaw_kinds : klaw_kinds ≤ k) {klaw_length : Nat} (D_law_length : HasF P w K mg base klaw_length "_law_length" 1 F_law_length) (hklaw_length : klaw_length ≤ k) {klaw_sizes : Nat} (D_law_sizes : HasF P w K mg base klaw_sizes "_law_sizes" 0 F_law_sizes) (hklaw_sizes : klaw_sizes ≤ k) (Fn : Fun K "_law_uses_due" "_law_uses_due" s_law_uses_due f fd) (hm : mg "_law_uses_due" = some (.ref f)) : HasF P w K mg base (k + 1) "_law_uses_due" 1 F_law_uses_due := by
  have nd : N_law_uses_due.Nodup := sc_law_uses_due.nd
  exact hasF Fn hm (Fn.binds (ps := ["_law_program_here"]) fun _ _ _ _ _ _ us hl => match us, hl with | [_], _ => rfl) sc_law_uses_due rfl rfl fun cdv A outer s H E B => (ys_cons (y_par3 (i := 1) (j := 2) (l := 3) B.calm nd rfl rfl rfl (by decide) (by decide) (by decide) rfl rfl rfl (ya_cons rfl (y_cel (e_lst ya_nil)) (ya_cons rfl (y_cel (e_lst ya_nil)) (ya_cons rfl (y_cel (e_lst ya_nil)) ya_nil))) rfl rfl) (ys_cons (y_for B.po B.calm (yi_list (y_var (i := 0) rfl (.inl rfl) (by decide) (by decide))) (yg_name (i := 4) nd rfl (.inl rfl) (.inl rfl)) (ys_cons (y_expr (y_bm .append B.bc.toAir rfl rfl rfl (by decide) rfl (y_var (i := 1) rfl (.inl rfl) (by decide) (by decide)) (ya_cons rfl (e_idx rfl (y_var (i := 4) rfl (.inl rfl) (by decide) (by decide)) y_int) ya_nil)) rfl) (ys_cons (y_expr (y_bm .extend B.bc.toAir rfl rfl rfl (by decide) rfl (y_var (i := 2) rfl (.inl rfl) (by decide) (by decide)) (ya_cons rfl (y_frz (y_lc B.bc.calm nd (yi_tup (e_sliV (y_var (i := 4) rfl (.inl rfl) (by decide) (by decide)) (yo_some y_int) yo_none)) (blk_of (own := [("_law_part", 6)]) (by kernel_rfl)) (fun s H C cl fp => (yc_name (i := 6) (by decide) nd rfl (.inl rfl) (.inr rfl))) (fun s H C cl fp => (yts_one (yt_val rfl (y_isi .str (by decide) rfl Z.n_isinstance rfl Z.n_str rfl (y_var (i := 6) rfl (.inl rfl) (by decide) (by decide)))))) (fun s H C cl fp => (y_var (i := 6) rfl (.inl rfl) (by decide) (by decide))) (fun _ => rfl))) ya_nil)) rfl) (ys_one (y_ifs (t_cmp B.bc rfl (e_idx rfl (y_var (i := 4) rfl (.inl rfl) (by decide) (by decide)) y_int) y_str) (ys_one (y_expr (y_bm .append B.bc.toAir rfl rfl rfl (by decide) rfl (y_var (i := 3) rfl (.inl rfl) (by decide) (by decide)) (ya_cons rfl (e_idx rfl (y_callN0 B.bc (D_law_sizes.seg 0) hklaw_sizes rfl (by decide)) (y_callN B.bc (D_law_length.seg 0) hklaw_length rfl (by decide) rfl rfl (ya_cons rfl (e_idx rfl (y_var (i := 4) rfl (.inl rfl) (by decide) (by decide)) y_int) ya_nil))) ya_nil)) rfl)) ys_nil)))) (fun _ => rfl)) (ys_cons (y_set (i := 5) nd rfl (.inl rfl) (.inl rfl) (y_frz (e_lst (ya_cons rfl (e_tup (ya_cons rfl (y_callN0 B.bc (D_law_kinds.seg 0) hklaw_kinds rfl (by decide)) (ya_cons rfl (y_var (i := 1) rfl (.inl rfl) (by decide) (by decide)) ya_nil))) (ya_cons rfl (e_tup (ya_cons rfl (y_frz (e_lst (ya_cons rfl y_str (ya_cons rfl y_str (ya_cons rfl y_str (ya_cons rfl y_str ya_nil)))))) (ya_cons rfl (y_var (i := 2) rfl (.inl rfl) (by decide) (by decide)) ya_nil))) (ya_cons rfl (e_tup (ya_cons rfl (y_callN0 B.bc (D_law_sizes.seg 0) hklaw_sizes rfl (by decide)) (ya_cons rfl (y_var (i := 3) rfl (.inl rfl) (by decide) (by decide)) ya_nil))) ya_nil))))) rfl) (ys_one (y_ret (y_bif .tupleOf B.bc.toAir rfl Z.n_tuple rfl rfl (ya_cons rfl (y_frz (y_lc B.bc.calm nd (yi_list (y_var (i := 5) rfl (.inl rfl) (by decide) (by decide))) (blk_of (own := [("_law_names", 7), ("_law_some", 8)]) (by kernel_rfl)) (fun s H C cl fp => (yc_tup B.bc.blk.calm rfl (ycs_cons rfl (yc_name (i := 7) (by decide) nd rfl (.inl rfl) (.inr rfl)) (ycs_cons rfl (yc_name (i := 8) (by decide) nd rfl (.inr rfl) (.inl rfl)) ycs_nil)))) (fun s H C cl fp => yts_nil) (fun s H C cl fp => (y_frz (y_lc B.bc.blk.calm nd (yi_list (y_var (i := 7) rfl (.inl rfl) (by decide) (by decide))) (blk_of (own := [("_law_name", 9)]) (by kernel_rfl)) (fun s H C cl fp => (yc_name (i := 9) (by decide) nd rfl (.inl rfl) (.inr rfl))) (fun s H C cl fp => yts_nil) (fun s H C cl fp => (e_tup (ya_cons rfl (y_var (i := 9) rfl (.inl rfl) (by decide) (by decide)) (ya_cons rfl (y_bm .count B.bc.blk.blk.toAir rfl rfl rfl (by decide) rfl (y_var (i := 8) rfl (.inr (.inl rfl)) (by decide) (by decide)) (ya_cons rfl (y_var (i := 9) rfl (.inl rfl) (by decide) (by decide)) ya_nil)) ya_nil)))) (fun _ => rfl)))) (fun _ => rfl))) ya_nil)))))))
theorem sc_counted : FnScope N_counted ["names", "some"] (defScope s_counted) := ⟨rfl, rfl, rfl, by decide +kernel, rfl, by decide +kernel, by decide +kernel⟩
theorem d_counted (Z : Nms K mg) {k : Nat}  (Fn : Fun K "counted" "counted" s_counted f fd) (hm : mg "counted" = some (.ref f)) : HasF P w K mg base (k + 1) "counted" 2 F_counted := by
  have nd : N_counted.Nodup := sc_counted.nd
  exact hasF Fn hm (Fn.binds (ps := ["names", "some"]) fun _ _ _ _ _ _ us hl => match us, hl with | [_, _], _ => rfl) sc_counted rfl rfl fun cdv A outer s H E B => (ys_one (y_ret (y_cel (y_lc B.bc.calm nd (yi_tup (y_var (i := 0) rfl (.inl rfl) (by decide) (by decide))) (blk_of (own := [("name", 2)]) (by kernel_rfl)) (fun s H C cl fp => (yc_name (i := 2) (by decide) nd rfl (.inl rfl) (.inr rfl))) (fun s H C cl fp => yts_nil) (fun s H C cl fp => (e_tup (ya_cons rfl (y_var (i := 2) rfl (.inl rfl) (by decide) (by decide)) (ya_cons rfl (y_bm .count B.bc.blk.toAir rfl rfl rfl (by decide) rfl (y_var (i := 1) rfl (.inr (.inl rfl)) (by decide) (by decide)) (ya_cons rfl (y_var (i := 2) rfl (.inl rfl) (by decide) (by decide)) ya_nil)) ya_nil)))) (fun _ => rfl)))))
theorem sc_spots_in : FnScope N_spots_in ["row"] (defScope s_spots_in) := ⟨rfl, rfl, rfl, by decide +kernel, rfl, by decide +kernel, by decide +kernel⟩
theorem d_spots_in (Z : Nms K mg) {k : Nat}  (Fn : Fun K "spots_in" "spots_in" s_spots_in f fd) (hm : mg "spots_in" = some (.ref f)) : HasF P w K mg base (k + 1) "spots_in" 1 F_spots_in := by
  have nd : N_spots_in.Nodup := sc_spots_in.nd
  exact hasF Fn hm (Fn.binds (ps := ["row"]) fun _ _ _ _ _ _ us hl => match us, hl with | [_], _ => rfl) sc_spots_in rfl rfl fun cdv A outer s H E B => (ys_one (y_ret (y_frz (y_lc B.bc.calm nd (yi_tup (e_sliV (y_var (i := 0) rfl (.inl rfl) (by decide) (by decide)) (yo_some y_int) yo_none)) (blk_of (own := [("part", 1)]) (by kernel_rfl)) (fun s H C cl fp => (yc_name (i := 1) (by decide) nd rfl (.inl rfl) (.inr rfl))) (fun s H C cl fp => (yts_one (t_cmp B.bc.blk rfl (y_var (i := 1) rfl (.inl rfl) (by decide) (by decide)) (y_globD Z.g_SPOTS rfl (by decide))))) (fun s H C cl fp => (y_var (i := 1) rfl (.inl rfl) (by decide) (by decide))) (fun _ => rfl)))))
theorem sc_figures_of : FnScope N_figures_of ["number"] (defScope s_figures_of) := ⟨rfl, rfl, rfl, by decide +kernel, rfl, by decide +kernel, by decide +kernel⟩
theorem d_figures_of (Z : Nms K mg) {k : Nat}  (Fn : Fun K "figures_of" "figures_of" s_figures_of f fd) (hm : mg "figures_of" = some (.ref f)) : HasF P w K mg base (k + 1) "figures_of" 1 F_figures_of := by
  have nd : N_figures_of.Nodup := sc_figures_of.nd
  exact hasF Fn hm (Fn.binds (ps := ["number"]) fun _ _ _ _ _ _ us hl => match us, hl with | [_], _ => rfl) sc_figures_of rfl rfl fun cdv A outer s H E B => (ys_cons (y_set (i := 1) nd rfl (.inl rfl) (.inl rfl) y_int rfl) (ys_cons (y_while B.po (t_cmp B.bc rfl (e_op (y_var (i := 0) rfl (.inl rfl) (by decide) (by decide)) (y_var (i := 1) rfl (.inl rfl) (by decide) (by decide))) y_int) (ys_one (y_augI (i := 1) nd rfl (.inl rfl) (.inl rfl) y_int))) (ys_one (y_ret (y_var (i := 1) rfl (.inl rfl) (by decide) (by decide))))))
theorem sc_uses_of : FnScope N_uses_of ["program"] (defScope s_uses_of) := ⟨rfl, rfl, rfl, by decide +kernel, rfl, by decide +kernel, by decide +kernel⟩
theorem d_uses_of (Z : Nms K mg) {k : Nat} {kcounted : Nat} (D_counted : HasF P w K mg base kcounted "counted" 2 F_counted) (hkcounted : kcounted ≤ k) {kfigures_of : Nat} (D_figures_of : HasF P w K mg base kfigures_of "figures_of" 1 F_figures_of) (hkfigures_of : kfigures_of ≤ k) {kspots_in : Nat} (D_spots_in : HasF P w K mg base kspots_in "spots_in" 1 F_spots_in) (hkspots_in : kspots_in ≤ k) (Fn : Fun K "uses_of" "uses_of" s_uses_of f fd) (hm : mg "uses_of" = some (.ref f)) : HasF P w K mg base (k + 1) "uses_of" 1 F_uses_of := by
  have nd : N_uses_of.Nodup := sc_uses_of.nd
  exact hasF Fn hm (Fn.binds (ps := ["program"]) fun _ _ _ _ _ _ us hl => match us, hl with | [_], _ => rfl) sc_uses_of rfl rfl fun cdv A outer s H E B => (ys_cons (y_set (i := 1) nd rfl (.inl rfl) (.inl rfl) (y_cel (e_lst ya_nil)) rfl) (ys_cons (y_set (i := 2) nd rfl (.inl rfl) (.inl rfl) (y_cel (e_lst ya_nil)) rfl) (ys_cons (y_set (i := 3) nd rfl (.inl rfl) (.inl rfl) (y_cel (e_lst ya_nil)) rfl) (ys_cons (y_for B.po B.calm (yi_list (y_var (i := 0) rfl (.inl rfl) (by decide) (by decide))) (yg_name (i := 4) nd rfl (.inl rfl) (.inl rfl)) (ys_cons (y_expr (y_bm .append B.bc.toAir rfl rfl rfl (by decide) rfl (y_var (i := 1) rfl (.inl rfl) (by decide) (by decide)) (ya_cons rfl (e_idx rfl (y_var (i := 4) rfl (.inl rfl) (by decide) (by decide)) y_int) ya_nil)) rfl) (ys_cons (y_expr (y_bm .extend B.bc.toAir rfl rfl rfl (by decide) rfl (y_var (i := 2) rfl (.inl rfl) (by decide) (by decide)) (ya_cons rfl (y_callN B.bc (D_spots_in.seg 0) hkspots_in rfl (by decide) rfl rfl (ya_cons rfl (y_var (i := 4) rfl (.inl rfl) (by decide) (by decide)) ya_nil)) ya_nil)) rfl) (ys_one (y_ifs (t_cmp B.bc rfl (e_idx rfl (y_var (i := 4) rfl (.inl rfl) (by decide) (by decide)) y_int) y_str) (ys_one (y_expr (y_bm .append B.bc.toAir rfl rfl rfl (by decide) rfl (y_var (i := 3) rfl (.inl rfl) (by decide) (by decide)) (ya_cons rfl (e_idx rfl (y_globD Z.g_SIZES rfl (by decide)) (y_callN B.bc (D_figures_of.seg 0) hkfigures_of rfl (by decide) rfl rfl (ya_cons rfl (e_idx rfl (y_var (i := 4) rfl (.inl rfl) (by decide) (by decide)) y_int) ya_nil))) ya_nil)) rfl)) ys_nil)))) (fun _ => rfl)) (ys_one (y_ret (e_tup (ya_cons rfl (y_callN B.bc D_counted hkcounted rfl (by decide) rfl rfl (ya_cons rfl (y_globD Z.g_KINDS rfl (by decide)) (ya_cons rfl (y_var (i := 1) rfl (.inl rfl) (by decide) (by decide)) ya_nil))) (ya_cons rfl (y_callN B.bc D_counted hkcounted rfl (by decide) rfl rfl (ya_cons rfl (y_globD Z.g_SPOTS rfl (by decide)) (ya_cons rfl (y_var (i := 2) rfl (.inl rfl) (by decide) (by decide)) ya_nil))) (ya_cons rfl (y_callN B.bc D_counted hkcounted rfl (by decide) rfl rfl (ya_cons rfl (y_globD Z.g_SIZES rfl (by decide)) (ya_cons rfl (y_var (i := 3) rfl (.inl rfl) (by decide) (by decide)) ya_nil))) ya_nil))))))))))
theorem sc_law_same : FnScope N_law_same ["_law_found", "_law_due"] (defScope s_law_same) := ⟨rfl, rfl, rfl, by decide +kernel, rfl, by decide +kernel, by decide +kernel⟩
theorem d_law_same (Z : Nms K mg) {k : Nat}  (Fn : Fun K "_law_same" "_law_same" s_law_same f fd) (hm : mg "_law_same" = some (.ref f)) : ∀ n, HasF P w K mg base (k + n) "_law_same" 2 (F_law_same n)
  | 0 => (hasNo Fn hm (Fn.binds (ps := ["_law_found", "_law_due"]) fun _ _ _ _ _ _ us hl => match us, hl with | [_, _], _ => rfl) rfl).mono (Nat.zero_le _)
  | n + 1 => by
    have D_law_same := d_law_same Z (k := k)  Fn hm n
    have hklaw_same : k + n ≤ k + n := Nat.le_refl _
    have nd : N_law_same.Nodup := sc_law_same.nd
    exact hasF Fn hm (Fn.binds (ps := ["_law_found", "_law_due"]) fun _ _ _ _ _ _ us hl => match us, hl with | [_, _], _ => rfl) sc_law_same rfl rfl fun cdv A outer s H E B => ((ys_cons (y_ifs (t_cmp B.bc rfl (y_var (i := 1) rfl (.inl rfl) (by decide) (by decide)) y_non) (ys_one (y_ret (e_cmp B.bc rfl (y_var (i := 0) rfl (.inl rfl) (by decide) (by decide)) y_non))) ys_nil) (ys_cons (y_ifs (yt_val rfl (y_isi .bool (by decide) rfl Z.n_isinstance rfl Z.n_bool rfl (y_var (i := 1) rfl (.inl rfl) (by decide) (by decide)))) (ys_one (y_ret (y_and (y_isi .bool (by decide) rfl Z.n_isinstance rfl Z.n_bool rfl (y_var (i := 0) rfl (.inl rfl) (by decide) (by decide))) (y_one (e_cmp B.bc rfl (y_var (i := 0) rfl (.inl rfl) (by decide) (by decide)) (y_var (i := 1) rfl (.inl rfl) (by decide) (by decide))))))) ys_nil) (ys_cons (y_ifs (yt_val rfl (y_isi2 .list .tuple (by decide) (by decide) rfl Z.n_isinstance rfl Z.n_list rfl Z.n_tuple rfl (y_var (i := 1) rfl (.inl rfl) (by decide) (by decide)))) (ys_cons (y_ifs (t_cmp B.bc rfl (y_isi .list (by decide) rfl Z.n_isinstance rfl Z.n_list rfl (y_var (i := 0) rfl (.inl rfl) (by decide) (by decide))) (y_isi .list (by decide) rfl Z.n_isinstance rfl Z.n_list rfl (y_var (i := 1) rfl (.inl rfl) (by decide) (by decide)))) (ys_one (y_ret y_bl)) ys_nil) (ys_cons (y_ifs (PW.pt (yw_or (t_cmp B.bc rfl (y_isi .tuple (by decide) rfl Z.n_isinstance rfl Z.n_tuple rfl (y_var (i := 0) rfl (.inl rfl) (by decide) (by decide))) (y_isi .tuple (by decide) rfl Z.n_isinstance rfl Z.n_tuple rfl (y_var (i := 1) rfl (.inl rfl) (by decide) (by decide)))) (yw_or1 (t_cmp B.bc rfl (y_bif .len B.bc.toAir rfl Z.n_len rfl rfl (ya_cons rfl (y_var (i := 0) rfl (.inl rfl) (by decide) (by decide)) ya_nil)) (y_bif .len B.bc.toAir rfl Z.n_len rfl rfl (ya_cons rfl (y_var (i := 1) rfl (.inl rfl) (by decide) (by decide)) ya_nil)))))) (ys_one (y_ret y_bl)) ys_nil) (ys_one (y_ret (y_bif .all B.bc.toAir rfl Z.n_all rfl rfl (ya_cons rfl (y_frz (y_lc B.bc.calm nd (yi_zip rfl Z.n_zip rfl rfl (ya_cons rfl (y_var (i := 0) rfl (.inl rfl) (by decide) (by decide)) (ya_cons rfl (y_var (i := 1) rfl (.inl rfl) (by decide) (by decide)) ya_nil))) (blk_of (own := [("_law_one", 2), ("_law_other", 3)]) (by kernel_rfl)) (fun s H C cl fp => (yc_tup B.bc.blk.calm rfl (ycs_cons rfl (yc_name (i := 2) (by decide) nd rfl (.inl rfl) (.inr rfl)) (ycs_cons rfl (yc_name (i := 3) (by decide) nd rfl (.inl rfl) (.inr rfl)) ycs_nil)))) (fun s H C cl fp => yts_nil) (fun s H C cl fp => (y_callN B.bc.blk D_law_same hklaw_same rfl (by decide) rfl rfl (ya_cons rfl (y_var (i := 2) rfl (.inl rfl) (by decide) (by decide)) (ya_cons rfl (y_var (i := 3) rfl (.inl rfl) (by decide) (by decide)) ya_nil)))) (fun _ => rfl))) ya_nil)))))) ys_nil) (ys_cons (y_ifs (yt_val rfl (y_isi .str (by decide) rfl Z.n_isinstance rfl Z.n_str rfl (y_var (i := 1) rfl (.inl rfl) (by decide) (by decide)))) (ys_one (y_ret (y_and (y_isi .str (by decide) rfl Z.n_isinstance rfl Z.n_str rfl (y_var (i := 0) rfl (.inl rfl) (by decide) (by decide))) (y_one (e_cmp B.bc rfl (y_var (i := 0) rfl (.inl rfl) (by decide) (by decide)) (y_var (i := 1) rfl (.inl rfl) (by decide) (by decide))))))) ys_nil) (ys_one (y_ret (y_and (y_isi .int (by decide) rfl Z.n_isinstance rfl Z.n_int rfl (y_var (i := 0) rfl (.inl rfl) (by decide) (by decide))) (y_and (e_not (y_isi .bool (by decide) rfl Z.n_isinstance rfl Z.n_bool rfl (y_var (i := 0) rfl (.inl rfl) (by decide) (by decide)))) (y_one (e_cmp B.bc rfl (y_var (i := 0) rfl (.inl rfl) (by decide) (by decide)) (y_var (i := 1) rfl (.inl rfl) (by decide) (by decide)))))))))))) : YSs (cxY P w K mg base N_law_same "_law_same" (defScope s_law_same) f cdv A outer s H E) (WQ E) (defBody s_law_same) _)
theorem sc_law_right : FnScope N_law_right ["_law_program_here"] (defScope s_law_right) := ⟨rfl, rfl, rfl, by decide +kernel, rfl, by decide +kernel, by decide +kernel⟩
theorem d_law_right (Z : Nms K mg) {k : Nat} {klaw_same : Nat} (D_law_same : HasF P w K mg base klaw_same "_law_same" 2 (F_law_same fuel_law_same)) (hklaw_same : klaw_same ≤ k) {klaw_uses_due : Nat} (D_law_uses_due : HasF P w K mg base klaw_uses_due "_law_uses_due" 1 F_law_uses_due) (hklaw_uses_due : klaw_uses_due ≤ k) {kuses_of : Nat} (D_uses_of : HasF P w K mg base kuses_of "uses_of" 1 F_uses_of) (hkuses_of : kuses_of ≤ k) (Fn : Fun K "_law_right" "_law_right" s_law_right f fd) (hm : mg "_law_right" = some (.ref f)) : HasF P w K mg base (k + 1) "_law_right" 1 F_law_right := by
  have nd : N_law_right.Nodup := sc_law_right.nd
  exact hasF Fn hm (Fn.binds (ps := ["_law_program_here"]) fun _ _ _ _ _ _ us hl => match us, hl with | [_], _ => rfl) sc_law_right rfl rfl fun cdv A outer s H E B => (ys_cons (y_set (i := 1) nd rfl (.inl rfl) (.inl rfl) (y_callN B.bc (D_law_uses_due.seg 0) hklaw_uses_due rfl (by decide) rfl rfl (ya_cons rfl (y_var (i := 0) rfl (.inl rfl) (by decide) (by decide)) ya_nil)) rfl) (ys_cons (y_set (i := 2) nd rfl (.inl rfl) (.inl rfl) (y_bif .strOf B.bc.toAir rfl Z.n_str rfl rfl (ya_cons rfl (y_var (i := 0) rfl (.inl rfl) (by decide) (by decide)) ya_nil)) rfl) (ys_cons (y_for B.po B.calm (yi_range1 rfl Z.n_range rfl (ya_cons rfl y_int ya_nil)) (yg_name (i := 3) nd rfl (.inl rfl) (.inl rfl)) (ys_cons (y_set (i := 4) nd rfl (.inl rfl) (.inl rfl) (y_callN B.bc D_uses_of hkuses_of rfl (by decide) rfl rfl (ya_cons rfl (y_var (i := 0) rfl (.inl rfl) (by decide) (by decide)) ya_nil)) rfl) (ys_cons (y_ifs (PW.pt (yw_or (yt_not (yt_val rfl (y_callN B.bc D_law_same hklaw_same rfl (by decide) rfl rfl (ya_cons rfl (y_var (i := 4) rfl (.inl rfl) (by decide) (by decide)) (ya_cons rfl (y_var (i := 1) rfl (.inl rfl) (by decide) (by decide)) ya_nil))))) (yw_or1 (t_cmp B.bc rfl (y_bif .strOf B.bc.toAir rfl Z.n_str rfl rfl (ya_cons rfl (y_var (i := 0) rfl (.inl rfl) (by decide) (by decide)) ya_nil)) (y_var (i := 2) rfl (.inl rfl) (by decide) (by decide)))))) (ys_one (y_ret y_bl)) ys_nil) (ys_cons (y_for B.po B.calm (yi_enumT rfl Z.n_enumerate rfl (ya_cons rfl (y_var (i := 4) rfl (.inl rfl) (by decide) (by decide)) ya_nil)) (yg_tup B.bc.calm rfl (ygs_cons rfl (yg_name (i := 5) nd rfl (.inl rfl) (.inl rfl)) (ygs_cons rfl (yg_name (i := 6) nd rfl (.inl rfl) (.inl rfl)) ygs_nil))) (ys_one (y_expr (y_bm .append B.bc.toAir rfl rfl rfl (by decide) rfl (y_var (i := 6) rfl (.inl rfl) (by decide) (by decide)) (ya_cons rfl (y_var (i := 5) rfl (.inl rfl) (by decide) (by decide)) ya_nil)) rfl)) (fun _ => rfl)) (ys_cons (y_ifs (yt_not (yt_val rfl (y_bif .all B.bc.toAir rfl Z.n_all rfl rfl (ya_cons rfl (y_frz (y_lc B.bc.calm nd (yi_enumT rfl Z.n_enumerate rfl (ya_cons rfl (y_var (i := 4) rfl (.inl rfl) (by decide) (by decide)) ya_nil)) (blk_of (own := [("_law_k", 5), ("_law_some", 6)]) (by kernel_rfl)) (fun s H C cl fp => (yc_tup B.bc.blk.calm rfl (ycs_cons rfl (yc_name (i := 5) (by decide) nd rfl (.inl rfl) (.inr rfl)) (ycs_cons rfl (yc_name (i := 6) (by decide) nd rfl (.inl rfl) (.inr rfl)) ycs_nil)))) (fun s H C cl fp => yts_nil) (fun s H C cl fp => (e_cmp B.bc.blk rfl (e_idx rfl (y_var (i := 6) rfl (.inl rfl) (by decide) (by decide)) (e_neg y_int)) (y_var (i := 5) rfl (.inl rfl) (by decide) (by decide)))) (fun _ => rfl))) ya_nil)))) (ys_one (y_ret y_bl)) ys_nil) (ys_one (y_expr (y_bm0 .clear B.bc.toAir rfl rfl (e_idx rfl (y_var (i := 4) rfl (.inl rfl) (by decide) (by decide)) y_int)) rfl)))))) (fun _ => rfl)) (ys_one (y_ret y_bl)))))
theorem sc_law_take : FnScope N_law_take ["_law_box", "_law_many_here"] (defScope s_law_take) := ⟨rfl, rfl, rfl, by decide +kernel, rfl, by decide +kernel, by decide +kernel⟩
theorem d_law_take (Z : Nms K mg) {k : Nat}  (Fn : Fun K "_law_take" "_law_take" s_law_take f fd) (hm : mg "_law_take" = some (.ref f)) : HasF P w K mg base (k + 1) "_law_take" 2 F_law_take := by
  have nd : N_law_take.Nodup := sc_law_take.nd
  exact hasF Fn hm (Fn.binds (ps := ["_law_box", "_law_many_here"]) fun _ _ _ _ _ _ us hl => match us, hl with | [_, _], _ => rfl) sc_law_take rfl rfl fun cdv A outer s H E B => (ys_cons (y_set (i := 2) nd rfl (.inl rfl) (.inl rfl) (e_op (e_dgt B.bc rfl (y_var (i := 0) rfl (.inl rfl) (by decide) (by decide)) y_str) y_int) rfl) (ys_cons (y_asg (y_var (i := 2) rfl (.inl rfl) (by decide) (by decide)) (yg_sub (W := WQ E) (set_dict (by have := B.bc.un; omega)) setK_S (y_var (i := 0) rfl (.inl rfl) (by decide) (by decide)) y_str (fun _ => rfl)) rfl rfl rfl) (ys_cons (y_set (i := 3) nd rfl (.inl rfl) (.inl rfl) (e_op (y_var (i := 2) rfl (.inl rfl) (by decide) (by decide)) (y_bif .len B.bc.toAir rfl Z.n_len rfl rfl (ya_cons rfl (e_dgt B.bc rfl (y_var (i := 0) rfl (.inl rfl) (by decide) (by decide)) y_str) ya_nil))) rfl) (ys_cons (y_set (i := 4) nd rfl (.inl rfl) (.inl rfl) (e_idx rfl (e_dgt B.bc rfl (y_var (i := 0) rfl (.inl rfl) (by decide) (by decide)) y_str) (y_var (i := 3) rfl (.inl rfl) (by decide) (by decide))) rfl) (ys_cons (y_ifs (t_cmp B.bc rfl (y_var (i := 4) rfl (.inl rfl) (by decide) (by decide)) (e_op y_int y_int)) (ys_cons (y_asg (y_bif .divmod B.bc.toAir rfl Z.n_divmod rfl rfl (ya_cons rfl (y_var (i := 4) rfl (.inl rfl) (by decide) (by decide)) (ya_cons rfl (y_var (i := 1) rfl (.inl rfl) (by decide) (by decide)) ya_nil))) (yg_tup B.bc.calm rfl (ygs_cons rfl (yg_sub (W := WQ E) set_list setI_S (e_dgt B.bc rfl (y_var (i := 0) rfl (.inl rfl) (by decide) (by decide)) y_str) (y_var (i := 3) rfl (.inl rfl) (by decide) (by decide)) (fun _ => rfl)) (ygs_cons rfl (yg_name (i := 5) nd rfl (.inl rfl) (.inl rfl)) ygs_nil))) rfl rfl rfl) (ys_one (y_ret (y_var (i := 5) rfl (.inl rfl) (by decide) (by decide))))) ys_nil) (ys_cons (y_set (i := 6) nd rfl (.inl rfl) (.inl rfl) (e_idx rfl (y_frz (e_lst (ya_cons rfl y_int (ya_cons rfl y_int (ya_cons rfl y_int (ya_cons rfl y_int (ya_cons rfl y_int (ya_cons rfl y_int (ya_cons rfl y_int ya_nil))))))))) (e_op (y_var (i := 2) rfl (.inl rfl) (by decide) (by decide)) y_int)) rfl) (ys_cons (y_set (i := 7) nd rfl (.inl rfl) (.inl rfl) (e_op (e_op (e_op (e_op (e_op (y_var (i := 4) rfl (.inl rfl) (by decide) (by decide)) (y_var (i := 6) rfl (.inl rfl) (by decide) (by decide))) (e_op (e_op (y_var (i := 2) rfl (.inl rfl) (by decide) (by decide)) (y_var (i := 2) rfl (.inl rfl) (by decide) (by decide))) y_int)) y_int) y_int) (y_var (i := 6) rfl (.inl rfl) (by decide) (by decide))) rfl) (ys_cons (y_set (i := 7) nd rfl (.inl rfl) (.inl rfl) (e_op (e_op (e_op (e_op (y_var (i := 7) rfl (.inl rfl) (by decide) (by decide)) y_int) (y_var (i := 6) rfl (.inl rfl) (by decide) (by decide))) (e_op y_int (y_var (i := 2) rfl (.inl rfl) (by decide) (by decide)))) y_int) rfl) (ys_one (y_ret (e_op (e_op (y_var (i := 7) rfl (.inl rfl) (by decide) (by decide)) y_int) (y_var (i := 1) rfl (.inl rfl) (by decide) (by decide)))))))))))))
theorem sc_law_number : FnScope N_law_number ["_law_box"] (defScope s_law_number) := ⟨rfl, rfl, rfl, by decide +kernel, rfl, by decide +kernel, by decide +kernel⟩
theorem d_law_number (Z : Nms K mg) {k : Nat} {klaw_take : Nat} (D_law_take : HasF P w K mg base klaw_take "_law_take" 2 F_law_take) (hklaw_take : klaw_take ≤ k) (Fn : Fun K "_law_number" "_law_number" s_law_number f fd) (hm : mg "_law_number" = some (.ref f)) : HasF P w K mg base (k + 1) "_law_number" 1 F_law_number := by
  have nd : N_law_number.Nodup := sc_law_number.nd
  exact hasF Fn hm (Fn.binds (ps := ["_law_box"]) fun _ _ _ _ _ _ us hl => match us, hl with | [_], _ => rfl) sc_law_number rfl rfl fun cdv A outer s H E B => (ys_cons (y_ifs (t_cmp B.bc rfl (y_callN B.bc D_law_take hklaw_take rfl (by decide) rfl rfl (ya_cons rfl (y_var (i := 0) rfl (.inl rfl) (by decide) (by decide)) (ya_cons rfl y_int ya_nil))) y_int) (ys_one (y_ret (y_callN B.bc D_law_take hklaw_take rfl (by decide) rfl rfl (ya_cons rfl (y_var (i := 0) rfl (.inl rfl) (by decide) (by decide)) (ya_cons rfl y_int ya_nil))))) ys_nil) (ys_one (y_ret (e_idx rfl (y_frz (e_lst (ya_cons rfl y_int (ya_cons rfl y_int (ya_cons rfl y_int (ya_cons rfl y_int (ya_cons rfl y_int (ya_cons rfl y_int ya_nil)))))))) (y_callN B.bc D_law_take hklaw_take rfl (by decide) rfl rfl (ya_cons rfl (y_var (i := 0) rfl (.inl rfl) (by decide) (by decide)) (ya_cons rfl y_int ya_nil)))))))
theorem sc_law_row : FnScope N_law_row ["_law_box", "_law_many_here"] (defScope s_law_row) := ⟨rfl, rfl, rfl, by decide +kernel, rfl, by decide +kernel, by decide +kernel⟩
theorem d_law_row (Z : Nms K mg) {k : Nat} {klaw_number : Nat} (D_law_number : HasF P w K mg base klaw_number "_law_number" 1 F_law_number) (hklaw_number : klaw_number ≤ k) {klaw_take : Nat} (D_law_take : HasF P w K mg base klaw_take "_law_take" 2 F_law_take) (hklaw_take : klaw_take ≤ k) (Fn : Fun K "_law_row" "_law_row" s_law_row f fd) (hm : mg "_law_row" = some (.ref f)) : HasF P w K mg base (k + 1) "_law_row" 2 F_law_row := by
  have nd : N_law_row.Nodup := sc_law_row.nd
  exact hasF Fn hm (Fn.binds (ps := ["_law_box", "_law_many_here"]) fun _ _ _ _ _ _ us hl => match us, hl with | [_, _], _ => rfl) sc_law_row rfl rfl fun cdv A outer s H E B => (ys_cons (y_set (i := 2) nd rfl (.inl rfl) (.inl rfl) (y_callN B.bc D_law_take hklaw_take rfl (by decide) rfl rfl (ya_cons rfl (y_var (i := 0) rfl (.inl rfl) (by decide) (by decide)) (ya_cons rfl y_int ya_nil))) rfl) (ys_cons (y_par (i := 3) (j := 4) B.calm nd rfl rfl (by decide) rfl rfl (ya_cons rfl (e_idx rfl y_str (y_callN B.bc D_law_take hklaw_take rfl (by decide) rfl rfl (ya_cons rfl (y_var (i := 0) rfl (.inl rfl) (by decide) (by decide)) (ya_cons rfl y_int ya_nil)))) (ya_cons rfl (e_idx rfl y_str (y_callN B.bc D_law_take hklaw_take rfl (by decide) rfl rfl (ya_cons rfl (y_var (i := 0) rfl (.inl rfl) (by decide) (by decide)) (ya_cons rfl y_int ya_nil)))) ya_nil)) rfl rfl) (ys_cons (y_set (i := 5) nd rfl (.inl rfl) (.inl rfl) (y_callN B.bc D_law_take hklaw_take rfl (by decide) rfl rfl (ya_cons rfl (y_var (i := 0) rfl (.inl rfl) (by decide) (by decide)) (ya_cons rfl (e_op (y_var (i := 1) rfl (.inl rfl) (by decide) (by decide)) y_int) ya_nil))) rfl) (ys_cons (y_ifs (t_cmp B.bc rfl (y_var (i := 2) rfl (.inl rfl) (by decide) (by decide)) y_int) (ys_one (y_ret (e_tup (ya_cons rfl y_str (ya_cons rfl (y_var (i := 3) rfl (.inl rfl) (by decide) (by decide)) (ya_cons rfl (y_callN B.bc D_law_number hklaw_number rfl (by decide) rfl rfl (ya_cons rfl (y_var (i := 0) rfl (.inl rfl) (by decide) (by decide)) ya_nil)) ya_nil)))))) ys_nil) (ys_cons (y_ifs (t_cmp B.bc rfl (y_var (i := 2) rfl (.inl rfl) (by decide) (by decide)) y_int) (ys_one (y_ret (e_tup (ya_cons rfl (e_idx rfl (y_frz (e_lst (ya_cons rfl y_str (ya_cons rfl y_str ya_nil)))) (e_op (y_var (i := 2) rfl (.inl rfl) (by decide) (by decide)) y_int)) (ya_cons rfl (y_var (i := 3) rfl (.inl rfl) (by decide) (by decide)) (ya_cons rfl (y_var (i := 4) rfl (.inl rfl) (by decide) (by decide)) ya_nil)))))) ys_nil) (ys_cons (y_ifs (t_cmp B.bc rfl (y_var (i := 2) rfl (.inl rfl) (by decide) (by decide)) y_int) (ys_one (y_ret (e_tup (ya_cons rfl (e_idx rfl (y_frz (e_lst (ya_cons rfl y_str (ya_cons rfl y_str ya_nil)))) (e_op (y_var (i := 2) rfl (.inl rfl) (by decide) (by decide)) y_int)) (ya_cons rfl (y_var (i := 3) rfl (.inl rfl) (by decide) (by decide)) ya_nil))))) ys_nil) (ys_cons (y_ifs (PW.pt (yw_and (t_cmp B.bc rfl (y_var (i := 2) rfl (.inl rfl) (by decide) (by decide)) y_int) (yw_and1 (t_cmp B.bc rfl (y_callN B.bc D_law_take hklaw_take rfl (by decide) rfl rfl (ya_cons rfl (y_var (i := 0) rfl (.inl rfl) (by decide) (by decide)) (ya_cons rfl y_int ya_nil))) y_int)))) (ys_one (y_ret (e_tup (ya_cons rfl y_str ya_nil)))) ys_nil) (ys_one (y_ret (y_if (t_cmp B.bc rfl (y_var (i := 2) rfl (.inl rfl) (by decide) (by decide)) y_int) (e_tup (ya_cons rfl y_str (ya_cons rfl (y_var (i := 5) rfl (.inl rfl) (by decide) (by decide)) ya_nil))) (e_tup (ya_cons rfl y_str (ya_cons rfl (y_var (i := 3) rfl (.inl rfl) (by decide) (by decide)) (ya_cons rfl (y_var (i := 5) rfl (.inl rfl) (by decide) (by decide)) ya_nil))))))))))))))
theorem sc_law_program : FnScope N_law_program ["_law_box", "_law_many_here"] (defScope s_law_program) := ⟨rfl, rfl, rfl, by decide +kernel, rfl, by decide +kernel, by decide +kernel⟩
theorem d_law_program (Z : Nms K mg) {k : Nat} {klaw_row : Nat} (D_law_row : HasF P w K mg base klaw_row "_law_row" 2 F_law_row) (hklaw_row : klaw_row ≤ k) (Fn : Fun K "_law_program" "_law_program" s_law_program f fd) (hm : mg "_law_program" = some (.ref f)) : HasF P w K mg base (k + 1) "_law_program" 2 F_law_program := by
  have nd : N_law_program.Nodup := sc_law_program.nd
  exact hasF Fn hm (Fn.binds (ps := ["_law_box", "_law_many_here"]) fun _ _ _ _ _ _ us hl => match us, hl with | [_, _], _ => rfl) sc_law_program rfl rfl fun cdv A outer s H E B => (ys_one (y_ret (y_frz (y_lc B.bc.calm nd (yi_range1 rfl Z.n_range rfl (ya_cons rfl (y_var (i := 1) rfl (.inr (.inl rfl)) (by decide) (by decide)) ya_nil)) (blk_of (own := [("_law_k", 2)]) (by kernel_rfl)) (fun s H C cl fp => (yc_name (i := 2) (by decide) nd rfl (.inl rfl) (.inr rfl))) (fun s H C cl fp => yts_nil) (fun s H C cl fp => (y_callN B.bc.blk D_law_row hklaw_row rfl (by decide) rfl rfl (ya_cons rfl (y_var (i := 0) rfl (.inr (.inl rfl)) (by decide) (by decide)) (ya_cons rfl (y_var (i := 1) rfl (.inr (.inl rfl)) (by decide) (by decide)) ya_nil)))) (fun _ => rfl)))))
theorem sc_law_many : FnScope N_law_many ["_law_box"] (defScope s_law_many) := ⟨rfl, rfl, rfl, by decide +kernel, rfl, by decide +kernel, by decide +kernel⟩
theorem d_law_many (Z : Nms K mg) {k : Nat} {klaw_take : Nat} (D_law_take : HasF P w K mg base klaw_take "_law_take" 2 F_law_take) (hklaw_take : klaw_take ≤ k) (Fn : Fun K "_law_many" "_law_many" s_law_many f fd) (hm : mg "_law_many" = some (.ref f)) : HasF P w K mg base (k + 1) "_law_many" 1 F_law_many := by
  have nd : N_law_many.Nodup := sc_law_many.nd
  exact hasF Fn hm (Fn.binds (ps := ["_law_box"]) fun _ _ _ _ _ _ us hl => match us, hl with | [_], _ => rfl) sc_law_many rfl rfl fun cdv A outer s H E B => (ys_cons (y_set (i := 1) nd rfl (.inl rfl) (.inl rfl) (y_callN B.bc D_law_take hklaw_take rfl (by decide) rfl rfl (ya_cons rfl (y_var (i := 0) rfl (.inl rfl) (by decide) (by decide)) (ya_cons rfl y_int ya_nil))) rfl) (ys_one (y_ret (e_idx rfl (y_frz (e_lst (ya_cons rfl (e_op y_int (y_callN B.bc D_law_take hklaw_take rfl (by decide) rfl rfl (ya_cons rfl (y_var (i := 0) rfl (.inl rfl) (by decide) (by decide)) (ya_cons rfl y_int ya_nil)))) (ya_cons rfl (e_op y_int (y_callN B.bc D_law_take hklaw_take rfl (by decide) rfl rfl (ya_cons rfl (y_var (i := 0) rfl (.inl rfl) (by decide) (by decide)) (ya_cons rfl y_int ya_nil)))) (ya_cons rfl (y_callN B.bc D_law_take hklaw_take rfl (by decide) rfl rfl (ya_cons rfl (y_var (i := 0) rfl (.inl rfl) (by decide) (by decide)) (ya_cons rfl y_int ya_nil))) ya_nil))))) (y_bif .min2 B.bc.toAir rfl Z.n_min rfl rfl (ya_cons rfl (y_var (i := 1) rfl (.inl rfl) (by decide) (by decide)) (ya_cons rfl y_int ya_nil)))))))
theorem sc_law : FnScope N_law ["_law_script"] (defScope s_law) := ⟨rfl, rfl, rfl, by decide +kernel, rfl, by decide +kernel, by decide +kernel⟩
theorem g_law (Z : Nms K mg) {k : Nat} {klaw_begin : Nat} (D_law_begin : HasF P w K mg base klaw_begin "_law_begin" 1 F_law_begin) (hklaw_begin : klaw_begin ≤ k) {klaw_many : Nat} (D_law_many : HasF P w K mg base klaw_many "_law_many" 1 F_law_many) (hklaw_many : klaw_many ≤ k) {klaw_program : Nat} (D_law_program : HasF P w K mg base klaw_program "_law_program" 2 F_law_program) (hklaw_program : klaw_program ≤ k) {klaw_right : Nat} (D_law_right : HasF P w K mg base klaw_right "_law_right" 1 F_law_right) (hklaw_right : klaw_right ≤ k) (Fn : Fun K "law" "law" s_law f fd) : FnG P w K mg base (k + 1) f fd 1 ["_law_script"] F_law := by
  have nd : N_law.Nodup := sc_law.nd
  exact fnG Fn sc_law rfl rfl fun cdv A outer s H E B => (ys_cons (y_set (i := 1) nd rfl (.inr rfl) (.inl rfl) (y_callN B.bc D_law_begin hklaw_begin rfl (by decide) rfl rfl (ya_cons rfl (y_var (i := 0) rfl (.inl rfl) (by decide) (by decide)) ya_nil)) rfl) (ys_one (y_ret (y_bif .all B.bc.toAir rfl Z.n_all rfl rfl (ya_cons rfl (y_frz (y_lc B.bc.calm nd (yi_range1 rfl Z.n_range rfl (ya_cons rfl y_int ya_nil)) (blk_of (own := [("_law_turn", 2)]) (by kernel_rfl)) (fun s H C cl fp => (yc_name (i := 2) (by decide) nd rfl (.inl rfl) (.inr rfl))) (fun s H C cl fp => yts_nil) (fun s H C cl fp => (y_callN B.bc.blk (D_law_right.seg 0) hklaw_right rfl (by decide) rfl rfl (ya_cons rfl (y_callN B.bc.blk D_law_program hklaw_program rfl (by decide) rfl rfl (ya_cons rfl (y_var (i := 1) rfl (.inr (.inl rfl)) (by decide) (by decide)) (ya_cons rfl (y_callN B.bc.blk D_law_many hklaw_many rfl (by decide) rfl rfl (ya_cons rfl (y_var (i := 1) rfl (.inr (.inl rfl)) (by decide) (by decide)) ya_nil)) ya_nil))) ya_nil))) (fun _ => rfl))) ya_nil)))))
end
def e_law_begin : He.DefD := ⟨("_law_begin", none), "_law_begin", "_law_begin", defArgs s_law_begin, defBody s_law_begin, defScope s_law_begin, [], []⟩
def e_law_kinds : He.DefD := ⟨("_law_kinds", none), "_law_kinds", "_law_kinds", defArgs s_law_kinds, defBody s_law_kinds, defScope s_law_kinds, [], []⟩
def e_law_sizes : He.DefD := ⟨("_law_sizes", none), "_law_sizes", "_law_sizes", defArgs s_law_sizes, defBody s_law_sizes, defScope s_law_sizes, [], []⟩
def e_law_length : He.DefD := ⟨("_law_length", none), "_law_length", "_law_length", defArgs s_law_length, defBody s_law_length, defScope s_law_length, [], []⟩
def e_law_uses_due : He.DefD := ⟨("_law_uses_due", none), "_law_uses_due", "_law_uses_due", defArgs s_law_uses_due, defBody s_law_uses_due, defScope s_law_uses_due, [], []⟩
def e_counted : He.DefD := ⟨("counted", none), "counted", "counted", defArgs s_counted, defBody s_counted, defScope s_counted, [], []⟩
def e_spots_in : He.DefD := ⟨("spots_in", none), "spots_in", "spots_in", defArgs s_spots_in, defBody s_spots_in, defScope s_spots_in, [], []⟩
def e_figures_of : He.DefD := ⟨("figures_of", none), "figures_of", "figures_of", defArgs s_figures_of, defBody s_figures_of, defScope s_figures_of, [], []⟩
def e_uses_of : He.DefD := ⟨("uses_of", none), "uses_of", "uses_of", defArgs s_uses_of, defBody s_uses_of, defScope s_uses_of, [], []⟩
def e_law_same : He.DefD := ⟨("_law_same", none), "_law_same", "_law_same", defArgs s_law_same, defBody s_law_same, defScope s_law_same, [], []⟩
def e_law_right : He.DefD := ⟨("_law_right", none), "_law_right", "_law_right", defArgs s_law_right, defBody s_law_right, defScope s_law_right, [], []⟩
def e_law_take : He.DefD := ⟨("_law_take", none), "_law_take", "_law_take", defArgs s_law_take, defBody s_law_take, defScope s_law_take, [], []⟩
def e_law_number : He.DefD := ⟨("_law_number", none), "_law_number", "_law_number", defArgs s_law_number, defBody s_law_number, defScope s_law_number, [], []⟩
def e_law_row : He.DefD := ⟨("_law_row", none), "_law_row", "_law_row", defArgs s_law_row, defBody s_law_row, defScope s_law_row, [], []⟩
def e_law_program : He.DefD := ⟨("_law_program", none), "_law_program", "_law_program", defArgs s_law_program, defBody s_law_program, defScope s_law_program, [], []⟩
def e_law_many : He.DefD := ⟨("_law_many", none), "_law_many", "_law_many", defArgs s_law_many, defBody s_law_many, defScope s_law_many, [], []⟩
def e_law : He.DefD := ⟨("law", none), "law", "law", defArgs s_law, defBody s_law, defScope s_law, [], []⟩
def fns : List He.DefD := [e_law_begin, e_law_kinds, e_law_sizes, e_law_length, e_law_uses_due, e_counted, e_spots_in, e_figures_of, e_uses_of, e_law_same, e_law_right, e_law_take, e_law_number, e_law_row, e_law_program, e_law_many, e_law]
def fas : List He.Fa := [.glo "_law_begin", .glo "_law_kinds", .glo "_law_sizes", .glo "_law_length", .glo "_law_uses_due", .glo "counted", .glo "spots_in", .glo "figures_of", .glo "uses_of", .glo "_law_same", .glo "_law_right", .glo "_law_take", .glo "_law_number", .glo "_law_row", .glo "_law_program", .glo "_law_many", .glo "law", .free "all", .free "bool", .free "divmod", .free "enumerate", .free "int", .free "isinstance", .free "len", .free "list", .free "min", .free "range", .free "str", .free "tuple", .free "zip", .glo "KINDS", .glo "SIZES", .glo "SPOTS"]
def exs (K : PySem.W.Frag) : Bool := (He.tupB K "KINDS" [.str "set", .str "add", .str "take", .str "tell", .str "ask", .str "jump", .str "zero", .str "stop", .str "farjump", .str "farzero", .str "skip"] && (He.tupB K "SIZES" [.str "none", .str "one", .str "two", .str "three", .str "four", .str "five", .str "six", .str "seven", .str "eight"] && (He.tupB K "SPOTS" [.str "a", .str "b", .str "c", .str "d"] && true)))
abbrev RR : PySem.W.OpenRow := PySem.W.OpenLaw.row PySem.Challenge.rw_oddlong_k75_uses_told
abbrev hk : PySem.W.Hook := hookE 4 fas fns exs
def ob (s : PySem.W.SharedT) : He.AlD × Bool := obsEG 4 fas fns exs s
def nms0 : List Str := ["KINDS", "SPOTS", "SIZES", "figures_of", "spots_in", "counted", "uses_of", "_law_begin", "_law_take", "_law_same", "_law_kinds", "_law_sizes", "_law_many", "_law_number", "_law_row", "_law_program", "_law_length", "_law_uses_due", "_law_right"]
def nms : List Str := nms0
theorem run (w : World) : HandSHeadRun.RunEq RR (PySem.W.view RR.prog [21]) hk ob 3000 nms w := by
  intro os
  kernel_rfl
theorem facts {P : Program} {w : World} {K : PySem.W.Frag} {h : Heap} {mg : Str → Option Value} {f : Addr} (X : K.In h) (G : h.Ns mainGlobals mg) (hfa : mg ("law" : Str) = some (.ref f)) (c : He.SaysD fas fns K) (x : exs K = true) :
    ∃ fd : FuncData, (∀ (s : Shared) (v : Value), BindsTo s fd ⟨[v], []⟩ [("_law_script", v)]) ∧ ∀ base : Heap, K.In base → base.Ns mainGlobals mg → FnG P w K mg base 8 f fd 1 ["_law_script"] F_law := by
  obtain ⟨fd0, E0⟩ := c.def_ 0 (d := e_law_begin) rfl
  have F0 : Fun K "_law_begin" "_law_begin" s_law_begin _ fd0 := He5.fun_of (kws := []) E0
  obtain ⟨fd1, E1⟩ := c.def_ 1 (d := e_law_kinds) rfl
  have F1 : Fun K "_law_kinds" "_law_kinds" s_law_kinds _ fd1 := He5.fun_of (kws := []) E1
  obtain ⟨fd2, E2⟩ := c.def_ 2 (d := e_law_sizes) rfl
  have F2 : Fun K "_law_sizes" "_law_sizes" s_law_sizes _ fd2 := He5.fun_of (kws := []) E2
  obtain ⟨fd3, E3⟩ := c.def_ 3 (d := e_law_length) rfl
  have F3 : Fun K "_law_length" "_law_length" s_law_length _ fd3 := He5.fun_of (kws := []) E3
  obtain ⟨fd4, E4⟩ := c.def_ 4 (d := e_law_uses_due) rfl
  have F4 : Fun K "_law_uses_due" "_law_uses_due" s_law_uses_due _ fd4 := He5.fun_of (kws := []) E4
  obtain ⟨fd5, E5⟩ := c.def_ 5 (d := e_counted) rfl
  have F5 : Fun K "counted" "counted" s_counted _ fd5 := He5.fun_of (kws := []) E5
  obtain ⟨fd6, E6⟩ := c.def_ 6 (d := e_spots_in) rfl
  have F6 : Fun K "spots_in" "spots_in" s_spots_in _ fd6 := He5.fun_of (kws := []) E6
  obtain ⟨fd7, E7⟩ := c.def_ 7 (d := e_figures_of) rfl
  have F7 : Fun K "figures_of" "figures_of" s_figures_of _ fd7 := He5.fun_of (kws := []) E7
  obtain ⟨fd8, E8⟩ := c.def_ 8 (d := e_uses_of) rfl
  have F8 : Fun K "uses_of" "uses_of" s_uses_of _ fd8 := He5.fun_of (kws := []) E8
  obtain ⟨fd9, E9⟩ := c.def_ 9 (d := e_law_same) rfl
  have F9 : Fun K "_law_same" "_law_same" s_law_same _ fd9 := He5.fun_of (kws := []) E9
  obtain ⟨fd10, E10⟩ := c.def_ 10 (d := e_law_right) rfl
  have F10 : Fun K "_law_right" "_law_right" s_law_right _ fd10 := He5.fun_of (kws := []) E10
  obtain ⟨fd11, E11⟩ := c.def_ 11 (d := e_law_take) rfl
  have F11 : Fun K "_law_take" "_law_take" s_law_take _ fd11 := He5.fun_of (kws := []) E11
  obtain ⟨fd12, E12⟩ := c.def_ 12 (d := e_law_number) rfl
  have F12 : Fun K "_law_number" "_law_number" s_law_number _ fd12 := He5.fun_of (kws := []) E12
  obtain ⟨fd13, E13⟩ := c.def_ 13 (d := e_law_row) rfl
  have F13 : Fun K "_law_row" "_law_row" s_law_row _ fd13 := He5.fun_of (kws := []) E13
  obtain ⟨fd14, E14⟩ := c.def_ 14 (d := e_law_program) rfl
  have F14 : Fun K "_law_program" "_law_program" s_law_program _ fd14 := He5.fun_of (kws := []) E14
  obtain ⟨fd15, E15⟩ := c.def_ 15 (d := e_law_many) rfl
  have F15 : Fun K "_law_many" "_law_many" s_law_many _ fd15 := He5.fun_of (kws := []) E15
  obtain ⟨fd16, E16⟩ := c.def_ 16 (d := e_law) rfl
  have F16 : Fun K "law" "law" s_law _ fd16 := He5.fun_of (kws := []) E16
  obtain ⟨x0, y0⟩ := He.ba x
  have gl_KINDS : GlD K mg "KINDS" g_KINDS := glT (He.glo_ok X G (c.fact 30 (f := .glo "KINDS") rfl)) (fun H => He.tupB_ok x0 H) fun g => (.cons (.str _) (.cons (.str _) (.cons (.str _) (.cons (.str _) (.cons (.str _) (.cons (.str _) (.cons (.str _) (.cons (.str _) (.cons (.str _) (.cons (.str _) (.cons (.str _) .nil)))))))))))
  obtain ⟨x1, y1⟩ := He.ba y0
  have gl_SIZES : GlD K mg "SIZES" g_SIZES := glT (He.glo_ok X G (c.fact 31 (f := .glo "SIZES") rfl)) (fun H => He.tupB_ok x1 H) fun g => (.cons (.str _) (.cons (.str _) (.cons (.str _) (.cons (.str _) (.cons (.str _) (.cons (.str _) (.cons (.str _) (.cons (.str _) (.cons (.str _) .nil)))))))))
  obtain ⟨x2, y2⟩ := He.ba y1
  have gl_SPOTS : GlD K mg "SPOTS" g_SPOTS := glT (He.glo_ok X G (c.fact 32 (f := .glo "SPOTS") rfl)) (fun H => He.tupB_ok x2 H) fun g => (.cons (.str _) (.cons (.str _) (.cons (.str _) (.cons (.str _) .nil))))
  have Z : Nms K mg := ⟨He.free_ok X G (c.fact 17 (f := .free "all") rfl), He.free_ok X G (c.fact 18 (f := .free "bool") rfl), He.free_ok X G (c.fact 19 (f := .free "divmod") rfl), He.free_ok X G (c.fact 20 (f := .free "enumerate") rfl), He.free_ok X G (c.fact 21 (f := .free "int") rfl), He.free_ok X G (c.fact 22 (f := .free "isinstance") rfl), He.free_ok X G (c.fact 23 (f := .free "len") rfl), He.free_ok X G (c.fact 24 (f := .free "list") rfl), He.free_ok X G (c.fact 25 (f := .free "min") rfl), He.free_ok X G (c.fact 26 (f := .free "range") rfl), He.free_ok X G (c.fact 27 (f := .free "str") rfl), He.free_ok X G (c.fact 28 (f := .free "tuple") rfl), He.free_ok X G (c.fact 29 (f := .free "zip") rfl), gl_KINDS, gl_SIZES, gl_SPOTS⟩
  have e := hfa.symm.trans (He.glo_ok X G (c.fact 16 (f := .glo "law") rfl))
  cases e
  refine ⟨fd16, fun s v => (FunD.bindsA (ps := ["_law_script"]) E16 fun _ _ _ _ _ _ us hl => match us, hl with | [_], _ => rfl) s [v] rfl, fun base _ _ => ?_⟩
  have D_law_begin : HasF P w K mg base 1 "_law_begin" 1 F_law_begin := d_law_begin Z (k := 0)  F0 (He.glo_ok X G (c.fact 0 (f := .glo "_law_begin") rfl))
  have D_law_kinds : HasF P w K mg base 1 "_law_kinds" 0 F_law_kinds := d_law_kinds Z (k := 0)  F1 (He.glo_ok X G (c.fact 1 (f := .glo "_law_kinds") rfl))
  have D_law_sizes : HasF P w K mg base 1 "_law_sizes" 0 F_law_sizes := d_law_sizes Z (k := 0)  F2 (He.glo_ok X G (c.fact 2 (f := .glo "_law_sizes") rfl))
  have D_law_length : HasF P w K mg base 1 "_law_length" 1 F_law_length := d_law_length Z (k := 0)  F3 (He.glo_ok X G (c.fact 3 (f := .glo "_law_length") rfl))
  have D_law_uses_due : HasF P w K mg base 2 "_law_uses_due" 1 F_law_uses_due := d_law_uses_due Z (k := 1) D_law_kinds (by decide) D_law_length (by decide) D_law_sizes (by decide) F4 (He.glo_ok X G (c.fact 4 (f := .glo "_law_uses_due") rfl))
  have D_counted : HasF P w K mg base 1 "counted" 2 F_counted := d_counted Z (k := 0)  F5 (He.glo_ok X G (c.fact 5 (f := .glo "counted") rfl))
  have D_spots_in : HasF P w K mg base 1 "spots_in" 1 F_spots_in := d_spots_in Z (k := 0)  F6 (He.glo_ok X G (c.fact 6 (f := .glo "spots_in") rfl))
  have D_figures_of : HasF P w K mg base 1 "figures_of" 1 F_figures_of := d_figures_of Z (k := 0)  F7 (He.glo_ok X G (c.fact 7 (f := .glo "figures_of") rfl))
  have D_uses_of : HasF P w K mg base 2 "uses_of" 1 F_uses_of := d_uses_of Z (k := 1) D_counted (by decide) D_figures_of (by decide) D_spots_in (by decide) F8 (He.glo_ok X G (c.fact 8 (f := .glo "uses_of") rfl))
  have D_law_same : HasF P w K mg base 6 "_law_same" 2 (F_law_same fuel_law_same) := d_law_same Z (k := 0)  F9 (He.glo_ok X G (c.fact 9 (f := .glo "_law_same") rfl)) 6
  have D_law_right : HasF P w K mg base 7 "_law_right" 1 F_law_right := d_law_right Z (k := 6) D_law_same (by decide) D_law_uses_due (by decide) D_uses_of (by decide) F10 (He.glo_ok X G (c.fact 10 (f := .glo "_law_right") rfl))
  have D_law_take : HasF P w K mg base 1 "_law_take" 2 F_law_take := d_law_take Z (k := 0)  F11 (He.glo_ok X G (c.fact 11 (f := .glo "_law_take") rfl))
  have D_law_number : HasF P w K mg base 2 "_law_number" 1 F_law_number := d_law_number Z (k := 1) D_law_take (by decide) F12 (He.glo_ok X G (c.fact 12 (f := .glo "_law_number") rfl))
  have D_law_row : HasF P w K mg base 3 "_law_row" 2 F_law_row := d_law_row Z (k := 2) D_law_number (by decide) D_law_take (by decide) F13 (He.glo_ok X G (c.fact 13 (f := .glo "_law_row") rfl))
  have D_law_program : HasF P w K mg base 4 "_law_program" 2 F_law_program := d_law_program Z (k := 3) D_law_row (by decide) F14 (He.glo_ok X G (c.fact 14 (f := .glo "_law_program") rfl))
  have D_law_many : HasF P w K mg base 2 "_law_many" 1 F_law_many := d_law_many Z (k := 1) D_law_take (by decide) F15 (He.glo_ok X G (c.fact 15 (f := .glo "_law_many") rfl))
  exact g_law (P := P) (w := w) (base := base) Z (k := 7) D_law_begin (by decide) D_law_many (by decide) D_law_program (by decide) D_law_right (by decide) F16
end K75
open PySem PySem.W PySem.Calls PyProof.Rows Yf in
theorem K75.ends (hF : LawF K75.F_law) : (PySem.Challenge.rw_oddlong_k75_uses_told).Holds := by
  w_on; o_law
  refine HandSHeadRun.head_any (r := OpenLaw.row PySem.Challenge.rw_oddlong_k75_uses_told) (q := view (OpenLaw.row PySem.Challenge.rw_oddlong_k75_uses_told).prog [21]) (H := K75.hk) (ob := K75.ob) (M := 3000) (loose := K75.nms) (d := HandSHeadRun.topDef (OpenLaw.row PySem.Challenge.rw_oddlong_k75_uses_told).prog 21) (kwd := []) obsEG_eq
    (by kernel_rfl) (fun s => by kernel_rfl) K75.run (by kernel_rfl) (by kernel_rfl) (by kernel_rfl) (by rfl) (by first | assumption | decide +kernel) (by decide +kernel) ⟨rfl, rfl, rfl, rfl, rfl, by decide +kernel⟩ ?hw ?hc
  case hw => w_witness2
  case hc =>
    refine walkG (l := PySem.Challenge.rw_oddlong_k75_uses_told) (k := 8) (x := "_law_script") (F := K75.F_law) rfl (by kernel_rfl) ⟨rfl, by decide, by decide⟩ hF ?_
    intro w mg fa h Y G hmg0
    obtain ⟨K, KX, c, x⟩ := Y
    have hmg : mg ("law" : PySem.Str) = some (.ref fa) := by
      have e : (HandSHeadRun.topDef (OpenLaw.row PySem.Challenge.rw_oddlong_k75_uses_told).prog 21).name = ("law" : PySem.Str) := by kernel_rfl
      rw [← e]
      exact hmg0
    obtain ⟨fd, hb, hG⟩ := K75.facts (P := (PySem.Challenge.rw_oddlong_k75_uses_told).prog) (w := w) KX G hmg c x
    exact ⟨K, fd, KX, hb, hG⟩

open PySem PySem.Spec PyProof.Rows L2 RZ Yf
namespace Yf.Z
theorem sizeL : sizeLine = 16777216 := by decide
def inz (cs : List Int) : List D := cs.map .int
theorem inz_len (cs : List Int) : (inz cs).length = cs.length := by simp [inz]
theorem atI_of {α : Type} {xs : List α} {i : Int} (h0 : 0 ≤ i) (h1 : i < xs.length) : atI xs i = xs[i.toNat]? := by
  unfold atI ixN
  rw [if_pos h0, if_pos h1]
  rfl
theorem atI_inz {cs : List Int} {i : Int} (h0 : 0 ≤ i) (h1 : i < cs.length) : ∃ c, c ∈ cs ∧ atI (inz cs) i = some (.int c) := by
  have hl : i.toNat < cs.length := by omega
  refine ⟨cs[i.toNat], List.getElem_mem _, ?_⟩
  rw [atI_of h0 (by rw [inz_len]; exact h1)]
  unfold inz
  rw [List.getElem?_map, List.getElem?_eq_getElem hl]
  rfl
theorem ixN_of {n : Nat} {i : Int} (h0 : 0 ≤ i) (h1 : i < n) : ixN n i = some i.toNat := by
  unfold ixN
  rw [if_pos h0, if_pos h1]
def bx (pre : Mu) (cs : List Int) (t : Int) : Mu := pre ++ [.lst (inz cs), .dic [(.inr "cells", .cell pre.length), (.inr "turn", .int t)]]
section
variable {pre : Mu} {cs cs' : List Int} {t u : Int}
theorem bx0 : (bx pre cs t)[pre.length]? = some (.lst (inz cs)) := by simp [bx]
theorem bx1 : (bx pre cs t)[pre.length + 1]? = some (.dic [(.inr "cells", .cell pre.length), (.inr "turn", .int t)]) := by
  unfold bx
  rw [List.getElem?_append_right (by omega)]
  simp
theorem bs0 : (bx pre cs t).set pre.length (.lst (inz cs')) = bx pre cs' t := by
  unfold bx
  rw [List.set_append_right _ _ (by omega)]
  simp
theorem bs1 : (bx pre cs t).set (pre.length + 1) (.dic [(.inr "cells", .cell pre.length), (.inr "turn", .int u)]) = bx pre cs u := by
  unfold bx
  rw [List.set_append_right _ _ (by omega)]
  simp
theorem bgt : dgetD (bx pre cs t) (.cell (pre.length + 1)) (.str "turn") = some (.int t) := by
  simp only [dgetD, dicOf, bx1]
  rfl
theorem bgc : dgetD (bx pre cs t) (.cell (pre.length + 1)) (.str "cells") = some (.cell pre.length) := by
  simp only [dgetD, dicOf, bx1]
  rfl
theorem bst : setKD (bx pre cs t) (.cell (pre.length + 1)) (.str "turn") (.int u) = some (bx pre cs u) := by
  simp only [setKD, celDic, bx1]
  show (if (2 : Nat) < sizeLine then some ((bx pre cs t).set (pre.length + 1) (.dic [(.inr "cells", .cell pre.length), (.inr "turn", .int u)])) else none) = _
  rw [bs1, if_pos (by decide)]
theorem bln : lenD (bx pre cs t) [.cell pre.length] = some (.int cs.length) := by
  simp only [lenD, dicOf, seqOf, lstOf, bx0, Option.map_some, inz_len]
theorem bix {i : Int} : idxD (bx pre cs t) (.cell pre.length) (.int i) = atI (inz cs) i := by
  simp only [idxD, seqOf, lstOf, bx0, Option.bind_some]
theorem bsi {i c : Int} (h0 : 0 ≤ i) (h1 : i < cs.length) : setI (bx pre cs t) (.cell pre.length) (.int i) (.int c) = some (bx pre (cs.set i.toNat c) t) := by
  simp only [setI, celOf, bx0, inz_len, ixN_of h0 h1]
  have e : (inz cs).set i.toNat (.int c) = inz (cs.set i.toNat c) := by unfold inz; rw [List.map_set]
  rw [e, bs0]
end
/-! ### runs of loops -/
theorem lcGo_run {al : Mu → Prop} {f : MG} {mt : ME Bool} {me : ME D} {σ0 : Sg} (I : List D → List D → Mu → Prop) (h0 : ∀ acc μ, I [] acc μ → al μ)
    (hs : ∀ d ds acc μ, I (d :: ds) acc μ → al μ ∧ acc.length < sizeLine ∧ ∃ σ' μ1 μ2 y μ3, f d σ0 μ = some (σ', μ1) ∧ okE mt σ' μ1 = some (true, μ2) ∧ okE me σ' μ2 = some (y, μ3) ∧ I ds (acc ++ [y]) μ3) :
    ∀ (ds acc : List D) (μ : Mu), I ds acc μ → ∃ out μ', lcGo al f mt me σ0 ds acc μ = some (.ok (.lst out), μ') ∧ I [] out μ'
  | [], acc, μ, h => ⟨acc, μ, by unfold lcGo; rw [if_pos (h0 acc μ h)], h⟩
  | d :: ds, acc, μ, h => by
    obtain ⟨a, l, σ', μ1, μ2, y, μ3, e1, e2, e3, h'⟩ := hs d ds acc μ h
    obtain ⟨out, μ', e4, h4⟩ := lcGo_run I h0 hs ds _ μ3 h'
    refine ⟨out, μ', ?_, h4⟩
    unfold lcGo
    rw [if_pos a, e1]
    dsimp only
    rw [e2]
    dsimp only
    rw [e3]
    dsimp only
    rw [if_pos l, e4]
/-- all of them, the cells as they are -/
theorem lcGo_map {al : Mu → Prop} {f : MG} {mt : ME Bool} {me : ME D} {σ0 : Sg} {μ : Mu} (g : D → D) (a : al μ) : ∀ (ds acc : List D), acc.length + ds.length ≤ sizeLine →
    (∀ d ∈ ds, ∃ σ', f d σ0 μ = some (σ', μ) ∧ okE mt σ' μ = some (true, μ) ∧ okE me σ' μ = some (g d, μ)) → lcGo al f mt me σ0 ds acc μ = some (.ok (.lst (acc ++ ds.map g)), μ)
  | [], acc, _, _ => by unfold lcGo; rw [if_pos a, List.map_nil, List.append_nil]
  | d :: ds, acc, hl, h => by
    obtain ⟨σ', e1, e2, e3⟩ := h d List.mem_cons_self
    rw [List.length_cons] at hl
    unfold lcGo
    rw [if_pos a, e1]
    dsimp only
    rw [e2]
    dsimp only
    rw [e3]
    dsimp only
    rw [if_pos (by omega), lcGo_map g a ds (acc ++ [g d]) (by rw [List.length_append, List.length_singleton]; omega) fun e he => h e (List.mem_cons_of_mem _ he), List.map_cons, List.append_assoc]
    rfl
theorem forD_run {al : Mu → Prop} {f : MG} {b : MS} (I : List D → Sg → Mu → Prop) (h0 : ∀ σ μ, I [] σ μ → al μ)
    (hs : ∀ d ds σ μ, I (d :: ds) σ μ → al μ ∧ ∃ σ1 μ1 σ2 μ2, f d σ μ = some (σ1, μ1) ∧ b σ1 μ1 = some (.nx, σ2, μ2) ∧ I ds σ2 μ2) :
    ∀ (ds : List D) (σ : Sg) (μ : Mu), I ds σ μ → ∃ σ' μ', forD al f b ds σ μ = some (.nx, σ', μ') ∧ I [] σ' μ'
  | [], σ, μ, h => ⟨σ, μ, by unfold forD; rw [if_pos (h0 σ μ h)], h⟩
  | d :: ds, σ, μ, h => by
    obtain ⟨a, σ1, μ1, σ2, μ2, e1, e2, h'⟩ := hs d ds σ μ h
    obtain ⟨σ', μ', e4, h4⟩ := forD_run I h0 hs ds σ2 μ2 h'
    refine ⟨σ', μ', ?_, h4⟩
    unfold forD
    rw [if_pos a, e1]
    dsimp only
    rw [e2]
    exact e4
/-! ### texts as data -/
def stz (xs : List Str) : List D := xs.map .str
theorem stz_len (xs : List Str) : (stz xs).length = xs.length := by simp [stz]
theorem toPys_stz : ∀ xs : List Str, toPys0 (stz xs) = some (xs.map .str)
  | [] => rfl
  | x :: xs => by
    show (match toPy0 (.str x), toPys0 (stz xs) with | some a, some as => some (a :: as) | _, _ => none) = _
    rw [toPys_stz xs]
    rfl
theorem toPys_inz : ∀ xs : List Int, toPys0 (inz xs) = some (xs.map .int)
  | [] => rfl
  | x :: xs => by
    show (match toPy0 (.int x), toPys0 (inz xs) with | some a, some as => some (a :: as) | _, _ => none) = _
    rw [toPys_inz xs]
    rfl
/-- how often x stands among these -/
def cntS (xs : List Str) (x : Str) : Int := ((xs.map PyData.str).countP fun y => PyData.eqv y (.str x) : Nat)
/-! ### new cells behind the others -/
section
variable {μ l : Mu} {k : Nat} {o : MO}
theorem ap_get (h : k < l.length) : (μ ++ l)[μ.length + k]? = l[k]? := by
  rw [List.getElem?_append_right (by omega)]
  congr 1
  omega
theorem ap_set : (μ ++ l).set (μ.length + k) o = μ ++ l.set k o := by
  rw [List.set_append_right _ _ (by omega)]
  congr 2
  omega
end
end Yf.Z

/-! k75: the plain law. -/
namespace K75
open PySem PySem.Spec PyProof.Rows L2 RZ Yf Yf.Z
section
variable {pre : Mu} {cs cs' : List Int} {t u : Int}
theorem take_step (n : Int) (hcs : cs ≠ []) (ht : 0 ≤ t ∧ t < 2 ^ 60) (hn : 0 < n ∧ n < 1073741824) : ∃ d cs', F_law_take [.cell (pre.length + 1), .int n] (bx pre cs t) = some (.ok (.int d), bx pre cs' (t + 1)) ∧ 0 ≤ d ∧ d < n ∧ cs'.length = cs.length := by
  have hl : 0 < (cs.length : Int) := by
    have := List.length_pos_iff.mpr hcs
    omega
  have p0 : 0 ≤ (t + 1) % (cs.length : Int) := Int.emod_nonneg _ (by omega)
  have p1 : (t + 1) % (cs.length : Int) < cs.length := Int.emod_lt_of_pos _ hl
  obtain ⟨c, _, hc⟩ := atI_inz p0 p1
  have q0 : 0 ≤ (t + 1) % 7 := Int.emod_nonneg _ (by omega)
  have q1 : (t + 1) % 7 < 7 := Int.emod_lt_of_pos _ (by omega)
  obtain ⟨pr, hpr, hpc⟩ := atI_inz (cs := [2147483647, 2147483629, 2147483587, 2147483579, 2147483563, 2147483549, 2147483543]) q0 q1
  have hp0 : 0 < pr ∧ pr < 2 ^ 32 := by
    simp only [List.mem_cons, List.not_mem_nil, or_false] at hpr
    omega
  simp only [inz, List.map_cons, List.map_nil] at hpc
  have hpx : ∀ μ, idxD μ (.lst [.int 2147483647, .int 2147483629, .int 2147483587, .int 2147483579, .int 2147483563, .int 2147483549, .int 2147483543]) (.int ((t + 1) % 7)) = some (.int pr) := fun μ => hpc
  have e18 : CPow 10 18 := by unfold CPow; decide
  have ed : CDiv c n := ⟨hn.1, hn.2⟩
  unfold F_law_take runF
  by_cases hbig : (10 : Int) ^ 18 ≤ c
  · refine ⟨c % n, cs.set ((t + 1) % (cs.length : Int)).toNat (c / n), ?_, Int.emod_nonneg _ (by omega), Int.emod_lt_of_pos _ hn.1, by simp⟩
    simp only [seqS, letS, bindS, bindE, asgS, setG, subG, okE, varE, opE, optE, modE, dgtE, retE, ifS, ifE, consE, bifE, bffE, cmpB, idxE, frzE, celE, lstE, tupE, tupG, consG, nilG, retS, rtS, nxS, dropS, bmE, truE, notB, blE, partE, sliL, sliV, callE, negE, norE, asB, chainE, isiE, isi2E, parS, par3S, augS, addI, neverS, bkS, ctS, toD, fzE, disp0, dispE, pairsE, List.length_cons, List.length_nil, List.map_cons, List.map_nil, List.replicate, List.append, List.getElem?_cons_zero, List.getElem?_cons_succ, List.cons_append, List.nil_append, List.set_cons_zero, List.set_cons_succ, Option.map_some, Option.map_none, Option.bind_some, Option.bind_none, ite_true, ite_false, if_true, if_false, Bool.false_eq_true, reduceIte, Nat.zero_add, Nat.reduceAdd, Nat.reduceLeDiff, Nat.reduceLT, Nat.reduceEqDiff, sizeL, decide_true, decide_false, eq_self, Bool.not_true, Bool.not_false, Bool.or_true, Bool.true_or, Bool.or_false, Bool.false_or, reduceCtorEq, bgt, bgc, bst, bln, bix, bsi p0 p1, binD, if_pos hl, hc, if_pos e18, cmpD, ltI, bifD, divmodD, if_pos ed, show (18 : Int).toNat = 18 from rfl, decide_eq_true hbig]
  · have h48 : CMul ((c % pr + (t + 1) * (t + 1) * 7919 + 11)) 48271 := .inr (by decide)
    have htt : CMul (t + 1) (t + 1) := .inl (by omega)
    have h79 : CMul ((t + 1) * (t + 1)) 7919 := .inr (by decide)
    generalize hA : (c % pr + (t + 1) * (t + 1) * 7919 + 11) * 48271 = A
    have a0 : 0 ≤ A % pr := Int.emod_nonneg _ (by omega)
    have a1 : A % pr < pr := Int.emod_lt_of_pos _ hp0.1
    have hpw : CPow (A % pr) 5 := ⟨by decide, by decide, by omega⟩
    generalize hB : (A % pr) ^ (5 : Int).toNat % pr = Bq
    have b0 : 0 ≤ Bq := hB ▸ Int.emod_nonneg _ (by omega)
    have b1 : Bq < pr := hB ▸ Int.emod_lt_of_pos _ hp0.1
    have hm : CMul Bq (39373 + (t + 1)) := .inl (by omega)
    have h64 : CDiv (Bq * (39373 + (t + 1)) % 1999999973) 64 := by constructor <;> decide
    refine ⟨(Bq * (39373 + (t + 1)) % 1999999973) / 64 % n, cs, ?_, Int.emod_nonneg _ (by omega), Int.emod_lt_of_pos _ hn.1, rfl⟩
    simp only [seqS, letS, bindS, bindE, asgS, setG, subG, okE, varE, opE, optE, modE, dgtE, retE, ifS, ifE, consE, bifE, bffE, cmpB, idxE, frzE, celE, lstE, tupE, tupG, consG, nilG, retS, rtS, nxS, dropS, bmE, truE, notB, blE, partE, sliL, sliV, callE, negE, norE, asB, chainE, isiE, isi2E, parS, par3S, augS, addI, neverS, bkS, ctS, toD, fzE, disp0, dispE, pairsE, List.length_cons, List.length_nil, List.map_cons, List.map_nil, List.replicate, List.append, List.getElem?_cons_zero, List.getElem?_cons_succ, List.cons_append, List.nil_append, List.set_cons_zero, List.set_cons_succ, Option.map_some, Option.map_none, Option.bind_some, Option.bind_none, ite_true, ite_false, if_true, if_false, Bool.false_eq_true, reduceIte, Nat.zero_add, Nat.reduceAdd, Nat.reduceLeDiff, Nat.reduceLT, Nat.reduceEqDiff, sizeL, decide_true, decide_false, eq_self, Bool.not_true, Bool.not_false, Bool.or_true, Bool.true_or, Bool.or_false, Bool.false_or, reduceCtorEq, bgt, bgc, bst, bln, bix, bsi p0 p1, binD, if_pos hl, hc, if_pos e18, cmpD, ltI, bifD, divmodD, show (18 : Int).toNat = 18 from rfl, decide_eq_false hbig, hpx,
      show (0 : Int) < 7 by decide, if_pos h48, if_pos htt, if_pos h79, if_pos hp0.1, hA, if_pos hpw, hB, if_pos hm, if_pos h64, if_pos hn.1, show (0 : Int) < 1999999973 by decide]
end
/-- the box: at most b turns -/
def Bx (pre : Mu) (b : Nat) (μ : Mu) : Prop := ∃ cs t, cs ≠ [] ∧ 0 ≤ t ∧ t ≤ (b : Int) ∧ μ = bx pre cs t
section
variable {pre μ : Mu} {b b' : Nat}
theorem Bx.mono (h : Bx pre b μ) (l : b ≤ b') : Bx pre b' μ := by
  obtain ⟨cs, t, h1, h2, h3, h4⟩ := h
  exact ⟨cs, t, h1, h2, by omega, h4⟩
theorem take_ok (h : Bx pre b μ) (hb : b < 1000000) (n : Int) (h0 : 0 < n) (h1 : n < 1073741824) : ∃ d μ', F_law_take [.cell (pre.length + 1), .int n] μ = some (.ok (.int d), μ') ∧ 0 ≤ d ∧ d < n ∧ Bx pre (b + 1) μ' := by
  obtain ⟨cs, t, e1, e2, e3, rfl⟩ := h
  obtain ⟨d, cs', e, d0, d1, el⟩ := take_step (pre := pre) (cs := cs) (t := t) n e1 ⟨e2, by omega⟩ ⟨h0, h1⟩
  refine ⟨d, _, e, d0, d1, cs', t + 1, ?_, by omega, by omega, rfl⟩
  intro z
  rw [z] at el
  exact e1 (List.length_eq_zero_iff.mp el.symm)
theorem begin_ok (ns : List Int) (hl : ns.length ≤ 63) : ∃ pre μ', F_law_begin [.scr ns] [] = some (.ok (.cell (pre.length + 1)), μ') ∧ Bx pre 0 μ' := by
  have hcut : cutD (ns.map .int) none (some 63) = inz ns := by
    refine cutD_all ⟨rfl, ?_⟩
    rw [show (63 : Int) = ((63 : Nat) : Int) from rfl, HT.sIx_nat]
    simp
    omega
  have hsz : (0 : Nat) ≤ sizeLine := Nat.zero_le _
  by_cases hn : ns = []
  · subst hn
    refine ⟨[.lst []], bx [.lst []] [19] 0, ?_, [19], 0, by simp, by decide, by decide, rfl⟩
    simp only [List.map_nil] at hcut
    unfold F_law_begin runF
    simp only [seqS, letS, bindS, bindE, asgS, setG, subG, okE, varE, opE, optE, modE, dgtE, retE, ifS, ifE, consE, bifE, bffE, cmpB, idxE, frzE, celE, lstE, tupE, tupG, consG, nilG, retS, rtS, nxS, dropS, bmE, truE, notB, blE, partE, sliL, sliV, callE, negE, norE, asB, chainE, isiE, isi2E, parS, par3S, augS, addI, neverS, bkS, ctS, toD, fzE, disp0, dispE, pairsE, List.length_cons, List.length_nil, List.map_cons, List.map_nil, List.replicate, List.append, List.getElem?_cons_zero, List.getElem?_cons_succ, List.cons_append, List.nil_append, List.set_cons_zero, List.set_cons_succ, Option.map_some, Option.map_none, Option.bind_some, Option.bind_none, ite_true, ite_false, if_true, if_false, Bool.false_eq_true, reduceIte, Nat.zero_add, Nat.reduceAdd, Nat.reduceLeDiff, Nat.reduceLT, Nat.reduceEqDiff, sizeL, decide_true, decide_false, eq_self, Bool.not_true, Bool.not_false, Bool.or_true, Bool.true_or, Bool.or_false, Bool.false_or, reduceCtorEq, slL, hcut, bffD, listD, seqOf, lstOf, Option.map_some, cmpD, eqDD, scalD, toPy, inz, toPys0, PyData.depth, PyData.eqv, PyData.eqvAll, keyOf, mergeD, PyData.depthAll]
    rfl
  · refine ⟨[], bx [] ns 0, ?_, ns, 0, hn, by decide, by decide, rfl⟩
    have hq : cmpD .Eq [.lst (inz ns)] (.cell 0) (.lst []) = some false := by
      show eqDD _ _ _ = _
      simp only [eqDD, scalD, toPy, lstOf, List.length_cons, List.length_nil, List.map_cons, List.map_nil, List.replicate, List.append, List.getElem?_cons_zero, List.getElem?_cons_succ, List.cons_append, List.nil_append, List.set_cons_zero, List.set_cons_succ, Option.map_some, Option.map_none, Option.bind_some, Option.bind_none, toPys_inz, ite_true, ite_false, if_true, if_false, Bool.false_eq_true, reduceIte, Nat.zero_add, Nat.reduceAdd, Nat.reduceLeDiff, Nat.reduceLT, Nat.reduceEqDiff, sizeL, decide_true, decide_false, eq_self, Bool.not_true, Bool.not_false, Bool.or_true, Bool.true_or, Bool.or_false, Bool.false_or, reduceCtorEq, toPy0, toPys0]
      rw [if_pos (Nat.le_trans (Nat.min_le_right _ _) (by decide))]
      cases ns with
      | nil => exact absurd rfl hn
      | cons _ _ => rfl
    unfold F_law_begin runF
    simp only [seqS, letS, bindS, bindE, asgS, setG, subG, okE, varE, opE, optE, modE, dgtE, retE, ifS, ifE, consE, bifE, bffE, cmpB, idxE, frzE, celE, lstE, tupE, tupG, consG, nilG, retS, rtS, nxS, dropS, bmE, truE, notB, blE, partE, sliL, sliV, callE, negE, norE, asB, chainE, isiE, isi2E, parS, par3S, augS, addI, neverS, bkS, ctS, toD, fzE, disp0, dispE, pairsE, List.length_cons, List.length_nil, List.map_cons, List.map_nil, List.replicate, List.append, List.getElem?_cons_zero, List.getElem?_cons_succ, List.cons_append, List.nil_append, List.set_cons_zero, List.set_cons_succ, Option.map_some, Option.map_none, Option.bind_some, Option.bind_none, ite_true, ite_false, if_true, if_false, Bool.false_eq_true, reduceIte, Nat.zero_add, Nat.reduceAdd, Nat.reduceLeDiff, Nat.reduceLT, Nat.reduceEqDiff, sizeL, decide_true, decide_false, eq_self, Bool.not_true, Bool.not_false, Bool.or_true, Bool.true_or, Bool.or_false, Bool.false_or, reduceCtorEq, slL, hcut, bffD, listD, seqOf, lstOf, hq]
    rfl
theorem many_ok (h : Bx pre b μ) (hb : b < 900000) : ∃ n μ', F_law_many [.cell (pre.length + 1)] μ = some (.ok (.int n), μ') ∧ 0 ≤ n ∧ n ≤ 200 ∧ Bx pre (b + 4) μ' := by
  obtain ⟨d1, μ1, e1, p1, q1, h1⟩ := take_ok h (by omega) 8 (by decide) (by decide)
  obtain ⟨d2, μ2, e2, p2, q2, h2⟩ := take_ok h1 (by omega) 28 (by decide) (by decide)
  obtain ⟨d3, μ3, e3, p3, q3, h3⟩ := take_ok h2 (by omega) 51 (by decide) (by decide)
  obtain ⟨d4, μ4, e4, p4, q4, h4⟩ := take_ok h3 (by omega) 13 (by decide) (by decide)
  have hm : ∃ n, idxD μ4 (.lst [.int (13 + d2), .int (150 + d3), .int d4]) (.int (if 2 < d1 then 2 else d1)) = some (.int n) ∧ 0 ≤ n ∧ n ≤ 200 := by
    have c : d1 = 0 ∨ d1 = 1 ∨ 2 ≤ d1 := by omega
    rcases c with c | c | c
    · exact ⟨13 + d2, by rw [c]; rfl, by omega, by omega⟩
    · exact ⟨150 + d3, by rw [c]; rfl, by omega, by omega⟩
    · refine ⟨d4, ?_, by omega, by omega⟩
      have e : (if 2 < d1 then 2 else d1) = 2 := by split <;> omega
      rw [e]
      rfl
  obtain ⟨n, en, n0, n1⟩ := hm
  refine ⟨n, μ4, ?_, n0, n1, h4⟩
  unfold F_law_many runF
  simp only [seqS, letS, bindS, bindE, asgS, setG, subG, okE, varE, opE, optE, modE, dgtE, retE, ifS, ifE, consE, bifE, bffE, cmpB, idxE, frzE, celE, lstE, tupE, tupG, consG, nilG, retS, rtS, nxS, dropS, bmE, truE, notB, blE, partE, sliL, sliV, callE, negE, norE, asB, chainE, isiE, isi2E, parS, par3S, augS, addI, neverS, bkS, ctS, toD, fzE, disp0, dispE, pairsE, List.length_cons, List.length_nil, List.map_cons, List.map_nil, List.replicate, List.append, List.getElem?_cons_zero, List.getElem?_cons_succ, List.cons_append, List.nil_append, List.set_cons_zero, List.set_cons_succ, Option.map_some, Option.map_none, Option.bind_some, Option.bind_none, ite_true, ite_false, if_true, if_false, Bool.false_eq_true, reduceIte, Nat.zero_add, Nat.reduceAdd, Nat.reduceLeDiff, Nat.reduceLT, Nat.reduceEqDiff, sizeL, decide_true, decide_false, eq_self, Bool.not_true, Bool.not_false, Bool.or_true, Bool.true_or, Bool.or_false, Bool.false_or, reduceCtorEq, e1, e2, e3, e4, binD, bifD, min2D, gt_iff_lt, en]
theorem number_ok (h : Bx pre b μ) (hb : b < 900000) : ∃ n μ', F_law_number [.cell (pre.length + 1)] μ = some (.ok (.int n), μ') ∧ 0 ≤ n ∧ n ≤ 255 ∧ Bx pre (b + 2) μ' := by
  obtain ⟨d1, μ1, e1, p1, q1, h1⟩ := take_ok h (by omega) 2 (by decide) (by decide)
  by_cases c : d1 = 0
  · obtain ⟨d2, μ2, e2, p2, q2, h2⟩ := take_ok h1 (by omega) 256 (by decide) (by decide)
    refine ⟨d2, μ2, ?_, p2, by omega, h2⟩
    unfold F_law_number runF
    simp only [seqS, letS, bindS, bindE, asgS, setG, subG, okE, varE, opE, optE, modE, dgtE, retE, ifS, ifE, consE, bifE, bffE, cmpB, idxE, frzE, celE, lstE, tupE, tupG, consG, nilG, retS, rtS, nxS, dropS, bmE, truE, notB, blE, partE, sliL, sliV, callE, negE, norE, asB, chainE, isiE, isi2E, parS, par3S, augS, addI, neverS, bkS, ctS, toD, fzE, disp0, dispE, pairsE, List.length_cons, List.length_nil, List.map_cons, List.map_nil, List.replicate, List.append, List.getElem?_cons_zero, List.getElem?_cons_succ, List.cons_append, List.nil_append, List.set_cons_zero, List.set_cons_succ, Option.map_some, Option.map_none, Option.bind_some, Option.bind_none, ite_true, ite_false, if_true, if_false, Bool.false_eq_true, reduceIte, Nat.zero_add, Nat.reduceAdd, Nat.reduceLeDiff, Nat.reduceLT, Nat.reduceEqDiff, sizeL, decide_true, decide_false, eq_self, Bool.not_true, Bool.not_false, Bool.or_true, Bool.true_or, Bool.or_false, Bool.false_or, reduceCtorEq, e1, e2, c, cmpD, eqDD, scalD, eqD, beq_self_eq_true]
  · obtain ⟨d2, μ2, e2, p2, q2, h2⟩ := take_ok h1 (by omega) 6 (by decide) (by decide)
    have hm : ∃ n, idxD μ2 (.lst [.int 0, .int 1, .int 2, .int 127, .int 128, .int 255]) (.int d2) = some (.int n) ∧ 0 ≤ n ∧ n ≤ 255 := by
      have cc : d2 = 0 ∨ d2 = 1 ∨ d2 = 2 ∨ d2 = 3 ∨ d2 = 4 ∨ d2 = 5 := by omega
      rcases cc with cc | cc | cc | cc | cc | cc <;> subst cc <;> exact ⟨_, rfl, by decide, by decide⟩
    obtain ⟨n, en, n0, n1⟩ := hm
    refine ⟨n, μ2, ?_, n0, n1, h2⟩
    have cf : (d1 == 0) = false := by simpa using c
    unfold F_law_number runF
    simp only [seqS, letS, bindS, bindE, asgS, setG, subG, okE, varE, opE, optE, modE, dgtE, retE, ifS, ifE, consE, bifE, bffE, cmpB, idxE, frzE, celE, lstE, tupE, tupG, consG, nilG, retS, rtS, nxS, dropS, bmE, truE, notB, blE, partE, sliL, sliV, callE, negE, norE, asB, chainE, isiE, isi2E, parS, par3S, augS, addI, neverS, bkS, ctS, toD, fzE, disp0, dispE, pairsE, List.length_cons, List.length_nil, List.map_cons, List.map_nil, List.replicate, List.append, List.getElem?_cons_zero, List.getElem?_cons_succ, List.cons_append, List.nil_append, List.set_cons_zero, List.set_cons_succ, Option.map_some, Option.map_none, Option.bind_some, Option.bind_none, ite_true, ite_false, if_true, if_false, Bool.false_eq_true, reduceIte, Nat.zero_add, Nat.reduceAdd, Nat.reduceLeDiff, Nat.reduceLT, Nat.reduceEqDiff, sizeL, decide_true, decide_false, eq_self, Bool.not_true, Bool.not_false, Bool.or_true, Bool.true_or, Bool.or_false, Bool.false_or, reduceCtorEq, e1, e2, cf, cmpD, eqDD, scalD, eqD, en]
end
/-! ### rows -/
inductive Row where
  | set (s : Str) (v : Int) | two (k s o : Str) | one (k s : Str) | stop | jump (a : Int) | zero (s : Str) (a : Int)
def kind : Row → Str
  | .set _ _ => "set" | .two k _ _ => k | .one k _ => k | .stop => "stop" | .jump _ => "jump" | .zero _ _ => "zero"
def tail : Row → List D
  | .set s v => [.str s, .int v] | .two _ s o => [.str s, .str o] | .one _ s => [.str s] | .stop => [] | .jump a => [.int a] | .zero s a => [.str s, .int a]
def enc (r : Row) : D := .tup (.str (kind r) :: tail r)
def Sp (s : Str) : Prop := s = "a" ∨ s = "b" ∨ s = "c" ∨ s = "d"
def Row.ok : Row → Prop
  | .set s v => Sp s ∧ 0 ≤ v ∧ v ≤ 255
  | .two k s o => (k = "add" ∨ k = "take") ∧ Sp s ∧ Sp o
  | .one k s => (k = "tell" ∨ k = "ask") ∧ Sp s
  | .stop => True
  | .jump a => 0 ≤ a ∧ a ≤ 200
  | .zero s a => Sp s ∧ 0 ≤ a ∧ a ≤ 200
theorem abcd (μ : Mu) {d : Int} (h0 : 0 ≤ d) (h1 : d < 4) : ∃ s, Sp s ∧ idxD μ (.str "abcd") (.int d) = some (.str s) := by
  have c : d = 0 ∨ d = 1 ∨ d = 2 ∨ d = 3 := by omega
  rcases c with c | c | c | c <;> subst c
  · exact ⟨"a", .inl rfl, by kernel_rfl⟩
  · exact ⟨"b", .inr (.inl rfl), by kernel_rfl⟩
  · exact ⟨"c", .inr (.inr (.inl rfl)), by kernel_rfl⟩
  · exact ⟨"d", .inr (.inr (.inr rfl)), by kernel_rfl⟩
theorem eqi (μ : Mu) (a b : Int) : cmpD .Eq μ (.int a) (.int b) = some (decide (a = b)) := by
  show eqDD μ (.int a) (.int b) = _
  unfold eqDD
  rw [if_pos (show scalD (.int a) (.int b) = true from rfl)]
  rfl
theorem lti (μ : Mu) (a b : Int) : cmpD .Lt μ (.int a) (.int b) = some (decide (a < b)) := rfl
theorem row_ok {pre μ : Mu} {b : Nat} (h : Bx pre b μ) (hb : b < 800000) (many : Int) (m0 : 0 ≤ many) (m1 : many ≤ 200) : ∃ r μ', F_law_row [.cell (pre.length + 1), .int many] μ = some (.ok (enc r), μ') ∧ r.ok ∧ Bx pre (b + 6) μ' := by
  obtain ⟨w, μ1, e1, p1, q1, h1⟩ := take_ok h (by omega) 10 (by decide) (by decide)
  obtain ⟨d2, μ2, e2, p2, q2, h2⟩ := take_ok h1 (by omega) 4 (by decide) (by decide)
  obtain ⟨d3, μ3, e3, p3, q3, h3⟩ := take_ok h2 (by omega) 4 (by decide) (by decide)
  obtain ⟨at_, μ4, e4, p4, q4, h4⟩ := take_ok h3 (by omega) (many + 1) (by omega) (by omega)
  obtain ⟨s, hs, es⟩ := abcd μ2 p2 q2
  obtain ⟨o, ho, eo⟩ := abcd μ3 p3 q3
  have e14 : (2 : Nat) ≤ 16777216 := by decide
  unfold F_law_row runF
  by_cases c1 : w < 2
  · obtain ⟨v, μ5, e5, p5, q5, h5⟩ := number_ok h4 (by omega)
    refine ⟨.set s v, μ5, ?_, ⟨hs, p5, q5⟩, h5.mono (by omega)⟩
    simp only [seqS, letS, bindS, bindE, asgS, setG, subG, okE, varE, opE, optE, modE, dgtE, retE, ifS, ifE, consE, bifE, bffE, cmpB, idxE, frzE, celE, lstE, tupE, tupG, consG, nilG, retS, rtS, nxS, dropS, bmE, truE, notB, blE, partE, sliL, sliV, callE, negE, norE, asB, chainE, isiE, isi2E, parS, par3S, augS, addI, neverS, bkS, ctS, toD, fzE, disp0, dispE, pairsE, List.length_cons, List.length_nil, List.map_cons, List.map_nil, List.replicate, List.append, List.getElem?_cons_zero, List.getElem?_cons_succ, List.cons_append, List.nil_append, List.set_cons_zero, List.set_cons_succ, Option.map_some, Option.map_none, Option.bind_some, Option.bind_none, ite_true, ite_false, if_true, if_false, Bool.false_eq_true, reduceIte, Nat.zero_add, Nat.reduceAdd, Nat.reduceLeDiff, Nat.reduceLT, Nat.reduceEqDiff, sizeL, decide_true, decide_false, eq_self, Bool.not_true, Bool.not_false, Bool.or_true, Bool.true_or, Bool.or_false, Bool.false_or, reduceCtorEq, e1, e2, es, e3, eo, binD, e4, lti, decide_eq_true c1, e5]
    rfl
  by_cases c2 : w < 4
  · have hm : ∃ k : Str, (k = "add" ∨ k = "take") ∧ idxD μ4 (.lst [.str "add", .str "take"]) (.int (w - 2)) = some (.str k) := by
      have c : w = 2 ∨ w = 3 := by omega
      rcases c with c | c <;> subst c
      · exact ⟨"add", .inl rfl, rfl⟩
      · exact ⟨"take", .inr rfl, rfl⟩
    obtain ⟨k, hk, ek⟩ := hm
    refine ⟨.two k s o, μ4, ?_, ⟨hk, hs, ho⟩, h4.mono (by omega)⟩
    simp only [seqS, letS, bindS, bindE, asgS, setG, subG, okE, varE, opE, optE, modE, dgtE, retE, ifS, ifE, consE, bifE, bffE, cmpB, idxE, frzE, celE, lstE, tupE, tupG, consG, nilG, retS, rtS, nxS, dropS, bmE, truE, notB, blE, partE, sliL, sliV, callE, negE, norE, asB, chainE, isiE, isi2E, parS, par3S, augS, addI, neverS, bkS, ctS, toD, fzE, disp0, dispE, pairsE, List.length_cons, List.length_nil, List.map_cons, List.map_nil, List.replicate, List.append, List.getElem?_cons_zero, List.getElem?_cons_succ, List.cons_append, List.nil_append, List.set_cons_zero, List.set_cons_succ, Option.map_some, Option.map_none, Option.bind_some, Option.bind_none, ite_true, ite_false, if_true, if_false, Bool.false_eq_true, reduceIte, Nat.zero_add, Nat.reduceAdd, Nat.reduceLeDiff, Nat.reduceLT, Nat.reduceEqDiff, sizeL, decide_true, decide_false, eq_self, Bool.not_true, Bool.not_false, Bool.or_true, Bool.true_or, Bool.or_false, Bool.false_or, reduceCtorEq, e1, e2, es, e3, eo, binD, e4, lti, decide_eq_false c1, decide_eq_true c2, ek]
    rfl
  by_cases c3 : w < 6
  · have hm : ∃ k : Str, (k = "tell" ∨ k = "ask") ∧ idxD μ4 (.lst [.str "tell", .str "ask"]) (.int (w - 4)) = some (.str k) := by
      have c : w = 4 ∨ w = 5 := by omega
      rcases c with c | c <;> subst c
      · exact ⟨"tell", .inl rfl, rfl⟩
      · exact ⟨"ask", .inr rfl, rfl⟩
    obtain ⟨k, hk, ek⟩ := hm
    refine ⟨.one k s, μ4, ?_, ⟨hk, hs⟩, h4.mono (by omega)⟩
    simp only [seqS, letS, bindS, bindE, asgS, setG, subG, okE, varE, opE, optE, modE, dgtE, retE, ifS, ifE, consE, bifE, bffE, cmpB, idxE, frzE, celE, lstE, tupE, tupG, consG, nilG, retS, rtS, nxS, dropS, bmE, truE, notB, blE, partE, sliL, sliV, callE, negE, norE, asB, chainE, isiE, isi2E, parS, par3S, augS, addI, neverS, bkS, ctS, toD, fzE, disp0, dispE, pairsE, List.length_cons, List.length_nil, List.map_cons, List.map_nil, List.replicate, List.append, List.getElem?_cons_zero, List.getElem?_cons_succ, List.cons_append, List.nil_append, List.set_cons_zero, List.set_cons_succ, Option.map_some, Option.map_none, Option.bind_some, Option.bind_none, ite_true, ite_false, if_true, if_false, Bool.false_eq_true, reduceIte, Nat.zero_add, Nat.reduceAdd, Nat.reduceLeDiff, Nat.reduceLT, Nat.reduceEqDiff, sizeL, decide_true, decide_false, eq_self, Bool.not_true, Bool.not_false, Bool.or_true, Bool.true_or, Bool.or_false, Bool.false_or, reduceCtorEq, e1, e2, es, e3, eo, binD, e4, lti, decide_eq_false c1, decide_eq_false c2, decide_eq_true c3, ek]
    rfl
  by_cases c4 : w = 6
  · obtain ⟨d5, μ5, e5, p5, q5, h5⟩ := take_ok h4 (by omega) 3 (by decide) (by decide)
    by_cases c5 : d5 = 0
    · refine ⟨.stop, μ5, ?_, True.intro, h5.mono (by omega)⟩
      simp only [seqS, letS, bindS, bindE, asgS, setG, subG, okE, varE, opE, optE, modE, dgtE, retE, ifS, ifE, consE, bifE, bffE, cmpB, idxE, frzE, celE, lstE, tupE, tupG, consG, nilG, retS, rtS, nxS, dropS, bmE, truE, notB, blE, partE, sliL, sliV, callE, negE, norE, asB, chainE, isiE, isi2E, parS, par3S, augS, addI, neverS, bkS, ctS, toD, fzE, disp0, dispE, pairsE, List.length_cons, List.length_nil, List.map_cons, List.map_nil, List.replicate, List.append, List.getElem?_cons_zero, List.getElem?_cons_succ, List.cons_append, List.nil_append, List.set_cons_zero, List.set_cons_succ, Option.map_some, Option.map_none, Option.bind_some, Option.bind_none, ite_true, ite_false, if_true, if_false, Bool.false_eq_true, reduceIte, Nat.zero_add, Nat.reduceAdd, Nat.reduceLeDiff, Nat.reduceLT, Nat.reduceEqDiff, sizeL, decide_true, decide_false, eq_self, Bool.not_true, Bool.not_false, Bool.or_true, Bool.true_or, Bool.or_false, Bool.false_or, reduceCtorEq, e1, e2, es, e3, eo, binD, e4, lti, eqi, decide_eq_false c1, decide_eq_false c2, decide_eq_false c3, decide_eq_true c4, e5, decide_eq_true c5]
      rfl
    · refine ⟨.zero s at_, μ5, ?_, ⟨hs, p4, by omega⟩, h5.mono (by omega)⟩
      have c7 : ¬ w = 7 := by omega
      simp only [seqS, letS, bindS, bindE, asgS, setG, subG, okE, varE, opE, optE, modE, dgtE, retE, ifS, ifE, consE, bifE, bffE, cmpB, idxE, frzE, celE, lstE, tupE, tupG, consG, nilG, retS, rtS, nxS, dropS, bmE, truE, notB, blE, partE, sliL, sliV, callE, negE, norE, asB, chainE, isiE, isi2E, parS, par3S, augS, addI, neverS, bkS, ctS, toD, fzE, disp0, dispE, pairsE, List.length_cons, List.length_nil, List.map_cons, List.map_nil, List.replicate, List.append, List.getElem?_cons_zero, List.getElem?_cons_succ, List.cons_append, List.nil_append, List.set_cons_zero, List.set_cons_succ, Option.map_some, Option.map_none, Option.bind_some, Option.bind_none, ite_true, ite_false, if_true, if_false, Bool.false_eq_true, reduceIte, Nat.zero_add, Nat.reduceAdd, Nat.reduceLeDiff, Nat.reduceLT, Nat.reduceEqDiff, sizeL, decide_true, decide_false, eq_self, Bool.not_true, Bool.not_false, Bool.or_true, Bool.true_or, Bool.or_false, Bool.false_or, reduceCtorEq, e1, e2, es, e3, eo, binD, e4, lti, eqi, decide_eq_false c1, decide_eq_false c2, decide_eq_false c3, decide_eq_true c4, e5, decide_eq_false c5, decide_eq_false c7]
      rfl
  by_cases c7 : w = 7
  · refine ⟨.jump at_, μ4, ?_, ⟨p4, by omega⟩, h4.mono (by omega)⟩
    simp only [seqS, letS, bindS, bindE, asgS, setG, subG, okE, varE, opE, optE, modE, dgtE, retE, ifS, ifE, consE, bifE, bffE, cmpB, idxE, frzE, celE, lstE, tupE, tupG, consG, nilG, retS, rtS, nxS, dropS, bmE, truE, notB, blE, partE, sliL, sliV, callE, negE, norE, asB, chainE, isiE, isi2E, parS, par3S, augS, addI, neverS, bkS, ctS, toD, fzE, disp0, dispE, pairsE, List.length_cons, List.length_nil, List.map_cons, List.map_nil, List.replicate, List.append, List.getElem?_cons_zero, List.getElem?_cons_succ, List.cons_append, List.nil_append, List.set_cons_zero, List.set_cons_succ, Option.map_some, Option.map_none, Option.bind_some, Option.bind_none, ite_true, ite_false, if_true, if_false, Bool.false_eq_true, reduceIte, Nat.zero_add, Nat.reduceAdd, Nat.reduceLeDiff, Nat.reduceLT, Nat.reduceEqDiff, sizeL, decide_true, decide_false, eq_self, Bool.not_true, Bool.not_false, Bool.or_true, Bool.true_or, Bool.or_false, Bool.false_or, reduceCtorEq, e1, e2, es, e3, eo, binD, e4, lti, eqi, decide_eq_false c1, decide_eq_false c2, decide_eq_false c3, decide_eq_false c4, decide_eq_true c7]
    rfl
  · refine ⟨.zero s at_, μ4, ?_, ⟨hs, p4, by omega⟩, h4.mono (by omega)⟩
    simp only [seqS, letS, bindS, bindE, asgS, setG, subG, okE, varE, opE, optE, modE, dgtE, retE, ifS, ifE, consE, bifE, bffE, cmpB, idxE, frzE, celE, lstE, tupE, tupG, consG, nilG, retS, rtS, nxS, dropS, bmE, truE, notB, blE, partE, sliL, sliV, callE, negE, norE, asB, chainE, isiE, isi2E, parS, par3S, augS, addI, neverS, bkS, ctS, toD, fzE, disp0, dispE, pairsE, List.length_cons, List.length_nil, List.map_cons, List.map_nil, List.replicate, List.append, List.getElem?_cons_zero, List.getElem?_cons_succ, List.cons_append, List.nil_append, List.set_cons_zero, List.set_cons_succ, Option.map_some, Option.map_none, Option.bind_some, Option.bind_none, ite_true, ite_false, if_true, if_false, Bool.false_eq_true, reduceIte, Nat.zero_add, Nat.reduceAdd, Nat.reduceLeDiff, Nat.reduceLT, Nat.reduceEqDiff, sizeL, decide_true, decide_false, eq_self, Bool.not_true, Bool.not_false, Bool.or_true, Bool.true_or, Bool.or_false, Bool.false_or, reduceCtorEq, e1, e2, es, e3, eo, binD, e4, lti, eqi, decide_eq_false c1, decide_eq_false c2, decide_eq_false c3, decide_eq_false c4, decide_eq_false c7]
    rfl
/-- a program: its rows -/
def Prg (rs : List Row) : Prop := (∀ r ∈ rs, r.ok) ∧ rs.length ≤ 200
theorem program_ok {pre μ : Mu} {b : Nat} (h : Bx pre b μ) (hb : b < 700000) (many : Int) (m0 : 0 ≤ many) (m1 : many ≤ 200) : ∃ rs μ', F_law_program [.cell (pre.length + 1), .int many] μ = some (.ok (.lst (rs.map enc)), μ') ∧ Prg rs ∧ Bx pre (b + 1200) μ' := by
  have hb62 : big62 many := ⟨by omega, by omega⟩
  have hr := lcGo_run (al := fun _ => True) (f := setG 2) (mt := retE true) (me := callE F_law_row (consE (varE 0) (consE (varE 1) (retE [])))) (σ0 := [some (.cell (pre.length + 1)), some (.int many), none])
    (fun ds acc μ => ∃ rs : List Row, acc = rs.map enc ∧ (∀ r ∈ rs, r.ok) ∧ rs.length + ds.length = many.toNat ∧ Bx pre (b + 6 * rs.length) μ) (fun _ _ _ => True.intro) (fun d ds acc μ => by
      rintro ⟨rs, rfl, h1, h2, h3⟩
      rw [List.length_cons] at h2
      obtain ⟨r, μ', e, ok, hB⟩ := row_ok h3 (by omega) many m0 m1
      refine ⟨True.intro, by rw [List.length_map, sizeL]; omega, [some (.cell (pre.length + 1)), some (.int many), some d], μ, μ, enc r, μ', rfl, rfl, ?_, rs ++ [r], by simp, fun x hx => ?_, by rw [List.length_append, List.length_singleton]; omega, ?_⟩
      · simp only [seqS, letS, bindS, bindE, asgS, setG, subG, okE, varE, opE, optE, modE, dgtE, retE, ifS, ifE, consE, bifE, bffE, cmpB, idxE, frzE, celE, lstE, tupE, tupG, consG, nilG, retS, rtS, nxS, dropS, bmE, truE, notB, blE, partE, sliL, sliV, callE, negE, norE, asB, chainE, isiE, isi2E, parS, par3S, augS, addI, neverS, bkS, ctS, toD, fzE, disp0, dispE, pairsE, List.length_cons, List.length_nil, List.map_cons, List.map_nil, List.replicate, List.append, List.getElem?_cons_zero, List.getElem?_cons_succ, List.cons_append, List.nil_append, List.set_cons_zero, List.set_cons_succ, Option.map_some, Option.map_none, Option.bind_some, Option.bind_none, ite_true, ite_false, if_true, if_false, Bool.false_eq_true, reduceIte, Nat.zero_add, Nat.reduceAdd, Nat.reduceLeDiff, Nat.reduceLT, Nat.reduceEqDiff, sizeL, decide_true, decide_false, eq_self, Bool.not_true, Bool.not_false, Bool.or_true, Bool.true_or, Bool.or_false, Bool.false_or, reduceCtorEq, e]
      · rcases List.mem_append.mp hx with z | z
        · exact h1 x z
        · rw [List.mem_singleton.mp z]; exact ok
      · rw [List.length_append, List.length_singleton]
        exact hB.mono (by omega)) (rngI 0 many.toNat) [] μ ⟨[], rfl, by simp, by simp [rngI], by simpa using h⟩
  obtain ⟨out, μ', e, rs, rfl, h1, h2, h3⟩ := hr
  rw [List.length_nil] at h2
  refine ⟨rs, μ', ?_, ⟨h1, by omega⟩, h3.mono (by omega)⟩
  unfold F_law_program runF
  simp only [seqS, letS, bindS, bindE, asgS, setG, subG, okE, varE, opE, optE, modE, dgtE, retE, ifS, ifE, consE, bifE, bffE, cmpB, idxE, frzE, celE, lstE, tupE, tupG, consG, nilG, retS, rtS, nxS, dropS, bmE, truE, notB, blE, partE, sliL, sliV, callE, negE, norE, asB, chainE, isiE, isi2E, parS, par3S, augS, addI, neverS, bkS, ctS, toD, fzE, disp0, dispE, pairsE, List.length_cons, List.length_nil, List.map_cons, List.map_nil, List.replicate, List.append, List.getElem?_cons_zero, List.getElem?_cons_succ, List.cons_append, List.nil_append, List.set_cons_zero, List.set_cons_succ, Option.map_some, Option.map_none, Option.bind_some, Option.bind_none, ite_true, ite_false, if_true, if_false, Bool.false_eq_true, reduceIte, Nat.zero_add, Nat.reduceAdd, Nat.reduceLeDiff, Nat.reduceLT, Nat.reduceEqDiff, sizeL, decide_true, decide_false, eq_self, Bool.not_true, Bool.not_false, Bool.or_true, Bool.true_or, Bool.or_false, Bool.false_or, reduceCtorEq, lcE, inR1, if_pos hb62, wipeD] at e ⊢
  rw [e]
/-! ### figures -/
def fig (v : Int) : Nat := if v = 0 then 0 else v.toNat.log2 + 1
theorem fig_gt {v : Int} (h0 : 0 ≤ v) (m : Nat) : (0 < v / 2 ^ m) ↔ m < fig v := by
  obtain ⟨n, rfl⟩ := Int.eq_ofNat_of_zero_le h0
  have e : ((n : Int) / 2 ^ m) = ((n / 2 ^ m : Nat) : Int) := by norm_cast
  rw [e]
  unfold fig
  by_cases hn : n = 0
  · subst hn; simp
  · rw [if_neg (by omega), Int.toNat_natCast]
    have hl : 2 ^ m ≤ n ↔ m ≤ n.log2 := (Nat.le_log2 hn).symm
    constructor
    · intro h
      have h1 : 0 < n / 2 ^ m := by omega
      have h2 : 2 ^ m ≤ n := by
        have := (Nat.div_pos_iff.mp h1).2
        exact this
      have := hl.mp h2
      omega
    · intro h
      have h2 : 2 ^ m ≤ n := hl.mpr (by omega)
      have : 0 < n / 2 ^ m := Nat.div_pos h2 (Nat.pow_pos (by decide))
      omega
theorem fig_le {v : Int} (h0 : 0 ≤ v) (h1 : v ≤ 255) : fig v ≤ 8 := by
  have z := mt (fig_gt h0 8).mpr
  by_cases h : fig v ≤ 8
  · exact h
  · exact absurd (show (v / 2 ^ 8 ≤ 0) by omega) (by have := (fig_gt h0 8).mpr (by omega); omega)
theorem gti (μ : Mu) (a b : Int) : cmpD .Gt μ (.int a) (.int b) = some (decide (b < a)) := rfl
theorem fig_loop {v : Int} (h0 : 0 ≤ v) {bd : MS} (hbd : ∀ m : Int, bd [some (.int v), some (.int m)] [] = some (.nx, [some (.int v), some (.int (m + 1))], [])) : ∀ (k m : Nat), m + k = fig v →
    whileS (cmpB .Gt (opE .RShift (varE 0) (varE 1)) (retE (.int 0))) bd [some (.int v), some (.int (m : Int))] [] = some (.nx, [some (.int v), some (.int (fig v : Int))], [])
  | k, m, hk => by
    rw [whileS_step]
    have hm : (0 : Int) ≤ (m : Int) := by omega
    have hc : cmpB .Gt (opE .RShift (varE 0) (varE 1)) (retE (.int 0)) [some (.int v), some (.int (m : Int))] [] = some (.ok (decide (0 < v / 2 ^ m)), []) := by
      simp only [seqS, letS, bindS, bindE, asgS, setG, subG, okE, varE, opE, optE, modE, dgtE, retE, ifS, ifE, consE, bifE, bffE, cmpB, idxE, frzE, celE, lstE, tupE, tupG, consG, nilG, retS, rtS, nxS, dropS, bmE, truE, notB, blE, partE, sliL, sliV, callE, negE, norE, asB, chainE, isiE, isi2E, parS, par3S, augS, addI, neverS, bkS, ctS, toD, fzE, disp0, dispE, pairsE, List.length_cons, List.length_nil, List.map_cons, List.map_nil, List.replicate, List.append, List.getElem?_cons_zero, List.getElem?_cons_succ, List.cons_append, List.nil_append, List.set_cons_zero, List.set_cons_succ, Option.map_some, Option.map_none, Option.bind_some, Option.bind_none, ite_true, ite_false, if_true, if_false, Bool.false_eq_true, reduceIte, Nat.zero_add, Nat.reduceAdd, Nat.reduceLeDiff, Nat.reduceLT, Nat.reduceEqDiff, sizeL, decide_true, decide_false, eq_self, Bool.not_true, Bool.not_false, Bool.or_true, Bool.true_or, Bool.or_false, Bool.false_or, reduceCtorEq, binD, if_pos hm, gti, Int.toNat_natCast]
    unfold turnW bindS
    rw [hc]
    show (if decide (0 < v / 2 ^ m) = true then _ else _ : MS) _ _ = _
    by_cases h : m < fig v
    · rw [decide_eq_true ((fig_gt h0 m).mpr h), if_pos rfl]
      rw [hbd]
      obtain ⟨k', rfl⟩ : ∃ k', k = k' + 1 := ⟨k - 1, by omega⟩
      have := fig_loop h0 hbd k' (m + 1) (by omega)
      rw [show ((m + 1 : Nat) : Int) = (m : Int) + 1 by omega] at this
      exact this
    · have e : m = fig v := by omega
      rw [decide_eq_false (mt (fig_gt h0 m).mp h), if_neg Bool.false_ne_true, ← e]
      rfl
theorem figures_ok {v : Int} (h0 : 0 ≤ v) : F_figures_of [.int v] [] = some (.ok (.int (fig v : Int)), []) := by
  have h := fig_loop h0 (bd := augS 1 addI (retE (.int 1))) (fun m => by simp only [seqS, letS, bindS, bindE, asgS, setG, subG, okE, varE, opE, optE, modE, dgtE, retE, ifS, ifE, consE, bifE, bffE, cmpB, idxE, frzE, celE, lstE, tupE, tupG, consG, nilG, retS, rtS, nxS, dropS, bmE, truE, notB, blE, partE, sliL, sliV, callE, negE, norE, asB, chainE, isiE, isi2E, parS, par3S, augS, addI, neverS, bkS, ctS, toD, fzE, disp0, dispE, pairsE, List.length_cons, List.length_nil, List.map_cons, List.map_nil, List.replicate, List.append, List.getElem?_cons_zero, List.getElem?_cons_succ, List.cons_append, List.nil_append, List.set_cons_zero, List.set_cons_succ, Option.map_some, Option.map_none, Option.bind_some, Option.bind_none, ite_true, ite_false, if_true, if_false, Bool.false_eq_true, reduceIte, Nat.zero_add, Nat.reduceAdd, Nat.reduceLeDiff, Nat.reduceLT, Nat.reduceEqDiff, sizeL, decide_true, decide_false, eq_self, Bool.not_true, Bool.not_false, Bool.or_true, Bool.true_or, Bool.or_false, Bool.false_or, reduceCtorEq]) (fig v) 0 (by omega)
  rw [show ((0 : Nat) : Int) = 0 from rfl] at h
  unfold F_figures_of runF
  simp only [seqS, letS, bindS, bindE, asgS, setG, subG, okE, varE, opE, optE, modE, dgtE, retE, ifS, ifE, consE, bifE, bffE, cmpB, idxE, frzE, celE, lstE, tupE, tupG, consG, nilG, retS, rtS, nxS, dropS, bmE, truE, notB, blE, partE, sliL, sliV, callE, negE, norE, asB, chainE, isiE, isi2E, parS, par3S, augS, addI, neverS, bkS, ctS, toD, fzE, disp0, dispE, pairsE, List.length_cons, List.length_nil, List.map_cons, List.map_nil, List.replicate, List.append, List.getElem?_cons_zero, List.getElem?_cons_succ, List.cons_append, List.nil_append, List.set_cons_zero, List.set_cons_succ, Option.map_some, Option.map_none, Option.bind_some, Option.bind_none, ite_true, ite_false, if_true, if_false, Bool.false_eq_true, reduceIte, Nat.zero_add, Nat.reduceAdd, Nat.reduceLeDiff, Nat.reduceLT, Nat.reduceEqDiff, sizeL, decide_true, decide_false, eq_self, Bool.not_true, Bool.not_false, Bool.or_true, Bool.true_or, Bool.or_false, Bool.false_or, reduceCtorEq] at h ⊢
  simp only [h, List.length_cons, List.length_nil, List.map_cons, List.map_nil, List.replicate, List.append, List.getElem?_cons_zero, List.getElem?_cons_succ, List.cons_append, List.nil_append, List.set_cons_zero, List.set_cons_succ, Option.map_some, Option.map_none, Option.bind_some, Option.bind_none, ite_true, ite_false, if_true, if_false, Bool.false_eq_true, reduceIte, Nat.zero_add, Nat.reduceAdd, Nat.reduceLeDiff, Nat.reduceLT, Nat.reduceEqDiff, sizeL, decide_true, decide_false, eq_self, Bool.not_true, Bool.not_false, Bool.or_true, Bool.true_or, Bool.or_false, Bool.false_or, reduceCtorEq]
theorem length_ok {v : Int} (h0 : 0 ≤ v) : F_law_length [.int v] [] = some (.ok (.int (fig v : Int)), []) := by
  have h := fig_loop h0 (bd := letS (opE .Add (varE 1) (retE (.int 1))) (setG 1)) (fun m => by simp only [seqS, letS, bindS, bindE, asgS, setG, subG, okE, varE, opE, optE, modE, dgtE, retE, ifS, ifE, consE, bifE, bffE, cmpB, idxE, frzE, celE, lstE, tupE, tupG, consG, nilG, retS, rtS, nxS, dropS, bmE, truE, notB, blE, partE, sliL, sliV, callE, negE, norE, asB, chainE, isiE, isi2E, parS, par3S, augS, addI, neverS, bkS, ctS, toD, fzE, disp0, dispE, pairsE, List.length_cons, List.length_nil, List.map_cons, List.map_nil, List.replicate, List.append, List.getElem?_cons_zero, List.getElem?_cons_succ, List.cons_append, List.nil_append, List.set_cons_zero, List.set_cons_succ, Option.map_some, Option.map_none, Option.bind_some, Option.bind_none, ite_true, ite_false, if_true, if_false, Bool.false_eq_true, reduceIte, Nat.zero_add, Nat.reduceAdd, Nat.reduceLeDiff, Nat.reduceLT, Nat.reduceEqDiff, sizeL, decide_true, decide_false, eq_self, Bool.not_true, Bool.not_false, Bool.or_true, Bool.true_or, Bool.or_false, Bool.false_or, reduceCtorEq, binD]) (fig v) 0 (by omega)
  rw [show ((0 : Nat) : Int) = 0 from rfl] at h
  unfold F_law_length runF
  simp only [seqS, letS, bindS, bindE, asgS, setG, subG, okE, varE, opE, optE, modE, dgtE, retE, ifS, ifE, consE, bifE, bffE, cmpB, idxE, frzE, celE, lstE, tupE, tupG, consG, nilG, retS, rtS, nxS, dropS, bmE, truE, notB, blE, partE, sliL, sliV, callE, negE, norE, asB, chainE, isiE, isi2E, parS, par3S, augS, addI, neverS, bkS, ctS, toD, fzE, disp0, dispE, pairsE, List.length_cons, List.length_nil, List.map_cons, List.map_nil, List.replicate, List.append, List.getElem?_cons_zero, List.getElem?_cons_succ, List.cons_append, List.nil_append, List.set_cons_zero, List.set_cons_succ, Option.map_some, Option.map_none, Option.bind_some, Option.bind_none, ite_true, ite_false, if_true, if_false, Bool.false_eq_true, reduceIte, Nat.zero_add, Nat.reduceAdd, Nat.reduceLeDiff, Nat.reduceLT, Nat.reduceEqDiff, sizeL, decide_true, decide_false, eq_self, Bool.not_true, Bool.not_false, Bool.or_true, Bool.true_or, Bool.or_false, Bool.false_or, reduceCtorEq] at h ⊢
  simp only [h, List.length_cons, List.length_nil, List.map_cons, List.map_nil, List.replicate, List.append, List.getElem?_cons_zero, List.getElem?_cons_succ, List.cons_append, List.nil_append, List.set_cons_zero, List.set_cons_succ, Option.map_some, Option.map_none, Option.bind_some, Option.bind_none, ite_true, ite_false, if_true, if_false, Bool.false_eq_true, reduceIte, Nat.zero_add, Nat.reduceAdd, Nat.reduceLeDiff, Nat.reduceLT, Nat.reduceEqDiff, sizeL, decide_true, decide_false, eq_self, Bool.not_true, Bool.not_false, Bool.or_true, Bool.true_or, Bool.or_false, Bool.false_or, reduceCtorEq]
/-! ### what rows hold -/
def spots : Row → List Str
  | .set s _ => [s] | .two _ s o => [s, o] | .one _ s => [s] | .stop => [] | .jump _ => [] | .zero s _ => [s]
def nm9 : List Str := ["none", "one", "two", "three", "four", "five", "six", "seven", "eight"]
def szn (v : Int) : Str := nm9.getD (fig v) ""
def sizes : Row → List Str
  | .set _ v => [szn v] | _ => []
theorem inS (μ : Mu) {s : Str} (h : Sp s) : cmpD .In μ (.str s) g_SPOTS = some true := by
  rcases h with h | h | h | h <;> subst h <;> kernel_rfl
theorem inI (μ : Mu) (a : Int) : cmpD .In μ (.int a) g_SPOTS = some false := by kernel_rfl
theorem enc0 (μ : Mu) (r : Row) : idxD μ (enc r) (.int 0) = some (.str (kind r)) := by cases r <;> rfl
theorem cut1 (r : Row) : slV (enc r) (some 1) none = some (.tup (tail r)) := by cases r <;> rfl
theorem clEnc (r : Row) : clD 0 (enc r) = true := by cases r <;> rfl
theorem clStz : ∀ xs : List Str, clDs 0 (stz xs) = true
  | [] => rfl
  | x :: xs => clStz xs
theorem seg0 {F : FD} {ds : List D} {μ μ' : Mu} {d : D} (h1 : clDs 0 ds = true) (h2 : F ds [] = some (.ok d, μ')) (h3 : clD 0 d = true) : segF 0 F ds μ = some (.ok d, μ) := by
  unfold segF
  rw [if_pos ⟨Nat.zero_le _, h1, rfl⟩, List.take_zero, h2]
  dsimp only
  rw [if_pos ⟨h3, by rw [List.take_zero]; rfl⟩, List.take_zero, List.drop_zero, List.nil_append]
theorem spots_ok {r : Row} (h : r.ok) : F_spots_in [enc r] [] = some (.ok (.lst (stz (spots r))), []) := by
  have hc := cut1 r
  unfold F_spots_in runF
  cases r with
  | set s v => simp only [seqS, letS, bindS, bindE, asgS, setG, subG, okE, varE, opE, optE, modE, dgtE, retE, ifS, ifE, consE, bifE, bffE, cmpB, idxE, frzE, celE, lstE, tupE, tupG, consG, nilG, retS, rtS, nxS, dropS, bmE, truE, notB, blE, partE, sliL, sliV, callE, negE, norE, asB, chainE, isiE, isi2E, parS, par3S, augS, addI, neverS, bkS, ctS, toD, fzE, disp0, dispE, pairsE, List.length_cons, List.length_nil, List.map_cons, List.map_nil, List.replicate, List.append, List.getElem?_cons_zero, List.getElem?_cons_succ, List.cons_append, List.nil_append, List.set_cons_zero, List.set_cons_succ, Option.map_some, Option.map_none, Option.bind_some, Option.bind_none, ite_true, ite_false, if_true, if_false, Bool.false_eq_true, reduceIte, Nat.zero_add, Nat.reduceAdd, Nat.reduceLeDiff, Nat.reduceLT, Nat.reduceEqDiff, sizeL, decide_true, decide_false, eq_self, Bool.not_true, Bool.not_false, Bool.or_true, Bool.true_or, Bool.or_false, Bool.false_or, reduceCtorEq, lcE, inT, hc, tail, tupOf, wipeD, lcGo, inS _ h.1, inI]; rfl
  | two k s o => simp only [seqS, letS, bindS, bindE, asgS, setG, subG, okE, varE, opE, optE, modE, dgtE, retE, ifS, ifE, consE, bifE, bffE, cmpB, idxE, frzE, celE, lstE, tupE, tupG, consG, nilG, retS, rtS, nxS, dropS, bmE, truE, notB, blE, partE, sliL, sliV, callE, negE, norE, asB, chainE, isiE, isi2E, parS, par3S, augS, addI, neverS, bkS, ctS, toD, fzE, disp0, dispE, pairsE, List.length_cons, List.length_nil, List.map_cons, List.map_nil, List.replicate, List.append, List.getElem?_cons_zero, List.getElem?_cons_succ, List.cons_append, List.nil_append, List.set_cons_zero, List.set_cons_succ, Option.map_some, Option.map_none, Option.bind_some, Option.bind_none, ite_true, ite_false, if_true, if_false, Bool.false_eq_true, reduceIte, Nat.zero_add, Nat.reduceAdd, Nat.reduceLeDiff, Nat.reduceLT, Nat.reduceEqDiff, sizeL, decide_true, decide_false, eq_self, Bool.not_true, Bool.not_false, Bool.or_true, Bool.true_or, Bool.or_false, Bool.false_or, reduceCtorEq, lcE, inT, hc, tail, tupOf, wipeD, lcGo, inS _ h.2.1, inS _ h.2.2]; rfl
  | one k s => simp only [seqS, letS, bindS, bindE, asgS, setG, subG, okE, varE, opE, optE, modE, dgtE, retE, ifS, ifE, consE, bifE, bffE, cmpB, idxE, frzE, celE, lstE, tupE, tupG, consG, nilG, retS, rtS, nxS, dropS, bmE, truE, notB, blE, partE, sliL, sliV, callE, negE, norE, asB, chainE, isiE, isi2E, parS, par3S, augS, addI, neverS, bkS, ctS, toD, fzE, disp0, dispE, pairsE, List.length_cons, List.length_nil, List.map_cons, List.map_nil, List.replicate, List.append, List.getElem?_cons_zero, List.getElem?_cons_succ, List.cons_append, List.nil_append, List.set_cons_zero, List.set_cons_succ, Option.map_some, Option.map_none, Option.bind_some, Option.bind_none, ite_true, ite_false, if_true, if_false, Bool.false_eq_true, reduceIte, Nat.zero_add, Nat.reduceAdd, Nat.reduceLeDiff, Nat.reduceLT, Nat.reduceEqDiff, sizeL, decide_true, decide_false, eq_self, Bool.not_true, Bool.not_false, Bool.or_true, Bool.true_or, Bool.or_false, Bool.false_or, reduceCtorEq, lcE, inT, hc, tail, tupOf, wipeD, lcGo, inS _ h.2]; rfl
  | stop => simp only [seqS, letS, bindS, bindE, asgS, setG, subG, okE, varE, opE, optE, modE, dgtE, retE, ifS, ifE, consE, bifE, bffE, cmpB, idxE, frzE, celE, lstE, tupE, tupG, consG, nilG, retS, rtS, nxS, dropS, bmE, truE, notB, blE, partE, sliL, sliV, callE, negE, norE, asB, chainE, isiE, isi2E, parS, par3S, augS, addI, neverS, bkS, ctS, toD, fzE, disp0, dispE, pairsE, List.length_cons, List.length_nil, List.map_cons, List.map_nil, List.replicate, List.append, List.getElem?_cons_zero, List.getElem?_cons_succ, List.cons_append, List.nil_append, List.set_cons_zero, List.set_cons_succ, Option.map_some, Option.map_none, Option.bind_some, Option.bind_none, ite_true, ite_false, if_true, if_false, Bool.false_eq_true, reduceIte, Nat.zero_add, Nat.reduceAdd, Nat.reduceLeDiff, Nat.reduceLT, Nat.reduceEqDiff, sizeL, decide_true, decide_false, eq_self, Bool.not_true, Bool.not_false, Bool.or_true, Bool.true_or, Bool.or_false, Bool.false_or, reduceCtorEq, lcE, inT, hc, tail, tupOf, wipeD, lcGo]; rfl
  | jump a => simp only [seqS, letS, bindS, bindE, asgS, setG, subG, okE, varE, opE, optE, modE, dgtE, retE, ifS, ifE, consE, bifE, bffE, cmpB, idxE, frzE, celE, lstE, tupE, tupG, consG, nilG, retS, rtS, nxS, dropS, bmE, truE, notB, blE, partE, sliL, sliV, callE, negE, norE, asB, chainE, isiE, isi2E, parS, par3S, augS, addI, neverS, bkS, ctS, toD, fzE, disp0, dispE, pairsE, List.length_cons, List.length_nil, List.map_cons, List.map_nil, List.replicate, List.append, List.getElem?_cons_zero, List.getElem?_cons_succ, List.cons_append, List.nil_append, List.set_cons_zero, List.set_cons_succ, Option.map_some, Option.map_none, Option.bind_some, Option.bind_none, ite_true, ite_false, if_true, if_false, Bool.false_eq_true, reduceIte, Nat.zero_add, Nat.reduceAdd, Nat.reduceLeDiff, Nat.reduceLT, Nat.reduceEqDiff, sizeL, decide_true, decide_false, eq_self, Bool.not_true, Bool.not_false, Bool.or_true, Bool.true_or, Bool.or_false, Bool.false_or, reduceCtorEq, lcE, inT, hc, tail, tupOf, wipeD, lcGo, inI]; rfl
  | zero s a => simp only [seqS, letS, bindS, bindE, asgS, setG, subG, okE, varE, opE, optE, modE, dgtE, retE, ifS, ifE, consE, bifE, bffE, cmpB, idxE, frzE, celE, lstE, tupE, tupG, consG, nilG, retS, rtS, nxS, dropS, bmE, truE, notB, blE, partE, sliL, sliV, callE, negE, norE, asB, chainE, isiE, isi2E, parS, par3S, augS, addI, neverS, bkS, ctS, toD, fzE, disp0, dispE, pairsE, List.length_cons, List.length_nil, List.map_cons, List.map_nil, List.replicate, List.append, List.getElem?_cons_zero, List.getElem?_cons_succ, List.cons_append, List.nil_append, List.set_cons_zero, List.set_cons_succ, Option.map_some, Option.map_none, Option.bind_some, Option.bind_none, ite_true, ite_false, if_true, if_false, Bool.false_eq_true, reduceIte, Nat.zero_add, Nat.reduceAdd, Nat.reduceLeDiff, Nat.reduceLT, Nat.reduceEqDiff, sizeL, decide_true, decide_false, eq_self, Bool.not_true, Bool.not_false, Bool.or_true, Bool.true_or, Bool.or_false, Bool.false_or, reduceCtorEq, lcE, inT, hc, tail, tupOf, wipeD, lcGo, inS _ h.1, inI]; rfl
theorem szn_at {v : Int} (h0 : 0 ≤ v) (h1 : v ≤ 255) (μ : Mu) : idxD μ g_SIZES (.int (fig v : Int)) = some (.str (szn v)) ∧ idxD μ (.lst (stz nm9)) (.int (fig v : Int)) = some (.str (szn v)) := by
  have h := fig_le h0 h1
  unfold szn
  generalize fig v = k at h
  have c : k = 0 ∨ k = 1 ∨ k = 2 ∨ k = 3 ∨ k = 4 ∨ k = 5 ∨ k = 6 ∨ k = 7 ∨ k = 8 := by omega
  rcases c with c | c | c | c | c | c | c | c | c <;> subst c <;> exact ⟨rfl, rfl⟩
/-! ### counting -/
def stzN : D → List Str
  | .tup ds => ds.filterMap fun d => match d with | .str x => some x | _ => none
  | _ => []
def cnts (names xs : List Str) : List D := names.map fun n => .tup [.str n, .int (cntS xs n)]
theorem cnt_ok {μ : Mu} {i : Nat} {xs : List Str} (h : μ[i]? = some (.lst (stz xs))) (n : Str) : countD μ (.cell i) [.str n] = some (.int (cntS xs n), μ) := by
  have e : min (PyData.depthAll (xs.map PyData.str)) (PyData.depth (.str n)) ≤ 60 := Nat.le_trans (Nat.min_le_right _ _) (by show (0 : Nat) ≤ 60; decide)
  simp only [countD, toPy, lstOf, h, toPys_stz, Option.map_some, toPy0, if_pos e]
  rfl
theorem ty_cell {μ : Mu} {i : Nat} {ds : List D} (h : μ[i]? = some (.lst ds)) : tyD "list" μ (.cell i) = true := by
  simp only [tyD, lstOf, h]
  rfl
theorem counted_ok {μ : Mu} {i : Nat} {xs names : List Str} (h : μ[i]? = some (.lst (stz xs))) (hn : names.length ≤ 100) : F_counted [.tup (stz names), .cell i] μ = some (.ok (.cell μ.length), μ ++ [.lst (cnts names xs)]) := by
  have hm := lcGo_map (al := fun _ => tupOf (.tup (stz names)) = some (stz names)) (f := setG 2) (mt := retE true) (me := tupE (consE (varE 2) (consE (bmE .count (varE 1) (consE (varE 2) (retE []))) (retE []))))
    (σ0 := [some (.tup (stz names)), some (.cell i), none]) (μ := μ) (fun d => .tup [d, match d with | .str n => .int (cntS xs n) | _ => .non]) rfl (stz names) [] (by rw [stz_len, sizeL]; simp; omega) (fun d hd => by
      obtain ⟨n, _, rfl⟩ := List.mem_map.mp hd
      refine ⟨[some (.tup (stz names)), some (.cell i), some (.str n)], rfl, rfl, ?_⟩
      simp only [seqS, letS, bindS, bindE, asgS, setG, subG, okE, varE, opE, optE, modE, dgtE, retE, ifS, ifE, consE, bifE, bffE, cmpB, idxE, frzE, celE, lstE, tupE, tupG, consG, nilG, retS, rtS, nxS, dropS, bmE, truE, notB, blE, partE, sliL, sliV, callE, negE, norE, asB, chainE, isiE, isi2E, parS, par3S, augS, addI, neverS, bkS, ctS, toD, fzE, disp0, dispE, pairsE, List.length_cons, List.length_nil, List.map_cons, List.map_nil, List.replicate, List.append, List.getElem?_cons_zero, List.getElem?_cons_succ, List.cons_append, List.nil_append, List.set_cons_zero, List.set_cons_succ, Option.map_some, Option.map_none, Option.bind_some, Option.bind_none, ite_true, ite_false, if_true, if_false, Bool.false_eq_true, reduceIte, Nat.zero_add, Nat.reduceAdd, Nat.reduceLeDiff, Nat.reduceLT, Nat.reduceEqDiff, sizeL, decide_true, decide_false, eq_self, Bool.not_true, Bool.not_false, Bool.or_true, Bool.true_or, Bool.or_false, Bool.false_or, reduceCtorEq, bmT, ty_cell h, bmD, cnt_ok h])
  have em : (stz names).map (fun d => D.tup [d, match d with | .str n => .int (cntS xs n) | _ => .non]) = cnts names xs := by
    unfold stz cnts
    rw [List.map_map]
    rfl
  rw [em, List.nil_append] at hm
  unfold F_counted runF
  simp only [seqS, letS, bindS, bindE, asgS, setG, subG, okE, varE, opE, optE, modE, dgtE, retE, ifS, ifE, consE, bifE, bffE, cmpB, idxE, frzE, celE, lstE, tupE, tupG, consG, nilG, retS, rtS, nxS, dropS, bmE, truE, notB, blE, partE, sliL, sliV, callE, negE, norE, asB, chainE, isiE, isi2E, parS, par3S, augS, addI, neverS, bkS, ctS, toD, fzE, disp0, dispE, pairsE, List.length_cons, List.length_nil, List.map_cons, List.map_nil, List.replicate, List.append, List.getElem?_cons_zero, List.getElem?_cons_succ, List.cons_append, List.nil_append, List.set_cons_zero, List.set_cons_succ, Option.map_some, Option.map_none, Option.bind_some, Option.bind_none, ite_true, ite_false, if_true, if_false, Bool.false_eq_true, reduceIte, Nat.zero_add, Nat.reduceAdd, Nat.reduceLeDiff, Nat.reduceLT, Nat.reduceEqDiff, sizeL, decide_true, decide_false, eq_self, Bool.not_true, Bool.not_false, Bool.or_true, Bool.true_or, Bool.or_false, Bool.false_or, reduceCtorEq, lcE, inT, tupOf, wipeD] at hm ⊢
  simp only [hm, List.length_cons, List.length_nil, List.map_cons, List.map_nil, List.replicate, List.append, List.getElem?_cons_zero, List.getElem?_cons_succ, List.cons_append, List.nil_append, List.set_cons_zero, List.set_cons_succ, Option.map_some, Option.map_none, Option.bind_some, Option.bind_none, ite_true, ite_false, if_true, if_false, Bool.false_eq_true, reduceIte, Nat.zero_add, Nat.reduceAdd, Nat.reduceLeDiff, Nat.reduceLT, Nat.reduceEqDiff, sizeL, decide_true, decide_false, eq_self, Bool.not_true, Bool.not_false, Bool.or_true, Bool.true_or, Bool.or_false, Bool.false_or, reduceCtorEq]
/-! ### uses_of -/
def T3 (μ : Mu) (a b c : List D) : Mu := μ ++ [.lst a, .lst b, .lst c]
section
variable {μ : Mu} {a b c : List D}
theorem t30 : (T3 μ a b c)[μ.length]? = some (.lst a) := by
  have := ap_get (μ := μ) (l := [.lst a, .lst b, .lst c]) (k := 0) (by simp)
  simpa [T3] using this
theorem t31 : (T3 μ a b c)[μ.length + 1]? = some (.lst b) := by
  have := ap_get (μ := μ) (l := [.lst a, .lst b, .lst c]) (k := 1) (by simp)
  simpa [T3] using this
theorem t32 : (T3 μ a b c)[μ.length + 2]? = some (.lst c) := by
  have := ap_get (μ := μ) (l := [.lst a, .lst b, .lst c]) (k := 2) (by simp)
  simpa [T3] using this
theorem ap0 {d : D} (h : a.length < sizeLine) : appendD (T3 μ a b c) (.cell μ.length) [d] = some (.non, T3 μ (a ++ [d]) b c) := by
  have hs := ap_set (μ := μ) (l := [.lst a, .lst b, .lst c]) (k := 0) (o := .lst (a ++ [d]))
  simp only [appendD, celOf, t30, if_pos h]
  exact congrArg some (congrArg (Prod.mk D.non) hs)
theorem ex1 {d : List D} (h : b.length + d.length ≤ sizeLine) : extendD (T3 μ a b c) (.cell (μ.length + 1)) [.lst d] = some (.non, T3 μ a (b ++ d) c) := by
  have hs := ap_set (μ := μ) (l := [.lst a, .lst b, .lst c]) (k := 1) (o := .lst (b ++ d))
  simp only [extendD, celOf, t31, lstOf, if_pos h]
  exact congrArg some (congrArg (Prod.mk D.non) hs)
theorem ap2 {d : D} (h : c.length < sizeLine) : appendD (T3 μ a b c) (.cell (μ.length + 2)) [d] = some (.non, T3 μ a b (c ++ [d])) := by
  have hs := ap_set (μ := μ) (l := [.lst a, .lst b, .lst c]) (k := 2) (o := .lst (c ++ [d]))
  simp only [appendD, celOf, t32, if_pos h]
  exact congrArg some (congrArg (Prod.mk D.non) hs)
end
theorem eqs (μ : Mu) (a b : Str) : cmpD .Eq μ (.str a) (.str b) = some (decide (a = b)) := by
  show eqDD μ (.str a) (.str b) = _
  unfold eqDD
  rw [if_pos (show scalD (.str a) (.str b) = true from rfl)]
  show some (a == b) = _
  rw [Bool.beq_eq_decide_eq]
theorem stz_app (a b : List Str) : stz (a ++ b) = stz a ++ stz b := by simp [stz]
def kindsA (rs : List Row) : List Str := rs.map kind
def spotsA (rs : List Row) : List Str := rs.flatMap spots
def sizesA (rs : List Row) : List Str := rs.flatMap sizes
theorem spots_len (r : Row) : (spots r).length ≤ 2 := by cases r <;> simp [spots]
theorem sizes_len (r : Row) : (sizes r).length ≤ 1 := by cases r <;> simp [sizes]
theorem spotsA_len (rs : List Row) : (spotsA rs).length ≤ 2 * rs.length := by
  induction rs with
  | nil => simp [spotsA]
  | cons r rs ih =>
    have := spots_len r
    unfold spotsA at ih ⊢
    rw [List.flatMap_cons, List.length_append, List.length_cons]
    omega
theorem sizesA_len (rs : List Row) : (sizesA rs).length ≤ rs.length := by
  induction rs with
  | nil => simp [sizesA]
  | cons r rs ih =>
    have := sizes_len r
    unfold sizesA at ih ⊢
    rw [List.flatMap_cons, List.length_append, List.length_cons]
    omega
theorem kind_set {r : Row} (h : r.ok) (hk : kind r = "set") : ∃ s v, r = .set s v := by
  cases r with
  | set s v => exact ⟨s, v, rfl⟩
  | two k s o =>
    have hk' : k = "set" := hk
    rcases h.1 with e | e <;> (rw [e] at hk'; exact absurd hk' (by decide +kernel))
  | one k s =>
    have hk' : k = "set" := hk
    rcases h.1 with e | e <;> (rw [e] at hk'; exact absurd hk' (by decide +kernel))
  | stop => exact absurd hk (by decide +kernel)
  | jump a => exact absurd (show ("jump" : Str) = "set" from hk) (by decide +kernel)
  | zero s a => exact absurd (show ("zero" : Str) = "set" from hk) (by decide +kernel)
theorem sizes_no {r : Row} (hk : ¬ kind r = "set") : sizes r = [] := by
  cases r with
  | set s v => exact absurd rfl hk
  | _ => rfl
noncomputable def bodyU : MS := seqS (dropS (bmE .append (varE 1) (consE (idxE (varE 4) (retE (.int 0))) (retE [])))) (seqS (dropS (bmE .extend (varE 2) (consE (callE (segF 0 F_spots_in) (consE (varE 4) (retE []))) (retE [])))) (ifS (cmpB .Eq (idxE (varE 4) (retE (.int 0))) (retE (.str "set"))) (dropS (bmE .append (varE 3) (consE (idxE (retE g_SIZES) (callE (segF 0 F_figures_of) (consE (idxE (varE 4) (retE (.int 2))) (retE [])))) (retE [])))) nxS))
theorem uses_turn {μ : Mu} {p : D} {r : Row} (h : r.ok) {A B C : List Str} (hl : A.length ≤ 1000 ∧ B.length ≤ 1000 ∧ C.length ≤ 1000) :
    bodyU [some p, some (.cell μ.length), some (.cell (μ.length + 1)), some (.cell (μ.length + 2)), some (enc r)] (T3 μ (stz A) (stz B) (stz C)) =
      some (.nx, [some p, some (.cell μ.length), some (.cell (μ.length + 1)), some (.cell (μ.length + 2)), some (enc r)], T3 μ (stz (A ++ [kind r])) (stz (B ++ spots r)) (stz (C ++ sizes r))) := by
  obtain ⟨l1, l2, l3⟩ := hl
  have z1 : (stz A).length < sizeLine := by rw [stz_len, sizeL]; omega
  have z2 : (stz B).length + (stz (spots r)).length ≤ sizeLine := by
    have := spots_len r
    rw [stz_len, stz_len, sizeL]; omega
  have z3 : (stz C).length < sizeLine := by rw [stz_len, sizeL]; omega
  have hsp := seg0 (μ := T3 μ (stz A ++ [.str (kind r)]) (stz B) (stz C)) (show clDs 0 [enc r] = true by simp [clDs, clEnc]) (spots_ok h) (clStz (spots r))
  rw [stz_app, stz_app]
  by_cases hk : kind r = "set"
  · obtain ⟨s, v, rfl⟩ := kind_set h hk
    have hf : ∀ μ : Mu, segF 0 F_figures_of [.int v] μ = some (.ok (.int (fig v : Int)), μ) := fun μ => seg0 rfl (figures_ok h.2.1) rfl
    have h2 : ∀ μ : Mu, idxD μ (enc (.set s v)) (.int 2) = some (.int v) := fun _ => rfl
    rw [hk] at hsp
    unfold bodyU
    simp only [seqS, letS, bindS, bindE, asgS, setG, subG, okE, varE, opE, optE, modE, dgtE, retE, ifS, ifE, consE, bifE, bffE, cmpB, idxE, frzE, celE, lstE, tupE, tupG, consG, nilG, retS, rtS, nxS, dropS, bmE, truE, notB, blE, partE, sliL, sliV, callE, negE, norE, asB, chainE, isiE, isi2E, parS, par3S, augS, addI, neverS, bkS, ctS, toD, fzE, disp0, dispE, pairsE, List.length_cons, List.length_nil, List.map_cons, List.map_nil, List.replicate, List.append, List.getElem?_cons_zero, List.getElem?_cons_succ, List.cons_append, List.nil_append, List.set_cons_zero, List.set_cons_succ, Option.map_some, Option.map_none, Option.bind_some, Option.bind_none, ite_true, ite_false, if_true, if_false, Bool.false_eq_true, reduceIte, Nat.zero_add, Nat.reduceAdd, Nat.reduceLeDiff, Nat.reduceLT, Nat.reduceEqDiff, sizeL, decide_true, decide_false, eq_self, Bool.not_true, Bool.not_false, Bool.or_true, Bool.true_or, Bool.or_false, Bool.false_or, reduceCtorEq, bmT, ty_cell t30, ty_cell t31, ty_cell t32, bmD, enc0, hk, ap0 z1, hsp, ex1 z2, eqs, h2, hf, (szn_at h.2.1 h.2.2 _).1, ap2 z3]
    rw [stz_app C]
    rfl
  · unfold bodyU
    simp only [seqS, letS, bindS, bindE, asgS, setG, subG, okE, varE, opE, optE, modE, dgtE, retE, ifS, ifE, consE, bifE, bffE, cmpB, idxE, frzE, celE, lstE, tupE, tupG, consG, nilG, retS, rtS, nxS, dropS, bmE, truE, notB, blE, partE, sliL, sliV, callE, negE, norE, asB, chainE, isiE, isi2E, parS, par3S, augS, addI, neverS, bkS, ctS, toD, fzE, disp0, dispE, pairsE, List.length_cons, List.length_nil, List.map_cons, List.map_nil, List.replicate, List.append, List.getElem?_cons_zero, List.getElem?_cons_succ, List.cons_append, List.nil_append, List.set_cons_zero, List.set_cons_succ, Option.map_some, Option.map_none, Option.bind_some, Option.bind_none, ite_true, ite_false, if_true, if_false, Bool.false_eq_true, reduceIte, Nat.zero_add, Nat.reduceAdd, Nat.reduceLeDiff, Nat.reduceLT, Nat.reduceEqDiff, sizeL, decide_true, decide_false, eq_self, Bool.not_true, Bool.not_false, Bool.or_true, Bool.true_or, Bool.or_false, Bool.false_or, reduceCtorEq, bmT, ty_cell t30, ty_cell t31, ty_cell t32, bmD, enc0, ap0 z1, hsp, ex1 z2, eqs, decide_eq_false hk]
    rw [sizes_no hk]
    show _ = some (Fl.nx, _, T3 μ (stz A ++ [.str (kind r)]) _ (stz (C ++ [])))
    rw [List.append_nil]
theorem lsq_lst (μ : Mu) (ds : List D) : lsq μ (.lst ds) = some ds := rfl
theorem uses_ok {μ : Mu} {rs : List Row} (h : Prg rs) : F_uses_of [.lst (rs.map enc)] μ = some (.ok (.tup [.cell (μ.length + 3), .cell (μ.length + 4), .cell (μ.length + 5)]),
    μ ++ [.lst (stz (kindsA rs)), .lst (stz (spotsA rs)), .lst (stz (sizesA rs)), .lst (cnts (stzN g_KINDS) (kindsA rs)), .lst (cnts (stzN g_SPOTS) (spotsA rs)), .lst (cnts (stzN g_SIZES) (sizesA rs))]) := by
  have hrun := forD_run (al := fun μ' => lsq μ' (.lst (rs.map enc)) = some (rs.map enc)) (f := setG 4) (b := bodyU)
    (fun ds σ μ' => ∃ (done todo : List Row) (x : Option D), rs = done ++ todo ∧ ds = todo.map enc ∧ σ = [some (.lst (rs.map enc)), some (.cell μ.length), some (.cell (μ.length + 1)), some (.cell (μ.length + 2)), x] ∧ μ' = T3 μ (stz (kindsA done)) (stz (spotsA done)) (stz (sizesA done)))
    (fun _ _ _ => rfl) (fun d ds σ μ' => by
      rintro ⟨done, todo, x, e1, e2, rfl, rfl⟩
      cases todo with
      | nil => cases e2
      | cons r todo =>
        cases e2
        have hr : r.ok := h.1 r (by rw [e1]; simp)
        have hlen : done.length ≤ 200 := by
          have := h.2
          rw [e1, List.length_append] at this
          omega
        have hs := spotsA_len done
        have hz := sizesA_len done
        refine ⟨rfl, _, _, _, _, rfl, uses_turn hr (p := .lst (rs.map enc)) ⟨by unfold kindsA; rw [List.length_map]; omega, by omega, by omega⟩, done ++ [r], todo, some (enc r), by rw [e1]; simp, rfl, rfl, ?_⟩
        unfold kindsA spotsA sizesA
        rw [List.map_append, List.flatMap_append, List.flatMap_append, List.map_singleton, List.flatMap_singleton, List.flatMap_singleton]) (rs.map enc)
    [some (.lst (rs.map enc)), some (.cell μ.length), some (.cell (μ.length + 1)), some (.cell (μ.length + 2)), none] (T3 μ [] [] []) ⟨[], rs, none, rfl, rfl, rfl, rfl⟩
  obtain ⟨σ', μ', e, done, todo, x, e1, e2, rfl, rfl⟩ := hrun
  have e3 : todo = [] := List.map_eq_nil_iff.mp e2.symm
  subst e3
  rw [List.append_nil] at e1
  subst e1
  generalize hA : kindsA rs = A at e ⊢
  generalize hB : spotsA rs = Bq at e ⊢
  generalize hC : sizesA rs = Cq at e ⊢
  have tl : (T3 μ (stz A) (stz Bq) (stz Cq)).length = μ.length + 3 := by simp [T3]
  have k1 : F_counted [g_KINDS, .cell μ.length] (T3 μ (stz A) (stz Bq) (stz Cq)) = some (.ok (.cell (μ.length + 3)), T3 μ (stz A) (stz Bq) (stz Cq) ++ [.lst (cnts (stzN g_KINDS) A)]) := by
    have := counted_ok (μ := T3 μ (stz A) (stz Bq) (stz Cq)) (xs := A) (names := stzN g_KINDS) t30 (by decide)
    rw [tl] at this
    exact this
  have k2 : F_counted [g_SPOTS, .cell (μ.length + 1)] (T3 μ (stz A) (stz Bq) (stz Cq) ++ [.lst (cnts (stzN g_KINDS) A)]) = some (.ok (.cell (μ.length + 4)), T3 μ (stz A) (stz Bq) (stz Cq) ++ [.lst (cnts (stzN g_KINDS) A), .lst (cnts (stzN g_SPOTS) Bq)]) := by
    have := counted_ok (μ := T3 μ (stz A) (stz Bq) (stz Cq) ++ [.lst (cnts (stzN g_KINDS) A)]) (i := μ.length + 1) (xs := Bq) (names := stzN g_SPOTS) (by rw [List.getElem?_append_left (by rw [tl]; omega)]; exact t31) (by decide)
    rw [List.length_append, tl, List.append_assoc] at this
    exact this
  have k3 : F_counted [g_SIZES, .cell (μ.length + 2)] (T3 μ (stz A) (stz Bq) (stz Cq) ++ [.lst (cnts (stzN g_KINDS) A), .lst (cnts (stzN g_SPOTS) Bq)]) = some (.ok (.cell (μ.length + 5)), T3 μ (stz A) (stz Bq) (stz Cq) ++ [.lst (cnts (stzN g_KINDS) A), .lst (cnts (stzN g_SPOTS) Bq), .lst (cnts (stzN g_SIZES) Cq)]) := by
    have := counted_ok (μ := T3 μ (stz A) (stz Bq) (stz Cq) ++ [.lst (cnts (stzN g_KINDS) A), .lst (cnts (stzN g_SPOTS) Bq)]) (i := μ.length + 2) (xs := Cq) (names := stzN g_SIZES) (by rw [List.getElem?_append_left (by rw [tl]; omega)]; exact t32) (by decide)
    rw [List.length_append, tl, List.append_assoc] at this
    exact this
  have e0 : μ ++ [.lst [], .lst [], .lst []] = T3 μ [] [] [] := rfl
  unfold F_uses_of runF
  unfold bodyU at e
  simp only [seqS, letS, bindS, bindE, asgS, setG, subG, okE, varE, opE, optE, modE, dgtE, retE, ifS, ifE, consE, bifE, bffE, cmpB, idxE, frzE, celE, lstE, tupE, tupG, consG, nilG, retS, rtS, nxS, dropS, bmE, truE, notB, blE, partE, sliL, sliV, callE, negE, norE, asB, chainE, isiE, isi2E, parS, par3S, augS, addI, neverS, bkS, ctS, toD, fzE, disp0, dispE, pairsE, List.length_cons, List.length_nil, List.map_cons, List.map_nil, List.replicate, List.append, List.getElem?_cons_zero, List.getElem?_cons_succ, List.cons_append, List.nil_append, List.set_cons_zero, List.set_cons_succ, Option.map_some, Option.map_none, Option.bind_some, Option.bind_none, ite_true, ite_false, if_true, if_false, Bool.false_eq_true, reduceIte, Nat.zero_add, Nat.reduceAdd, Nat.reduceLeDiff, Nat.reduceLT, Nat.reduceEqDiff, sizeL, decide_true, decide_false, eq_self, Bool.not_true, Bool.not_false, Bool.or_true, Bool.true_or, Bool.or_false, Bool.false_or, reduceCtorEq, forS, inL, lsq_lst, List.length_append, List.append_assoc, List.length_singleton, Nat.add_assoc, e0] at e ⊢
  simp only [e, List.length_cons, List.length_nil, List.map_cons, List.map_nil, List.replicate, List.append, List.getElem?_cons_zero, List.getElem?_cons_succ, List.cons_append, List.nil_append, List.set_cons_zero, List.set_cons_succ, Option.map_some, Option.map_none, Option.bind_some, Option.bind_none, ite_true, ite_false, if_true, if_false, Bool.false_eq_true, reduceIte, Nat.zero_add, Nat.reduceAdd, Nat.reduceLeDiff, Nat.reduceLT, Nat.reduceEqDiff, sizeL, decide_true, decide_false, eq_self, Bool.not_true, Bool.not_false, Bool.or_true, Bool.true_or, Bool.or_false, Bool.false_or, reduceCtorEq, k1, k2, k3]
  simp only [T3, List.append_assoc, List.cons_append, List.nil_append]
/-! ### what is due -/
noncomputable def partM : ME D := frzE (lcE (([("_law_part", 6)] : List (Str × Nat)).map (·.2)) (inT (sliV (varE 4) (partE (retE (.int 1))) (retE none))) (setG 6) (truE (isiE .str (varE 6))) (varE 6))
noncomputable def bodyD : MS := seqS (dropS (bmE .append (varE 1) (consE (idxE (varE 4) (retE (.int 0))) (retE [])))) (seqS (dropS (bmE .extend (varE 2) (consE partM (retE [])))) (ifS (cmpB .Eq (idxE (varE 4) (retE (.int 0))) (retE (.str "set"))) (dropS (bmE .append (varE 3) (consE (idxE (callE (segF 0 F_law_sizes) (retE [])) (callE (segF 0 F_law_length) (consE (idxE (varE 4) (retE (.int 2))) (retE [])))) (retE [])))) nxS))
noncomputable def innerM : ME D := frzE (lcE (([("_law_name", 9)] : List (Str × Nat)).map (·.2)) (inL (varE 7)) (setG 9) (retE true) (tupE (consE (varE 9) (consE (bmE .count (varE 8) (consE (varE 9) (retE []))) (retE [])))))
theorem due_eq : F_law_uses_due = runF 1 9 (seqS (par3S 1 2 3 (consE (celE (lstE (retE []))) (consE (celE (lstE (retE []))) (consE (celE (lstE (retE []))) (retE []))))) (seqS (forS (inL (varE 0)) (setG 4) bodyD)
    (seqS (letS (frzE (lstE (consE (tupE (consE (callE (segF 0 F_law_kinds) (retE [])) (consE (varE 1) (retE [])))) (consE (tupE (consE (frzE (lstE (consE (retE (.str "a")) (consE (retE (.str "b")) (consE (retE (.str "c")) (consE (retE (.str "d")) (retE []))))))) (consE (varE 2) (retE [])))) (consE (tupE (consE (callE (segF 0 F_law_sizes) (retE [])) (consE (varE 3) (retE [])))) (retE [])))))) (setG 5))
    (retS (bifE .tupleOf (consE (frzE (lcE (([("_law_names", 7), ("_law_some", 8)] : List (Str × Nat)).map (·.2)) (inL (varE 5)) (tupG 2 (consG (setG 7) (consG (setG 8) nilG))) (retE true) innerM)) (retE []))))))) := rfl
theorem part_ok {p a b c : Option D} {x1 x2 x3 x4 x5 : Option D} (r : Row) (μ : Mu) : partM [p, a, b, c, some (enc r), x1, x2, x3, x4, x5] μ = some (.ok (.lst (stz (spots r))), μ) := by
  have hc := cut1 r
  have hi : isTy .str .str = true := rfl
  have hj : isTy .int .str = false := rfl
  unfold partM
  cases r <;> simp only [seqS, letS, bindS, bindE, asgS, setG, subG, okE, varE, opE, optE, modE, dgtE, retE, ifS, ifE, consE, bifE, bffE, cmpB, idxE, frzE, celE, lstE, tupE, tupG, consG, nilG, retS, rtS, nxS, dropS, bmE, truE, notB, blE, partE, sliL, sliV, callE, negE, norE, asB, chainE, isiE, isi2E, parS, par3S, augS, addI, neverS, bkS, ctS, toD, fzE, disp0, dispE, pairsE, List.length_cons, List.length_nil, List.map_cons, List.map_nil, List.replicate, List.append, List.getElem?_cons_zero, List.getElem?_cons_succ, List.cons_append, List.nil_append, List.set_cons_zero, List.set_cons_succ, Option.map_some, Option.map_none, Option.bind_some, Option.bind_none, ite_true, ite_false, if_true, if_false, Bool.false_eq_true, reduceIte, Nat.zero_add, Nat.reduceAdd, Nat.reduceLeDiff, Nat.reduceLT, Nat.reduceEqDiff, sizeL, decide_true, decide_false, eq_self, Bool.not_true, Bool.not_false, Bool.or_true, Bool.true_or, Bool.or_false, Bool.false_or, reduceCtorEq, lcE, inT, hc, tail, tupOf, wipeD, lcGo, tyOfD, truD, hi, hj] <;> rfl
theorem sizes9 (μ : Mu) : segF 0 F_law_sizes [] μ = some (.ok (.lst (stz nm9)), μ) := seg0 rfl (by rfl) rfl
theorem kinds11 (μ : Mu) : segF 0 F_law_kinds [] μ = some (.ok (.lst (stz (stzN g_KINDS))), μ) := seg0 rfl (by rfl) rfl
theorem due_turn {p x1 x2 x3 x4 x5 : Option D} {r : Row} (h : r.ok) {A B C : List Str} (hl : A.length ≤ 1000 ∧ B.length ≤ 1000 ∧ C.length ≤ 1000) :
    bodyD [p, some (.cell 0), some (.cell 1), some (.cell 2), some (enc r), x1, x2, x3, x4, x5] (T3 [] (stz A) (stz B) (stz C)) =
      some (.nx, [p, some (.cell 0), some (.cell 1), some (.cell 2), some (enc r), x1, x2, x3, x4, x5], T3 [] (stz (A ++ [kind r])) (stz (B ++ spots r)) (stz (C ++ sizes r))) := by
  obtain ⟨l1, l2, l3⟩ := hl
  have z1 : (stz A).length < sizeLine := by rw [stz_len, sizeL]; omega
  have z2 : (stz B).length + (stz (spots r)).length ≤ sizeLine := by
    have := spots_len r
    rw [stz_len, stz_len, sizeL]; omega
  have z3 : (stz C).length < sizeLine := by rw [stz_len, sizeL]; omega
  have y0 : ∀ a b c : List D, tyD "list" (T3 [] a b c) (.cell 0) = true := fun a b c => ty_cell (t30 (μ := []))
  have y1 : ∀ a b c : List D, tyD "list" (T3 [] a b c) (.cell 1) = true := fun a b c => ty_cell (t31 (μ := []))
  have y2 : ∀ a b c : List D, tyD "list" (T3 [] a b c) (.cell 2) = true := fun a b c => ty_cell (t32 (μ := []))
  have w0 : ∀ d : D, appendD (T3 [] (stz A) (stz B) (stz C)) (.cell 0) [d] = some (.non, T3 [] (stz A ++ [d]) (stz B) (stz C)) := fun d => ap0 (μ := []) z1
  have w1 : ∀ a : List D, extendD (T3 [] a (stz B) (stz C)) (.cell 1) [.lst (stz (spots r))] = some (.non, T3 [] a (stz B ++ stz (spots r)) (stz C)) := fun a => ex1 (μ := []) z2
  have w2 : ∀ (a b : List D) (d : D), appendD (T3 [] a b (stz C)) (.cell 2) [d] = some (.non, T3 [] a b (stz C ++ [d])) := fun a b d => ap2 (μ := []) z3
  rw [stz_app, stz_app]
  by_cases hk : kind r = "set"
  · obtain ⟨s, v, rfl⟩ := kind_set h hk
    have hf : ∀ μ : Mu, segF 0 F_law_length [.int v] μ = some (.ok (.int (fig v : Int)), μ) := fun μ => seg0 rfl (length_ok h.2.1) rfl
    have h2 : ∀ μ : Mu, idxD μ (enc (.set s v)) (.int 2) = some (.int v) := fun _ => rfl
    unfold bodyD
    simp only [seqS, letS, bindS, bindE, asgS, setG, subG, okE, varE, opE, optE, modE, dgtE, retE, ifS, ifE, consE, bifE, bffE, cmpB, idxE, frzE, celE, lstE, tupE, tupG, consG, nilG, retS, rtS, nxS, dropS, bmE, truE, notB, blE, partE, sliL, sliV, callE, negE, norE, asB, chainE, isiE, isi2E, parS, par3S, augS, addI, neverS, bkS, ctS, toD, fzE, disp0, dispE, pairsE, List.length_cons, List.length_nil, List.map_cons, List.map_nil, List.replicate, List.append, List.getElem?_cons_zero, List.getElem?_cons_succ, List.cons_append, List.nil_append, List.set_cons_zero, List.set_cons_succ, Option.map_some, Option.map_none, Option.bind_some, Option.bind_none, ite_true, ite_false, if_true, if_false, Bool.false_eq_true, reduceIte, Nat.zero_add, Nat.reduceAdd, Nat.reduceLeDiff, Nat.reduceLT, Nat.reduceEqDiff, sizeL, decide_true, decide_false, eq_self, Bool.not_true, Bool.not_false, Bool.or_true, Bool.true_or, Bool.or_false, Bool.false_or, reduceCtorEq, bmT, y0, y1, y2, bmD, enc0, hk, w0, part_ok, w1, eqs, h2, hf, sizes9, (szn_at h.2.1 h.2.2 _).2, w2]
    rw [stz_app C]
    rfl
  · unfold bodyD
    simp only [seqS, letS, bindS, bindE, asgS, setG, subG, okE, varE, opE, optE, modE, dgtE, retE, ifS, ifE, consE, bifE, bffE, cmpB, idxE, frzE, celE, lstE, tupE, tupG, consG, nilG, retS, rtS, nxS, dropS, bmE, truE, notB, blE, partE, sliL, sliV, callE, negE, norE, asB, chainE, isiE, isi2E, parS, par3S, augS, addI, neverS, bkS, ctS, toD, fzE, disp0, dispE, pairsE, List.length_cons, List.length_nil, List.map_cons, List.map_nil, List.replicate, List.append, List.getElem?_cons_zero, List.getElem?_cons_succ, List.cons_append, List.nil_append, List.set_cons_zero, List.set_cons_succ, Option.map_some, Option.map_none, Option.bind_some, Option.bind_none, ite_true, ite_false, if_true, if_false, Bool.false_eq_true, reduceIte, Nat.zero_add, Nat.reduceAdd, Nat.reduceLeDiff, Nat.reduceLT, Nat.reduceEqDiff, sizeL, decide_true, decide_false, eq_self, Bool.not_true, Bool.not_false, Bool.or_true, Bool.true_or, Bool.or_false, Bool.false_or, reduceCtorEq, bmT, y0, y1, y2, bmD, enc0, w0, part_ok, w1, eqs, decide_eq_false hk]
    rw [sizes_no hk]
    show _ = some (Fl.nx, _, T3 [] (stz A ++ [.str (kind r)]) _ (stz (C ++ [])))
    rw [List.append_nil]
theorem inner_ok {p a b c x1 x2 x3 : Option D} {names xs : List Str} {i : Nat} {μ : Mu} (h : μ[i]? = some (.lst (stz xs))) (hn : names.length ≤ 100) :
    innerM [p, a, b, c, x1, x2, x3, some (.lst (stz names)), some (.cell i), none] μ = some (.ok (.lst (cnts names xs)), μ) := by
  have hm := lcGo_map (al := fun μ' => lsq μ' (.lst (stz names)) = some (stz names)) (f := setG 9) (mt := retE true) (me := tupE (consE (varE 9) (consE (bmE .count (varE 8) (consE (varE 9) (retE []))) (retE []))))
    (σ0 := [p, a, b, c, x1, x2, x3, some (.lst (stz names)), some (.cell i), none]) (μ := μ) (fun d => .tup [d, match d with | .str n => .int (cntS xs n) | _ => .non]) rfl (stz names) [] (by rw [stz_len, sizeL]; simp; omega) (fun d hd => by
      obtain ⟨n, _, rfl⟩ := List.mem_map.mp hd
      refine ⟨[p, a, b, c, x1, x2, x3, some (.lst (stz names)), some (.cell i), some (.str n)], rfl, rfl, ?_⟩
      simp only [seqS, letS, bindS, bindE, asgS, setG, subG, okE, varE, opE, optE, modE, dgtE, retE, ifS, ifE, consE, bifE, bffE, cmpB, idxE, frzE, celE, lstE, tupE, tupG, consG, nilG, retS, rtS, nxS, dropS, bmE, truE, notB, blE, partE, sliL, sliV, callE, negE, norE, asB, chainE, isiE, isi2E, parS, par3S, augS, addI, neverS, bkS, ctS, toD, fzE, disp0, dispE, pairsE, List.length_cons, List.length_nil, List.map_cons, List.map_nil, List.replicate, List.append, List.getElem?_cons_zero, List.getElem?_cons_succ, List.cons_append, List.nil_append, List.set_cons_zero, List.set_cons_succ, Option.map_some, Option.map_none, Option.bind_some, Option.bind_none, ite_true, ite_false, if_true, if_false, Bool.false_eq_true, reduceIte, Nat.zero_add, Nat.reduceAdd, Nat.reduceLeDiff, Nat.reduceLT, Nat.reduceEqDiff, sizeL, decide_true, decide_false, eq_self, Bool.not_true, Bool.not_false, Bool.or_true, Bool.true_or, Bool.or_false, Bool.false_or, reduceCtorEq, bmT, ty_cell h, bmD, cnt_ok h])
  have em : (stz names).map (fun d => D.tup [d, match d with | .str n => .int (cntS xs n) | _ => .non]) = cnts names xs := by
    unfold stz cnts
    rw [List.map_map]
    rfl
  rw [em, List.nil_append] at hm
  unfold innerM
  simp only [seqS, letS, bindS, bindE, asgS, setG, subG, okE, varE, opE, optE, modE, dgtE, retE, ifS, ifE, consE, bifE, bffE, cmpB, idxE, frzE, celE, lstE, tupE, tupG, consG, nilG, retS, rtS, nxS, dropS, bmE, truE, notB, blE, partE, sliL, sliV, callE, negE, norE, asB, chainE, isiE, isi2E, parS, par3S, augS, addI, neverS, bkS, ctS, toD, fzE, disp0, dispE, pairsE, List.length_cons, List.length_nil, List.map_cons, List.map_nil, List.replicate, List.append, List.getElem?_cons_zero, List.getElem?_cons_succ, List.cons_append, List.nil_append, List.set_cons_zero, List.set_cons_succ, Option.map_some, Option.map_none, Option.bind_some, Option.bind_none, ite_true, ite_false, if_true, if_false, Bool.false_eq_true, reduceIte, Nat.zero_add, Nat.reduceAdd, Nat.reduceLeDiff, Nat.reduceLT, Nat.reduceEqDiff, sizeL, decide_true, decide_false, eq_self, Bool.not_true, Bool.not_false, Bool.or_true, Bool.true_or, Bool.or_false, Bool.false_or, reduceCtorEq, lcE, inL, lsq_lst, wipeD] at hm ⊢
  simp only [hm]
def dueD (rs : List Row) : D := .tup [.lst (cnts (stzN g_KINDS) (kindsA rs)), .lst (cnts (stzN g_SPOTS) (spotsA rs)), .lst (cnts (stzN g_SIZES) (sizesA rs))]
theorem due_ok {rs : List Row} (h : Prg rs) : ∃ μ', F_law_uses_due [.lst (rs.map enc)] [] = some (.ok (dueD rs), μ') := by
  have hrun := forD_run (al := fun μ' => lsq μ' (.lst (rs.map enc)) = some (rs.map enc)) (f := setG 4) (b := bodyD)
    (fun ds σ μ' => ∃ (done todo : List Row) (x : Option D), rs = done ++ todo ∧ ds = todo.map enc ∧ σ = [some (.lst (rs.map enc)), some (.cell 0), some (.cell 1), some (.cell 2), x, none, none, none, none, none] ∧ μ' = T3 [] (stz (kindsA done)) (stz (spotsA done)) (stz (sizesA done)))
    (fun _ _ _ => rfl) (fun d ds σ μ' => by
      rintro ⟨done, todo, x, e1, e2, rfl, rfl⟩
      cases todo with
      | nil => cases e2
      | cons r todo =>
        cases e2
        have hr : r.ok := h.1 r (by rw [e1]; simp)
        have hlen : done.length ≤ 200 := by
          have := h.2
          rw [e1, List.length_append] at this
          omega
        have hs := spotsA_len done
        have hz := sizesA_len done
        refine ⟨rfl, _, _, _, _, rfl, due_turn hr (p := some (.lst (rs.map enc))) ⟨by unfold kindsA; rw [List.length_map]; omega, by omega, by omega⟩, done ++ [r], todo, some (enc r), by rw [e1]; simp, rfl, rfl, ?_⟩
        unfold kindsA spotsA sizesA
        rw [List.map_append, List.flatMap_append, List.flatMap_append, List.map_singleton, List.flatMap_singleton, List.flatMap_singleton]) (rs.map enc)
    [some (.lst (rs.map enc)), some (.cell 0), some (.cell 1), some (.cell 2), none, none, none, none, none, none] (T3 [] [] [] []) ⟨[], rs, none, rfl, rfl, rfl, rfl⟩
  obtain ⟨σ', μ', e, done, todo, x, e1, e2, rfl, rfl⟩ := hrun
  have e3 : todo = [] := List.map_eq_nil_iff.mp e2.symm
  subst e3
  rw [List.append_nil] at e1
  subst e1
  unfold dueD
  generalize hA : kindsA rs = A at e ⊢
  generalize hB : spotsA rs = Bq at e ⊢
  generalize hC : sizesA rs = Cq at e ⊢
  refine ⟨T3 [] (stz A) (stz Bq) (stz Cq), ?_⟩
  have i0 : ∀ x1 x2 x3 p a b c, innerM [p, a, b, c, x1, x2, x3, some (.lst (stz (stzN g_KINDS))), some (.cell 0), none] (T3 [] (stz A) (stz Bq) (stz Cq)) = _ := fun x1 x2 x3 p a b c => inner_ok (t30 (μ := [])) (by decide)
  have i1 : ∀ x1 x2 x3 p a b c, innerM [p, a, b, c, x1, x2, x3, some (.lst [.str "a", .str "b", .str "c", .str "d"]), some (.cell 1), none] (T3 [] (stz A) (stz Bq) (stz Cq)) = some (.ok (.lst (cnts (stzN g_SPOTS) Bq)), T3 [] (stz A) (stz Bq) (stz Cq)) := fun x1 x2 x3 p a b c => inner_ok (names := ["a", "b", "c", "d"]) (t31 (μ := [])) (by decide)
  have i2 : ∀ x1 x2 x3 p a b c, innerM [p, a, b, c, x1, x2, x3, some (.lst (stz nm9)), some (.cell 2), none] (T3 [] (stz A) (stz Bq) (stz Cq)) = some (.ok (.lst (cnts (stzN g_SIZES) Cq)), T3 [] (stz A) (stz Bq) (stz Cq)) := fun x1 x2 x3 p a b c => inner_ok (names := nm9) (t32 (μ := [])) (by decide)
  have e0 : ([.lst [], .lst [], .lst []] : Mu) = T3 [] [] [] [] := rfl
  rw [due_eq]
  unfold runF
  simp only [seqS, letS, bindS, bindE, asgS, setG, subG, okE, varE, opE, optE, modE, dgtE, retE, ifS, ifE, consE, bifE, bffE, cmpB, idxE, frzE, celE, lstE, tupE, tupG, consG, nilG, retS, rtS, nxS, dropS, bmE, truE, notB, blE, partE, sliL, sliV, callE, negE, norE, asB, chainE, isiE, isi2E, parS, par3S, augS, addI, neverS, bkS, ctS, toD, fzE, disp0, dispE, pairsE, List.length_cons, List.length_nil, List.map_cons, List.map_nil, List.replicate, List.append, List.getElem?_cons_zero, List.getElem?_cons_succ, List.cons_append, List.nil_append, List.set_cons_zero, List.set_cons_succ, Option.map_some, Option.map_none, Option.bind_some, Option.bind_none, ite_true, ite_false, if_true, if_false, Bool.false_eq_true, reduceIte, Nat.zero_add, Nat.reduceAdd, Nat.reduceLeDiff, Nat.reduceLT, Nat.reduceEqDiff, sizeL, decide_true, decide_false, eq_self, Bool.not_true, Bool.not_false, Bool.or_true, Bool.true_or, Bool.or_false, Bool.false_or, reduceCtorEq, forS, inL, lsq_lst, e0] at e ⊢
  simp only [e, seqS, letS, bindS, bindE, asgS, setG, subG, okE, varE, opE, optE, modE, dgtE, retE, ifS, ifE, consE, bifE, bffE, cmpB, idxE, frzE, celE, lstE, tupE, tupG, consG, nilG, retS, rtS, nxS, dropS, bmE, truE, notB, blE, partE, sliL, sliV, callE, negE, norE, asB, chainE, isiE, isi2E, parS, par3S, augS, addI, neverS, bkS, ctS, toD, fzE, disp0, dispE, pairsE, List.length_cons, List.length_nil, List.map_cons, List.map_nil, List.replicate, List.append, List.getElem?_cons_zero, List.getElem?_cons_succ, List.cons_append, List.nil_append, List.set_cons_zero, List.set_cons_succ, Option.map_some, Option.map_none, Option.bind_some, Option.bind_none, ite_true, ite_false, if_true, if_false, Bool.false_eq_true, reduceIte, Nat.zero_add, Nat.reduceAdd, Nat.reduceLeDiff, Nat.reduceLT, Nat.reduceEqDiff, sizeL, decide_true, decide_false, eq_self, Bool.not_true, Bool.not_false, Bool.or_true, Bool.true_or, Bool.or_false, Bool.false_or, reduceCtorEq, kinds11, sizes9, lcE, lsq_lst, wipeD, lcGo, i0, i1, i2, bifD, tupleD, lstOf]
/-! ### the comparer -/
theorem nei (μ : Mu) (a b : Int) : cmpD .NotEq μ (.int a) (.int b) = some (!decide (a = b)) := by
  show (eqDD μ (.int a) (.int b)).map not = _
  rw [show eqDD μ (.int a) (.int b) = some (decide (a = b)) from eqi μ a b]
  rfl
theorem neb (μ : Mu) (a b : Bool) : cmpD .NotEq μ (.bl a) (.bl b) = some (!(a == b)) := by
  show (eqDD μ (.bl a) (.bl b)).map not = _
  unfold eqDD
  rw [if_pos (show scalD (.bl a) (.bl b) = true from rfl)]
  rfl
theorem all_true (μ : Mu) (ds : List D) : allD μ [.lst (ds.map fun _ => .bl true)] = some (.bl true) := by
  have h : blsOf (ds.map fun _ => D.bl true) = some (ds.map fun _ => true) := by
    have := blsOf_map (ds.map fun _ => true)
    rw [List.map_map] at this
    exact this
  simp only [allD, lstOf, Option.bind_some, h, Option.map_some]
  congr 2
  simp
theorem same_str (n : Nat) (a : Str) (μ : Mu) : F_law_same (n + 1) [.str a, .str a] μ = some (.ok (.bl true), μ) := by
  have h1 : isTy .str .bool = false := rfl
  have h2 : (isTy .str .list || isTy .str .tuple) = false := rfl
  have h3 : isTy .str .str = true := rfl
  have hI : cmpD .Is μ (.str a) .non = some false := rfl
  unfold F_law_same runF
  simp only [seqS, letS, bindS, bindE, asgS, setG, subG, okE, varE, opE, optE, modE, dgtE, retE, ifS, ifE, consE, bifE, bffE, cmpB, idxE, frzE, celE, lstE, tupE, tupG, consG, nilG, retS, rtS, nxS, dropS, bmE, truE, notB, blE, partE, sliL, sliV, callE, negE, norE, asB, chainE, isiE, isi2E, parS, par3S, augS, addI, neverS, bkS, ctS, toD, fzE, disp0, dispE, pairsE, List.length_cons, List.length_nil, List.map_cons, List.map_nil, List.replicate, List.append, List.getElem?_cons_zero, List.getElem?_cons_succ, List.cons_append, List.nil_append, List.set_cons_zero, List.set_cons_succ, Option.map_some, Option.map_none, Option.bind_some, Option.bind_none, ite_true, ite_false, if_true, if_false, Bool.false_eq_true, reduceIte, Nat.zero_add, Nat.reduceAdd, Nat.reduceLeDiff, Nat.reduceLT, Nat.reduceEqDiff, sizeL, decide_true, decide_false, eq_self, Bool.not_true, Bool.not_false, Bool.or_true, Bool.true_or, Bool.or_false, Bool.false_or, reduceCtorEq, hI, tyOfD, truD, h1, h2, h3, eqs]
theorem same_int (n : Nat) (a : Int) (μ : Mu) : F_law_same (n + 1) [.int a, .int a] μ = some (.ok (.bl true), μ) := by
  have h1 : isTy .int .bool = false := rfl
  have h2 : (isTy .int .list || isTy .int .tuple) = false := rfl
  have h3 : isTy .int .str = false := rfl
  have h4 : isTy .int .int = true := rfl
  have hI : cmpD .Is μ (.int a) .non = some false := rfl
  unfold F_law_same runF
  simp only [seqS, letS, bindS, bindE, asgS, setG, subG, okE, varE, opE, optE, modE, dgtE, retE, ifS, ifE, consE, bifE, bffE, cmpB, idxE, frzE, celE, lstE, tupE, tupG, consG, nilG, retS, rtS, nxS, dropS, bmE, truE, notB, blE, partE, sliL, sliV, callE, negE, norE, asB, chainE, isiE, isi2E, parS, par3S, augS, addI, neverS, bkS, ctS, toD, fzE, disp0, dispE, pairsE, List.length_cons, List.length_nil, List.map_cons, List.map_nil, List.replicate, List.append, List.getElem?_cons_zero, List.getElem?_cons_succ, List.cons_append, List.nil_append, List.set_cons_zero, List.set_cons_succ, Option.map_some, Option.map_none, Option.bind_some, Option.bind_none, ite_true, ite_false, if_true, if_false, Bool.false_eq_true, reduceIte, Nat.zero_add, Nat.reduceAdd, Nat.reduceLeDiff, Nat.reduceLT, Nat.reduceEqDiff, sizeL, decide_true, decide_false, eq_self, Bool.not_true, Bool.not_false, Bool.or_true, Bool.true_or, Bool.or_false, Bool.false_or, reduceCtorEq, hI, tyOfD, truD, h1, h2, h3, h4, eqi]
theorem same_lst {n : Nat} {i : Nat} {ds : List D} {μ : Mu} (h : μ[i]? = some (.lst ds)) (hl : ds.length ≤ 1000) (hs : ∀ d ∈ ds, F_law_same n [d, d] μ = some (.ok (.bl true), μ)) : F_law_same (n + 1) [.cell i, .lst ds] μ = some (.ok (.bl true), μ) := by
  have ls : lsq μ (.cell i) = some ds := by simp only [lsq, seqOf, lstOf, h]
  have hm := lcGo_map (al := fun μ' => lsq μ' (.cell i) = some ds ∧ lsq μ' (.lst ds) = some ds) (f := tupG 2 (consG (setG 2) (consG (setG 3) nilG))) (mt := retE true) (me := callE (F_law_same n) (consE (varE 2) (consE (varE 3) (retE []))))
    (σ0 := [some (.cell i), some (.lst ds), none, none]) (μ := μ) (fun _ => .bl true) ⟨ls, rfl⟩ (zipD ds ds) [] (by simp [zipD, sizeL]; omega) (fun d hd => by
      unfold zipD at hd
      rw [List.zipWith_self] at hd
      obtain ⟨e, he, rfl⟩ := List.mem_map.mp hd
      refine ⟨[some (.cell i), some (.lst ds), some e, some e], rfl, rfl, ?_⟩
      simp only [seqS, letS, bindS, bindE, asgS, setG, subG, okE, varE, opE, optE, modE, dgtE, retE, ifS, ifE, consE, bifE, bffE, cmpB, idxE, frzE, celE, lstE, tupE, tupG, consG, nilG, retS, rtS, nxS, dropS, bmE, truE, notB, blE, partE, sliL, sliV, callE, negE, norE, asB, chainE, isiE, isi2E, parS, par3S, augS, addI, neverS, bkS, ctS, toD, fzE, disp0, dispE, pairsE, List.length_cons, List.length_nil, List.map_cons, List.map_nil, List.replicate, List.append, List.getElem?_cons_zero, List.getElem?_cons_succ, List.cons_append, List.nil_append, List.set_cons_zero, List.set_cons_succ, Option.map_some, Option.map_none, Option.bind_some, Option.bind_none, ite_true, ite_false, if_true, if_false, Bool.false_eq_true, reduceIte, Nat.zero_add, Nat.reduceAdd, Nat.reduceLeDiff, Nat.reduceLT, Nat.reduceEqDiff, sizeL, decide_true, decide_false, eq_self, Bool.not_true, Bool.not_false, Bool.or_true, Bool.true_or, Bool.or_false, Bool.false_or, reduceCtorEq, hs e he])
  have h1 : isTy .list .bool = false := rfl
  have h2 : (isTy .list .list || isTy .list .tuple) = true := rfl
  have h3 : isTy .list .list = true := rfl
  have h4 : isTy .list .tuple = false := rfl
  have hI : cmpD .Is μ (.lst ds) .non = some false := rfl
  have tc : tyOfD μ (.cell i) = some .list := by simp only [tyOfD, h]
  have tl : tyOfD μ (.lst ds) = some .list := rfl
  have e1 : lenD μ [.cell i] = some (.int ds.length) := by simp only [lenD, dicOf, h, seqOf, lstOf, Option.map_some]
  have e2 : lenD μ [.lst ds] = some (.int ds.length) := rfl
  have hb : (true == true) = true := rfl
  have hb2 : (false == false) = true := rfl
  unfold F_law_same runF
  simp only [seqS, letS, bindS, bindE, asgS, setG, subG, okE, varE, opE, optE, modE, dgtE, retE, ifS, ifE, consE, bifE, bffE, cmpB, idxE, frzE, celE, lstE, tupE, tupG, consG, nilG, retS, rtS, nxS, dropS, bmE, truE, notB, blE, partE, sliL, sliV, callE, negE, norE, asB, chainE, isiE, isi2E, parS, par3S, augS, addI, neverS, bkS, ctS, toD, fzE, disp0, dispE, pairsE, List.length_cons, List.length_nil, List.map_cons, List.map_nil, List.replicate, List.append, List.getElem?_cons_zero, List.getElem?_cons_succ, List.cons_append, List.nil_append, List.set_cons_zero, List.set_cons_succ, Option.map_some, Option.map_none, Option.bind_some, Option.bind_none, ite_true, ite_false, if_true, if_false, Bool.false_eq_true, reduceIte, Nat.zero_add, Nat.reduceAdd, Nat.reduceLeDiff, Nat.reduceLT, Nat.reduceEqDiff, sizeL, decide_true, decide_false, eq_self, Bool.not_true, Bool.not_false, Bool.or_true, Bool.true_or, Bool.or_false, Bool.false_or, reduceCtorEq, lcE, inZip, wipeD, hI, tc, tl, truD, h1, h2, h3, h4, neb, hb, hb2, bifD, e1, e2, nei, ls, lsq_lst] at hm ⊢
  simp only [hm, List.length_cons, List.length_nil, List.map_cons, List.map_nil, List.replicate, List.append, List.getElem?_cons_zero, List.getElem?_cons_succ, List.cons_append, List.nil_append, List.set_cons_zero, List.set_cons_succ, Option.map_some, Option.map_none, Option.bind_some, Option.bind_none, ite_true, ite_false, if_true, if_false, Bool.false_eq_true, reduceIte, Nat.zero_add, Nat.reduceAdd, Nat.reduceLeDiff, Nat.reduceLT, Nat.reduceEqDiff, sizeL, decide_true, decide_false, eq_self, Bool.not_true, Bool.not_false, Bool.or_true, Bool.true_or, Bool.or_false, Bool.false_or, reduceCtorEq, all_true]
theorem same_tup {n : Nat} {es ds : List D} {μ : Mu} (hl : ds.length ≤ 1000) (he : es.length = ds.length) (hs : ∀ e d, (D.tup [e, d]) ∈ zipD es ds → F_law_same n [e, d] μ = some (.ok (.bl true), μ)) : F_law_same (n + 1) [.tup es, .tup ds] μ = some (.ok (.bl true), μ) := by
  have hm := lcGo_map (al := fun _ => True) (f := tupG 2 (consG (setG 2) (consG (setG 3) nilG))) (mt := retE true) (me := callE (F_law_same n) (consE (varE 2) (consE (varE 3) (retE []))))
    (σ0 := [some (.tup es), some (.tup ds), none, none]) (μ := μ) (fun _ => .bl true) True.intro (zipD es ds) [] (by simp [zipD, sizeL]; omega) (fun d hd => by
      have hd' := hd
      unfold zipD at hd
      obtain ⟨k, hk, e⟩ := List.mem_iff_getElem.mp hd
      rw [List.getElem_zipWith] at e
      subst e
      refine ⟨[some (.tup es), some (.tup ds), some _, some _], rfl, rfl, ?_⟩
      simp only [seqS, letS, bindS, bindE, asgS, setG, subG, okE, varE, opE, optE, modE, dgtE, retE, ifS, ifE, consE, bifE, bffE, cmpB, idxE, frzE, celE, lstE, tupE, tupG, consG, nilG, retS, rtS, nxS, dropS, bmE, truE, notB, blE, partE, sliL, sliV, callE, negE, norE, asB, chainE, isiE, isi2E, parS, par3S, augS, addI, neverS, bkS, ctS, toD, fzE, disp0, dispE, pairsE, List.length_cons, List.length_nil, List.map_cons, List.map_nil, List.replicate, List.append, List.getElem?_cons_zero, List.getElem?_cons_succ, List.cons_append, List.nil_append, List.set_cons_zero, List.set_cons_succ, Option.map_some, Option.map_none, Option.bind_some, Option.bind_none, ite_true, ite_false, if_true, if_false, Bool.false_eq_true, reduceIte, Nat.zero_add, Nat.reduceAdd, Nat.reduceLeDiff, Nat.reduceLT, Nat.reduceEqDiff, sizeL, decide_true, decide_false, eq_self, Bool.not_true, Bool.not_false, Bool.or_true, Bool.true_or, Bool.or_false, Bool.false_or, reduceCtorEq, hs _ _ hd'])
  have h1 : isTy .tuple .bool = false := rfl
  have h2 : (isTy .tuple .list || isTy .tuple .tuple) = true := rfl
  have h3 : isTy .tuple .list = false := rfl
  have h4 : isTy .tuple .tuple = true := rfl
  have hI : cmpD .Is μ (.tup ds) .non = some false := rfl
  have tl : ∀ ds : List D, tyOfD μ (.tup ds) = some .tuple := fun _ => rfl
  have e2 : ∀ ds : List D, lenD μ [.tup ds] = some (.int ds.length) := fun _ => rfl
  have hb : (true == true) = true := rfl
  have hb2 : (false == false) = true := rfl
  unfold F_law_same runF
  simp only [seqS, letS, bindS, bindE, asgS, setG, subG, okE, varE, opE, optE, modE, dgtE, retE, ifS, ifE, consE, bifE, bffE, cmpB, idxE, frzE, celE, lstE, tupE, tupG, consG, nilG, retS, rtS, nxS, dropS, bmE, truE, notB, blE, partE, sliL, sliV, callE, negE, norE, asB, chainE, isiE, isi2E, parS, par3S, augS, addI, neverS, bkS, ctS, toD, fzE, disp0, dispE, pairsE, List.length_cons, List.length_nil, List.map_cons, List.map_nil, List.replicate, List.append, List.getElem?_cons_zero, List.getElem?_cons_succ, List.cons_append, List.nil_append, List.set_cons_zero, List.set_cons_succ, Option.map_some, Option.map_none, Option.bind_some, Option.bind_none, ite_true, ite_false, if_true, if_false, Bool.false_eq_true, reduceIte, Nat.zero_add, Nat.reduceAdd, Nat.reduceLeDiff, Nat.reduceLT, Nat.reduceEqDiff, sizeL, decide_true, decide_false, eq_self, Bool.not_true, Bool.not_false, Bool.or_true, Bool.true_or, Bool.or_false, Bool.false_or, reduceCtorEq, lcE, inZip, wipeD, hI, tl, truD, h1, h2, h3, h4, neb, hb, hb2, bifD, e2, nei, he] at hm ⊢
  simp only [hm, List.length_cons, List.length_nil, List.map_cons, List.map_nil, List.replicate, List.append, List.getElem?_cons_zero, List.getElem?_cons_succ, List.cons_append, List.nil_append, List.set_cons_zero, List.set_cons_succ, Option.map_some, Option.map_none, Option.bind_some, Option.bind_none, ite_true, ite_false, if_true, if_false, Bool.false_eq_true, reduceIte, Nat.zero_add, Nat.reduceAdd, Nat.reduceLeDiff, Nat.reduceLT, Nat.reduceEqDiff, sizeL, decide_true, decide_false, eq_self, Bool.not_true, Bool.not_false, Bool.or_true, Bool.true_or, Bool.or_false, Bool.false_or, reduceCtorEq, all_true]
theorem same_cnts (n : Nat) (names xs : List Str) (μ : Mu) : ∀ d ∈ cnts names xs, F_law_same (n + 2) [d, d] μ = some (.ok (.bl true), μ) := by
  intro d hd
  obtain ⟨x, _, rfl⟩ := List.mem_map.mp hd
  refine same_tup (by simp) rfl fun e d h => ?_
  simp only [zipD, List.zipWith, List.mem_cons, List.not_mem_nil, or_false, D.tup.injEq, List.cons.injEq, and_true] at h
  rcases h with ⟨rfl, rfl⟩ | ⟨rfl, rfl⟩
  · exact same_str n _ μ
  · exact same_int n _ μ
theorem same_due {rs : List Row} {i j k : Nat} {μ : Mu} (h1 : μ[i]? = some (.lst (cnts (stzN g_KINDS) (kindsA rs)))) (h2 : μ[j]? = some (.lst (cnts (stzN g_SPOTS) (spotsA rs)))) (h3 : μ[k]? = some (.lst (cnts (stzN g_SIZES) (sizesA rs)))) :
    F_law_same fuel_law_same [.tup [.cell i, .cell j, .cell k], dueD rs] μ = some (.ok (.bl true), μ) := by
  have hl : ∀ (ns xs : List Str), ns.length ≤ 1000 → (cnts ns xs).length ≤ 1000 := fun ns xs h => by unfold cnts; rw [List.length_map]; exact h
  refine same_tup (n := 5) (by simp) rfl fun e d h => ?_
  simp only [zipD, List.zipWith, List.mem_cons, List.not_mem_nil, or_false, D.tup.injEq, List.cons.injEq, and_true] at h
  rcases h with ⟨rfl, rfl⟩ | ⟨rfl, rfl⟩ | ⟨rfl, rfl⟩
  · exact same_lst (n := 4) h1 (hl _ _ (by decide)) (same_cnts 2 _ _ μ)
  · exact same_lst (n := 4) h2 (hl _ _ (by decide)) (same_cnts 2 _ _ μ)
  · exact same_lst (n := 4) h3 (hl _ _ (by decide)) (same_cnts 2 _ _ μ)
/-! ### the program told -/
def encP (r : Row) : PyData := .tuple (.str (kind r) :: match r with
  | .set s v => [.str s, .int v] | .two _ s o => [.str s, .str o] | .one _ s => [.str s] | .stop => [] | .jump a => [.int a] | .zero s a => [.str s, .int a])
theorem toPy_enc (r : Row) : toPy0 (enc r) = some (encP r) := by cases r <;> rfl
theorem toPys_encs : ∀ rs : List Row, toPys0 (rs.map enc) = some (rs.map encP)
  | [] => rfl
  | r :: rs => by
    show (match toPy0 (enc r), toPys0 (rs.map enc) with | some a, some as => some (a :: as) | _, _ => none) = _
    rw [toPys_encs rs, toPy_enc]
    rfl
theorem sh_int {v : Int} (h0 : 0 ≤ v) (h1 : v ≤ 255) : (PyData.shown (.int v)).length ≤ 20 := by
  have h : ∀ n : Fin 256, (PyData.shown (.int (n.val : Int))).length ≤ 20 := by decide +kernel
  have := h ⟨v.toNat, by omega⟩
  rw [show ((⟨v.toNat, by omega⟩ : Fin 256).val : Int) = v by simp; omega] at this
  exact this
theorem sh_sp {s : Str} (h : Sp s) : (PyData.shown (.str s)).length ≤ 20 := by
  rcases h with h | h | h | h <;> subst h <;> decide +kernel
theorem tup_len (ts : List Str) (h : ts ≠ []) (h2 : ts.length ≤ 3) (h3 : ∀ t ∈ ts, t.length ≤ 20) : (tupleText ts).length ≤ 100 := by
  have h4 := join_length_add ts h
  have h5 : piled ts ≤ 22 * ts.length := by
    clear h4 h h2
    induction ts with
    | nil => simp [piled]
    | cons t ts ih =>
      have := ih fun x hx => h3 x (List.mem_cons_of_mem _ hx)
      have := h3 t List.mem_cons_self
      simp only [piled, List.length_cons, List.map_cons, List.sum_cons] at *
      omega
  unfold tupleText
  rw [Str.length_append, Str.length_append]
  have e1 : ((if (ts.length == 1) = true then ",)" else ")" : String) : Str).length ≤ 2 := by split <;> decide +kernel
  have e2 : (("(" : String) : Str).length = 1 := by decide +kernel
  omega
theorem row_len {r : Row} (h : r.ok) : (PyData.shown (encP r)).length ≤ 100 := by
  have hk : (PyData.shown (.str (kind r))).length ≤ 20 := by
    cases r with
    | set s v => show (PyData.shown (.str "set")).length ≤ 20; decide +kernel
    | two k s o => rcases h.1 with e | e <;> (show (PyData.shown (.str k)).length ≤ 20; rw [e]; decide +kernel)
    | one k s => rcases h.1 with e | e <;> (show (PyData.shown (.str k)).length ≤ 20; rw [e]; decide +kernel)
    | stop => decide +kernel
    | jump a => show (PyData.shown (.str "jump")).length ≤ 20; decide +kernel
    | zero s a => show (PyData.shown (.str "zero")).length ≤ 20; decide +kernel
  refine tup_len _ (by cases r <;> simp [PyData.shownAll]) (by cases r <;> simp [PyData.shownAll]) fun t ht => ?_
  cases r with
  | set s v =>
    simp only [PyData.shownAll, List.mem_cons, List.not_mem_nil, or_false] at ht
    rcases ht with rfl | rfl | rfl
    · exact hk
    · exact sh_sp h.1
    · exact sh_int h.2.1 h.2.2
  | two k s o =>
    simp only [PyData.shownAll, List.mem_cons, List.not_mem_nil, or_false] at ht
    rcases ht with rfl | rfl | rfl
    · exact hk
    · exact sh_sp h.2.1
    · exact sh_sp h.2.2
  | one k s =>
    simp only [PyData.shownAll, List.mem_cons, List.not_mem_nil, or_false] at ht
    rcases ht with rfl | rfl
    · exact hk
    · exact sh_sp h.2
  | stop =>
    simp only [PyData.shownAll, List.mem_cons, List.not_mem_nil, or_false] at ht
    rw [ht]; exact hk
  | jump a =>
    simp only [PyData.shownAll, List.mem_cons, List.not_mem_nil, or_false] at ht
    rcases ht with rfl | rfl
    · exact hk
    · exact sh_int h.1 (Int.le_trans h.2 (by decide))
  | zero s a =>
    simp only [PyData.shownAll, List.mem_cons, List.not_mem_nil, or_false] at ht
    rcases ht with rfl | rfl | rfl
    · exact hk
    · exact sh_sp h.1
    · exact sh_int h.2.1 (Int.le_trans h.2.2 (by decide))
theorem from_len : ∀ (ts : List Str) (k : Nat) (acc : Str), (∀ t ∈ ts, t.length ≤ 100) → (textFrom k acc ts).length ≤ acc.length + 102 * ts.length
  | [], k, acc, _ => by show acc.length ≤ _; omega
  | t :: ts, k, acc, h => by
    have ih := from_len ts (k + 1) (acc ++ (if k > 0 then ", " else "" : String) ++ t) fun x hx => h x (List.mem_cons_of_mem _ hx)
    have ht := h t List.mem_cons_self
    have e : ((if k > 0 then ", " else "" : String) : Str).length ≤ 2 := by split <;> decide +kernel
    rw [Str.length_append, Str.length_append] at ih
    show (textFrom (k + 1) (acc ++ (if k > 0 then ", " else "" : String) ++ t) ts).length ≤ _
    rw [List.length_cons]
    omega
theorem str_ok {rs : List Row} (h : Prg rs) : ∃ x : Str, ∀ μ, strD μ [.lst (rs.map enc)] = some (.str x) := by
  refine ⟨PyData.shown (.list (rs.map encP)), fun μ => ?_⟩
  have e : toPy μ (.lst (rs.map enc)) = some (.list (rs.map encP)) := by
    show (toPys0 (rs.map enc)).map PyData.list = _
    rw [toPys_encs]
    rfl
  have hd : ∀ rs : List Row, PyData.depthAll (rs.map encP) ≤ 1 := by
    intro rs
    induction rs with
    | nil => decide
    | cons r rs ih =>
      have hr : PyData.depth (encP r) ≤ 1 := by cases r <;> exact Nat.le_refl 1
      show max (PyData.depth (encP r)) (PyData.depthAll (rs.map encP)) ≤ 1
      omega
  have hlog : ∀ v : Int, 0 ≤ v → v ≤ 255 → v.natAbs.log2 < 1920 := fun v h0 h1 => by
    have := Nat.log2_le_self v.natAbs
    omega
  have hsr : ∀ r : Row, r.ok → PyData.showable (encP r) = true := by
    intro r hr
    cases r with
    | set s v => simp [encP, PyData.showable, PyData.showableAll, hlog v hr.2.1 hr.2.2]
    | jump a => simp [encP, PyData.showable, PyData.showableAll, hlog a hr.1 (Int.le_trans hr.2 (by decide))]
    | zero s a => simp [encP, PyData.showable, PyData.showableAll, hlog a hr.2.1 (Int.le_trans hr.2.2 (by decide))]
    | two k s o => rfl
    | one k s => rfl
    | stop => rfl
  have hs : ∀ rs : List Row, (∀ r ∈ rs, r.ok) → PyData.showableAll (rs.map encP) = true := by
    intro rs
    induction rs with
    | nil => intro _; rfl
    | cons r rs ih =>
      intro hr
      show (PyData.showable (encP r) && PyData.showableAll (rs.map encP)) = true
      rw [hsr r (hr r List.mem_cons_self), ih fun x hx => hr x (List.mem_cons_of_mem _ hx)]
      rfl
  have hsh : ∀ rs : List Row, PyData.shownAll (rs.map encP) = rs.map fun r => PyData.shown (encP r) := by
    intro rs
    induction rs with
    | nil => rfl
    | cons r rs ih =>
      show PyData.shown (encP r) :: PyData.shownAll (rs.map encP) = _
      rw [ih]
      rfl
  have hlen : (PyData.shown (.list (rs.map encP))).length ≤ sizeLine := by
    show (listText (PyData.shownAll (rs.map encP))).length ≤ _
    rw [hsh]
    unfold listText
    rw [Str.length_append]
    have := from_len (rs.map fun r => PyData.shown (encP r)) 0 "[" fun t ht => by
      obtain ⟨r, hr, rfl⟩ := List.mem_map.mp ht
      exact row_len (h.1 r hr)
    rw [List.length_map] at this
    have e1 : (("[" : String) : Str).length = 1 := by decide +kernel
    have e2 : (("]" : String) : Str).length = 1 := by decide +kernel
    have := h.2
    rw [sizeL]
    omega
  have hdp : PyData.depth (.list (rs.map encP)) ≤ 60 := by
    show PyData.depthAll (rs.map encP) + 1 ≤ 60
    have := hd rs
    omega
  show strPD μ [.lst (rs.map enc)] = _
  simp only [strPD, e]
  rw [if_pos ⟨rfl, hs rs h.1, hdp, hlen⟩]
/-! ### one program -/
def T6 (μ : Mu) (a b c d e f : List D) : Mu := μ ++ [.lst a, .lst b, .lst c, .lst d, .lst e, .lst f]
section
variable {μ : Mu} {a b c d e f x : List D}
theorem t63 : (T6 μ a b c d e f)[μ.length + 3]? = some (.lst d) := by
  have := ap_get (μ := μ) (l := [.lst a, .lst b, .lst c, .lst d, .lst e, .lst f]) (k := 3) (by simp)
  simpa [T6] using this
theorem t64 : (T6 μ a b c d e f)[μ.length + 4]? = some (.lst e) := by
  have := ap_get (μ := μ) (l := [.lst a, .lst b, .lst c, .lst d, .lst e, .lst f]) (k := 4) (by simp)
  simpa [T6] using this
theorem t65 : (T6 μ a b c d e f)[μ.length + 5]? = some (.lst f) := by
  have := ap_get (μ := μ) (l := [.lst a, .lst b, .lst c, .lst d, .lst e, .lst f]) (k := 5) (by simp)
  simpa [T6] using this
theorem s63 : (T6 μ a b c d e f).set (μ.length + 3) (.lst x) = T6 μ a b c x e f := ap_set (μ := μ) (l := [.lst a, .lst b, .lst c, .lst d, .lst e, .lst f]) (k := 3)
theorem s64 : (T6 μ a b c d e f).set (μ.length + 4) (.lst x) = T6 μ a b c d x f := ap_set (μ := μ) (l := [.lst a, .lst b, .lst c, .lst d, .lst e, .lst f]) (k := 4)
theorem s65 : (T6 μ a b c d e f).set (μ.length + 5) (.lst x) = T6 μ a b c d e x := ap_set (μ := μ) (l := [.lst a, .lst b, .lst c, .lst d, .lst e, .lst f]) (k := 5)
theorem app_cell {μ : Mu} {i : Nat} {ds : List D} (h : μ[i]? = some (.lst ds)) (hl : ds.length < sizeLine) (y : D) : appendD μ (.cell i) [y] = some (.non, μ.set i (.lst (ds ++ [y]))) := by
  simp only [appendD, celOf, h, if_pos hl]
theorem last_cell {μ : Mu} {i : Nat} {ds : List D} {y : D} (h : μ[i]? = some (.lst (ds ++ [y]))) : idxD μ (.cell i) (.int (-1)) = some y := by
  simp only [idxD, seqOf, lstOf, h, Option.bind_some, atI, ixN]
  rw [if_neg (by decide), if_pos (by rw [List.length_append, List.length_singleton]; omega)]
  show (ds ++ [y])[_]? = _
  rw [show ((-1 : Int) + ((ds ++ [y]).length : Int)).toNat = ds.length by rw [List.length_append, List.length_singleton]; omega]
  simp
end
theorem en3 (x y z : D) : enumD [x, y, z] = [.tup [.int 0, x], .tup [.int 1, y], .tup [.int 2, z]] := rfl
noncomputable def bodyR : MS := seqS (letS (callE F_uses_of (consE (varE 0) (retE []))) (setG 4)) (seqS (ifS (ifE (notB (truE (callE (F_law_same fuel_law_same) (consE (varE 4) (consE (varE 1) (retE [])))))) (retE true) (cmpB .NotEq (bifE .strOf (consE (varE 0) (retE []))) (varE 2))) (retS (retE (.bl false))) nxS) (seqS (forS (inEnumT (consE (varE 4) (retE []))) (tupG 2 (consG (setG 5) (consG (setG 6) nilG))) (dropS (bmE .append (varE 6) (consE (varE 5) (retE []))))) (seqS (ifS (notB (truE (bifE .all (consE (frzE (lcE (([("_law_k", 5), ("_law_some", 6)] : List (Str × Nat)).map (·.2)) (inEnumT (consE (varE 4) (retE []))) (tupG 2 (consG (setG 5) (consG (setG 6) nilG))) (retE true) (blE (cmpB .Eq (idxE (varE 6) (negE (retE (.int 1)))) (varE 5))))) (retE []))))) (retS (retE (.bl false))) nxS) (dropS (bmE .clear (idxE (varE 4) (retE (.int 0))) (retE []))))))
theorem right_eq : F_law_right = runF 1 6 (seqS (letS (callE (segF 0 F_law_uses_due) (consE (varE 0) (retE []))) (setG 1)) (seqS (letS (bifE .strOf (consE (varE 0) (retE []))) (setG 2)) (seqS (forS (inR1 (consE (retE (.int 2)) (retE []))) (setG 3) bodyR) (retS (retE (.bl true)))))) := rfl
theorem nes (μ : Mu) (a : Str) : cmpD .NotEq μ (.str a) (.str a) = some false := by
  show (eqDD μ (.str a) (.str a)).map not = _
  rw [show eqDD μ (.str a) (.str a) = some (decide (a = a)) from eqs μ a a]
  simp
theorem right_turn {rs : List Row} (h : Prg rs) {x : Str} (hx : ∀ μ, strD μ [.lst (rs.map enc)] = some (.str x)) (μ : Mu) (t f k s : Option D) :
    ∃ f' k' s' μ', bodyR [some (.lst (rs.map enc)), some (dueD rs), some (.str x), t, f, k, s] μ = some (.nx, [some (.lst (rs.map enc)), some (dueD rs), some (.str x), t, f', k', s'], μ') := by
  have hu : F_uses_of [.lst (rs.map enc)] μ = some (.ok (.tup [.cell (μ.length + 3), .cell (μ.length + 4), .cell (μ.length + 5)]), T6 μ (stz (kindsA rs)) (stz (spotsA rs)) (stz (sizesA rs)) (cnts (stzN g_KINDS) (kindsA rs)) (cnts (stzN g_SPOTS) (spotsA rs)) (cnts (stzN g_SIZES) (sizesA rs))) := uses_ok h
  have hsm := same_due (rs := rs) (μ := T6 μ (stz (kindsA rs)) (stz (spotsA rs)) (stz (sizesA rs)) (cnts (stzN g_KINDS) (kindsA rs)) (cnts (stzN g_SPOTS) (spotsA rs)) (cnts (stzN g_SIZES) (sizesA rs))) t63 t64 t65
  have l1 : (cnts (stzN g_KINDS) (kindsA rs)).length < sizeLine := by unfold cnts; rw [List.length_map]; decide
  have l2 : (cnts (stzN g_SPOTS) (spotsA rs)).length < sizeLine := by unfold cnts; rw [List.length_map]; decide
  have l3 : (cnts (stzN g_SIZES) (sizesA rs)).length < sizeLine := by unfold cnts; rw [List.length_map]; decide
  generalize stz (kindsA rs) = a at hu hsm
  generalize stz (spotsA rs) = b at hu hsm
  generalize stz (sizesA rs) = c at hu hsm
  generalize cnts (stzN g_KINDS) (kindsA rs) = d at hu hsm l1
  generalize cnts (stzN g_SPOTS) (spotsA rs) = e at hu hsm l2
  generalize cnts (stzN g_SIZES) (sizesA rs) = g at hu hsm l3
  have p1 : appendD (T6 μ a b c d e g) (.cell (μ.length + 3)) [.int 0] = some (.non, T6 μ a b c (d ++ [.int 0]) e g) := by rw [app_cell t63 l1, s63]
  have p2 : appendD (T6 μ a b c (d ++ [.int 0]) e g) (.cell (μ.length + 4)) [.int 1] = some (.non, T6 μ a b c (d ++ [.int 0]) (e ++ [.int 1]) g) := by rw [app_cell t64 l2, s64]
  have p3 : appendD (T6 μ a b c (d ++ [.int 0]) (e ++ [.int 1]) g) (.cell (μ.length + 5)) [.int 2] = some (.non, T6 μ a b c (d ++ [.int 0]) (e ++ [.int 1]) (g ++ [.int 2])) := by rw [app_cell t65 l3, s65]
  have q1 := last_cell (t63 (μ := μ) (a := a) (b := b) (c := c) (d := d ++ [.int 0]) (e := e ++ [.int 1]) (f := g ++ [.int 2]))
  have q2 := last_cell (t64 (μ := μ) (a := a) (b := b) (c := c) (d := d ++ [.int 0]) (e := e ++ [.int 1]) (f := g ++ [.int 2]))
  have q3 := last_cell (t65 (μ := μ) (a := a) (b := b) (c := c) (d := d ++ [.int 0]) (e := e ++ [.int 1]) (f := g ++ [.int 2]))
  have cl : clearD (T6 μ a b c (d ++ [.int 0]) (e ++ [.int 1]) (g ++ [.int 2])) (.cell (μ.length + 3)) [] = some (.non, T6 μ a b c [] (e ++ [.int 1]) (g ++ [.int 2])) := by
    simp only [clearD, celOf, t63, s63]
  have i0 : ∀ (μ' : Mu) (x y z : D), idxD μ' (.tup [x, y, z]) (.int 0) = some x := fun _ _ _ _ => rfl
  have ha : ∀ μ' : Mu, allD μ' [.lst [.bl true, .bl true, .bl true]] = some (.bl true) := fun μ' => all_true μ' [.non, .non, .non]
  refine ⟨some (.tup [.cell (μ.length + 3), .cell (μ.length + 4), .cell (μ.length + 5)]), some (.int 2), some (.cell (μ.length + 5)), T6 μ a b c [] (e ++ [.int 1]) (g ++ [.int 2]), ?_⟩
  unfold bodyR
  simp only [seqS, letS, bindS, bindE, asgS, setG, subG, okE, varE, opE, optE, modE, dgtE, retE, ifS, ifE, consE, bifE, bffE, cmpB, idxE, frzE, celE, lstE, tupE, tupG, consG, nilG, retS, rtS, nxS, dropS, bmE, truE, notB, blE, partE, sliL, sliV, callE, negE, norE, asB, chainE, isiE, isi2E, parS, par3S, augS, addI, neverS, bkS, ctS, toD, fzE, disp0, dispE, pairsE, List.length_cons, List.length_nil, List.map_cons, List.map_nil, List.replicate, List.append, List.getElem?_cons_zero, List.getElem?_cons_succ, List.cons_append, List.nil_append, List.set_cons_zero, List.set_cons_succ, Option.map_some, Option.map_none, Option.bind_some, Option.bind_none, ite_true, ite_false, if_true, if_false, Bool.false_eq_true, reduceIte, Nat.zero_add, Nat.reduceAdd, Nat.reduceLeDiff, Nat.reduceLT, Nat.reduceEqDiff, sizeL, decide_true, decide_false, eq_self, Bool.not_true, Bool.not_false, Bool.or_true, Bool.true_or, Bool.or_false, Bool.false_or, reduceCtorEq, hu, hsm, truD, bifD, hx, nes, forS, inEnumT, en3, forD, lcE, lcGo, wipeD, bmT, bmD, ty_cell t63, ty_cell t64, ty_cell t65, p1, p2, p3, q1, q2, q3, eqi, ha, i0, cl]
theorem right_ok {rs : List Row} (h : Prg rs) : ∃ μ', F_law_right [.lst (rs.map enc)] [] = some (.ok (.bl true), μ') := by
  obtain ⟨x, hx⟩ := str_ok h
  obtain ⟨μ0, hd⟩ := due_ok h
  have hcl : clDs 0 [D.lst (rs.map enc)] = true := by
    have : ∀ rs : List Row, clDs 0 (rs.map enc) = true := by
      intro rs
      induction rs with
      | nil => rfl
      | cons r rs ih => show (clD 0 (enc r) && clDs 0 (rs.map enc)) = true; rw [clEnc, ih]; rfl
    show (clDs 0 (rs.map enc) && true) = true
    rw [this]
    rfl
  have hc2 : clD 0 (dueD rs) = true := by
    have : ∀ ns xs : List Str, clDs 0 (cnts ns xs) = true := by
      intro ns xs
      induction ns with
      | nil => rfl
      | cons n ns ih => exact ih
    simp only [dueD, clD, clDs, this, Bool.and_self]
  have hdue : segF 0 F_law_uses_due [.lst (rs.map enc)] [] = some (.ok (dueD rs), []) := seg0 hcl hd hc2
  have hrun := forD_run (al := fun _ => True) (f := setG 3) (b := bodyR) (fun _ σ _ => ∃ t f k s, σ = [some (.lst (rs.map enc)), some (dueD rs), some (.str x), t, f, k, s]) (fun _ _ _ => True.intro) (fun d ds σ μ => by
      rintro ⟨t, f, k, s, rfl⟩
      obtain ⟨f', k', s', μ', e⟩ := right_turn h hx μ (some d) f k s
      exact ⟨True.intro, _, _, _, _, rfl, e, _, _, _, _, rfl⟩) (rngI 0 (2 : Int).toNat) [some (.lst (rs.map enc)), some (dueD rs), some (.str x), none, none, none, none] [] ⟨_, _, _, _, rfl⟩
  obtain ⟨σ', μ', e, t, f, k, s, rfl⟩ := hrun
  refine ⟨μ', ?_⟩
  have h2 : big62 2 := by constructor <;> decide
  rw [right_eq]
  unfold runF
  simp only [seqS, letS, bindS, bindE, asgS, setG, subG, okE, varE, opE, optE, modE, dgtE, retE, ifS, ifE, consE, bifE, bffE, cmpB, idxE, frzE, celE, lstE, tupE, tupG, consG, nilG, retS, rtS, nxS, dropS, bmE, truE, notB, blE, partE, sliL, sliV, callE, negE, norE, asB, chainE, isiE, isi2E, parS, par3S, augS, addI, neverS, bkS, ctS, toD, fzE, disp0, dispE, pairsE, List.length_cons, List.length_nil, List.map_cons, List.map_nil, List.replicate, List.append, List.getElem?_cons_zero, List.getElem?_cons_succ, List.cons_append, List.nil_append, List.set_cons_zero, List.set_cons_succ, Option.map_some, Option.map_none, Option.bind_some, Option.bind_none, ite_true, ite_false, if_true, if_false, Bool.false_eq_true, reduceIte, Nat.zero_add, Nat.reduceAdd, Nat.reduceLeDiff, Nat.reduceLT, Nat.reduceEqDiff, sizeL, decide_true, decide_false, eq_self, Bool.not_true, Bool.not_false, Bool.or_true, Bool.true_or, Bool.or_false, Bool.false_or, reduceCtorEq, hdue, bifD, hx, forS, inR1, if_pos h2] at e ⊢
  simp only [e, seqS, letS, bindS, bindE, asgS, setG, subG, okE, varE, opE, optE, modE, dgtE, retE, ifS, ifE, consE, bifE, bffE, cmpB, idxE, frzE, celE, lstE, tupE, tupG, consG, nilG, retS, rtS, nxS, dropS, bmE, truE, notB, blE, partE, sliL, sliV, callE, negE, norE, asB, chainE, isiE, isi2E, parS, par3S, augS, addI, neverS, bkS, ctS, toD, fzE, disp0, dispE, pairsE, List.length_cons, List.length_nil, List.map_cons, List.map_nil, List.replicate, List.append, List.getElem?_cons_zero, List.getElem?_cons_succ, List.cons_append, List.nil_append, List.set_cons_zero, List.set_cons_succ, Option.map_some, Option.map_none, Option.bind_some, Option.bind_none, ite_true, ite_false, if_true, if_false, Bool.false_eq_true, reduceIte, Nat.zero_add, Nat.reduceAdd, Nat.reduceLeDiff, Nat.reduceLT, Nat.reduceEqDiff, sizeL, decide_true, decide_false, eq_self, Bool.not_true, Bool.not_false, Bool.or_true, Bool.true_or, Bool.or_false, Bool.false_or, reduceCtorEq]
theorem law_ok : LawF F_law := by
  intro ns hl
  obtain ⟨pre, μ0, e0, h0⟩ := begin_ok ns hl
  have hr := lcGo_run (al := fun _ => True) (f := setG 2) (mt := retE true) (me := callE (segF 0 F_law_right) (consE (callE F_law_program (consE (varE 1) (consE (callE F_law_many (consE (varE 1) (retE []))) (retE [])))) (retE [])))
    (σ0 := [some (.scr ns), some (.cell (pre.length + 1)), none])
    (fun ds acc μ => ∃ n : Nat, acc = (List.replicate n D.non).map (fun _ => D.bl true) ∧ n + ds.length = 3 ∧ Bx pre (1204 * n) μ) (fun _ _ _ => True.intro) (fun d ds acc μ => by
      rintro ⟨n, rfl, h1, h2⟩
      rw [List.length_cons] at h1
      obtain ⟨m, μ1, e1, m0, m1, h3⟩ := many_ok h2 (by omega)
      obtain ⟨rs, μ2, e2, hp, h4⟩ := program_ok h3 (by omega) m m0 m1
      obtain ⟨μ3, e3⟩ := right_ok hp
      have hcl : clDs 0 [D.lst (rs.map enc)] = true := by
        have : ∀ rs : List Row, clDs 0 (rs.map enc) = true := by
          intro rs
          induction rs with
          | nil => rfl
          | cons r rs ih => show (clD 0 (enc r) && clDs 0 (rs.map enc)) = true; rw [clEnc, ih]; rfl
        show (clDs 0 (rs.map enc) && true) = true
        rw [this]
        rfl
      have e4 : segF 0 F_law_right [.lst (rs.map enc)] μ2 = some (.ok (.bl true), μ2) := seg0 hcl e3 rfl
      refine ⟨True.intro, by simp [sizeL]; omega, [some (.scr ns), some (.cell (pre.length + 1)), some d], μ, μ, .bl true, μ2, rfl, rfl, ?_, n + 1, ?_, by omega, h4.mono (by omega)⟩
      · simp only [seqS, letS, bindS, bindE, asgS, setG, subG, okE, varE, opE, optE, modE, dgtE, retE, ifS, ifE, consE, bifE, bffE, cmpB, idxE, frzE, celE, lstE, tupE, tupG, consG, nilG, retS, rtS, nxS, dropS, bmE, truE, notB, blE, partE, sliL, sliV, callE, negE, norE, asB, chainE, isiE, isi2E, parS, par3S, augS, addI, neverS, bkS, ctS, toD, fzE, disp0, dispE, pairsE, List.length_cons, List.length_nil, List.map_cons, List.map_nil, List.replicate, List.append, List.getElem?_cons_zero, List.getElem?_cons_succ, List.cons_append, List.nil_append, List.set_cons_zero, List.set_cons_succ, Option.map_some, Option.map_none, Option.bind_some, Option.bind_none, ite_true, ite_false, if_true, if_false, Bool.false_eq_true, reduceIte, Nat.zero_add, Nat.reduceAdd, Nat.reduceLeDiff, Nat.reduceLT, Nat.reduceEqDiff, sizeL, decide_true, decide_false, eq_self, Bool.not_true, Bool.not_false, Bool.or_true, Bool.true_or, Bool.or_false, Bool.false_or, reduceCtorEq, e1, e2, e4]
      · rw [List.replicate_succ', List.map_append]
        rfl) (rngI 0 (3 : Int).toNat) [] μ0 ⟨0, rfl, rfl, h0⟩
  obtain ⟨out, μ', e, n, rfl, h1, h2⟩ := hr
  refine ⟨μ', ?_⟩
  have h3 : big62 3 := by constructor <;> decide
  have ha := all_true μ' (List.replicate n D.non)
  unfold F_law runF
  simp only [seqS, letS, bindS, bindE, asgS, setG, subG, okE, varE, opE, optE, modE, dgtE, retE, ifS, ifE, consE, bifE, bffE, cmpB, idxE, frzE, celE, lstE, tupE, tupG, consG, nilG, retS, rtS, nxS, dropS, bmE, truE, notB, blE, partE, sliL, sliV, callE, negE, norE, asB, chainE, isiE, isi2E, parS, par3S, augS, addI, neverS, bkS, ctS, toD, fzE, disp0, dispE, pairsE, List.length_cons, List.length_nil, List.map_cons, List.map_nil, List.replicate, List.append, List.getElem?_cons_zero, List.getElem?_cons_succ, List.cons_append, List.nil_append, List.set_cons_zero, List.set_cons_succ, Option.map_some, Option.map_none, Option.bind_some, Option.bind_none, ite_true, ite_false, if_true, if_false, Bool.false_eq_true, reduceIte, Nat.zero_add, Nat.reduceAdd, Nat.reduceLeDiff, Nat.reduceLT, Nat.reduceEqDiff, sizeL, decide_true, decide_false, eq_self, Bool.not_true, Bool.not_false, Bool.or_true, Bool.true_or, Bool.or_false, Bool.false_or, reduceCtorEq, e0, lcE, inR1, if_pos h3, wipeD, bifD] at e ⊢
  simp only [e, seqS, letS, bindS, bindE, asgS, setG, subG, okE, varE, opE, optE, modE, dgtE, retE, ifS, ifE, consE, bifE, bffE, cmpB, idxE, frzE, celE, lstE, tupE, tupG, consG, nilG, retS, rtS, nxS, dropS, bmE, truE, notB, blE, partE, sliL, sliV, callE, negE, norE, asB, chainE, isiE, isi2E, parS, par3S, augS, addI, neverS, bkS, ctS, toD, fzE, disp0, dispE, pairsE, List.length_cons, List.length_nil, List.map_cons, List.map_nil, List.replicate, List.append, List.getElem?_cons_zero, List.getElem?_cons_succ, List.cons_append, List.nil_append, List.set_cons_zero, List.set_cons_succ, Option.map_some, Option.map_none, Option.bind_some, Option.bind_none, ite_true, ite_false, if_true, if_false, Bool.false_eq_true, reduceIte, Nat.zero_add, Nat.reduceAdd, Nat.reduceLeDiff, Nat.reduceLT, Nat.reduceEqDiff, sizeL, decide_true, decide_false, eq_self, Bool.not_true, Bool.not_false, Bool.or_true, Bool.true_or, Bool.or_false, Bool.false_or, reduceCtorEq, ha]
end K75

theorem PySem.Challenge.cw_oddlong_k75_uses_told_holds : PySem.Challenge.rw_oddlong_k75_uses_told.Holds := by
  exact K75.ends K75.law_ok
