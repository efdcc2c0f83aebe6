import PyProof.Rows.All
import Wide.All
import OpenK.AllK
import Wide.FinOn
import HandS.ForMost
import HandS.TupAny
import HandS.ForExc
import HandS.Zip
import HandS.IsInst
import HandS.DictComp
import KE.GoesMore
import KE.GoesEnum
import HandS.Conv
import KE.KIndexOf
import HandS.Defaults
import HandS.SetFor
import HandS.Strs
import HandS.Style
import HandS.EndBits
import PySem.Challenge.RW_seatcards_k16_whole_rings_parted_or_join
set_option Elab.async false
set_option linter.all false
set_option maxRecDepth 100000
set_option maxHeartbeats 2000000
/-! Seat base: stores of plain data over the layer HandS. -/
namespace SX
open PySem PySem.Spec PyProof.Rows L2

abbrev D := PyData
/-- a list of the written part -/
def KL (K : PySem.W.Frag) (a : Addr) (xs : List V) : Prop := ∃ (o : Obj) (its : Array Value) (n : Nat), K.lookup a = some o ∧ o.cls = .type "list" ∧ o.dict = none ∧ o.data = .seq its n ∧ its.size ≤ sizeLine ∧ Vals xs its.toList
/-- a list that nobody writes to from now on -/
def FL (K : PySem.W.Frag) (H : Hp) (Fz : Addr → Prop) (a : Addr) (xs : List V) : Prop := (Fz a ∧ Rd H a (.lst xs)) ∨ KL K a xs
/-- a tuple of which no attribute dict hangs (its methods may be called) -/
def BT (K : PySem.W.Frag) (H : Hp) (a : Addr) (xs : List V) : Prop := (∃ o : Obj, H a = some (.frz o (.tup xs)) ∧ o.dict = none) ∨ ∃ (o : Obj) (its : Array Value) (n : Nat), K.lookup a = some o ∧ o.cls = .type "tuple" ∧ o.dict = none ∧ o.data = .seq its n ∧ its.size ≤ sizeLine ∧ Vals xs its.toList
theorem BT.sqt {K : PySem.W.Frag} {H : Hp} {a : Addr} {xs : List V} (h : BT K H a xs) : SqT K H a xs := by
  rcases h with ⟨o, h, _⟩ | ⟨o, its, n, h1, h2, _, h3, h4, h5⟩
  · exact .inl (.inr ⟨o, h⟩)
  · exact .inr ⟨o, its, n, h1, h2, h3, h4, h5⟩
theorem BT.of {K : PySem.W.Frag} {H : Hp} {a : Addr} {xs : List V} {o : Obj} (h : H a = some (.frz o (.tup xs))) (hd : o.dict = none) : BT K H a xs := .inl ⟨o, h, hd⟩
/-- carried over where the place keeps its word -/
theorem BT.to {K : PySem.W.Frag} {H H' : Hp} {a : Addr} {xs : List V} (h : BT K H a xs) (hk : ∀ u, H a = some u → ¬ Mut (some u) → H' a = some u) : BT K H' a xs := by
  rcases h with ⟨o, h, hd⟩ | h
  · exact .inl ⟨o, hk _ h id, hd⟩
  · exact .inr h
theorem FL.sql {K : PySem.W.Frag} {H : Hp} {Fz : Addr → Prop} {a : Addr} {xs : List V} (h : FL K H Fz a xs) : SqL K H a xs := by
  rcases h with ⟨_, h⟩ | h
  · exact .inl h
  · exact .inr h
mutual
inductive Rep (K : PySem.W.Frag) (H : Hp) (Fz : Addr → Prop) : D → V → Prop
  | non : Rep K H Fz .none .non
  | bl (b : Bool) : Rep K H Fz (.bool b) (.bl b)
  | int (i : Int) : Rep K H Fz (.int i) (.int i)
  | str (x : Str) : Rep K H Fz (.str x) (.str x)
  | lst {a : Addr} {xs : List V} {ds : List D} : FL K H Fz a xs → Reps K H Fz ds xs → Rep K H Fz (.list ds) (.ref a)
  | tup {a : Addr} {xs : List V} {ds : List D} : BT K H a xs → Reps K H Fz ds xs → Rep K H Fz (.tuple ds) (.ref a)
inductive Reps (K : PySem.W.Frag) (H : Hp) (Fz : Addr → Prop) : List D → List V → Prop
  | nil : Reps K H Fz [] []
  | cons {d : D} {v : V} {ds : List D} {vs : List V} : Rep K H Fz d v → Reps K H Fz ds vs → Reps K H Fz (d :: ds) (v :: vs)
end
section
variable {K : PySem.W.Frag} {H H' : Hp} {Fz Fz' : Addr → Prop}
mutual
theorem Rep.mono (h1 : ∀ a xs, BT K H a xs → BT K H' a xs) (h2 : ∀ a xs, FL K H Fz a xs → FL K H' Fz' a xs) : ∀ (d : D) (v : V), Rep K H Fz d v → Rep K H' Fz' d v
  | .none, _, h => by cases h; exact .non
  | .bool _, _, h => by cases h; exact .bl _
  | .int _, _, h => by cases h; exact .int _
  | .str _, _, h => by cases h; exact .str _
  | .list ds, _, h => by
    cases h with
    | lst f r => exact .lst (h2 _ _ f) (Reps.mono h1 h2 ds _ r)
  | .tuple ds, _, h => by
    cases h with
    | tup f r => exact .tup (h1 _ _ f) (Reps.mono h1 h2 ds _ r)
  | .dict _, _, h => by cases h
theorem Reps.mono (h1 : ∀ a xs, BT K H a xs → BT K H' a xs) (h2 : ∀ a xs, FL K H Fz a xs → FL K H' Fz' a xs) : ∀ (ds : List D) (vs : List V), Reps K H Fz ds vs → Reps K H' Fz' ds vs
  | [], _, h => by cases h; exact .nil
  | d :: ds, _, h => by
    cases h with
    | cons a b => exact .cons (Rep.mono h1 h2 d _ a) (Reps.mono h1 h2 ds _ b)
end
theorem Reps.length : ∀ {ds : List D} {vs : List V}, Reps K H Fz ds vs → ds.length = vs.length
  | [], _, h => by cases h; rfl
  | d :: ds, _, h => by
    cases h with
    | cons a b => simp [Reps.length b]
theorem Reps.get : ∀ {ds : List D} {vs : List V} {i : Nat} {d : D}, Reps K H Fz ds vs → ds[i]? = some d → ∃ v, vs[i]? = some v ∧ Rep K H Fz d v
  | [], _, _, _, _, e => by simp at e
  | d :: ds, _, i, x, h, e => by
    cases h with
    | cons a b =>
      cases i with
      | zero => simp at e; subst e; exact ⟨_, rfl, a⟩
      | succ i =>
        obtain ⟨v, q1, q2⟩ := Reps.get (i := i) b (by simpa using e)
        exact ⟨v, by simpa using q1, q2⟩
theorem Reps.getV : ∀ {ds : List D} {vs : List V} {i : Nat} {v : V}, Reps K H Fz ds vs → vs[i]? = some v → ∃ d, ds[i]? = some d ∧ Rep K H Fz d v
  | [], _, _, _, h, e => by cases h; simp at e
  | d :: ds, _, i, x, h, e => by
    cases h with
    | cons a b =>
      cases i with
      | zero => simp at e; subst e; exact ⟨_, rfl, a⟩
      | succ i =>
        obtain ⟨v, q1, q2⟩ := Reps.getV (i := i) b (by simpa using e)
        exact ⟨v, by simpa using q1, q2⟩
theorem Reps.append : ∀ {ds es : List D} {vs ws : List V}, Reps K H Fz ds vs → Reps K H Fz es ws → Reps K H Fz (ds ++ es) (vs ++ ws)
  | [], _, _, _, h, q => by cases h; exact q
  | d :: ds, _, _, _, h, q => by
    cases h with
    | cons a b => exact .cons a (Reps.append b q)
theorem Reps.take : ∀ {ds : List D} {vs : List V} (n : Nat), Reps K H Fz ds vs → Reps K H Fz (ds.take n) (vs.take n)
  | _, _, 0, _ => .nil
  | [], _, _ + 1, h => by cases h; exact .nil
  | d :: ds, _, n + 1, h => by
    cases h with
    | cons a b => exact .cons a (Reps.take n b)
theorem Reps.drop : ∀ {ds : List D} {vs : List V} (n : Nat), Reps K H Fz ds vs → Reps K H Fz (ds.drop n) (vs.drop n)
  | _, _, 0, h => h
  | [], _, _ + 1, h => by cases h; exact .nil
  | d :: ds, _, n + 1, h => by
    cases h with
    | cons a b => exact Reps.drop n b
theorem Reps.reverse : ∀ {ds : List D} {vs : List V}, Reps K H Fz ds vs → Reps K H Fz ds.reverse vs.reverse
  | [], _, h => by cases h; exact .nil
  | d :: ds, _, h => by
    cases h with
    | cons a b =>
      rw [List.reverse_cons, List.reverse_cons]
      exact (Reps.reverse b).append (.cons a .nil)
theorem Reps.set {d : D} {v : V} (r : Rep K H Fz d v) : ∀ {ds : List D} {vs : List V} (n : Nat), Reps K H Fz ds vs → Reps K H Fz (ds.set n d) (vs.set n v)
  | [], _, _, h => by cases h; exact .nil
  | _ :: ds, _, 0, h => by
    cases h with
    | cons a b => exact .cons r b
  | _ :: ds, _, n + 1, h => by
    cases h with
    | cons a b => exact .cons a (Reps.set r n b)
theorem Reps.eraseIdx : ∀ {ds : List D} {vs : List V} (n : Nat), Reps K H Fz ds vs → Reps K H Fz (ds.eraseIdx n) (vs.eraseIdx n)
  | [], _, _, h => by cases h; exact .nil
  | _ :: ds, _, 0, h => by
    cases h with
    | cons a b => exact b
  | _ :: ds, _, n + 1, h => by
    cases h with
    | cons a b => exact .cons a (Reps.eraseIdx n b)
theorem Reps.dropLast {ds : List D} {vs : List V} (h : Reps K H Fz ds vs) : Reps K H Fz ds.dropLast vs.dropLast := by
  rw [List.dropLast_eq_take, List.dropLast_eq_take, h.length]
  exact h.take _
theorem Reps.replicate {ds : List D} {vs : List V} (h : Reps K H Fz ds vs) : ∀ n : Nat, Reps K H Fz (List.replicate n ds).flatten (List.replicate n vs).flatten
  | 0 => .nil
  | n + 1 => by
    rw [List.replicate_succ, List.replicate_succ, List.flatten_cons, List.flatten_cons]
    exact h.append (Reps.replicate h n)
mutual
/-- data without lists: what it is hangs on tuples alone -/
def imm : D → Bool
  | .none => true
  | .bool _ => true
  | .int _ => true
  | .str _ => true
  | .list _ => false
  | .tuple ds => imms ds
  | .dict _ => false
def imms : List D → Bool
  | [] => true
  | d :: ds => imm d && imms ds
end
mutual
theorem Rep.imm (h1 : ∀ a xs, BT K H a xs → BT K H' a xs) : ∀ (d : D) (v : V), SX.imm d = true → Rep K H Fz d v → Rep K H' Fz' d v
  | .none, _, _, h => by cases h; exact .non
  | .bool _, _, _, h => by cases h; exact .bl _
  | .int _, _, _, h => by cases h; exact .int _
  | .str _, _, _, h => by cases h; exact .str _
  | .list ds, _, q, h => by simp [SX.imm] at q
  | .tuple ds, _, q, h => by
    cases h with
    | tup f r => exact .tup (h1 _ _ f) (Reps.imm h1 ds _ (by simpa [SX.imm] using q) r)
  | .dict _, _, _, h => by cases h
theorem Reps.imm (h1 : ∀ a xs, BT K H a xs → BT K H' a xs) : ∀ (ds : List D) (vs : List V), SX.imms ds = true → Reps K H Fz ds vs → Reps K H' Fz' ds vs
  | [], _, _, h => by cases h; exact .nil
  | d :: ds, _, q, h => by
    have q' : SX.imm d = true ∧ SX.imms ds = true := by simpa [SX.imms] using q
    cases h with
    | cons a b => exact .cons (Rep.imm h1 d _ q'.1 a) (Reps.imm h1 ds _ q'.2 b)
end
mutual
/-- for the layer's rules over data -/
theorem Rep.dp : ∀ (d : D) (v : V), Rep K H Fz d v → Dp K H v d
  | .none, _, h => by cases h; exact .non
  | .bool _, _, h => by cases h; exact .bl _
  | .int _, _, h => by cases h; exact .int _
  | .str _, _, h => by cases h; exact .str _
  | .list ds, _, h => by
    cases h with
    | lst f r => exact .lst f.sql (Reps.dp ds _ r)
  | .tuple ds, _, h => by
    cases h with
    | tup f r => exact .tup f.sqt (Reps.dp ds _ r)
  | .dict _, _, h => by cases h
theorem Reps.dp : ∀ (ds : List D) (vs : List V), Reps K H Fz ds vs → DpAll K H vs ds
  | [], _, h => by cases h; exact .nil
  | d :: ds, _, h => by
    cases h with
    | cons a b => exact .cons (Rep.dp d _ a) (Reps.dp ds _ b)
end
theorem Rep.int_inv {i : Int} {v : V} (h : Rep K H Fz (.int i) v) : v = .int i := by cases h; rfl
theorem Rep.bl_inv {i : Bool} {v : V} (h : Rep K H Fz (.bool i) v) : v = .bl i := by cases h; rfl
theorem Rep.str_inv {i : Str} {v : V} (h : Rep K H Fz (.str i) v) : v = .str i := by cases h; rfl
theorem Rep.non_inv {v : V} (h : Rep K H Fz .none v) : v = .non := by cases h; rfl
theorem Rep.tup_inv {ds : List D} {v : V} (h : Rep K H Fz (.tuple ds) v) : ∃ a xs, v = .ref a ∧ BT K H a xs ∧ Reps K H Fz ds xs := by
  cases h with
  | tup f r => exact ⟨_, _, rfl, f, r⟩
theorem Rep.lst_inv {ds : List D} {v : V} (h : Rep K H Fz (.list ds) v) : ∃ a xs, v = .ref a ∧ FL K H Fz a xs ∧ Reps K H Fz ds xs := by
  cases h with
  | lst f r => exact ⟨_, _, rfl, f, r⟩
theorem Reps.ints : ∀ {ns : List Int} {vs : List V}, Reps K H Fz (ns.map PyData.int) vs → vs = ns.map V.int
  | [], _, h => by cases h; rfl
  | n :: ns, _, h => by
    cases h with
    | cons a b =>
      rw [a.int_inv, Reps.ints b]
      rfl
theorem Reps.of_ints : ∀ (ns : List Int), Reps K H Fz (ns.map PyData.int) (ns.map V.int)
  | [] => .nil
  | n :: ns => .cons (.int n) (Reps.of_ints ns)
theorem imms_ints : ∀ ns : List Int, imms (ns.map PyData.int) = true
  | [] => rfl
  | n :: ns => by
    show (true && imms (ns.map PyData.int)) = true
    rw [imms_ints ns]; rfl
theorem imms_app : ∀ (a b : List D), imms (a ++ b) = (imms a && imms b)
  | [], b => by simp [imms]
  | x :: a, b => by
    show (imm x && imms (a ++ b)) = ((imm x && imms a) && imms b)
    rw [imms_app a b, Bool.and_assoc]
end
end SX
namespace SX
open PySem PySem.Spec PyProof.Rows L2
/-- what the proof knows of a place: nothing; a value that never changes; a list of one's own (the place holds the only way to it); a list that the caller lent; a dict of one's own; the thing that the i-th slot holds -/
inductive AV where
  | un
  | fz (d : D)
  | ls (l : List D)
  | lb (l : List D)
  | dk (kvs : List (Key × D))
  | rf (i : Nat)
def AV.own : AV → Bool
  | .ls _ => true
  | .lb _ => true
  | .dk _ => true
  | _ => false
abbrev Sto := List AV
structure Gh where
  B : Hp
  m : Addr → Prop
  Fz : Addr → Prop
  g : Addr → Nat
def DReps (K : PySem.W.Frag) (H : Hp) (Fz : Addr → Prop) : List (Key × D) → List (Key × V) → Prop := Paired fun p q => p.1 = q.1 ∧ Rep K H Fz p.2 q.2
def Ok1 (K : PySem.W.Frag) (G : Gh) (H : Hp) (σ : L2.St) (ds : Sto) (i : Nat) : AV → Option V → Prop
  | .un, _ => True
  | .fz d, ov => ∃ v, ov = some v ∧ Rep K H G.Fz d v
  | .ls l, ov => ∃ a xs, ov = some (.ref a) ∧ ¬ G.Fz a ∧ G.g a = i ∧ (G.B a = none ∧ ¬ G.m a) ∧ H a = some (.lst xs) ∧ Reps K H G.Fz l xs
  | .lb l, ov => ∃ a xs, ov = some (.ref a) ∧ ¬ G.Fz a ∧ G.g a = i ∧ G.m a ∧ H a = some (.lst xs) ∧ Reps K H G.Fz l xs
  | .dk l, ov => ∃ a xs, ov = some (.ref a) ∧ ¬ G.Fz a ∧ G.g a = i ∧ (G.B a = none ∧ ¬ G.m a) ∧ H a = some (.dK xs) ∧ DReps K H G.Fz l xs
  | .rf j, ov => ∃ v, ov = some v ∧ σ[j]? = some (some v) ∧ (ds.getD j .un).own = true ∧ j < ds.length
def TOk (K : PySem.W.Frag) (G : Gh) (H : Hp) (σ : L2.St) (ds : Sto) : List AV → List V → Prop
  | [], [] => True
  | x :: ts, v :: vs => Ok1 K G H σ ds (ds.length + ts.length) x (some v) ∧ TOk K G H σ ds ts vs
  | _, _ => False
structure St0 (K : PySem.W.Frag) (G : Gh) (H : Hp) (σ : L2.St) (ds ts : List AV) (vs : List V) : Prop where
  fr : ∀ a o, G.B a = some o → ¬ G.m a → H a = some o
  mm : ∀ a, G.m a → ∃ xs, H a = some (.lst xs)
  mb : ∀ a, G.m a → ∃ xs, G.B a = some (.lst xs)
  mz : ∀ a, G.m a → ¬ G.Fz a
  fz : ∀ a, G.Fz a → ∃ o, H a = some o
  len : σ.length = ds.length
  nr : ∀ i j, ds.getD i .un ≠ .rf j
  sl : ∀ i, i < ds.length → Ok1 K G H σ ds i (ds.getD i .un) (σ.getD i none)
  tp : TOk K G H σ ds ts vs
section
variable {K : PySem.W.Frag} {G : Gh} {H H' : Hp} {σ : L2.St} {ds ds' ts : List AV} {vs : List V}
theorem DReps.mono {Fz Fz' : Addr → Prop} (h1 : ∀ a xs, BT K H a xs → BT K H' a xs) (h2 : ∀ a xs, FL K H Fz a xs → FL K H' Fz' a xs) {l : List (Key × D)} {xs : List (Key × V)} (h : DReps K H Fz l xs) : DReps K H' Fz' l xs :=
  Paired.mapP h fun _ _ q => ⟨q.1, Rep.mono h1 h2 _ _ q.2⟩
/-- a place's word carried to another heap -/
theorem Ok1.move {Fz' : Addr → Prop} {g' : Addr → Nat} (h1 : ∀ a xs, BT K H a xs → BT K H' a xs) (h2 : ∀ a xs, FL K H G.Fz a xs → FL K H' Fz' a xs) {i i' : Nat}
    (hr : ∀ j, (ds.getD j .un).own = true → (ds'.getD j .un).own = true) (hl : ds'.length = ds.length)
    (hO : ∀ a, (∃ o, H a = some o) → ¬ G.Fz a → G.g a = i → ¬ Fz' a ∧ g' a = i' ∧ H' a = H a) {av : AV} {ov : Option V} (h : Ok1 K G H σ ds i av ov) : Ok1 K { G with Fz := Fz', g := g' } H' σ ds' i' av ov := by
  cases av with
  | un => trivial
  | fz d =>
    obtain ⟨v, e, r⟩ := h
    exact ⟨v, e, Rep.mono h1 h2 _ _ r⟩
  | ls l =>
    obtain ⟨a, xs, e, z, gi, b, hx, r⟩ := h
    obtain ⟨z', g1, hh⟩ := hO a ⟨_, hx⟩ z gi
    exact ⟨a, xs, e, z', g1, b, hh.trans hx, Reps.mono h1 h2 _ _ r⟩
  | lb l =>
    obtain ⟨a, xs, e, z, gi, b, hx, r⟩ := h
    obtain ⟨z', g1, hh⟩ := hO a ⟨_, hx⟩ z gi
    exact ⟨a, xs, e, z', g1, b, hh.trans hx, Reps.mono h1 h2 _ _ r⟩
  | dk l =>
    obtain ⟨a, xs, e, z, gi, b, hx, r⟩ := h
    obtain ⟨z', g1, hh⟩ := hO a ⟨_, hx⟩ z gi
    exact ⟨a, xs, e, z', g1, b, hh.trans hx, DReps.mono h1 h2 r⟩
  | rf j =>
    obtain ⟨v, e, s, o, l⟩ := h
    exact ⟨v, e, s, hr j o, by rw [hl]; exact l⟩
theorem TOk.move {Fz' : Addr → Prop} {g' : Addr → Nat} (h1 : ∀ a xs, BT K H a xs → BT K H' a xs) (h2 : ∀ a xs, FL K H G.Fz a xs → FL K H' Fz' a xs)
    (hr : ∀ j, (ds.getD j .un).own = true → (ds'.getD j .un).own = true) (hl : ds'.length = ds.length) : ∀ {ts : List AV} {vs : List V},
    (∀ i, ds.length ≤ i → i < ds.length + ts.length → ∀ a, (∃ o, H a = some o) → ¬ G.Fz a → G.g a = i → ¬ Fz' a ∧ g' a = i ∧ H' a = H a) →
    TOk K G H σ ds ts vs → TOk K { G with Fz := Fz', g := g' } H' σ ds' ts vs
  | [], [], _, _ => trivial
  | x :: ts, v :: vs, hO, h => by
    refine ⟨?_, TOk.move h1 h2 hr hl (fun i a b => hO i a (by simp only [List.length_cons]; omega)) h.2⟩
    rw [hl]
    exact Ok1.move h1 h2 hr hl (hO _ (Nat.le_add_right _ _) (by simp only [List.length_cons]; omega)) h.1
  | [], _ :: _, _, h => h.elim
  | _ :: _, [], _, h => h.elim
/-- the whole state carried over: W tells the written places, none of which another index owns -/
theorem St0.move {Fz' : Addr → Prop} {g' : Addr → Nat} (S : St0 K G H σ ds ts vs) (W : Addr → Prop)
    (hk : ∀ a o, ¬ W a → H a = some o → H' a = some o) (hW : ∀ a, W a → ¬ G.Fz a ∧ ∃ u, H a = some u ∧ Mut (some u) ∧ (G.B a = none ∨ G.m a))
    (hM : ∀ a, G.m a → ∃ xs, H' a = some (.lst xs)) (hF : ∀ a, G.Fz a → Fz' a) (hFn : ∀ a, Fz' a → ∃ o, H' a = some o) (hFm : ∀ a, G.m a → ¬ Fz' a)
    (hr : ∀ j, (ds.getD j .un).own = true → (ds'.getD j .un).own = true) (hl : ds'.length = ds.length) (hnr : ∀ i j, ds'.getD i .un ≠ .rf j)
    (hS : ∀ i, i < ds.length → Ok1 K { G with Fz := Fz', g := g' } H' σ ds' i (ds'.getD i .un) (σ.getD i none) ∨ (ds'.getD i .un = ds.getD i .un ∧ ∀ a, (∃ o, H a = some o) → ¬ G.Fz a → G.g a = i → ¬ W a ∧ ¬ Fz' a ∧ g' a = i))
    (hT : ∀ i, ds.length ≤ i → i < ds.length + ts.length → ∀ a, (∃ o, H a = some o) → ¬ G.Fz a → G.g a = i → ¬ W a ∧ ¬ Fz' a ∧ g' a = i) :
    St0 K { G with Fz := Fz', g := g' } H' σ ds' ts vs := by
  have h1 : ∀ a xs, BT K H a xs → BT K H' a xs := fun a xs h => h.to fun u e nm => hk a _ (fun w => by
    obtain ⟨_, u', e', mu, _⟩ := hW a w
    rw [e] at e'; cases e'; exact nm mu) e
  have h2 : ∀ a xs, FL K H G.Fz a xs → FL K H' Fz' a xs := fun a xs h => by
    rcases h with ⟨f, h⟩ | h
    · have nw : ¬ W a := fun w => (hW a w).1 f
      rcases h with h | ⟨o, h⟩
      · exact .inl ⟨hF a f, .inl (hk a _ nw h)⟩
      · exact .inl ⟨hF a f, .inr ⟨o, hk a _ nw h⟩⟩
    · exact .inr h
  have keep : ∀ a, (∃ o, H a = some o) → ¬ W a → H' a = H a := fun a ⟨o, h⟩ w => by rw [h]; exact hk a o w h
  refine ⟨fun a o b hm => hk a o (fun w => ?_) (S.fr a o b hm), hM, S.mb, hFm, hFn, by rw [hl]; exact S.len, hnr, fun i hi => ?_, ?_⟩
  · obtain ⟨_, u, _, _, q⟩ := hW a w
    rcases q with q | q
    · rw [b] at q; cases q
    · exact hm q
  · rw [hl] at hi
    rcases hS i hi with q | ⟨e, q⟩
    · exact q
    · rw [e]
      exact Ok1.move h1 h2 hr hl (fun a ho nz gi => by
        obtain ⟨w, z, gg⟩ := q a ho nz gi
        exact ⟨z, gg, keep a ho w⟩) (S.sl i hi)
  · exact TOk.move h1 h2 hr hl (fun i hi1 hi2 a ho nz gi => by
        obtain ⟨w, z, gg⟩ := hT i hi1 hi2 a ho nz gi
        exact ⟨z, gg, keep a ho w⟩) S.tp
theorem St0.pop {x : AV} {v : V} (S : St0 K G H σ ds (x :: ts) (v :: vs)) : St0 K G H σ ds ts vs := ⟨S.fr, S.mm, S.mb, S.mz, S.fz, S.len, S.nr, S.sl, S.tp.2⟩
theorem St0.top {x : AV} {v : V} (S : St0 K G H σ ds (x :: ts) (v :: vs)) : Ok1 K G H σ ds (ds.length + ts.length) x (some v) := S.tp.1
theorem St0.push {x : AV} {v : V} (S : St0 K G H σ ds ts vs) (h : Ok1 K G H σ ds (ds.length + ts.length) x (some v)) : St0 K G H σ ds (x :: ts) (v :: vs) := ⟨S.fr, S.mm, S.mb, S.mz, S.fz, S.len, S.nr, S.sl, h, S.tp⟩
theorem St0.pushF {d : D} {v : V} (S : St0 K G H σ ds ts vs) (h : Rep K H G.Fz d v) : St0 K G H σ ds (.fz d :: ts) (v :: vs) := S.push ⟨v, rfl, h⟩
/-- what is tracked anew stands apart from all else -/
theorem St0.new {p : Addr} (S : St0 K G H σ ds ts vs) (hp : H p = none) : ¬ G.Fz p ∧ G.B p = none ∧ ¬ G.m p := by
  have nm : ¬ G.m p := fun q => by
    obtain ⟨xs, e⟩ := S.mm p q
    rw [hp] at e; cases e
  refine ⟨fun q => ?_, ?_, nm⟩
  · obtain ⟨o, e⟩ := S.fz p q
    rw [hp] at e; cases e
  · cases e : G.B p with
    | none => rfl
    | some o =>
      have := S.fr p o e nm
      rw [hp] at this; cases this
/-- the heap has grown; what was tracked stands -/
theorem St0.ext (S : St0 K G H σ ds ts vs) (hk : ∀ a o, H a = some o → H' a = some o) : St0 K G H' σ ds ts vs := by
  have := S.move (H' := H') (Fz' := G.Fz) (g' := G.g) (ds' := ds) (fun _ => False) (fun a o _ h => hk a o h) (fun a w => w.elim) (fun a q => by
    obtain ⟨xs, e⟩ := S.mm a q
    exact ⟨xs, hk _ _ e⟩) (fun _ q => q) (fun a q => by
    obtain ⟨o, e⟩ := S.fz a q
    exact ⟨o, hk _ _ e⟩) S.mz (fun _ q => q) rfl S.nr (fun i _ => .inr ⟨rfl, fun a _ nz gi => ⟨id, nz, gi⟩⟩) (fun i _ _ a _ nz gi => ⟨id, nz, gi⟩)
  exact this
/-- .. and a new object has come that the next temp owns -/
theorem St0.grow {p : Addr} (S : St0 K G H σ ds ts vs) (hk : ∀ a o, H a = some o → H' a = some o) (hp : H p = none) :
    St0 K { G with g := fun a => if a = p then ds.length + ts.length else G.g a } H' σ ds ts vs := by
  have ne : ∀ a, (∃ o, H a = some o) → a ≠ p := fun a ⟨o, h⟩ e => by rw [e, hp] at h; cases h
  exact S.move (H' := H') (Fz' := G.Fz) (g' := fun a => if a = p then ds.length + ts.length else G.g a) (ds' := ds) (fun _ => False) (fun a o _ h => hk a o h) (fun a w => w.elim) (fun a q => by
    obtain ⟨xs, e⟩ := S.mm a q
    exact ⟨xs, hk _ _ e⟩) (fun _ q => q) (fun a q => by
    obtain ⟨o, e⟩ := S.fz a q
    exact ⟨o, hk _ _ e⟩) S.mz (fun _ q => q) rfl S.nr (fun i _ => .inr ⟨rfl, fun a ho nz gi => ⟨id, nz, by rw [if_neg (ne a ho)]; exact gi⟩⟩) (fun i _ _ a ho nz gi => ⟨id, nz, by rw [if_neg (ne a ho)]; exact gi⟩)
theorem upd_keep {p : Addr} {o : HO} (hp : H p = none) : ∀ a u, H a = some u → (upd H p o) a = some u := fun a u h => by
  rw [upd_ne (ne_of_none h hp)]
  exact h
end
/-- the state: the heap B at the entry, the places m that the caller lent -/
def Stt (K : PySem.W.Frag) (B : Hp) (m : Addr → Prop) (H : Hp) (σ : L2.St) (ds ts : List AV) (vs : List V) : Prop := ∃ Fz g, St0 K ⟨B, m, Fz, g⟩ H σ ds ts vs
section
variable {K : PySem.W.Frag} {B : Hp} {m : Addr → Prop} {H H' : Hp} {σ : L2.St} {ds ds' ts : List AV} {vs : List V} {x y : AV} {v u : V}
theorem Stt.pop (S : Stt K B m H σ ds (x :: ts) (v :: vs)) : Stt K B m H σ ds ts vs := let ⟨a, b, c⟩ := S; ⟨a, b, c.pop⟩
theorem Stt.ext (S : Stt K B m H σ ds ts vs) (hk : ∀ a o, H a = some o → H' a = some o) : Stt K B m H' σ ds ts vs := let ⟨a, b, c⟩ := S; ⟨a, b, c.ext hk⟩
theorem Stt.pushInt (S : Stt K B m H σ ds ts vs) (i : Int) : Stt K B m H σ ds (.fz (.int i) :: ts) (.int i :: vs) := let ⟨a, b, c⟩ := S; ⟨a, b, c.pushF (.int i)⟩
theorem Stt.pushBl (S : Stt K B m H σ ds ts vs) (i : Bool) : Stt K B m H σ ds (.fz (.bool i) :: ts) (.bl i :: vs) := let ⟨a, b, c⟩ := S; ⟨a, b, c.pushF (.bl i)⟩
theorem Stt.pushStr (S : Stt K B m H σ ds ts vs) (i : Str) : Stt K B m H σ ds (.fz (.str i) :: ts) (.str i :: vs) := let ⟨a, b, c⟩ := S; ⟨a, b, c.pushF (.str i)⟩
theorem Stt.pushNon (S : Stt K B m H σ ds ts vs) : Stt K B m H σ ds (.fz .none :: ts) (.non :: vs) := let ⟨a, b, c⟩ := S; ⟨a, b, c.pushF .non⟩
theorem Stt.topI {i : Int} (S : Stt K B m H σ ds (.fz (.int i) :: ts) (v :: vs)) : v = .int i := let ⟨_, _, c⟩ := S; let ⟨_, e, r⟩ := c.top; by
  cases e
  exact r.int_inv
theorem Stt.topB {i : Bool} (S : Stt K B m H σ ds (.fz (.bool i) :: ts) (v :: vs)) : v = .bl i := let ⟨_, _, c⟩ := S; let ⟨_, e, r⟩ := c.top; by
  cases e
  exact r.bl_inv
theorem Stt.topS {i : Str} (S : Stt K B m H σ ds (.fz (.str i) :: ts) (v :: vs)) : v = .str i := let ⟨_, _, c⟩ := S; let ⟨_, e, r⟩ := c.top; by
  cases e
  exact r.str_inv
end
end SX

set_option Elab.async false
set_option linter.all false
set_option maxRecDepth 100000
set_option maxHeartbeats 2000000
/-! Seat: new tuples, laid with the record itself, so that it is known that no attribute dict hangs on them. -/
namespace SX
open PySem PySem.Spec PyProof.Rows L2
/-- what a rule says of a new tuple -/
def NewT (H : Hp) (xs : List V) (Q : VK) : Prop := ∀ (p : Addr) (o : Obj), H p = none → o.dict = none → Q (.ref p) (upd H p (.frz o (.tup xs)))
section
variable {X : Cx} {pins : List (Addr × Obj)} {σ : L2.St} {H : Hp} {s : Shared}
theorem newT_at {xs : List V} {its : List Value} {Q : VK} {h' : Heap} {tk : Nat} (I : Inv X pins σ H { s with heap := h', toks := tk }) (r : Vals xs its) (hz : xs.length ≤ sizeLine) (q : NewT H xs Q) : EP X pins σ Q (.ref h'.objs.size) { s with heap := h'.push { cls := .type "tuple", data := .seq its.toArray }, toks := tk } := by
  have e := Heap.get?_push_size h' (o := { cls := .type "tuple", data := .seq its.toArray }) rfl
  exact ⟨.ref h'.objs.size, _, I.laid (t' := tk) (o := .frz { cls := .type "tuple", data := .seq its.toArray } (.tup xs)) (fun b u q => Heap.get?_push_of_some _ q) (Nat.le_refl _) ⟨e, hz, its, r, ⟨_, e, rfl, _, rfl⟩⟩, rfl, q _ _ (I.hok.fresh (Nat.le_refl _)) rfl⟩
variable {es : List Expr} {t : TA} {pos : Pos}
def tTupB (t : TA) : TE := fun σ H Q => t σ H fun xs H1 => xs.length ≤ sizeLine ∧ NewT H1 xs Q
theorem pe_tupB {x1} (h : PA X es t) : PE X (.Tuple es x1 pos) (tTupB t) := by
  refine ⟨fun pins z σ H Q I hq => ?_⟩
  exact wpAny_Tuple_spliced (thn (h.run pos pins z σ H _ I hq) fun us s1 ⟨xs, H1, I1, r, hz, q⟩ => ⟨by rw [← r.length]; exact hz, newT_at (s := s1) (tk := s1.toks) I1 r hz q⟩)
def rTupB (K : PySem.W.Frag) : List V → Hp → VK → Prop := fun xs H Q => ∃ p ys, xs = [.ref p] ∧ ((SqL K H p ys ∧ NewT H ys Q) ∨ (SqT K H p ys ∧ Q (.ref p) H))
theorem call_tupB : CallR X (.type "tuple") (rTupB X.K) := by
  intro pins z σ H xs us Q I r h
  obtain ⟨p, ys, rfl, h⟩ := h
  obtain ⟨u, rfl, rx⟩ := vals1 r
  cases rx
  rcases h with ⟨hq, q⟩ | ⟨hq, q⟩
  · obtain ⟨its, r', pl, hz⟩ := I.list hq
    have hlen := r'.length
    refine call_tuple_list pl.isList (fun h' kp => ?_) (by simp only [List.size_toArray] <;> omega)
    exact newT_at (s := z) (tk := z.toks) (I.kept (t' := z.toks) kp) r' hz q
  · obtain ⟨its, r', pl, hz⟩ := I.tuple hq
    exact call_tuple_same pl ⟨.ref p, H, I, rfl, q⟩
def rCatB (K : PySem.W.Frag) : R2 := fun x y H Q => ∃ a b xs ys, x = .ref a ∧ y = .ref b ∧ SqT K H a xs ∧ SqT K H b ys ∧ xs.length + ys.length ≤ sizeLine ∧
  (xs = [] → Q (.ref b) H) ∧ (xs ≠ [] → ys = [] → Q (.ref a) H) ∧ (xs ≠ [] → ys ≠ [] → NewT H (xs ++ ys) Q)
theorem op_catB : OpR X (binaryOp .Add) (rCatB X.K) := by
  intro pins z σ H x y v u Q I rx ry h
  obtain ⟨a, b, xs, ys, rfl, rfl, ha, hb, hz, q0, q1, q2⟩ := h
  cases rx
  cases ry
  obtain ⟨its, r1, p1, _⟩ := I.tuple ha
  obtain ⟨its2, r2, p2, _⟩ := I.tuple hb
  by_cases hx : xs = []
  · subst hx
    cases r1
    exact cat_tup0 p1 p2 ⟨.ref b, H, I, rfl, q0 rfl⟩
  · refine HT.cat_tup p1 p2 (fun w => hx (r1.nil_iff.mp w)) (fun w => ⟨.ref a, H, I, rfl, q1 hx (r2.nil_iff.mp w)⟩) (fun w => ?_) (by rw [← r1.length, ← r2.length]; exact hz)
    have e := newT_at (s := z) (h' := z.heap) (tk := z.toks) I (r1.append r2) (by rw [List.length_append]; exact hz) (q2 hx (fun w' => w (r2.nil_iff.mpr w')))
    simpa using e
def rSlB (K : PySem.W.Frag) : V → Option Int → Option Int → Hp → VK → Prop := fun x lo hi H Q => ∃ a xs, x = .ref a ∧ SqT K H a xs ∧
  (HT.sIx xs.length 0 lo = 0 ∧ HT.sIx xs.length xs.length hi = xs.length → Q (.ref a) H) ∧ (¬ (HT.sIx xs.length 0 lo = 0 ∧ HT.sIx xs.length xs.length hi = xs.length) → NewT H (cutV xs lo hi) Q)
theorem sl_tupB : SlR X (rSlB X.K) := by
  intro pins z σ H x v vl vu lo hi sl Q I rx hs pl pu h
  obtain ⟨a, xs, rfl, hx, q1, q2⟩ := h
  cases rx
  obtain ⟨its, r, ht, hz⟩ := I.tuple hx
  have hlen : its.toArray.size = xs.length := by rw [List.size_toArray]; exact r.length.symm
  refine ⟨"tuple", _, PyProof.Rows.slot_tuple_getitem.lookup, ht.typeIs, ?_⟩
  by_cases hw : HT.sIx xs.length 0 lo = 0 ∧ HT.sIx xs.length xs.length hi = xs.length
  · exact getItem_tuple_whole ht hs pl pu (by rw [hlen]; exact hw) ⟨.ref a, H, I, rfl, q1 hw⟩
  · refine HT.getItem_tuple_cut ht hs pl pu (by rw [hlen]; exact hw) ?_ (by rw [hlen]; exact hz)
    rw [hlen]
    have e := newT_at (s := z) (h' := z.heap) (tk := z.toks) I ((r.drop (HT.sIx xs.length 0 lo)).take (HT.sIx xs.length xs.length hi - HT.sIx xs.length 0 lo)) (Nat.le_trans (cutV_length xs lo hi) hz) (q2 hw)
    exact e
end
end SX

set_option Elab.async false
set_option linter.all false
set_option maxRecDepth 100000
set_option maxHeartbeats 2000000
namespace SX
open PySem PySem.Spec PyProof.Rows L2
abbrev WE := Sto → (Sto → AV → Prop) → Prop
abbrev WA := Sto → (Sto → List AV → Prop) → Prop
abbrev WT := Sto → (Sto → Bool → Prop) → Prop
abbrev WO := Sto → (Sto → Option Int → Prop) → Prop
abbrev WR := AV → AV → Sto → (Sto → AV → Prop) → Prop
abbrev WU := AV → Sto → (Sto → AV → Prop) → Prop
abbrev WL := List AV → Sto → (Sto → AV → Prop) → Prop
structure AEnds where
  nx : Sto → Prop
  rt : Sto → AV → Prop
  bk : Sto → Prop := fun _ => False
  ct : Sto → Prop := fun _ => False
abbrev WS := AEnds → Sto → Prop
abbrev WG := AV → Sto → (Sto → Prop) → Prop
section
variable (K : PySem.W.Frag)
def SndE (te : TE) (w : WE) : Prop := ∀ (B : Hp) (m : Addr → Prop) (H : Hp) (σ : L2.St) (ds ts : List AV) (vs : List V) (Q : Sto → AV → Prop) (R : VK), Stt K B m H σ ds ts vs → w ds Q →
  (∀ v H' ds' x, Stt K B m H' σ ds' (x :: ts) (v :: vs) → Q ds' x → R v H') → te σ H R
def SndT (tt : TT) (w : WT) : Prop := ∀ (B : Hp) (m : Addr → Prop) (H : Hp) (σ : L2.St) (ds ts : List AV) (vs : List V) (Q : Sto → Bool → Prop) (R : Bool → Hp → Prop), Stt K B m H σ ds ts vs → w ds Q →
  (∀ b H' ds', Stt K B m H' σ ds' ts vs → Q ds' b → R b H') → tt σ H R
def SndA (ta : TA) (w : WA) : Prop := ∀ (B : Hp) (m : Addr → Prop) (H : Hp) (σ : L2.St) (ds ts : List AV) (vs : List V) (Q : Sto → List AV → Prop) (R : List V → Hp → Prop), Stt K B m H σ ds ts vs → w ds Q →
  (∀ us H' ds' xs, Stt K B m H' σ ds' (xs.reverse ++ ts) (us.reverse ++ vs) → us.length = xs.length → Q ds' xs → R us H') → ta σ H R
def SndO (to : TO) (w : WO) : Prop := ∀ (B : Hp) (m : Addr → Prop) (H : Hp) (σ : L2.St) (ds ts : List AV) (vs : List V) (Q : Sto → Option Int → Prop) (R : Option Int → Hp → Prop), Stt K B m H σ ds ts vs → w ds Q →
  (∀ b H' ds', Stt K B m H' σ ds' ts vs → Q ds' b → R b H') → to σ H R
/-- an operation of two values -/
def SndR (r : R2) (w : WR) : Prop := ∀ (B : Hp) (m : Addr → Prop) (H : Hp) (σ : L2.St) (ds ts : List AV) (vs : List V) (x y : AV) (v u : V) (Q : Sto → AV → Prop) (R : VK), Stt K B m H σ ds (y :: x :: ts) (u :: v :: vs) → w x y ds Q →
  (∀ v H' ds' x, Stt K B m H' σ ds' (x :: ts) (v :: vs) → Q ds' x → R v H') → r v u H R
def SndU (r : V → Hp → VK → Prop) (w : WU) : Prop := ∀ (B : Hp) (m : Addr → Prop) (H : Hp) (σ : L2.St) (ds ts : List AV) (vs : List V) (x : AV) (v : V) (Q : Sto → AV → Prop) (R : VK), Stt K B m H σ ds (x :: ts) (v :: vs) → w x ds Q →
  (∀ v H' ds' x, Stt K B m H' σ ds' (x :: ts) (v :: vs) → Q ds' x → R v H') → r v H R
/-- an operation of a list of values -/
def SndL (r : List V → Hp → VK → Prop) (w : WL) : Prop := ∀ (B : Hp) (m : Addr → Prop) (H : Hp) (σ : L2.St) (ds ts : List AV) (vs : List V) (xs : List AV) (us : List V) (Q : Sto → AV → Prop) (R : VK), us.length = xs.length → Stt K B m H σ ds (xs.reverse ++ ts) (us.reverse ++ vs) → w xs ds Q →
  (∀ v H' ds' x, Stt K B m H' σ ds' (x :: ts) (v :: vs) → Q ds' x → R v H') → r us H R
/-- temps that no statement can spoil -/
def frzd (ts : List AV) : Prop := ∀ x ∈ ts, ∃ d, x = AV.fz d
def SndS (t : TS) (w : WS) : Prop := ∀ (B : Hp) (m : Addr → Prop) (H : Hp) (σ : L2.St) (ds ts : List AV) (vs : List V) (N : AEnds) (E : Ends), frzd ts → Stt K B m H σ ds ts vs → w N ds →
  (∀ σ' H' ds', Stt K B m H' σ' ds' ts vs → N.nx ds' → E.nx σ' H') → (∀ σ' v H' ds' x, Stt K B m H' σ' ds' (x :: ts) (v :: vs) → N.rt ds' x → E.rt v H') →
  (∀ σ' H' ds', Stt K B m H' σ' ds' ts vs → N.bk ds' → E.bk σ' H') → (∀ σ' H' ds', Stt K B m H' σ' ds' ts vs → N.ct ds' → E.ct σ' H') → t E σ H
/-- no temp speaks of the slot i -/
def noRf (i : Nat) (ts : List AV) : Prop := ∀ x ∈ ts, x ≠ .rf i
/-- a store to a target: the slots ws may change -/
def SndG (g : TG) (w : WG) (ws : List Nat) : Prop := ∀ (B : Hp) (m : Addr → Prop) (H : Hp) (σ : L2.St) (ds ts : List AV) (vs : List V) (x : AV) (v : V) (Q : Sto → Prop) (R : L2.St → Hp → Prop), (∀ i ∈ ws, noRf i ts) → Stt K B m H σ ds (x :: ts) (v :: vs) → w x ds Q →
  (∀ σ' H' ds', Stt K B m H' σ' ds' ts vs → σ'.length = σ.length → (∀ j, j ∉ ws → σ'[j]? = σ[j]?) → Q ds' → R σ' H') → g v σ H R
/-- what a loop walks: the items l; behind it the temps dl (held as ivs) -/
def ItFor (J : It) (dl : List D) (ivs : List V) (l : List D) : Prop := ∀ (H : Hp) (Fz : Addr → Prop), Reps K H Fz dl ivs →
  (∀ i, i < l.length → J.go i H) ∧ (∀ i, l.length ≤ i → J.stop i H) ∧ ∀ i y H', i < l.length → J.yld i H y H' → ∃ d, l[i]? = some d ∧ (∀ a o, H a = some o → H' a = some o) ∧ Rep K H' Fz d y
abbrev WI := Sto → (Sto → List D → Prop) → Prop
def SndI (wi : TI) (w : WI) : Prop := ∀ (B : Hp) (m : Addr → Prop) (H : Hp) (σ : L2.St) (ds ts : List AV) (vs : List V) (Q : Sto → List D → Prop) (R : It → Hp → Prop), Stt K B m H σ ds ts vs → w ds Q →
  (∀ J H' ds' dl ivs l, Stt K B m H' σ ds' (dl.map AV.fz ++ ts) (ivs ++ vs) → ivs.length = dl.length → ItFor K J dl ivs l → Q ds' l → R J H') → wi σ H R
end
section
variable (X : Cx)
structure AE (e : Expr) (te : TE) (w : WE) : Prop where
  pe : PE X e te
  sd : SndE X.K te w
structure AT (e : Expr) (tt : TT) (w : WT) : Prop where
  pt : PT X e tt
  sd : SndT X.K tt w
structure AW (e : Expr) (tt : TT) (w : WT) : Prop where
  pt : PW X e tt
  sd : SndT X.K tt w
structure AA (es : List Expr) (ta : TA) (w : WA) : Prop where
  pa : PA X es ta
  sd : SndA X.K ta w
structure AO (e : Option Expr) (to : TO) (w : WO) : Prop where
  po : PO X e to
  sd : SndO X.K to w
structure AS (st : Stmt) (t : TS) (w : WS) : Prop where
  ps : PS X st t
  sd : SndS X.K t w
structure ASs (st : List Stmt) (t : TS) (w : WS) : Prop where
  ps : PSs X st t
  sd : SndS X.K t w
structure AG (e : Expr) (g : TG) (w : WG) (ws : List Nat) : Prop where
  pg : PG X e g
  sd : SndG X.K g w ws
structure AI (tg iter : Expr) (wi : TI) (w : WI) : Prop where
  pi : PI X tg iter wi
  sd : SndI X.K wi w
structure AOp (f : Value → Value → Sem Value) (r : R2) (w : WR) : Prop where
  op : OpR X f r
  sd : SndR X.K r w
structure AIx (r : R2) (w : WR) : Prop where
  ix : IxR X r
  sd : SndR X.K r w
structure ACall (f : Value) (r : List V → Hp → VK → Prop) (w : WL) : Prop where
  cl : CallR X f r
  sd : SndL X.K r w
end
section
variable {K : PySem.W.Frag} {B : Hp} {m : Addr → Prop} {H H' : Hp} {σ : L2.St} {ds ds' ts : List AV} {vs : List V} {x y : AV} {v u : V}
/-- the list that a place owns -/
def oL : AV → Option (List D)
  | .ls l => some l
  | .lb l => some l
  | _ => none
/-- what a place is worth -/
def vl (ds : Sto) : AV → Option D
  | .fz d => some d
  | .ls l => some (.list l)
  | .lb l => some (.list l)
  | .rf i => (oL (ds.getD i .un)).map PyData.list
  | _ => none
def Any : Addr → Prop := fun _ => True
theorem FL.any {Fz : Addr → Prop} {a : Addr} {xs : List V} (h : FL K H Fz a xs) : FL K H Any a xs := by
  rcases h with h | h
  · exact .inl ⟨trivial, h.2⟩
  · exact .inr h
theorem Rep.any {Fz : Addr → Prop} {d : D} {v : V} (h : Rep K H Fz d v) : Rep K H Any d v := Rep.mono (fun _ _ q => q) (fun _ _ q => q.any) _ _ h
theorem Reps.any {Fz : Addr → Prop} {d : List D} {v : List V} (h : Reps K H Fz d v) : Reps K H Any d v := Reps.mono (fun _ _ q => q) (fun _ _ q => q.any) _ _ h
/-- a place's value, as data, whatever may be written later -/
theorem Ok1.vl {G : Gh} {i : Nat} (S : St0 K G H σ ds ts vs) {x : AV} {v : V} {d : D} (h : Ok1 K G H σ ds i x (some v)) (e : SX.vl ds x = some d) : Rep K H Any d v := by
  cases x with
  | un => cases e
  | fz d' =>
    cases e
    obtain ⟨w, e1, r⟩ := h
    cases e1
    exact r.any
  | ls l =>
    cases e
    obtain ⟨a, xs, e1, _, _, _, hx, r⟩ := h
    cases e1
    exact .lst (.inl ⟨trivial, .inl hx⟩) r.any
  | lb l =>
    cases e
    obtain ⟨a, xs, e1, _, _, _, hx, r⟩ := h
    cases e1
    exact .lst (.inl ⟨trivial, .inl hx⟩) r.any
  | dk l => cases e
  | rf j =>
    obtain ⟨w, e1, s, o, hj⟩ := h
    cases e1
    have q := S.sl j hj
    have sg : σ.getD j none = some v := by rw [List.getD_eq_getElem?_getD, s] <;> rfl
    rw [sg] at q
    have e : (oL (ds.getD j .un)).map PyData.list = some d := e
    cases hd : ds.getD j .un with
    | un => rw [hd] at e; cases e
    | fz d => rw [hd] at e; cases e
    | dk l => rw [hd] at e; cases e
    | rf l => rw [hd] at e; cases e
    | ls l =>
      rw [hd] at e q
      cases e
      obtain ⟨a, xs, e1, _, _, _, hx, r⟩ := q
      cases e1
      exact .lst (.inl ⟨trivial, .inl hx⟩) r.any
    | lb l =>
      rw [hd] at e q
      cases e
      obtain ⟨a, xs, e1, _, _, _, hx, r⟩ := q
      cases e1
      exact .lst (.inl ⟨trivial, .inl hx⟩) r.any
theorem Stt.vl1 {d : D} (S : Stt K B m H σ ds (x :: ts) (v :: vs)) (e : vl ds x = some d) : Rep K H Any d v := let ⟨_, _, c⟩ := S; Ok1.vl c c.top e
theorem Stt.vl2 {d : D} (S : Stt K B m H σ ds (y :: x :: ts) (u :: v :: vs)) (e : vl ds x = some d) : Rep K H Any d v := S.pop.vl1 e
/-- the items of a value that is a sequence, as they may be kept -/
def its (ds : Sto) : AV → Option (List D)
  | .fz (.list l) => some l
  | .fz (.tuple l) => some l
  | .ls l => some l
  | .lb l => some l
  | .rf i => oL (ds.getD i .un)
  | _ => none
theorem Ok1.its {G : Gh} {i : Nat} (S : St0 K G H σ ds ts vs) {x : AV} {v : V} {l : List D} (h : Ok1 K G H σ ds i x (some v)) (e : SX.its ds x = some l) : ∃ a xs, v = .ref a ∧ (SqL K H a xs ∨ SqT K H a xs) ∧ Reps K H G.Fz l xs := by
  cases x with
  | un => cases e
  | fz d' =>
    obtain ⟨w, e1, r⟩ := h
    cases e1
    cases d' with
    | list l' =>
      cases e
      obtain ⟨a, xs, q, f, r⟩ := r.lst_inv
      exact ⟨a, xs, q, .inl f.sql, r⟩
    | tuple l' =>
      cases e
      obtain ⟨a, xs, q, f, r⟩ := r.tup_inv
      exact ⟨a, xs, q, .inr f.sqt, r⟩
    | none => cases e
    | bool _ => cases e
    | int _ => cases e
    | str _ => cases e
    | dict _ => cases e
  | ls l =>
    cases e
    obtain ⟨a, xs, e1, _, _, _, hx, r⟩ := h
    cases e1
    exact ⟨a, xs, rfl, .inl (SqL.of hx), r⟩
  | lb l =>
    cases e
    obtain ⟨a, xs, e1, _, _, _, hx, r⟩ := h
    cases e1
    exact ⟨a, xs, rfl, .inl (SqL.of hx), r⟩
  | dk l => cases e
  | rf j =>
    obtain ⟨w, e1, s, o, hj⟩ := h
    cases e1
    have q := S.sl j hj
    have sg : σ.getD j none = some v := by rw [List.getD_eq_getElem?_getD, s] <;> rfl
    rw [sg] at q
    have e : oL (ds.getD j .un) = some l := e
    cases hd : ds.getD j .un with
    | un => rw [hd] at e; cases e
    | fz d => rw [hd] at e; cases e
    | dk l => rw [hd] at e; cases e
    | rf l => rw [hd] at e; cases e
    | ls l =>
      rw [hd] at e q
      cases e
      obtain ⟨a, xs, e1, _, _, _, hx, r⟩ := q
      cases e1
      exact ⟨a, xs, rfl, .inl (SqL.of hx), r⟩
    | lb l =>
      rw [hd] at e q
      cases e
      obtain ⟨a, xs, e1, _, _, _, hx, r⟩ := q
      cases e1
      exact ⟨a, xs, rfl, .inl (SqL.of hx), r⟩
theorem Stt.its1 {l : List D} (S : Stt K B m H σ ds (x :: ts) (v :: vs)) (e : its ds x = some l) : ∃ a xs, v = .ref a ∧ (SqL K H a xs ∨ SqT K H a xs) ∧ xs.length = l.length := by
  obtain ⟨_, _, c⟩ := S
  obtain ⟨a, xs, q, s, r⟩ := Ok1.its c c.top e
  exact ⟨a, xs, q, s, r.length.symm⟩
theorem atI_reps {Fz : Addr → Prop} {l : List D} {xs : List V} {i : Int} {d : D} (r : Reps K H Fz l xs) (h : atI l i = some d) : ∃ v, atI xs i = some v ∧ Rep K H Fz d v := by
  unfold atI at *
  rw [← r.length]
  cases e : ixN l.length i with
  | none => rw [e] at h; cases h
  | some j =>
    rw [e] at h
    exact r.get (i := j) h
/-- an item replaces two temps -/
theorem Stt.item {l : List D} {i : Int} {d : D} (S : Stt K B m H σ ds (.fz (.int i) :: x :: ts) (u :: v :: vs)) (e : its ds x = some l) (ha : atI l i = some d) :
    u = .int i ∧ ∃ a xs z, v = .ref a ∧ (SqL K H a xs ∨ SqT K H a xs) ∧ atI xs i = some z ∧ Stt K B m H σ ds (.fz d :: ts) (z :: vs) := by
  refine ⟨S.topI, ?_⟩
  obtain ⟨f, g, c⟩ := S
  obtain ⟨a, xs, q, s, r⟩ := Ok1.its c.pop c.pop.top e
  obtain ⟨z, hz, rz⟩ := atI_reps r ha
  exact ⟨a, xs, z, q, s, hz, f, g, c.pop.pop.pushF rz⟩
end
end SX
namespace SX
open PySem PySem.Spec PyProof.Rows L2
/-! ### readings and stores, one by one -/
section
variable {K : PySem.W.Frag}
def wVar (i : Nat) : WE := fun ds Q => match ds.getD i .un with
  | .fz d => Q ds (.fz d)
  | .ls _ => Q ds (.rf i)
  | .lb _ => Q ds (.rf i)
  | .dk _ => Q ds (.rf i)
  | _ => False
theorem getD_lt {ds : Sto} {i : Nat} {x : AV} (h : ds.getD i .un = x) (hx : x ≠ .un) : i < ds.length := by
  by_cases q : i < ds.length
  · exact q
  · rw [List.getD_eq_getElem?_getD, List.getElem?_eq_none (by omega)] at h
    exact absurd h.symm hx
theorem getD_some {σ : L2.St} {i : Nat} {v : V} (h : σ.getD i none = some v) : σ[i]? = some (some v) := by
  rw [List.getD_eq_getElem?_getD] at h
  cases e : σ[i]? with
  | none => rw [e] at h; cases h
  | some o =>
    rw [e] at h
    have h : o = some v := h
    rw [h]
theorem snd_var (i : Nat) : SndE K (tVar i) (wVar i) := by
  rintro B m H σ ds ts vs Q R ⟨f, g, S⟩ h k
  unfold wVar at h
  cases e : ds.getD i .un with
  | un => rw [e] at h; exact h.elim
  | rf j => rw [e] at h; exact h.elim
  | fz d =>
    rw [e] at h
    obtain ⟨v, e1, r⟩ : Ok1 K _ H σ ds i (.fz d) (σ.getD i none) := by rw [← e]; exact S.sl i (getD_lt e (fun q => by cases q))
    exact ⟨v, getD_some e1, k v H ds (.fz d) ⟨f, g, S.pushF r⟩ h⟩
  | ls l =>
    rw [e] at h
    have hi := getD_lt e (fun q => by cases q)
    obtain ⟨a, xs, e1, _⟩ : Ok1 K _ H σ ds i (.ls l) (σ.getD i none) := by rw [← e]; exact S.sl i hi
    exact ⟨_, getD_some e1, k _ H ds (.rf i) ⟨f, g, S.push ⟨_, rfl, getD_some e1, by rw [e]; rfl, hi⟩⟩ h⟩
  | lb l =>
    rw [e] at h
    have hi := getD_lt e (fun q => by cases q)
    obtain ⟨a, xs, e1, _⟩ : Ok1 K _ H σ ds i (.lb l) (σ.getD i none) := by rw [← e]; exact S.sl i hi
    exact ⟨_, getD_some e1, k _ H ds (.rf i) ⟨f, g, S.push ⟨_, rfl, getD_some e1, by rw [e]; rfl, hi⟩⟩ h⟩
  | dk l =>
    rw [e] at h
    have hi := getD_lt e (fun q => by cases q)
    obtain ⟨a, xs, e1, _⟩ : Ok1 K _ H σ ds i (.dk l) (σ.getD i none) := by rw [← e]; exact S.sl i hi
    exact ⟨_, getD_some e1, k _ H ds (.rf i) ⟨f, g, S.push ⟨_, rfl, getD_some e1, by rw [e]; rfl, hi⟩⟩ h⟩
def wC (d : D) : WE := fun ds Q => Q ds (.fz d)
theorem snd_int (i : Int) : SndE K (tC (.int i)) (wC (.int i)) := fun B m H σ ds ts vs Q R S h k => k _ H ds _ (S.pushInt i) h
theorem snd_bl (i : Bool) : SndE K (tC (.bl i)) (wC (.bool i)) := fun B m H σ ds ts vs Q R S h k => k _ H ds _ (S.pushBl i) h
theorem snd_str (i : Str) : SndE K (tC (.str i)) (wC (.str i)) := fun B m H σ ds ts vs Q R S h k => k _ H ds _ (S.pushStr i) h
theorem snd_non : SndE K (tC .non) (wC .none) := fun B m H σ ds ts vs Q R S h k => k _ H ds _ S.pushNon h
/-! operators -/
def wOp (wr : WR) (wa wb : WE) : WE := fun ds Q => wa ds fun ds1 x => wb ds1 fun ds2 y => wr x y ds2 Q
theorem snd_op {r : R2} {wr : WR} {ta tb : TE} {wa wb : WE} (hr : SndR K r wr) (ha : SndE K ta wa) (hb : SndE K tb wb) : SndE K (tOp r ta tb) (wOp wr wa wb) :=
  fun B m H σ ds ts vs Q R S h k => ha _ _ _ _ _ _ _ _ _ S h fun v H1 ds1 x S1 h1 => hb _ _ _ _ _ _ _ _ _ S1 h1 fun u H2 ds2 y S2 h2 => hr _ _ _ _ _ _ _ _ _ _ _ _ _ S2 h2 k
def wUn (wr : WU) (wa : WE) : WE := fun ds Q => wa ds fun ds1 x => wr x ds1 Q
theorem snd_un {r : V → Hp → VK → Prop} {wr : WU} {ta : TE} {wa : WE} (hr : SndU K r wr) (ha : SndE K ta wa) : SndE K (tUn r ta) (wUn wr wa) :=
  fun B m H σ ds ts vs Q R S h k => ha _ _ _ _ _ _ _ _ _ S h fun v H1 ds1 x S1 h1 => hr _ _ _ _ _ _ _ _ _ _ _ S1 h1 k
def wII (g : Int → Int → Int) : WR := fun x y ds Q => match x, y with
  | .fz (.int i), .fz (.int j) => Q ds (.fz (.int (g i j)))
  | _, _ => False
theorem snd_II {g : Int → Int → Int} : SndR K (rI0 fun i j => .int (g i j)) (wII g) := by
  intro B m H σ ds ts vs x y v u Q R S h k
  unfold wII at h
  split at h
  · rename_i i j
    exact ⟨i, j, S.pop.topI, S.topI, k _ _ _ _ (S.pop.pop.pushInt _) h⟩
  · exact h.elim
def wIC (C : Int → Int → Prop) (g : Int → Int → Int) : WR := fun x y ds Q => match x, y with
  | .fz (.int i), .fz (.int j) => C i j ∧ Q ds (.fz (.int (g i j)))
  | _, _ => False
theorem snd_IC {C : Int → Int → Prop} {g : Int → Int → Int} : SndR K (rI C fun i j => .int (g i j)) (wIC C g) := by
  intro B m H σ ds ts vs x y v u Q R S h k
  unfold wIC at h
  split at h
  · rename_i i j
    exact ⟨i, j, S.pop.topI, S.topI, h.1, k _ _ _ _ (S.pop.pop.pushInt _) h.2⟩
  · exact h.elim
def wIB (g : Int → Int → Bool) : WR := fun x y ds Q => match x, y with
  | .fz (.int i), .fz (.int j) => Q ds (.fz (.bool (g i j)))
  | _, _ => False
theorem snd_IB {g : Int → Int → Bool} : SndR K (rI0 fun i j => .bl (g i j)) (wIB g) := by
  intro B m H σ ds ts vs x y v u Q R S h k
  unfold wIB at h
  split at h
  · rename_i i j
    exact ⟨i, j, S.pop.topI, S.topI, k _ _ _ _ (S.pop.pop.pushBl _) h⟩
  · exact h.elim
def wNeg : WU := fun x ds Q => match x with
  | .fz (.int i) => Q ds (.fz (.int (-i)))
  | _ => False
theorem snd_neg : SndU K (rU fun i => .int (-i)) wNeg := by
  intro B m H σ ds ts vs x v Q R S h k
  unfold wNeg at h
  split at h
  · rename_i i
    exact ⟨i, S.topI, k _ _ _ _ (S.pop.pushInt _) h⟩
  · exact h.elim
/-- == of two ints, of two texts -/
def wEqI (neg : Bool) : WR := fun x y ds Q => match x, y with
  | .fz (.int i), .fz (.int j) => Q ds (.fz (.bool (if neg then !decide (i = j) else decide (i = j))))
  | .fz (.str i), .fz (.str j) => Q ds (.fz (.bool (if neg then !decide (i = j) else decide (i = j))))
  | _, _ => False
theorem dec_int2 (i j : Int) : decide (V.int i = V.int j) = decide (i = j) := by simp
theorem dec_str2 (i j : Str) : decide (V.str i = V.str j) = decide (i = j) := by simp
theorem snd_eqI : SndR K rEq (wEqI false) := by
  intro B m H σ ds ts vs x y v u Q R S h k
  unfold wEqI at h
  split at h
  · rename_i i j
    have e1 := S.topI
    have e2 := S.pop.topI
    subst e1 e2
    exact ⟨rfl, by rw [dec_int2]; exact k _ _ _ _ (S.pop.pop.pushBl _) h⟩
  · rename_i i j
    have e1 := S.topS
    have e2 := S.pop.topS
    subst e1 e2
    exact ⟨rfl, by rw [dec_str2]; exact k _ _ _ _ (S.pop.pop.pushBl _) h⟩
  · exact h.elim
theorem snd_neI : SndR K rNe (wEqI true) := by
  intro B m H σ ds ts vs x y v u Q R S h k
  unfold wEqI at h
  split at h
  · rename_i i j
    have e1 := S.topI
    have e2 := S.pop.topI
    subst e1 e2
    exact ⟨rfl, by rw [dec_int2]; exact k _ _ _ _ (S.pop.pop.pushBl _) h⟩
  · rename_i i j
    have e1 := S.topS
    have e2 := S.pop.topS
    subst e1 e2
    exact ⟨rfl, by rw [dec_str2]; exact k _ _ _ _ (S.pop.pop.pushBl _) h⟩
  · exact h.elim
/-- == of data -/
def wEqD (neg : Bool) : WR := fun x y ds Q => ∃ d e, vl ds x = some d ∧ vl ds y = some e ∧ SeqAt.shaped d = true ∧ SeqAt.shaped e = true ∧ Q ds (.fz (.bool (if neg then !PyData.eqv d e else PyData.eqv d e)))
theorem snd_eqD : SndR K (rEqD K) (wEqD false) := by
  rintro B m H σ ds ts vs x y v u Q R S ⟨d, e, h1, h2, h3, h4, h⟩ k
  exact ⟨d, e, (S.vl2 h1).dp, (S.vl1 h2).dp, h3, h4, k _ _ _ _ (S.pop.pop.pushBl _) h⟩
theorem snd_neD : SndR K (rNeD K) (wEqD true) := by
  rintro B m H σ ds ts vs x y v u Q R S ⟨d, e, h1, h2, h3, h4, h⟩ k
  exact ⟨d, e, (S.vl2 h1).dp, (S.vl1 h2).dp, h3, h4, k _ _ _ _ (S.pop.pop.pushBl _) h⟩
/-- is None -/
def isN : AV → Option Bool
  | .fz d => match d with
    | .none => some true
    | _ => some false
  | .ls _ => some false
  | .lb _ => some false
  | .dk _ => some false
  | .rf _ => some false
  | .un => none
theorem isN_ok {B : Hp} {m : Addr → Prop} {H : Hp} {σ : L2.St} {ds ts : List AV} {vs : List V} {x : AV} {v : V} {b : Bool} (S : Stt K B m H σ ds (x :: ts) (v :: vs)) (h : isN x = some b) : decide (v = .non) = b := by
  obtain ⟨f, g, c⟩ := S
  have q := c.top
  cases x with
  | un => cases h
  | fz d =>
    obtain ⟨w, e, r⟩ := q
    cases e
    cases r <;> (cases h; rfl)
  | ls l =>
    obtain ⟨a, xs, e, _⟩ := q
    cases e; cases h; rfl
  | lb l =>
    obtain ⟨a, xs, e, _⟩ := q
    cases e; cases h; rfl
  | dk l =>
    obtain ⟨a, xs, e, _⟩ := q
    cases e; cases h; rfl
  | rf j =>
    obtain ⟨w, e, s, o, hj⟩ := q
    cases e
    have q := c.sl j hj
    have sg : σ.getD j none = some v := by rw [List.getD_eq_getElem?_getD, s] <;> rfl
    rw [sg] at q
    cases h
    cases hd : ds.getD j .un with
    | un => rw [hd] at o; cases o
    | fz d => rw [hd] at o; cases o
    | rf d => rw [hd] at o; cases o
    | ls l =>
      rw [hd] at q
      obtain ⟨a, xs, e, _⟩ := q
      cases e; rfl
    | lb l =>
      rw [hd] at q
      obtain ⟨a, xs, e, _⟩ := q
      cases e; rfl
    | dk l =>
      rw [hd] at q
      obtain ⟨a, xs, e, _⟩ := q
      cases e; rfl
def wIsN (neg : Bool) : WR := fun x y ds Q => match y, isN x with
  | .fz .none, some b => Q ds (.fz (.bool (if neg then !b else b)))
  | _, _ => False
theorem snd_isN : SndR K (fun x y H Q => y = .non ∧ Q (.bl (decide (x = .non))) H) (wIsN false) := by
  intro B m H σ ds ts vs x y v u Q R S h k
  unfold wIsN at h
  split at h
  · rename_i b hb
    obtain ⟨f, g, c⟩ := id S
    obtain ⟨w, e, r⟩ := c.top
    cases e
    have e := isN_ok S.pop hb
    refine ⟨r.non_inv, ?_⟩
    rw [e]
    exact k _ _ _ _ (S.pop.pop.pushBl _) h
  · exact h.elim
theorem snd_notN : SndR K (fun x y H Q => y = .non ∧ Q (.bl (!decide (x = .non))) H) (wIsN true) := by
  intro B m H σ ds ts vs x y v u Q R S h k
  unfold wIsN at h
  split at h
  · rename_i b hb
    obtain ⟨f, g, c⟩ := id S
    obtain ⟨w, e, r⟩ := c.top
    cases e
    have e := isN_ok S.pop hb
    refine ⟨r.non_inv, ?_⟩
    rw [e]
    exact k _ _ _ _ (S.pop.pop.pushBl _) h
  · exact h.elim
/-! and, or, not, if -/
def wAndV (wa wb : WE) : WE := fun ds Q => wa ds fun ds1 x => match x with
  | .fz (.bool c) => if c = true then wb ds1 Q else Q ds1 (.fz (.bool false))
  | _ => False
theorem snd_andV {ta tb : TE} {wa wb : WE} (ha : SndE K ta wa) (hb : SndE K tb wb) : SndE K (tAndV ta tb) (wAndV wa wb) := fun B m H σ ds ts vs Q R S h k =>
  ha _ _ _ _ _ _ _ _ _ S h fun v H1 ds1 x S1 h1 => by
    split at h1
    · rename_i c
      have e := S1.topB
      subst e
      refine ⟨c, rfl, ?_⟩
      cases c with
      | true => exact hb _ _ _ _ _ _ _ _ _ S1.pop h1 k
      | false => exact k _ _ _ _ (S1.pop.pushBl _) h1
    · exact h1.elim
def wOrV (wa wb : WE) : WE := fun ds Q => wa ds fun ds1 x => match x with
  | .fz (.bool c) => if c = true then Q ds1 (.fz (.bool true)) else wb ds1 Q
  | _ => False
theorem snd_orV {ta tb : TE} {wa wb : WE} (ha : SndE K ta wa) (hb : SndE K tb wb) : SndE K (tOrV ta tb) (wOrV wa wb) := fun B m H σ ds ts vs Q R S h k =>
  ha _ _ _ _ _ _ _ _ _ S h fun v H1 ds1 x S1 h1 => by
    split at h1
    · rename_i c
      have e := S1.topB
      subst e
      refine ⟨c, rfl, ?_⟩
      cases c with
      | true => exact k _ _ _ _ (S1.pop.pushBl _) h1
      | false => exact hb _ _ _ _ _ _ _ _ _ S1.pop h1 k
    · exact h1.elim
def wNotV (wa : WE) : WE := fun ds Q => wa ds fun ds1 x => match x with
  | .fz (.bool c) => Q ds1 (.fz (.bool (!c)))
  | _ => False
theorem snd_notV {ta : TE} {wa : WE} (ha : SndE K ta wa) : SndE K (tNotV ta) (wNotV wa) := fun B m H σ ds ts vs Q R S h k =>
  ha _ _ _ _ _ _ _ _ _ S h fun v H1 ds1 x S1 h1 => by
    split at h1
    · rename_i c
      have e := S1.topB
      subst e
      exact ⟨c, rfl, k _ _ _ _ (S1.pop.pushBl _) h1⟩
    · exact h1.elim
def wTest (wa : WE) : WT := fun ds Q => wa ds fun ds1 x => match x with
  | .fz (.bool c) => Q ds1 c
  | _ => False
theorem snd_test {ta : TE} {wa : WE} (ha : SndE K ta wa) : SndT K (tTest ta) (wTest wa) := fun B m H σ ds ts vs Q R S h k =>
  ha _ _ _ _ _ _ _ _ _ S h fun v H1 ds1 x S1 h1 => by
    split at h1
    · rename_i c
      have e := S1.topB
      subst e
      exact ⟨c, rfl, k _ _ _ S1.pop h1⟩
    · exact h1.elim
theorem snd_tB {ta : TE} {wa : WE} (ha : SndE K ta wa) : SndT K (tB ta) (wTest wa) := snd_test ha
def wAnd (wa wb : WT) : WT := fun ds Q => wa ds fun ds1 c => if c = true then wb ds1 Q else Q ds1 false
theorem snd_and {ta tb : TT} {wa wb : WT} (ha : SndT K ta wa) (hb : SndT K tb wb) : SndT K (tAnd ta tb) (wAnd wa wb) := fun B m H σ ds ts vs Q R S h k =>
  ha _ _ _ _ _ _ _ _ _ S h fun c H1 ds1 S1 h1 => by
    cases c with
    | true => exact hb _ _ _ _ _ _ _ _ _ S1 h1 k
    | false => exact k _ _ _ S1 h1
def wOr (wa wb : WT) : WT := fun ds Q => wa ds fun ds1 c => if c = true then Q ds1 true else wb ds1 Q
theorem snd_or {ta tb : TT} {wa wb : WT} (ha : SndT K ta wa) (hb : SndT K tb wb) : SndT K (tOr ta tb) (wOr wa wb) := fun B m H σ ds ts vs Q R S h k =>
  ha _ _ _ _ _ _ _ _ _ S h fun c H1 ds1 S1 h1 => by
    cases c with
    | true => exact k _ _ _ S1 h1
    | false => exact hb _ _ _ _ _ _ _ _ _ S1 h1 k
def wNot (wa : WT) : WT := fun ds Q => wa ds fun ds1 c => Q ds1 (!c)
theorem snd_not {ta : TT} {wa : WT} (ha : SndT K ta wa) : SndT K (tNot ta) (wNot wa) := fun B m H σ ds ts vs Q R S h k =>
  ha _ _ _ _ _ _ _ _ _ S h fun c H1 ds1 S1 h1 => k _ _ _ S1 h1
def wIfE (wt : WT) (wa wb : WE) : WE := fun ds Q => wt ds fun ds1 c => if c = true then wa ds1 Q else wb ds1 Q
theorem snd_ifE {tt : TT} {ta tb : TE} {wt : WT} {wa wb : WE} (ht : SndT K tt wt) (ha : SndE K ta wa) (hb : SndE K tb wb) : SndE K (tIf tt ta tb) (wIfE wt wa wb) := fun B m H σ ds ts vs Q R S h k =>
  ht _ _ _ _ _ _ _ _ _ S h fun c H1 ds1 S1 h1 => by
    cases c with
    | true => exact ha _ _ _ _ _ _ _ _ _ S1 h1 k
    | false => exact hb _ _ _ _ _ _ _ _ _ S1 h1 k
/-- a < b < c -/
def wChain (wr wr' : WR) (wa wb wc : WE) : WE := fun ds Q => wa ds fun ds1 x => wb ds1 fun ds2 y => wr x y ds2 fun ds3 z => match z with
  | .fz (.bool k) => if k = true then wc ds3 fun ds4 w => wr' y w ds4 Q else Q ds3 (.fz (.bool false))
  | _ => False
/-! arguments -/
def wNil : WA := fun ds Q => Q ds []
def wCons (wa : WE) (wr : WA) : WA := fun ds Q => wa ds fun ds1 x => wr ds1 fun ds2 xs => Q ds2 (x :: xs)
theorem snd_nil : SndA K tNil wNil := fun B m H σ ds ts vs Q R S h k => k [] H ds [] S rfl h
theorem snd_cons {ta : TE} {tr : TA} {wa : WE} {wr : WA} (ha : SndE K ta wa) (hr : SndA K tr wr) : SndA K (tCons ta tr) (wCons wa wr) := fun B m H σ ds ts vs Q R S h k =>
  ha _ _ _ _ _ _ _ _ _ S h fun v H1 ds1 x S1 h1 => hr _ _ _ _ _ _ _ _ _ S1 h1 fun us H2 ds2 xs S2 hl h2 => k (v :: us) H2 ds2 (x :: xs) (by
    rw [List.reverse_cons, List.reverse_cons, List.append_assoc, List.append_assoc]
    exact S2) (by simp [hl]) h2
def wCB (wr : WL) (wa : WA) : WE := fun ds Q => wa ds fun ds1 xs => wr xs ds1 Q
theorem snd_CB {r : List V → Hp → VK → Prop} {wr : WL} {ta : TA} {wa : WA} (hr : SndL K r wr) (ha : SndA K ta wa) : SndE K (tCB r ta) (wCB wr wa) := fun B m H σ ds ts vs Q R S h k =>
  ha _ _ _ _ _ _ _ _ _ S h fun us H1 ds1 xs S1 hl h1 => hr _ _ _ _ _ _ _ _ _ _ _ hl S1 h1 k
end
end SX
namespace SX
open PySem PySem.Spec PyProof.Rows L2
section
variable {K : PySem.W.Frag} {G : Gh} {H H' : Hp} {σ : L2.St} {ds ds' ts : List AV} {vs : List V}
theorem getD_set {ds : Sto} {i j : Nat} {x : AV} (hi : i < ds.length) : (ds.set i x).getD j .un = if j = i then x else ds.getD j .un := by
  rw [List.getD_eq_getElem?_getD, List.getD_eq_getElem?_getD]
  by_cases e : j = i
  · subst e
    rw [List.getElem?_set_self hi, if_pos rfl] <;> rfl
  · rw [List.getElem?_set_ne (Ne.symm e), if_neg e]
theorem getDs_set {σ : L2.St} {i j : Nat} {x : Option V} (hi : i < σ.length) : (σ.set i x).getD j none = if j = i then x else σ.getD j none := by
  rw [List.getD_eq_getElem?_getD, List.getD_eq_getElem?_getD]
  by_cases e : j = i
  · subst e
    rw [List.getElem?_set_self hi, if_pos rfl] <;> rfl
  · rw [List.getElem?_set_ne (Ne.symm e), if_neg e]
/-- the place of a list's owner with another list -/
def upL : AV → List D → AV
  | .lb _, l => .lb l
  | _, l => .ls l
theorem upL_own {x : AV} {l l' : List D} (h : oL x = some l) : (upL x l').own = true ∧ (∀ j, upL x l' ≠ .rf j) ∧ oL (upL x l') = some l' := by
  cases x with
  | ls _ => exact ⟨rfl, (fun j q => nomatch q), rfl⟩
  | lb _ => exact ⟨rfl, (fun j q => nomatch q), rfl⟩
  | un => cases h
  | fz _ => cases h
  | dk _ => cases h
  | rf _ => cases h
/-- a slot's own list, as it stands -/
theorem St0.list (S : St0 K G H σ ds ts vs) {i : Nat} {l : List D} (h : oL (ds.getD i .un) = some l) :
    ∃ a xs, i < ds.length ∧ σ[i]? = some (some (.ref a)) ∧ ¬ G.Fz a ∧ G.g a = i ∧ (G.B a = none ∨ G.m a) ∧ H a = some (.lst xs) ∧ Reps K H G.Fz l xs := by
  cases e : ds.getD i .un with
  | ls l' =>
    rw [e] at h
    cases h
    have hi := getD_lt e (fun q => by cases q)
    obtain ⟨a, xs, e1, z, gi, b, hx, r⟩ : Ok1 K _ H σ ds i (.ls l) (σ.getD i none) := by rw [← e]; exact S.sl i hi
    exact ⟨a, xs, hi, getD_some e1, z, gi, .inl b.1, hx, r⟩
  | lb l' =>
    rw [e] at h
    cases h
    have hi := getD_lt e (fun q => by cases q)
    obtain ⟨a, xs, e1, z, gi, b, hx, r⟩ : Ok1 K _ H σ ds i (.lb l) (σ.getD i none) := by rw [← e]; exact S.sl i hi
    exact ⟨a, xs, hi, getD_some e1, z, gi, .inr b, hx, r⟩
  | un => rw [e] at h; cases h
  | fz _ => rw [e] at h; cases h
  | dk _ => rw [e] at h; cases h
  | rf _ => rw [e] at h; cases h
/-- the i-th slot's own list is written -/
theorem St0.write (S : St0 K G H σ ds ts vs) {i : Nat} {l l' : List D} {a : Addr} {xs' : List V} (h : oL (ds.getD i .un) = some l) (ha : σ[i]? = some (some (.ref a)))
    (hk : ∀ b o, b ≠ a → H b = some o → H' b = some o) (hx : H' a = some (.lst xs')) (r : Reps K H' G.Fz l' xs') : St0 K G H' σ (ds.set i (upL (ds.getD i .un) l')) ts vs := by
  obtain ⟨a', xs, hi, e1, z, gi, bm, hx0, _⟩ := S.list h
  rw [ha] at e1
  cases e1
  obtain ⟨u1, u2, u3⟩ := upL_own (l' := l') h
  have gg : ∀ j, (ds.set i (upL (ds.getD i .un) l')).getD j .un = if j = i then upL (ds.getD i .un) l' else ds.getD j .un := fun j => getD_set hi
  have key := S.move (H' := H') (Fz' := G.Fz) (g' := G.g) (ds' := ds.set i (upL (ds.getD i .un) l')) (fun b => b = a) (fun b o w q => hk b o w q)
    (fun b w => by subst w; exact ⟨z, _, hx0, trivial, bm⟩) (fun b q => by
      by_cases e : b = a
      · exact ⟨xs', by rw [e]; exact hx⟩
      · obtain ⟨ys, q⟩ := S.mm b q
        exact ⟨ys, hk _ _ e q⟩) (fun _ q => q) (fun b q => by
      by_cases e : b = a
      · exact ⟨_, by rw [e]; exact hx⟩
      · obtain ⟨o, q⟩ := S.fz b q
        exact ⟨o, hk _ _ e q⟩) S.mz (fun j q => by
      rw [gg j]
      split
      · exact u1
      · exact q) (by rw [List.length_set]) (fun j k => by
      rw [gg j]
      split
      · exact u2 k
      · exact S.nr j k) (fun j hj => by
      by_cases e : j = i
      · subst e
        left
        rw [gg j, if_pos rfl]
        have sg : σ.getD j none = some (.ref a) := by rw [List.getD_eq_getElem?_getD, ha] <;> rfl
        have q := S.sl j hj
        rw [sg] at q ⊢
        cases e : ds.getD j .un with
        | ls l0 =>
          rw [e] at q
          obtain ⟨a2, xs2, e1, z, gi, b, hx2, _⟩ := q
          cases e1
          exact ⟨a, xs', rfl, z, gi, b, hx, r⟩
        | lb l0 =>
          rw [e] at q
          obtain ⟨a2, xs2, e1, z, gi, b, hx2, _⟩ := q
          cases e1
          exact ⟨a, xs', rfl, z, gi, b, hx, r⟩
        | un => rw [e] at h; cases h
        | fz _ => rw [e] at h; cases h
        | dk _ => rw [e] at h; cases h
        | rf _ => rw [e] at h; cases h
      · right
        rw [gg j, if_neg e]
        refine ⟨rfl, fun b ho nz gb => ⟨fun q => e ?_, nz, gb⟩⟩
        rw [← gb, q]
        exact gi) (fun j hj _ b ho nz gb => ⟨fun q => by
      rw [q, gi] at gb
      omega, nz, gb⟩)
  exact key
/-- the top temp's own list is written -/
theorem St0.writeT {l l' : List D} {v : V} {a : Addr} {xs' : List V} (S : St0 K G H σ ds (.ls l :: ts) (.ref a :: vs))
    (hk : ∀ b o, b ≠ a → H b = some o → H' b = some o) (hx : H' a = some (.lst xs')) (r : Reps K H' G.Fz l' xs') : St0 K G H' σ ds (.ls l' :: ts) (.ref a :: vs) := by
  obtain ⟨a2, xs2, e1, z, gi, bb, hx2, _⟩ := S.top
  cases e1
  have key := S.pop.move (H' := H') (Fz' := G.Fz) (g' := G.g) (ds' := ds) (fun b => b = a) (fun b o w q => hk b o w q)
    (fun b w => by subst w; exact ⟨z, _, hx2, trivial, .inl bb.1⟩) (fun b q => by
      by_cases e : b = a
      · exact ⟨xs', by rw [e]; exact hx⟩
      · obtain ⟨ys, q⟩ := S.mm b q
        exact ⟨ys, hk _ _ e q⟩) (fun _ q => q) (fun b q => by
      by_cases e : b = a
      · exact ⟨_, by rw [e]; exact hx⟩
      · obtain ⟨o, q⟩ := S.fz b q
        exact ⟨o, hk _ _ e q⟩) S.mz (fun _ q => q) rfl S.nr (fun j hj => .inr ⟨rfl, fun b ho nz gb => ⟨fun q => by
      rw [q, gi] at gb
      omega, nz, gb⟩⟩) (fun j _ hj b ho nz gb => ⟨fun q => by
      rw [q, gi] at gb
      omega, nz, gb⟩)
  exact St0.push key ⟨a, xs', rfl, z, gi, bb, hx, r⟩
/-- the top temp, a list of one's own, is never written from now on -/
theorem St0.freezeT {l : List D} {v : V} (S : St0 K G H σ ds (.ls l :: ts) (v :: vs)) : ∃ Fz', St0 K { G with Fz := Fz' } H σ ds (.fz (.list l) :: ts) (v :: vs) := by
  obtain ⟨a, xs, e1, z, gi, b, hx, r⟩ := S.top
  cases e1
  have hT : ∀ b xs, FL K H G.Fz b xs → FL K H (fun c => G.Fz c ∨ c = a) b xs := fun c ys q => by
    rcases q with q | q
    · exact .inl ⟨.inl q.1, q.2⟩
    · exact .inr q
  refine ⟨fun c => G.Fz c ∨ c = a, ?_⟩
  have key := S.pop.move (H' := H) (Fz' := fun c => G.Fz c ∨ c = a) (g' := G.g) (ds' := ds) (fun _ => False) (fun b o _ q => q) (fun _ w => w.elim) S.mm (fun _ q => .inl q) (fun c q => by
      rcases q with q | q
      · exact S.fz c q
      · exact ⟨_, by rw [q]; exact hx⟩) (fun c q => by
      rintro (w | w)
      · exact S.mz c q w
      · rw [w] at q
        exact b.2 q) (fun _ q => q) rfl S.nr (fun j hj => .inr ⟨rfl, fun c ho nz gb => ⟨id, by
      rintro (w | w)
      · exact nz w
      · rw [w, gi] at gb
        omega, gb⟩⟩) (fun j _ hj c ho nz gb => ⟨id, by
      rintro (w | w)
      · exact nz w
      · rw [w, gi] at gb
        omega, gb⟩)
  exact St0.push key ⟨_, rfl, .lst (.inl ⟨.inr rfl, .inl hx⟩) (Reps.mono (fun _ _ q => q) hT _ _ r)⟩
theorem TOk.noRf_set {i : Nat} {o : Option V} {x : AV} : ∀ {ts : List AV} {vs : List V}, i < ds.length → noRf i ts → TOk K G H σ ds ts vs → TOk K G H (σ.set i o) (ds.set i x) ts vs
  | [], [], _, _, _ => trivial
  | y :: ts, v :: vs, hi, hn, h => by
    refine ⟨?_, TOk.noRf_set hi (fun z hz => hn z (List.mem_cons_of_mem _ hz)) h.2⟩
    have q := h.1
    rw [List.length_set]
    cases y with
    | un => trivial
    | fz d => exact q
    | ls l => exact q
    | lb l => exact q
    | dk l => exact q
    | rf j =>
      obtain ⟨w, e, s, o, l⟩ := q
      have ne : j ≠ i := fun e => hn _ List.mem_cons_self (by rw [e])
      exact ⟨w, e, by rw [List.getElem?_set_ne (Ne.symm ne)]; exact s, by rw [getD_set hi, if_neg ne]; exact o, by rw [List.length_set]; exact l⟩
  | [], _ :: _, _, _, h => h.elim
  | _ :: _, [], _, _, h => h.elim
/-- the temps after a store, the owner's index told anew -/
theorem Ok1.stored {x : AV} {v : V} {i k : Nat} {g' : Addr → Nat} (hx : ∀ j, x ≠ .rf j) (hg : x.own = true → ∀ a, v = .ref a → g' a = k) (h : Ok1 K G H σ ds i x (some v)) {σ' : L2.St} {ds' : Sto} : Ok1 K { G with g := g' } H σ' ds' k x (some v) := by
  cases x with
  | un => trivial
  | fz d => exact h
  | ls l =>
    obtain ⟨a, xs, e1, z, gi, b, hx, r⟩ := h
    cases e1
    exact ⟨a, xs, rfl, z, hg rfl a rfl, b, hx, r⟩
  | lb l =>
    obtain ⟨a, xs, e1, z, gi, b, hx, r⟩ := h
    cases e1
    exact ⟨a, xs, rfl, z, hg rfl a rfl, b, hx, r⟩
  | dk l =>
    obtain ⟨a, xs, e1, z, gi, b, hx, r⟩ := h
    cases e1
    exact ⟨a, xs, rfl, z, hg rfl a rfl, b, hx, r⟩
  | rf j => exact absurd rfl (hx j)
/-- the top temp goes into the i-th slot -/
theorem St0.store {x : AV} {v : V} {i : Nat} (S : St0 K G H σ ds (x :: ts) (v :: vs)) (hx : ∀ j, x ≠ .rf j) (hi : i < ds.length) (hn : noRf i ts) :
    ∃ g', St0 K { G with g := g' } H (σ.set i (some v)) (ds.set i x) ts vs := by
  let idx := ds.length + ts.length
  have iσ : i < σ.length := by rw [S.len]; exact hi
  refine ⟨fun a => if G.g a = idx ∧ v = .ref a then i else G.g a, ?_⟩
  have hT : ∀ j, j ≠ idx → ∀ a, (∃ o, H a = some o) → ¬ G.Fz a → G.g a = j → ¬ (fun _ => False) a ∧ ¬ G.Fz a ∧ (fun a => if G.g a = idx ∧ v = .ref a then i else G.g a) a = j := fun j hj a ho nz gj => ⟨id, nz, by
    show (if G.g a = idx ∧ v = .ref a then i else G.g a) = j
    rw [if_neg (fun q => hj (by rw [← gj]; exact q.1))]
    exact gj⟩
  have key := S.pop.move (H' := H) (Fz' := G.Fz) (g' := fun a => if G.g a = idx ∧ v = .ref a then i else G.g a) (ds' := ds) (fun _ => False) (fun b o _ q => q) (fun _ w => w.elim) S.mm (fun _ q => q) S.fz S.mz (fun _ q => q) rfl S.nr
    (fun j hj => .inr ⟨rfl, hT j (by omega)⟩) (fun j _ hj => hT j (by omega))
  have top := S.top
  refine ⟨key.fr, key.mm, key.mb, key.mz, key.fz, by rw [List.length_set, List.length_set]; exact key.len, fun j k => ?_, fun j hj => ?_, TOk.noRf_set hi hn key.tp⟩
  · rw [getD_set hi]
    split
    · exact hx k
    · exact key.nr j k
  · rw [getD_set hi, getDs_set iσ]
    by_cases e : j = i
    · rw [if_pos e, if_pos e, e]
      refine top.stored hx (fun ow a q => ?_)
      refine if_pos (c := G.g a = idx ∧ v = .ref a) ⟨?_, q⟩
      subst q
      cases x with
      | un => cases ow
      | fz d => cases ow
      | ls l =>
        obtain ⟨a2, xs, e1, z, gi, _⟩ := top
        cases e1
        exact gi
      | lb l =>
        obtain ⟨a2, xs, e1, z, gi, _⟩ := top
        cases e1
        exact gi
      | dk l =>
        obtain ⟨a2, xs, e1, z, gi, _⟩ := top
        cases e1
        exact gi
      | rf j => exact absurd rfl (hx j)
    · rw [if_neg e, if_neg e]
      rw [List.length_set] at hj
      have q := key.sl j hj
      cases hd : ds.getD j .un with
      | un => trivial
      | fz d => rw [hd] at q; exact q
      | ls l => rw [hd] at q; exact q
      | lb l => rw [hd] at q; exact q
      | dk l => rw [hd] at q; exact q
      | rf k => exact absurd hd (S.nr j k)
end
end SX
namespace SX
open PySem PySem.Spec PyProof.Rows L2
section
variable {K : PySem.W.Frag}
theorem frzd.noRf {ts : List AV} (h : frzd ts) (i : Nat) : noRf i ts := fun x hx e => by
  obtain ⟨d, q⟩ := h x hx
  rw [q] at e; cases e
theorem frzd.cons {ts : List AV} (h : frzd ts) (d : D) : frzd (.fz d :: ts) := fun x hx => by
  rcases List.mem_cons.mp hx with e | e
  · exact ⟨d, e⟩
  · exact h x e
theorem Stt.top {B : Hp} {m : Addr → Prop} {H : Hp} {σ : L2.St} {ds ts : List AV} {vs : List V} {d : D} {v : V} (S : Stt K B m H σ ds (.fz d :: ts) (v :: vs)) : ∃ Fz g, St0 K ⟨B, m, Fz, g⟩ H σ ds (.fz d :: ts) (v :: vs) ∧ Rep K H Fz d v := by
  obtain ⟨f, g, c⟩ := S
  obtain ⟨w, e, r⟩ := c.top
  cases e
  exact ⟨f, g, c, r⟩
/-! lists of arguments -/
def fzs : List AV → Option (List D)
  | [] => some []
  | .fz d :: r => (fzs r).map (d :: ·)
  | _ :: _ => none
theorem fzs_map : ∀ {xs : List AV} {l : List D}, fzs xs = some l → xs = l.map AV.fz
  | [], l, h => by cases h; rfl
  | .fz d :: r, l, h => by
    cases e : fzs r with
    | none =>
      have h : (fzs r).map (d :: ·) = some l := h
      rw [e] at h; cases h
    | some q =>
      have h : (fzs r).map (d :: ·) = some l := h
      rw [e] at h
      cases h
      rw [fzs_map e]; rfl
  | .un :: _, _, h => by cases h
  | .ls _ :: _, _, h => by cases h
  | .lb _ :: _, _, h => by cases h
  | .dk _ :: _, _, h => by cases h
  | .rf _ :: _, _, h => by cases h
theorem St0.args {G : Gh} {H : Hp} {σ : L2.St} {ds : Sto} : ∀ {l : List D} {us : List V} {ts : List AV} {vs : List V}, us.length = l.length → St0 K G H σ ds ((l.map AV.fz).reverse ++ ts) (us.reverse ++ vs) → Reps K H G.Fz l us ∧ St0 K G H σ ds ts vs
  | [], [], ts, vs, _, S => ⟨.nil, S⟩
  | d :: l, u :: us, ts, vs, hl, S => by
    rw [List.map_cons, List.reverse_cons, List.reverse_cons, List.append_assoc, List.append_assoc] at S
    obtain ⟨r, q⟩ := St0.args (l := l) (us := us) (ts := .fz d :: ts) (vs := u :: vs) (by simpa using hl) S
    obtain ⟨w, e, r1⟩ := q.top
    cases e
    exact ⟨.cons r1 r, q.pop⟩
  | [], _ :: _, _, _, h, _ => by simp at h
  | _ :: _, [], _, _, h, _ => by simp at h
/-- the values of arguments, whatever they are -/
def vls (ds : Sto) : List AV → Option (List D)
  | [] => some []
  | x :: r => match vl ds x, vls ds r with
    | some d, some l => some (d :: l)
    | _, _ => none
theorem St0.argsV {G : Gh} {H : Hp} {σ : L2.St} {ds : Sto} : ∀ {xs : List AV} {l : List D} {us : List V} {ts : List AV} {vs : List V}, us.length = xs.length → vls ds xs = some l → St0 K G H σ ds (xs.reverse ++ ts) (us.reverse ++ vs) → Reps K H Any l us ∧ St0 K G H σ ds ts vs
  | [], _, [], ts, vs, _, h, S => by
    cases h
    exact ⟨.nil, S⟩
  | x :: xs, l, u :: us, ts, vs, hl, h, S => by
    unfold vls at h
    cases e1 : vl ds x with
    | none => rw [e1] at h; cases h
    | some d =>
      cases e2 : vls ds xs with
      | none => rw [e1, e2] at h; cases h
      | some l' =>
        rw [e1, e2] at h
        cases h
        rw [List.reverse_cons, List.reverse_cons, List.append_assoc, List.append_assoc] at S
        obtain ⟨r, q⟩ := St0.argsV (xs := xs) (us := us) (ts := x :: ts) (vs := u :: vs) (by simpa using hl) e2 S
        exact ⟨.cons (Ok1.vl q q.top e1) r, q.pop⟩
  | [], _, _ :: _, _, _, h, _, _ => by simp at h
  | _ :: _, _, [], _, _, h, _, _ => by simp at h
/-! new tuples, new lists -/
def wTup (wa : WA) : WE := fun ds Q => wa ds fun ds1 xs => match fzs xs with
  | some l => l.length ≤ 1000 ∧ Q ds1 (.fz (.tuple l))
  | none => False
theorem small_line {n : Nat} (h : n ≤ 1000000) : n < sizeLine := Nat.lt_of_le_of_lt h (by decide)
theorem small_line' {n : Nat} (h : n ≤ 1000000) : n ≤ sizeLine := Nat.le_of_lt (small_line h)
theorem Stt.newT {B : Hp} {m : Addr → Prop} {H : Hp} {σ : L2.St} {ds ts : List AV} {vs : List V} {p : Addr} {o : Obj} {l : List D} {xs : List V} {Fz : Addr → Prop} {g : Addr → Nat} (S : St0 K ⟨B, m, Fz, g⟩ H σ ds ts vs) (hp : H p = none) (hd : o.dict = none) (r : Reps K H Fz l xs) : Stt K B m (upd H p (.frz o (.tup xs))) σ ds (.fz (.tuple l) :: ts) (.ref p :: vs) := by
  have S' := S.ext (upd_keep (o := .frz o (.tup xs)) hp)
  refine ⟨Fz, g, S'.pushF (.tup (BT.of upd_same hd) (Reps.mono (fun a ys q => q.to fun u e _ => upd_keep hp _ _ e) (fun a ys q => ?_) _ _ r))⟩
  rcases q with ⟨f, q | ⟨o, q⟩⟩ | q
  · exact .inl ⟨f, .inl (upd_keep hp _ _ q)⟩
  · exact .inl ⟨f, .inr ⟨o, upd_keep hp _ _ q⟩⟩
  · exact .inr q
theorem Rep.keep {H H' : Hp} {Fz : Addr → Prop} (hk : ∀ a o, H a = some o → H' a = some o) {d : D} {v : V} (r : Rep K H Fz d v) : Rep K H' Fz d v := Rep.mono (fun a ys q => q.to fun u e _ => hk _ _ e) (fun a ys q => by
    rcases q with ⟨f, q | ⟨o, q⟩⟩ | q
    · exact .inl ⟨f, .inl (hk _ _ q)⟩
    · exact .inl ⟨f, .inr ⟨o, hk _ _ q⟩⟩
    · exact .inr q) _ _ r
theorem Reps.keep {H H' : Hp} {Fz : Addr → Prop} (hk : ∀ a o, H a = some o → H' a = some o) {d : List D} {v : List V} (r : Reps K H Fz d v) : Reps K H' Fz d v := Reps.mono (fun a ys q => q.to fun u e _ => hk _ _ e) (fun a ys q => by
    rcases q with ⟨f, q | ⟨o, q⟩⟩ | q
    · exact .inl ⟨f, .inl (hk _ _ q)⟩
    · exact .inl ⟨f, .inr ⟨o, hk _ _ q⟩⟩
    · exact .inr q) _ _ r
/-- a new list that no other thing speaks of -/
theorem Stt.newL {B : Hp} {m : Addr → Prop} {H H' : Hp} {σ : L2.St} {ds ts : List AV} {vs : List V} {p : Addr} {l : List D} {xs : List V} {Fz : Addr → Prop} {g : Addr → Nat} (S : St0 K ⟨B, m, Fz, g⟩ H σ ds ts vs) (hk : ∀ a o, H a = some o → H' a = some o) (hp : H p = none) (hx : H' p = some (.lst xs)) (r : Reps K H' Fz l xs) : Stt K B m H' σ ds (.ls l :: ts) (.ref p :: vs) := by
  obtain ⟨n1, n2, n3⟩ := S.new hp
  exact ⟨Fz, _, (S.grow hk hp).push ⟨p, xs, rfl, n1, if_pos rfl, ⟨n2, n3⟩, hx, r⟩⟩
theorem snd_tup {ta : TA} {wa : WA} (ha : SndA K ta wa) : SndE K (tTupB ta) (wTup wa) := fun B m H σ ds ts vs Q R S h k =>
  ha _ _ _ _ _ _ _ _ _ S h fun us H1 ds1 xs S1 hl h1 => by
    split at h1
    · rename_i l hf
      obtain ⟨f, g, c⟩ := S1
      have e := fzs_map hf
      subst e
      have hl' : us.length = l.length := by simpa using hl
      obtain ⟨r, c⟩ := St0.args hl' c
      refine ⟨small_line' (by omega), fun p o hp hd => k _ _ _ _ (Stt.newT c hp hd r) h1.2⟩
    · exact h1.elim
def wLst (wa : WA) : WE := fun ds Q => wa ds fun ds1 xs => match fzs xs with
  | some l => l.length ≤ 1000 ∧ Q ds1 (.ls l)
  | none => False
theorem snd_lst {ta : TA} {wa : WA} (ha : SndA K ta wa) : SndE K (tLst ta) (wLst wa) := fun B m H σ ds ts vs Q R S h k =>
  ha _ _ _ _ _ _ _ _ _ S h fun us H1 ds1 xs S1 hl h1 => by
    split at h1
    · rename_i l hf
      obtain ⟨f, g, c⟩ := S1
      have e := fzs_map hf
      subst e
      have hl' : us.length = l.length := by simpa using hl
      obtain ⟨r, c⟩ := St0.args hl' c
      refine ⟨small_line' (by omega), fun p hp => k _ _ _ _ (Stt.newL c (upd_keep hp) hp upd_same (r.keep (upd_keep hp))) h1.2⟩
    · exact h1.elim
/-- a new list that is never written from now on -/
def frz (x : AV) (ds : Sto) (Q : Sto → AV → Prop) : Prop := match x with
  | .ls l => Q ds (.fz (.list l))
  | .fz d => Q ds (.fz d)
  | _ => False
def wFrz (w : WE) : WE := fun ds Q => w ds fun ds1 x => frz x ds1 Q
theorem snd_frz {t : TE} {w : WE} (h : SndE K t w) : SndE K t (wFrz w) := fun B m H σ ds ts vs Q R S q k =>
  h _ _ _ _ _ _ _ _ _ S q fun v H1 ds1 x S1 h1 => by
    cases x with
    | ls l =>
      obtain ⟨f, g, c⟩ := S1
      obtain ⟨f', c'⟩ := c.freezeT
      exact k _ _ _ _ ⟨f', g, c'⟩ h1
    | fz d => exact k _ _ _ _ S1 h1
    | un => exact h1.elim
    | lb _ => exact h1.elim
    | dk _ => exact h1.elim
    | rf _ => exact h1.elim
theorem St0.freezeS {G : Gh} {H : Hp} {σ : L2.St} {ds ts : Sto} {vs : List V} {i : Nat} {l : List D} (S : St0 K G H σ ds ts vs) (hd : ds.getD i .un = .ls l) (hn : noRf i ts) : ∃ Fz' v, σ[i]? = some (some v) ∧ Rep K H Fz' (.list l) v ∧ St0 K { G with Fz := Fz' } H σ (ds.set i (.fz (.list l))) ts vs := by
  have hi := getD_lt hd (fun q => by cases q)
  obtain ⟨a, xs, e1, z, gi, b, hx, r⟩ : Ok1 K _ H σ ds i (.ls l) (σ.getD i none) := by rw [← hd]; exact S.sl i hi
  have hF : ∀ b xs, FL K H G.Fz b xs → FL K H (fun c => G.Fz c ∨ c = a) b xs := fun c ys q => by
    rcases q with q | q
    · exact .inl ⟨.inl q.1, q.2⟩
    · exact .inr q
  have rr : Rep K H (fun c => G.Fz c ∨ c = a) (.list l) (.ref a) := .lst (.inl ⟨.inr rfl, .inl hx⟩) (Reps.mono (fun _ _ q => q) hF _ _ r)
  have iσ : i < σ.length := by rw [S.len]; exact hi
  refine ⟨fun c => G.Fz c ∨ c = a, .ref a, getD_some e1, rr, ?_⟩
  -- first the slot is forgotten, then filled anew
  have S1 : St0 K G H σ (ds.set i .un) ts vs := by
    refine ⟨S.fr, S.mm, S.mb, S.mz, S.fz, by rw [List.length_set]; exact S.len, fun j k => ?_, fun j hj => ?_, ?_⟩
    · rw [getD_set hi]
      split
      · exact fun q => nomatch q
      · exact S.nr j k
    · rw [getD_set hi]
      split
      · trivial
      · rw [List.length_set] at hj
        have q := S.sl j hj
        cases hd : ds.getD j .un with
        | un => trivial
        | fz d => rw [hd] at q; exact q
        | ls l => rw [hd] at q; exact q
        | lb l => rw [hd] at q; exact q
        | dk l => rw [hd] at q; exact q
        | rf k => exact absurd hd (S.nr j k)
    · have q := TOk.noRf_set (o := σ.getD i none) (x := .un) hi hn S.tp
      have e : σ.set i (σ.getD i none) = σ := by
        rw [e1]
        have := getD_some e1
        refine List.ext_getElem? fun j => ?_
        by_cases e : j = i
        · subst e
          rw [List.getElem?_set_self iσ, this]
        · rw [List.getElem?_set_ne (Ne.symm e)]
      rw [e] at q
      exact q
  have hl : (ds.set i AV.un).length = ds.length := List.length_set
  have ng : ∀ j, j ≠ i → ∀ c, (∃ o, H c = some o) → ¬ G.Fz c → G.g c = j → ¬ (fun _ => False) c ∧ ¬ (G.Fz c ∨ c = a) ∧ G.g c = j := fun j hj c ho nz gc => ⟨id, (by
    rintro (w | w)
    · exact nz w
    · rw [w, gi] at gc
      exact hj gc.symm), gc⟩
  have key := S1.move (H' := H) (Fz' := fun c => G.Fz c ∨ c = a) (g' := G.g) (ds' := ds.set i (.fz (.list l))) (fun _ => False) (fun b o _ q => q) (fun _ w => w.elim) S1.mm (fun _ q => .inl q) (fun c q => by
      rcases q with q | q
      · exact S1.fz c q
      · exact ⟨_, by rw [q]; exact hx⟩) (fun c q => by
      rintro (w | w)
      · exact S1.mz c q w
      · rw [w] at q
        exact b.2 q) (fun j q => by
      rw [getD_set hi] at q ⊢
      by_cases e : j = i
      · rw [if_pos e] at q; cases q
      · rw [if_neg e] at q ⊢; exact q) (by rw [List.length_set, List.length_set]) (fun j k => by
      rw [getD_set hi]
      split
      · exact fun q => nomatch q
      · exact S.nr j k) (fun j hj => by
      rw [getD_set hi, getD_set hi]
      by_cases e : j = i
      · left
        rw [if_pos e, e, e1]
        exact ⟨_, rfl, rr⟩
      · right
        rw [if_neg e, if_neg e]
        exact ⟨rfl, ng j e⟩) (fun j hj _ => ng j (by omega))
  exact key
theorem noRf_tail {i : Nat} {x : AV} {ts : List AV} (h : noRf i (x :: ts)) : noRf i ts := fun y hy => h y (List.mem_cons_of_mem _ hy)
end
end SX
namespace SX
open PySem PySem.Spec PyProof.Rows L2
section
variable {K : PySem.W.Frag}
/-! ### promises: a value from values -/
/-- what a call hands back: a value without lists, a new list, a new dict -/
def NewV (K : PySem.W.Frag) (H H' : Hp) : AV → V → Prop
  | .fz d, v => imm d = true ∧ Rep K H' Any d v
  | .ls l, v => imms l = true ∧ ∃ a xs, v = .ref a ∧ H a = none ∧ H' a = some (.lst xs) ∧ Reps K H' Any l xs
  | _, _ => False
def spP (n : Nat) (pre : List D → Prop) (post : List D → AV → Prop) (K : PySem.W.Frag) : Sp := fun vs H Q _ => ∃ dl, Reps K H Any dl vs ∧ dl.length = n ∧ pre dl ∧
  ∀ v H' x, post dl x → (∀ a o, H a = some o → H' a = some o) → NewV K H H' x v → Q v H'
/-- .. that changes the list that comes first -/
def spM (n : Nat) (pre : List D → List D → Prop) (post : List D → List D → List D → AV → Prop) (K : PySem.W.Frag) : Sp := fun vs H Q _ => ∃ a xs l us dl, vs = .ref a :: us ∧ H a = some (.lst xs) ∧ Reps K H (fun b => b ≠ a) l xs ∧ Reps K H (fun b => b ≠ a) dl us ∧ dl.length = n ∧ pre l dl ∧
  ∀ v H' x l' xs', post l dl l' x → (∀ b o, b ≠ a → H b = some o → H' b = some o) → H' a = some (.lst xs') → Reps K H' (fun b => b ≠ a) l' xs' → imms l' = true → NewV K H H' x v → Q v H'
/-- what may be returned -/
def RetOk (P : AV → Prop) (ds : Sto) (x : AV) : Prop := match x with
  | .fz d => imm d = true ∧ P (.fz d)
  | .ls l => imms l = true ∧ P (.ls l)
  | .rf i => match ds.getD i .un with
    | .ls l => imms l = true ∧ P (.ls l)
    | _ => False
  | _ => False
theorem imm_any {H : Hp} {Fz Fz' : Addr → Prop} {d : D} {v : V} (h : imm d = true) (r : Rep K H Fz d v) : Rep K H Fz' d v := Rep.imm (fun _ _ q => q) _ _ h r
theorem imms_any {H : Hp} {Fz Fz' : Addr → Prop} {d : List D} {v : List V} (h : imms d = true) (r : Reps K H Fz d v) : Reps K H Fz' d v := Reps.imm (fun _ _ q => q) _ _ h r
theorem ret_ok {B : Hp} {m : Addr → Prop} {H : Hp} {σ : L2.St} {ds ts : List AV} {vs : List V} {x : AV} {v : V} {P : AV → Prop} (S : Stt K B m H σ ds (x :: ts) (v :: vs)) (h : RetOk P ds x) : ∃ y, P y ∧ NewV K B H y v := by
  obtain ⟨f, g, c⟩ := S
  have q := c.top
  cases x with
  | fz d =>
    obtain ⟨w, e, r⟩ := q
    cases e
    exact ⟨.fz d, h.2, h.1, r.any⟩
  | ls l =>
    obtain ⟨a, xs, e, z, gi, b, hx, r⟩ := q
    cases e
    exact ⟨.ls l, h.2, h.1, a, xs, rfl, b.1, hx, r.any⟩
  | rf i =>
    have h : (match ds.getD i .un with
      | .ls l => imms l = true ∧ P (.ls l)
      | _ => False) := h
    obtain ⟨w, e, s, o, hj⟩ := q
    cases e
    have q := c.sl i hj
    have sg : σ.getD i none = some v := by rw [List.getD_eq_getElem?_getD, s] <;> rfl
    rw [sg] at q
    cases hd : ds.getD i .un with
    | ls l =>
      rw [hd] at h q
      obtain ⟨a, xs, e, z, gi, b, hx, r⟩ := q
      cases e
      exact ⟨.ls l, h.2, h.1, a, xs, rfl, b.1, hx, r.any⟩
    | un => rw [hd] at h; exact h.elim
    | fz _ => rw [hd] at h; exact h.elim
    | lb _ => rw [hd] at h; exact h.elim
    | dk _ => rw [hd] at h; exact h.elim
    | rf _ => rw [hd] at h; exact h.elim
  | un => exact h.elim
  | lb _ => exact h.elim
  | dk _ => exact h.elim
/-- the caller takes what came -/
theorem Stt.take {B : Hp} {m : Addr → Prop} {H H' : Hp} {σ : L2.St} {ds ts : List AV} {vs : List V} {x : AV} {v : V} {Fz : Addr → Prop} {g : Addr → Nat} (S : St0 K ⟨B, m, Fz, g⟩ H σ ds ts vs) (hk : ∀ a o, H a = some o → H' a = some o) (n : NewV K H H' x v) : Stt K B m H' σ ds (x :: ts) (v :: vs) := by
  cases x with
  | fz d => exact ⟨Fz, g, (S.ext hk).pushF (imm_any n.1 n.2)⟩
  | ls l =>
    obtain ⟨i, a, xs, rfl, hp, hx, r⟩ := n
    exact Stt.newL S hk hp hx (imms_any i r)
  | un => exact n.elim
  | lb _ => exact n.elim
  | dk _ => exact n.elim
  | rf _ => exact n.elim
def wCallP (pre : List D → Prop) (post : List D → AV → Prop) (n : Nat) (wa : WA) : WE := fun ds Q => wa ds fun ds1 xs => ∃ dl, vls ds1 xs = some dl ∧ dl.length = n ∧ pre dl ∧ ∀ x, post dl x → Q ds1 x
theorem snd_callP {n : Nat} {pre : List D → Prop} {post : List D → AV → Prop} {ta : TA} {wa : WA} {E : XK} (ha : SndA K ta wa) : SndE K (tCall (spP n pre post K) [] E ta) (wCallP pre post n wa) := fun B m H σ ds ts vs Q R S h k =>
  ha _ _ _ _ _ _ _ _ _ S h fun us H1 ds1 xs S1 hl ⟨dl, e, en, p, h1⟩ => by
    obtain ⟨f, g, c⟩ := S1
    obtain ⟨r, c⟩ := St0.argsV hl e c
    refine ⟨dl, by rw [List.append_nil]; exact r, en, p, fun v H' x hp hk nv => k v H' ds1 x (Stt.take c hk nv) (h1 x hp)⟩
/-- the first argument, a list of one's own, is changed by the call -/
theorem St0.argsX {G : Gh} {H : Hp} {σ : L2.St} {ds : Sto} {a : Addr} (ha : ¬ G.Fz a) : ∀ {xs : List AV} {l : List D} {us : List V} {ts : List AV} {vs : List V}, us.length = xs.length → fzs xs = some l → St0 K G H σ ds (xs.reverse ++ ts) (us.reverse ++ vs) → Reps K H (fun b => b ≠ a) l us ∧ St0 K G H σ ds ts vs := fun {xs l us ts vs} hl hf S => by
  have e := fzs_map hf
  subst e
  obtain ⟨r, c⟩ := St0.args (by simpa using hl) S
  refine ⟨Reps.mono (fun _ _ q => q) (fun b ys q => ?_) _ _ r, c⟩
  rcases q with ⟨f, q⟩ | q
  · exact .inl ⟨fun e => ha (by rw [← e]; exact f), q⟩
  · exact .inr q
def wCallM (pre : List D → List D → Prop) (post : List D → List D → List D → AV → Prop) (n : Nat) (wa : WA) : WE := fun ds Q => wa ds fun ds1 xs => match xs with
  | .rf i :: r => ∃ l dl, oL (ds1.getD i .un) = some l ∧ fzs r = some dl ∧ dl.length = n ∧ pre l dl ∧ ∀ l' x, post l dl l' x → Q (ds1.set i (upL (ds1.getD i .un) l')) x
  | _ => False
theorem callM_core {n : Nat} {pre : List D → List D → Prop} {post : List D → List D → List D → AV → Prop} {E : XK} {B : Hp} {m : Addr → Prop} {H1 : Hp} {σ : L2.St} {ds1 ts : List AV} {vs : List V} {i : Nat} {r : List AV} {us : List V} {Q : Sto → AV → Prop} {R : VK}
    (S1 : Stt K B m H1 σ ds1 ((AV.rf i :: r).reverse ++ ts) (us.reverse ++ vs)) (hl : us.length = (AV.rf i :: r).length) {l dl : List D} (e1 : oL (ds1.getD i .un) = some l) (e2 : fzs r = some dl) (en : dl.length = n) (p : pre l dl)
    (h1 : ∀ l' x, post l dl l' x → Q (ds1.set i (upL (ds1.getD i .un) l')) x) (k : ∀ v H' ds' x, Stt K B m H' σ ds' (x :: ts) (v :: vs) → Q ds' x → R v H') : spM n pre post K (us ++ []) H1 R E := by
  cases us with
  | nil => simp at hl
  | cons u us =>
    obtain ⟨f, g, c⟩ := S1
    rw [List.reverse_cons, List.reverse_cons, List.append_assoc, List.append_assoc] at c
    have hl' : us.length = r.length := by simpa using hl
    -- the receiver's address
    have c0 := c
    have e3 := fzs_map e2
    have c1 : St0 K ⟨B, m, f, g⟩ H1 σ ds1 (.rf i :: ts) (u :: vs) := by
      rw [e3] at c
      exact (St0.args (by rw [hl', e3]; simp) c).2
    obtain ⟨w, e, s, o, hj⟩ := c1.top
    cases e
    obtain ⟨a, xs0, hi, e4, z, gi, bm, hx, rx⟩ := c1.list e1
    rw [s] at e4
    cases e4
    obtain ⟨rr, c2⟩ := St0.argsX (K := K) (a := a) z hl' e2 c0
    have hF : ∀ b ys, FL K H1 f b ys → FL K H1 (fun b => b ≠ a) b ys := fun b ys q => by
      rcases q with ⟨f, q⟩ | q
      · exact .inl ⟨fun e => z (by rw [← e]; exact f), q⟩
      · exact .inr q
    refine ⟨a, xs0, l, us ++ [], dl, by simp, hx, Reps.mono (fun _ _ q => q) hF _ _ rx, by rw [List.append_nil]; exact rr, en, p, fun v H' x l' xs' hp hk hx' rx' im nv => ?_⟩
    have c3 := c1.pop.write (H' := H') (l' := l') (xs' := xs') e1 s hk hx' (imms_any im rx')
    cases x with
    | fz d => exact k v H' _ _ ⟨f, g, c3.pushF (imm_any nv.1 nv.2)⟩ (h1 _ _ hp)
    | ls l2 =>
      obtain ⟨i2, b, ys, rfl, hp2, hx2, r2⟩ := nv
      -- the new list stands apart
      obtain ⟨n1, n2, n3⟩ := c1.pop.new hp2
      have c4 : St0 K ⟨B, m, f, fun c => if c = b then (ds1.set i (upL (ds1.getD i .un) l')).length + ts.length else g c⟩ H' σ (ds1.set i (upL (ds1.getD i .un) l')) ts vs := by
        have ne : ∀ c, g c ≠ (ds1.set i (upL (ds1.getD i .un) l')).length + ts.length → True := fun _ _ => trivial
        refine ⟨c3.fr, c3.mm, c3.mb, c3.mz, c3.fz, c3.len, c3.nr, fun j hj => ?_, ?_⟩
        · have q := c3.sl j hj
          by_cases ej : j = i
          · subst ej
            rw [getD_set hi, if_pos rfl] at q ⊢
            have hba : a ≠ b := ne_of_none hx hp2
            cases hd : ds1.getD j .un with
            | ls l0 =>
              rw [hd] at q
              obtain ⟨a2, xs2, e1, z2, gi2, b2, hx3, r3⟩ := q
              have s2 : σ.getD j none = some (V.ref a) := by rw [List.getD_eq_getElem?_getD, s] <;> rfl
              rw [s2] at e1
              cases e1
              exact ⟨a, xs2, s2, z2, by show (if a = b then _ else g a) = j; rw [if_neg hba]; exact gi2, b2, hx3, r3⟩
            | lb l0 =>
              rw [hd] at q
              obtain ⟨a2, xs2, e1, z2, gi2, b2, hx3, r3⟩ := q
              have s2 : σ.getD j none = some (V.ref a) := by rw [List.getD_eq_getElem?_getD, s] <;> rfl
              rw [s2] at e1
              cases e1
              exact ⟨a, xs2, s2, z2, by show (if a = b then _ else g a) = j; rw [if_neg hba]; exact gi2, b2, hx3, r3⟩
            | un => rw [hd] at e1; cases e1
            | fz _ => rw [hd] at e1; cases e1
            | dk _ => rw [hd] at e1; cases e1
            | rf _ => rw [hd] at e1; cases e1
          · rw [getD_set hi, if_neg ej] at q ⊢
            have q0 := c1.sl j (by rw [List.length_set] at hj; exact hj)
            cases hd : ds1.getD j .un with
            | un => trivial
            | fz d => rw [hd] at q; exact q
            | rf k => exact absurd hd (c1.nr j k)
            | ls l0 =>
              rw [hd] at q q0
              obtain ⟨a2, xs2, e1, z2, gi2, b2, hx3, r3⟩ := q
              obtain ⟨a3, xs3, e3, _, _, _, hx4, _⟩ := q0
              rw [e1] at e3
              cases e3
              exact ⟨a2, xs2, e1, z2, by show (if a2 = b then _ else g a2) = j; rw [if_neg (ne_of_none hx4 hp2)]; exact gi2, b2, hx3, r3⟩
            | lb l0 =>
              rw [hd] at q q0
              obtain ⟨a2, xs2, e1, z2, gi2, b2, hx3, r3⟩ := q
              obtain ⟨a3, xs3, e3, _, _, _, hx4, _⟩ := q0
              rw [e1] at e3
              cases e3
              exact ⟨a2, xs2, e1, z2, by show (if a2 = b then _ else g a2) = j; rw [if_neg (ne_of_none hx4 hp2)]; exact gi2, b2, hx3, r3⟩
            | dk l0 =>
              rw [hd] at q q0
              obtain ⟨a2, xs2, e1, z2, gi2, b2, hx3, r3⟩ := q
              obtain ⟨a3, xs3, e3, _, _, _, hx4, _⟩ := q0
              rw [e1] at e3
              cases e3
              exact ⟨a2, xs2, e1, z2, by show (if a2 = b then _ else g a2) = j; rw [if_neg (ne_of_none hx4 hp2)]; exact gi2, b2, hx3, r3⟩
        · have gen : ∀ {ts : List AV} {vs : List V}, TOk K ⟨B, m, f, g⟩ H1 σ ds1 ts vs → TOk K ⟨B, m, f, g⟩ H' σ (ds1.set i (upL (ds1.getD i .un) l')) ts vs → ∀ k, TOk K ⟨B, m, f, fun c => if c = b then k else g c⟩ H' σ (ds1.set i (upL (ds1.getD i .un) l')) ts vs := by
            intro ts
            induction ts with
            | nil =>
              intro vs q0 q k
              cases vs with
              | nil => trivial
              | cons v vs => exact q.elim
            | cons y ts ih =>
              intro vs q0 q k
              cases vs with
              | nil => exact q.elim
              | cons v vs =>
                refine ⟨?_, ih q0.2 q.2 k⟩
                have q1 := q.1
                have q2 := q0.1
                cases y with
                | un => trivial
                | fz d => exact q1
                | rf k => exact q1
                | ls l0 =>
                  obtain ⟨a2, xs2, e1, z2, gi2, b2, hx3, r3⟩ := q1
                  obtain ⟨a3, xs3, e3, _, _, _, hx4, _⟩ := q2
                  cases e1; cases e3
                  exact ⟨a2, xs2, rfl, z2, by show (if a2 = b then _ else g a2) = _; rw [if_neg (ne_of_none hx4 hp2)]; exact gi2, b2, hx3, r3⟩
                | lb l0 =>
                  obtain ⟨a2, xs2, e1, z2, gi2, b2, hx3, r3⟩ := q1
                  obtain ⟨a3, xs3, e3, _, _, _, hx4, _⟩ := q2
                  cases e1; cases e3
                  exact ⟨a2, xs2, rfl, z2, by show (if a2 = b then _ else g a2) = _; rw [if_neg (ne_of_none hx4 hp2)]; exact gi2, b2, hx3, r3⟩
                | dk l0 =>
                  obtain ⟨a2, xs2, e1, z2, gi2, b2, hx3, r3⟩ := q1
                  obtain ⟨a3, xs3, e3, _, _, _, hx4, _⟩ := q2
                  cases e1; cases e3
                  exact ⟨a2, xs2, rfl, z2, by show (if a2 = b then _ else g a2) = _; rw [if_neg (ne_of_none hx4 hp2)]; exact gi2, b2, hx3, r3⟩
          exact gen c1.pop.tp c3.tp _
      exact k _ H' _ _ ⟨f, _, c4.push (x := .ls l2) ⟨b, ys, rfl, n1, if_pos rfl, ⟨n2, n3⟩, hx2, imms_any i2 r2⟩⟩ (h1 _ _ hp)
    | un => exact nv.elim
    | lb _ => exact nv.elim
    | dk _ => exact nv.elim
    | rf _ => exact nv.elim
theorem snd_callM {n : Nat} {pre : List D → List D → Prop} {post : List D → List D → List D → AV → Prop} {ta : TA} {wa : WA} {E : XK} (ha : SndA K ta wa) : SndE K (tCall (spM n pre post K) [] E ta) (wCallM pre post n wa) := fun B m H σ ds ts vs Q R S h k =>
  ha _ _ _ _ _ _ _ _ _ S h fun us H1 ds1 xs S1 hl h1 => by
    split at h1
    · rename_i i r
      obtain ⟨l, dl, e1, e2, en, p, h1⟩ := h1
      exact callM_core S1 hl e1 e2 en p h1 k
    · exact h1.elim
end
end SX
namespace SX
open PySem PySem.Spec PyProof.Rows L2
section
variable {K : PySem.W.Frag}
/-! ### methods -/
/-- a value that is a list -/
def lsOf (ds : Sto) : AV → Option (List D)
  | .fz (.list l) => some l
  | .ls l => some l
  | .lb l => some l
  | .rf i => oL (ds.getD i .un)
  | _ => none
theorem lsOf_its {ds : Sto} {x : AV} {l : List D} (h : lsOf ds x = some l) : its ds x = some l := by
  cases x with
  | fz d => cases d <;> first | exact h | cases h
  | ls _ => exact h
  | lb _ => exact h
  | rf _ => exact h
  | un => cases h
  | dk _ => cases h
theorem Stt.sqL {B : Hp} {m : Addr → Prop} {H : Hp} {σ : L2.St} {ds ts : List AV} {vs : List V} {x : AV} {v : V} {l : List D} (S : Stt K B m H σ ds (x :: ts) (v :: vs)) (h : lsOf ds x = some l) : ∃ a xs, v = .ref a ∧ SqL K H a xs ∧ xs.length = l.length := by
  obtain ⟨f, g, c⟩ := S
  have q := c.top
  cases x with
  | fz d =>
    obtain ⟨w, e, r⟩ := q
    cases e
    cases d with
    | list l' =>
      cases h
      obtain ⟨a, xs, e, fl, r⟩ := r.lst_inv
      exact ⟨a, xs, e, fl.sql, r.length.symm⟩
    | none => cases h
    | bool _ => cases h
    | int _ => cases h
    | str _ => cases h
    | tuple _ => cases h
    | dict _ => cases h
  | ls l =>
    cases h
    obtain ⟨a, xs, e, z, gi, b, hx, r⟩ := q
    cases e
    exact ⟨a, xs, rfl, SqL.of hx, r.length.symm⟩
  | lb l =>
    cases h
    obtain ⟨a, xs, e, z, gi, b, hx, r⟩ := q
    cases e
    exact ⟨a, xs, rfl, SqL.of hx, r.length.symm⟩
  | rf i =>
    obtain ⟨w, e, s, o, hj⟩ := q
    cases e
    obtain ⟨a, xs, hi, e4, z, gi, bm, hx, rx⟩ := c.list h
    rw [s] at e4
    cases e4
    exact ⟨a, xs, rfl, SqL.of hx, rx.length.symm⟩
  | un => cases h
  | dk _ => cases h
abbrev WM := AV → List AV → Sto → (Sto → AV → Prop) → Prop
def SndM (K : PySem.W.Frag) (r : V → List V → Hp → VK → Prop) (w : WM) : Prop := ∀ (B : Hp) (m : Addr → Prop) (H : Hp) (σ : L2.St) (ds ts : List AV) (vs : List V) (o : AV) (v : V) (xs : List AV) (us : List V) (Q : Sto → AV → Prop) (R : VK), us.length = xs.length → Stt K B m H σ ds (xs.reverse ++ o :: ts) (us.reverse ++ v :: vs) → w o xs ds Q →
  (∀ v H' ds' x, Stt K B m H' σ ds' (x :: ts) (v :: vs) → Q ds' x → R v H') → r v us H R
def wBM (wr : WM) (wo : WE) (wa : WA) : WE := fun ds Q => wo ds fun ds1 o => match lsOf ds1 o with
  | some _ => wa ds1 fun ds2 xs => wr o xs ds2 Q
  | none => False
theorem snd_BM {r : V → List V → Hp → VK → Prop} {wr : WM} {to : TE} {ta : TA} {wo : WE} {wa : WA} (hr : SndM K r wr) (ho : SndE K to wo) (ha : SndA K ta wa) : SndE K (tBM K "list" r to ta) (wBM wr wo wa) := fun B m H σ ds ts vs Q R S h k =>
  ho _ _ _ _ _ _ _ _ _ S h fun v H1 ds1 o S1 h1 => by
    split at h1
    · rename_i l hl
      obtain ⟨a, xs, rfl, hs, _⟩ := S1.sqL hl
      refine ⟨.inl ⟨rfl, xs, hs⟩, ha _ _ _ _ _ _ _ _ _ S1 h1 fun us H2 ds2 xs S2 hl2 h2 => hr _ _ _ _ _ _ _ _ _ _ _ _ _ hl2 S2 h2 k⟩
    · exact h1.elim
def wBM0 (wr : WM) (wo : WE) : WE := fun ds Q => wo ds fun ds1 o => match lsOf ds1 o with
  | some _ => wr o [] ds1 Q
  | none => False
theorem snd_BM0 {r : V → List V → Hp → VK → Prop} {wr : WM} {to : TE} {wo : WE} (hr : SndM K r wr) (ho : SndE K to wo) : SndE K (tBM0 K "list" r to) (wBM0 wr wo) := fun B m H σ ds ts vs Q R S h k =>
  ho _ _ _ _ _ _ _ _ _ S h fun v H1 ds1 o S1 h1 => by
    split at h1
    · rename_i l hl
      obtain ⟨a, xs, rfl, hs, _⟩ := S1.sqL hl
      exact ⟨.inl ⟨rfl, xs, hs⟩, hr _ _ _ _ _ _ _ _ _ [] [] _ _ rfl S1 h1 k⟩
    · exact h1.elim
/-- one fixed argument and the slot's list -/
theorem Stt.recv1 {B : Hp} {m : Addr → Prop} {H : Hp} {σ : L2.St} {ds ts : List AV} {vs : List V} {i : Nat} {x : AV} {v u : V} {l : List D} (S : Stt K B m H σ ds (x :: .rf i :: ts) (u :: v :: vs)) (h : oL (ds.getD i .un) = some l) :
    ∃ Fz g a xs, St0 K ⟨B, m, Fz, g⟩ H σ ds (x :: .rf i :: ts) (u :: v :: vs) ∧ v = .ref a ∧ σ[i]? = some (some (.ref a)) ∧ H a = some (.lst xs) ∧ Reps K H Fz l xs ∧ i < ds.length ∧ ¬ Fz a ∧ g a = i := by
  obtain ⟨f, g, c⟩ := S
  obtain ⟨w, e, s, o, hj⟩ := c.pop.top
  cases e
  obtain ⟨a, xs, hi, e4, z, gi, bm, hx, rx⟩ := c.list h
  rw [s] at e4
  cases e4
  exact ⟨f, g, a, xs, c, rfl, s, hx, rx, hi, z, gi⟩
theorem Stt.recv0 {B : Hp} {m : Addr → Prop} {H : Hp} {σ : L2.St} {ds ts : List AV} {vs : List V} {i : Nat} {v : V} {l : List D} (S : Stt K B m H σ ds (.rf i :: ts) (v :: vs)) (h : oL (ds.getD i .un) = some l) :
    ∃ Fz g a xs, St0 K ⟨B, m, Fz, g⟩ H σ ds (.rf i :: ts) (v :: vs) ∧ v = .ref a ∧ σ[i]? = some (some (.ref a)) ∧ H a = some (.lst xs) ∧ Reps K H Fz l xs ∧ i < ds.length ∧ ¬ Fz a ∧ g a = i := by
  obtain ⟨f, g, c⟩ := S
  obtain ⟨w, e, s, o, hj⟩ := c.top
  cases e
  obtain ⟨a, xs, hi, e4, z, gi, bm, hx, rx⟩ := c.list h
  rw [s] at e4
  cases e4
  exact ⟨f, g, a, xs, c, rfl, s, hx, rx, hi, z, gi⟩
theorem upd_but {H : Hp} {a : Addr} {o : HO} : ∀ b u, b ≠ a → H b = some u → (upd H a o) b = some u := fun b u hb h => by
  rw [upd_ne hb]
  exact h
theorem Rep.upd {H : Hp} {Fz : Addr → Prop} {a : Addr} {xs : List V} {o : HO} (hx : H a = some (.lst xs)) (hz : ¬ Fz a) {d : D} {v : V} (r : Rep K H Fz d v) : Rep K (upd H a o) Fz d v := Rep.mono (fun b ys q => q.to fun u e nm => upd_but b _ (fun e' => by rw [e', hx] at e; cases e; exact nm trivial) e) (fun b ys q => by
    rcases q with ⟨f, q | ⟨o', q⟩⟩ | q
    · exact .inl ⟨f, .inl (upd_but b _ (fun e => hz (by rw [← e]; exact f)) q)⟩
    · exact .inl ⟨f, .inr ⟨o', upd_but b _ (fun e => hz (by rw [← e]; exact f)) q⟩⟩
    · exact .inr q) _ _ r
theorem Reps.upd {H : Hp} {Fz : Addr → Prop} {a : Addr} {xs : List V} {o : HO} (hx : H a = some (.lst xs)) (hz : ¬ Fz a) : ∀ {l : List D} {us : List V}, Reps K H Fz l us → Reps K (upd H a o) Fz l us
  | [], _, h => by cases h; exact .nil
  | d :: l, _, h => by
    cases h with
    | cons r s => exact .cons (r.upd hx hz) (Reps.upd hx hz s)
/-- the slot's list with another content, then the call's value -/
theorem St0.put {B : Hp} {m : Addr → Prop} {H : Hp} {σ : L2.St} {ds ts : List AV} {vs : List V} {i : Nat} {Fz : Addr → Prop} {g : Addr → Nat} {l l' : List D} {a : Addr} {xs xs' : List V} (S : St0 K ⟨B, m, Fz, g⟩ H σ ds ts vs) (h : oL (ds.getD i .un) = some l) (s : σ[i]? = some (some (.ref a))) (hx : H a = some (.lst xs)) (hz : ¬ Fz a) (r : Reps K H Fz l' xs') :
    St0 K ⟨B, m, Fz, g⟩ (upd H a (.lst xs')) σ (ds.set i (upL (ds.getD i .un) l')) ts vs := S.write h s upd_but upd_same (r.upd hx hz)
def wAppend : WM := fun o xs ds Q => match o, xs with
  | .rf i, [.fz d] => match oL (ds.getD i .un) with
    | some l => l.length ≤ 100000 ∧ Q (ds.set i (upL (ds.getD i .un) (l ++ [d]))) (.fz .none)
    | none => False
  | _, _ => False
theorem snd_append : SndM K rAppend wAppend := by
  intro B m H σ ds ts vs o v xs us Q R hl S h k
  unfold wAppend at h
  split at h
  · rename_i i d
    match us, hl with
    | [u], _ =>
      split at h
      · rename_i l e
        obtain ⟨f, g, a, ys, c, rfl, s, hx, rx, hi, hz, gi⟩ := Stt.recv1 (x := .fz d) S e
        obtain ⟨w, e1, rd⟩ := c.top
        cases e1
        refine ⟨a, ys, u, rfl, rfl, hx, small_line (by rw [← rx.length]; omega), k _ _ _ _ ⟨f, g, (St0.put c.pop.pop e s hx hz (rx.append (.cons rd .nil))).pushF .non⟩ h.2⟩
      · exact h.elim
  · exact h.elim
def wExtend : WM := fun o xs ds Q => match o, xs with
  | .rf i, [.ls l2] => match oL (ds.getD i .un) with
    | some l => l.length + l2.length ≤ 100000 ∧ Q (ds.set i (upL (ds.getD i .un) (l ++ l2))) (.fz .none)
    | none => False
  | _, _ => False
theorem snd_extend : SndM K rExtend wExtend := by
  intro B m H σ ds ts vs o v xs us Q R hl S h k
  unfold wExtend at h
  split at h
  · rename_i i l2
    match us, hl with
    | [u], _ =>
      split at h
      · rename_i l e
        obtain ⟨f, g, a, ys, c, rfl, s, hx, rx, hi, hz, gi⟩ := Stt.recv1 (x := .ls l2) S e
        obtain ⟨b, zs, e1, _, _, _, hb, rz⟩ := c.top
        cases e1
        refine ⟨a, b, ys, zs, rfl, rfl, hx, hb, small_line' (by rw [← rx.length, ← rz.length]; omega), k _ _ _ _ ⟨f, g, (St0.put c.pop.pop e s hx hz (rx.append rz)).pushF .non⟩ h.2⟩
      · exact h.elim
  · exact h.elim
theorem seq_nat {n k : Nat} (h : k < n) : seqIndex? (k : Int) n = some k := by
  have := (ixN_seq (n := n) (i := (k : Int)) (j := k) (by unfold ixN; rw [if_pos (Int.natCast_nonneg k), if_pos (by omega)] <;> simp)).1
  exact this
def wPopAt : WM := fun o xs ds Q => match o, xs with
  | .rf i, [.fz (.int j)] => match oL (ds.getD i .un) with
    | some l => 0 ≤ j ∧ j < (l.length : Int) ∧ l.length ≤ 1000000 ∧ ∃ d, l[j.toNat]? = some d ∧ Q (ds.set i (upL (ds.getD i .un) (l.eraseIdx j.toNat))) (.fz d)
    | none => False
  | _, _ => False
theorem snd_popAt : SndM K rPopAt wPopAt := by
  intro B m H σ ds ts vs o v xs us Q R hl S h k
  unfold wPopAt at h
  split at h
  · rename_i i j
    match us, hl with
    | [u], _ =>
      split at h
      · rename_i l e
        obtain ⟨f, g, a, ys, c, rfl, s, hx, rx, hi, hz, gi⟩ := Stt.recv1 (x := .fz (.int j)) S e
        obtain ⟨h0, h1, h2, d, hd, h3⟩ := h
        obtain ⟨w, e1, rd⟩ := c.top
        cases e1
        rw [rd.int_inv]
        obtain ⟨y, hy, ry⟩ := rx.get hd
        obtain ⟨n, rfl⟩ : ∃ n : Nat, j = (n : Int) := ⟨j.toNat, by omega⟩
        have e2 : ((n : Int)).toNat = n := by omega
        rw [e2] at hy hd h3
        have hn : n < ys.length := by rw [← rx.length]; omega
        refine ⟨a, ys, n, n, y, rfl, rfl, hx, by omega, by omega, seq_nat hn, hy, k _ _ _ _ ⟨f, g, (St0.put c.pop.pop e s hx hz (rx.eraseIdx n)).pushF (ry.upd hx hz)⟩ h3⟩
      · exact h.elim
  · exact h.elim
def wPop : WM := fun o xs ds Q => match o, xs with
  | .rf i, [] => match oL (ds.getD i .un) with
    | some l => ∃ d, l.getLast? = some d ∧ Q (ds.set i (upL (ds.getD i .un) l.dropLast)) (.fz d)
    | none => False
  | _, _ => False
theorem snd_pop : SndM K rPop wPop := by
  intro B m H σ ds ts vs o v xs us Q R hl S h k
  unfold wPop at h
  split at h
  · rename_i i
    match us, hl with
    | [], _ =>
      split at h
      · rename_i l e
        obtain ⟨f, g, a, ys, c, rfl, s, hx, rx, hi, hz, gi⟩ := Stt.recv0 S e
        obtain ⟨d, hd, h3⟩ := h
        rw [List.getLast?_eq_getElem?] at hd
        obtain ⟨y, hy, ry⟩ := rx.get hd
        rw [rx.length] at hy
        refine ⟨a, ys, y, rfl, rfl, hx, hy, k _ _ _ _ ⟨f, g, (St0.put c.pop e s hx hz rx.dropLast).pushF (ry.upd hx hz)⟩ h3⟩
      · exact h.elim
  · exact h.elim
def wReverse : WM := fun o xs ds Q => match o, xs with
  | .rf i, [] => match oL (ds.getD i .un) with
    | some l => Q (ds.set i (upL (ds.getD i .un) l.reverse)) (.fz .none)
    | none => False
  | _, _ => False
theorem snd_reverse : SndM K rReverse wReverse := by
  intro B m H σ ds ts vs o v xs us Q R hl S h k
  unfold wReverse at h
  split at h
  · rename_i i
    match us, hl with
    | [], _ =>
      split at h
      · rename_i l e
        obtain ⟨f, g, a, ys, c, rfl, s, hx, rx, hi, hz, gi⟩ := Stt.recv0 S e
        refine ⟨a, ys, rfl, rfl, hx, k _ _ _ _ ⟨f, g, (St0.put c.pop e s hx hz rx.reverse).pushF .non⟩ h⟩
      · exact h.elim
  · exact h.elim
end
end SX
namespace SX
open PySem PySem.Spec PyProof.Rows L2
section
variable {K : PySem.W.Frag}
/-! ### subscripts -/
def wIxL : WR := fun x y ds Q => match lsOf ds x, y with
  | some l, .fz (.int i) => ∃ d, atI l i = some d ∧ Q ds (.fz d)
  | _, _ => False
theorem Stt.reps1 {B : Hp} {m : Addr → Prop} {H : Hp} {σ : L2.St} {ds ts : List AV} {vs : List V} {x : AV} {v : V} {l : List D} (S : Stt K B m H σ ds (x :: ts) (v :: vs)) (h : lsOf ds x = some l) : ∃ Fz g a xs, St0 K ⟨B, m, Fz, g⟩ H σ ds (x :: ts) (v :: vs) ∧ v = .ref a ∧ SqL K H a xs ∧ Reps K H Fz l xs := by
  obtain ⟨f, g, c⟩ := S
  have q := c.top
  cases x with
  | fz d =>
    obtain ⟨w, e, r⟩ := q
    cases e
    cases d with
    | list l' =>
      cases h
      obtain ⟨a, xs, e, fl, r⟩ := r.lst_inv
      exact ⟨f, g, a, xs, c, e, fl.sql, r⟩
    | none => cases h
    | bool _ => cases h
    | int _ => cases h
    | str _ => cases h
    | tuple _ => cases h
    | dict _ => cases h
  | ls l =>
    cases h
    obtain ⟨a, xs, e, z, gi, b, hx, r⟩ := q
    cases e
    exact ⟨f, g, a, xs, c, rfl, SqL.of hx, r⟩
  | lb l =>
    cases h
    obtain ⟨a, xs, e, z, gi, b, hx, r⟩ := q
    cases e
    exact ⟨f, g, a, xs, c, rfl, SqL.of hx, r⟩
  | rf i =>
    obtain ⟨w, e, s, o, hj⟩ := q
    cases e
    obtain ⟨a, xs, hi, e4, z, gi, bm, hx, rx⟩ := c.list h
    rw [s] at e4
    cases e4
    exact ⟨f, g, a, xs, c, rfl, SqL.of hx, rx⟩
  | un => cases h
  | dk _ => cases h
theorem snd_ixL : SndR K (rIxL K) wIxL := by
  intro B m H σ ds ts vs x y v u Q R S h k
  unfold wIxL at h
  split at h
  · rename_i l i hl
    obtain ⟨d, hd, h⟩ := h
    have e := S.topI
    subst e
    obtain ⟨f, g, a, xs, c, rfl, hs, r⟩ := S.pop.reps1 hl
    obtain ⟨z, hz, rz⟩ := atI_reps r hd
    exact ⟨a, xs, i, z, rfl, rfl, hs, hz, k _ _ _ _ ⟨f, g, c.pop.pushF rz⟩ h⟩
  · exact h.elim
def wIxT : WR := fun x y ds Q => match x, y with
  | .fz (.tuple l), .fz (.int i) => ∃ d, atI l i = some d ∧ Q ds (.fz d)
  | _, _ => False
theorem Stt.tup1 {B : Hp} {m : Addr → Prop} {H : Hp} {σ : L2.St} {ds ts : List AV} {vs : List V} {v : V} {l : List D} (S : Stt K B m H σ ds (.fz (.tuple l) :: ts) (v :: vs)) : ∃ Fz g a xs, St0 K ⟨B, m, Fz, g⟩ H σ ds (.fz (.tuple l) :: ts) (v :: vs) ∧ v = .ref a ∧ SqT K H a xs ∧ Reps K H Fz l xs := by
  obtain ⟨f, g, c⟩ := S
  obtain ⟨w, e, r⟩ := c.top
  cases e
  obtain ⟨a, xs, e, fl, r⟩ := r.tup_inv
  exact ⟨f, g, a, xs, c, e, fl.sqt, r⟩
theorem snd_ixT : SndR K (rIxT K) wIxT := by
  intro B m H σ ds ts vs x y v u Q R S h k
  unfold wIxT at h
  split at h
  · rename_i l i
    obtain ⟨d, hd, h⟩ := h
    have e := S.topI
    subst e
    obtain ⟨f, g, a, xs, c, rfl, hs, r⟩ := S.pop.tup1
    obtain ⟨z, hz, rz⟩ := atI_reps r hd
    exact ⟨a, xs, i, z, rfl, rfl, hs, hz, k _ _ _ _ ⟨f, g, c.pop.pushF rz⟩ h⟩
  · exact h.elim
theorem atI_get {α : Type} {l : List α} {i : Nat} {x : α} (h : l[i]? = some x) : atI l (i : Int) = some x := by
  have hi : i < l.length := (List.getElem?_eq_some_iff.mp h).1
  unfold atI ixN
  rw [if_pos (Int.natCast_nonneg i), if_pos (by omega)]
  simpa using h
theorem atI_back {α : Type} {l : List α} {i : Nat} {x : α} (hi : i < l.length) (h : l[l.length - 1 - i]? = some x) : atI l (-((i : Int) + 1)) = some x := by
  unfold atI ixN
  rw [if_neg (by omega), if_pos (by omega)]
  have e : (-((i : Int) + 1) + (l.length : Int)).toNat = l.length - 1 - i := by omega
  rw [e]
  exact h
/-! ### slices -/
def cutD (l : List D) (lo hi : Option Int) : List D := (l.drop (HT.sIx l.length 0 lo)).take (HT.sIx l.length l.length hi - HT.sIx l.length 0 lo)
theorem Reps.cut {H : Hp} {Fz : Addr → Prop} {l : List D} {xs : List V} (r : Reps K H Fz l xs) (lo hi : Option Int) : Reps K H Fz (cutD l lo hi) (cutV xs lo hi) := by
  unfold cutD cutV
  rw [r.length]
  exact (r.drop _).take _
def wNoPart : WO := fun ds Q => Q ds none
def wPart (w : WE) : WO := fun ds Q => w ds fun ds1 x => match x with
  | .fz (.int i) => Q ds1 (some i)
  | _ => False
theorem snd_noPart : SndO K tNoPart wNoPart := fun B m H σ ds ts vs Q R S h k => k _ _ _ S h
theorem snd_part {t : TE} {w : WE} (h : SndE K t w) : SndO K (tPart t) (wPart w) := fun B m H σ ds ts vs Q R S q k =>
  h _ _ _ _ _ _ _ _ _ S q fun v H1 ds1 x S1 h1 => by
    split at h1
    · rename_i i
      exact ⟨i, S1.topI, k _ _ _ S1.pop h1⟩
    · exact h1.elim
def SndSl (K : PySem.W.Frag) (r : V → Option Int → Option Int → Hp → VK → Prop) (w : AV → Option Int → Option Int → Sto → (Sto → AV → Prop) → Prop) : Prop := ∀ (B : Hp) (m : Addr → Prop) (H : Hp) (σ : L2.St) (ds ts : List AV) (vs : List V) (x : AV) (v : V) (lo hi : Option Int) (Q : Sto → AV → Prop) (R : VK), Stt K B m H σ ds (x :: ts) (v :: vs) → w x lo hi ds Q →
  (∀ v H' ds' x, Stt K B m H' σ ds' (x :: ts) (v :: vs) → Q ds' x → R v H') → r v lo hi H R
def wSl (wr : AV → Option Int → Option Int → Sto → (Sto → AV → Prop) → Prop) (we : WE) (wl wh : WO) : WE := fun ds Q => we ds fun ds1 x => wl ds1 fun ds2 lo => wh ds2 fun ds3 hi => wr x lo hi ds3 Q
theorem snd_sl {r : V → Option Int → Option Int → Hp → VK → Prop} {wr : AV → Option Int → Option Int → Sto → (Sto → AV → Prop) → Prop} {te : TE} {tl th : TO} {we : WE} {wl wh : WO} (hr : SndSl K r wr) (he : SndE K te we) (hl : SndO K tl wl) (hh : SndO K th wh) : SndE K (tSl r te tl th) (wSl wr we wl wh) :=
  fun B m H σ ds ts vs Q R S h k => he _ _ _ _ _ _ _ _ _ S h fun v H1 ds1 x S1 h1 => hl _ _ _ _ _ _ _ _ _ S1 h1 fun lo H2 ds2 S2 h2 => hh _ _ _ _ _ _ _ _ _ S2 h2 fun hi H3 ds3 S3 h3 => hr _ _ _ _ _ _ _ _ _ _ _ _ _ S3 h3 k
def wSlL : AV → Option Int → Option Int → Sto → (Sto → AV → Prop) → Prop := fun x lo hi ds Q => match lsOf ds x with
  | some l => Q ds (.ls (cutD l lo hi))
  | none => False
theorem snd_slL : SndSl K (rSlL K) wSlL := by
  intro B m H σ ds ts vs x v lo hi Q R S h k
  unfold wSlL at h
  split at h
  · rename_i l hl
    obtain ⟨f, g, a, xs, c, rfl, hs, r⟩ := S.reps1 hl
    exact ⟨a, xs, rfl, hs, fun p hp => k _ _ _ _ (Stt.newL c.pop (upd_keep hp) hp upd_same ((r.cut lo hi).keep (upd_keep hp))) h⟩
  · exact h.elim
def wSlT : AV → Option Int → Option Int → Sto → (Sto → AV → Prop) → Prop := fun x lo hi ds Q => match x with
  | .fz (.tuple l) => Q ds (.fz (.tuple (cutD l lo hi)))
  | _ => False
theorem snd_slT : SndSl K (rSlB K) wSlT := by
  intro B m H σ ds ts vs x v lo hi Q R S h k
  unfold wSlT at h
  split at h
  · rename_i l
    obtain ⟨f, g, a, xs, c, rfl, hs, r⟩ := S.tup1
    refine ⟨a, xs, rfl, hs, fun q => ?_, fun _ p o hp hd => k _ _ _ _ (Stt.newT c.pop hp hd (r.cut lo hi)) h⟩
    have e : cutD l lo hi = l := by
      unfold cutD
      rw [r.length, q.1, q.2]
      simp [← r.length]
    rw [e] at h
    exact k _ _ _ _ S h
  · exact h.elim
theorem cut_from (l : List D) (i : Nat) : cutD l (some (i : Int)) none = l.drop i := by
  unfold cutD
  rw [HT.sIx_none, HT.sIx_nat]
  rcases Nat.le_total i l.length with h | h
  · rw [Nat.min_eq_left h, List.take_of_length_le (by rw [List.length_drop]; omega)]
  · rw [Nat.min_eq_right h, List.drop_of_length_le h, List.drop_of_length_le (Nat.le_refl _)]
    simp
theorem cut_to (l : List D) (i : Nat) : cutD l none (some (i : Int)) = l.take i := by
  unfold cutD
  rw [HT.sIx_none, HT.sIx_nat, List.drop_zero, Nat.sub_zero]
  rcases Nat.le_total i l.length with h | h
  · rw [Nat.min_eq_left h]
  · rw [Nat.min_eq_right h, List.take_of_length_le h, List.take_of_length_le (Nat.le_refl _)]
theorem cut_mid (l : List D) (i j : Nat) : cutD l (some (i : Int)) (some (j : Int)) = (l.take j).drop i := by
  unfold cutD
  rw [HT.sIx_nat, HT.sIx_nat, List.drop_take]
  rcases Nat.le_total i l.length with h | h
  · rw [Nat.min_eq_left h]
    rcases Nat.le_total j l.length with h2 | h2
    · rw [Nat.min_eq_left h2]
    · rw [Nat.min_eq_right h2, List.take_of_length_le (by rw [List.length_drop]; omega), List.take_of_length_le (by rw [List.length_drop]; omega)]
  · rw [Nat.min_eq_right h, List.drop_of_length_le h, List.drop_of_length_le (Nat.le_refl _)]
    simp
/-! ### built-ins -/
def wLen : WL := fun xs ds Q => match xs with
  | [x] => match its ds x with
    | some l => Q ds (.fz (.int (l.length : Int)))
    | none => False
  | _ => False
theorem snd_len : SndL K (fun xs H Q => ∃ p ys, xs = [.ref p] ∧ (SqL K H p ys ∨ SqT K H p ys) ∧ Q (.int ys.length) H) wLen := by
  intro B m H σ ds ts vs xs us Q R hl S h k
  unfold wLen at h
  split at h
  · rename_i x
    match us, hl with
    | [u], _ =>
      split at h
      · rename_i l e
        obtain ⟨a, ys, e1, hs, hn⟩ := Stt.its1 (v := u) S e
        subst e1
        refine ⟨a, ys, rfl, hs, ?_⟩
        rw [hn]
        exact k _ _ _ _ (Stt.pushInt (Stt.pop (v := .ref a) S) _) h
      · exact h.elim
  · exact h.elim
theorem Stt.its0 {B : Hp} {m : Addr → Prop} {H : Hp} {σ : L2.St} {ds ts : List AV} {vs : List V} {x : AV} {v : V} {l : List D} (S : Stt K B m H σ ds (x :: ts) (v :: vs)) (h : its ds x = some l) : ∃ Fz g a xs, St0 K ⟨B, m, Fz, g⟩ H σ ds (x :: ts) (v :: vs) ∧ v = .ref a ∧ (SqL K H a xs ∨ SqT K H a xs) ∧ Reps K H Fz l xs := by
  obtain ⟨f, g, c⟩ := S
  obtain ⟨a, xs, q, s, r⟩ := Ok1.its c c.top h
  exact ⟨f, g, a, xs, c, q, s, r⟩
/-- list(..) of a list or tuple -/
def wListOf : WL := fun xs ds Q => match xs with
  | [x] => match its ds x with
    | some l => Q ds (.ls l)
    | none => False
  | _ => False
theorem snd_listOf : SndL K (fun xs H Q => ∃ p ys, xs = [.ref p] ∧ (SqL K H p ys ∨ SqT K H p ys) ∧ ∀ l, H l = none → Q (.ref l) (upd H l (.lst ys))) wListOf := by
  intro B m H σ ds ts vs xs us Q R hl S h k
  unfold wListOf at h
  split at h
  · rename_i x
    match us, hl with
    | [u], _ =>
      split at h
      · rename_i l e
        obtain ⟨f, g, a, ys, c, e1, hs, r⟩ := Stt.its0 (v := u) S e
        subst e1
        exact ⟨a, ys, rfl, hs, fun p hp => k _ _ _ _ (Stt.newL c.pop (upd_keep hp) hp upd_same (r.keep (upd_keep hp))) h⟩
      · exact h.elim
  · exact h.elim
def wTupleOf : WL := fun xs ds Q => match xs with
  | [x] => match lsOf ds x, x with
    | some l, _ => Q ds (.fz (.tuple l))
    | none, .fz (.tuple l) => Q ds (.fz (.tuple l))
    | _, _ => False
  | _ => False
theorem snd_tupleOf : SndL K (rTupB K) wTupleOf := by
  intro B m H σ ds ts vs xs us Q R hl S h k
  unfold wTupleOf at h
  split at h
  · rename_i x
    match us, hl with
    | [u], _ =>
      split at h
      · rename_i l e
        obtain ⟨f, g, a, ys, c, e1, hs, r⟩ := Stt.reps1 (v := u) S e
        subst e1
        exact ⟨a, ys, rfl, .inl ⟨hs, fun p o hp hd => k _ _ _ _ (Stt.newT c.pop hp hd r) h⟩⟩
      · rename_i l e
        obtain ⟨f, g, a, ys, c, e1, hs, r⟩ := Stt.tup1 (v := u) S
        subst e1
        exact ⟨a, ys, rfl, .inr ⟨hs, k _ _ _ _ S h⟩⟩
      · exact h.elim
  · exact h.elim
def wAbs : WL := fun xs ds Q => match xs with
  | [.fz (.int i)] => Q ds (.fz (.int (if i < 0 then -i else i)))
  | _ => False
theorem snd_abs : SndL K (fun xs H Q => ∃ i, xs = [.int i] ∧ Q (.int (if i < 0 then -i else i)) H) wAbs := by
  intro B m H σ ds ts vs xs us Q R hl S h k
  unfold wAbs at h
  split at h
  · rename_i i
    match us, hl with
    | [u], _ =>
      have e := Stt.topI (v := u) S
      subst e
      exact ⟨i, rfl, k _ _ _ _ (Stt.pushInt (Stt.pop (v := .int i) S) _) h⟩
  · exact h.elim
/-- the ints of a list of ints -/
def intsOf : List D → Option (List Int)
  | [] => some []
  | .int i :: r => (intsOf r).map (i :: ·)
  | _ :: _ => none
theorem intsOf_map : ∀ {l : List D} {ns : List Int}, intsOf l = some ns → l = ns.map PyData.int
  | [], ns, h => by cases h; rfl
  | .int i :: r, ns, h => by
    cases e : intsOf r with
    | none =>
      have h : (intsOf r).map (i :: ·) = some ns := h
      rw [e] at h; cases h
    | some q =>
      have h : (intsOf r).map (i :: ·) = some ns := h
      rw [e] at h
      cases h
      rw [intsOf_map e]; rfl
  | .none :: _, _, h => by cases h
  | .bool _ :: _, _, h => by cases h
  | .str _ :: _, _, h => by cases h
  | .list _ :: _, _, h => by cases h
  | .tuple _ :: _, _, h => by cases h
  | .dict _ :: _, _, h => by cases h
theorem intsOf_ints : ∀ ns : List Int, intsOf (ns.map PyData.int) = some ns
  | [] => rfl
  | n :: ns => by
    show (intsOf (ns.map PyData.int)).map (n :: ·) = some (n :: ns)
    rw [intsOf_ints ns]; rfl
/-- a function of a list of ints: r's form -/
def wInts (F : List Int → Sto → (Sto → AV → Prop) → Prop) : WL := fun xs ds Q => match xs with
  | [x] => ∃ ns : List Int, lsOf ds x = some (ns.map PyData.int) ∧ F ns ds Q
  | _ => False
theorem ints_arg {B : Hp} {m : Addr → Prop} {H : Hp} {σ : L2.St} {ds ts : List AV} {vs : List V} {x : AV} {u : V} {ns : List Int} (S : Stt K B m H σ ds (x :: ts) (u :: vs)) (e : lsOf ds x = some (ns.map PyData.int)) : ∃ a, u = .ref a ∧ SqL K H a (ns.map V.int) ∧ Stt K B m H σ ds ts vs := by
  obtain ⟨f, g, a, ys, c, e1, hs, r⟩ := S.reps1 e
  rw [r.ints] at hs
  exact ⟨a, e1, hs, S.pop⟩
theorem snd_sum : SndL K (rSum K) (wInts fun ns ds Q => Q ds (.fz (.int ns.sum))) := by
  intro B m H σ ds ts vs xs us Q R hl S h k
  unfold wInts at h
  split at h
  · rename_i x
    obtain ⟨ns, e, h⟩ := h
    match us, hl with
    | [u], _ =>
      obtain ⟨a, rfl, hs, S'⟩ := ints_arg (u := u) S e
      exact ⟨a, ns, rfl, hs, k _ _ _ _ (S'.pushInt _) h⟩
  · exact h.elim
theorem snd_max : SndL K (rMax K) (wInts fun ns ds Q => 0 < ns.length ∧ ∀ m, m ∈ ns → (∀ y, y ∈ ns → y ≤ m) → Q ds (.fz (.int m))) := by
  intro B m H σ ds ts vs xs us Q R hl S h k
  unfold wInts at h
  split at h
  · rename_i x
    obtain ⟨ns, e, h⟩ := h
    match us, hl with
    | [u], _ =>
      obtain ⟨a, rfl, hs, S'⟩ := ints_arg (u := u) S e
      exact ⟨a, ns, rfl, hs, h.1, fun m' h1 h2 => k _ _ _ _ (S'.pushInt _) (h.2 m' h1 h2)⟩
  · exact h.elim
theorem snd_min : SndL K (rMin K) (wInts fun ns ds Q => 0 < ns.length ∧ ∀ m, m ∈ ns → (∀ y, y ∈ ns → m ≤ y) → Q ds (.fz (.int m))) := by
  intro B m H σ ds ts vs xs us Q R hl S h k
  unfold wInts at h
  split at h
  · rename_i x
    obtain ⟨ns, e, h⟩ := h
    match us, hl with
    | [u], _ =>
      obtain ⟨a, rfl, hs, S'⟩ := ints_arg (u := u) S e
      exact ⟨a, ns, rfl, hs, h.1, fun m' h1 h2 => k _ _ _ _ (S'.pushInt _) (h.2 m' h1 h2)⟩
  · exact h.elim
theorem snd_sortedI : SndL K (rSorted K) (wInts fun ns ds Q => ns.length < 64 ∧ ∀ ns' : List Int, ns'.Perm ns → ns'.Pairwise (· ≤ ·) → Q ds (.ls (ns'.map PyData.int))) := by
  intro B m H σ ds ts vs xs us Q R hl S h k
  unfold wInts at h
  split at h
  · rename_i x
    obtain ⟨ns, e, h⟩ := h
    match us, hl with
    | [u], _ =>
      obtain ⟨a, rfl, hs, S'⟩ := ints_arg (u := u) S e
      refine ⟨a, ns, rfl, hs, h.1, fun ns' p h1 h2 hp => ?_⟩
      obtain ⟨f, g, c⟩ := S'
      exact k _ _ _ _ (Stt.newL c (upd_keep hp) hp upd_same (Reps.of_ints ns')) (h.2 ns' h1 h2)
  · exact h.elim
/-- all, any of a list of truth values -/
def wBls (F : List Bool → Sto → (Sto → AV → Prop) → Prop) : WL := fun xs ds Q => match xs with
  | [x] => ∃ bs : List Bool, lsOf ds x = some (bs.map PyData.bool) ∧ F bs ds Q
  | _ => False
theorem Reps.bls {H : Hp} {Fz : Addr → Prop} : ∀ {ns : List Bool} {vs : List V}, Reps K H Fz (ns.map PyData.bool) vs → vs = ns.map V.bl
  | [], _, h => by cases h; rfl
  | n :: ns, _, h => by
    cases h with
    | cons a b =>
      rw [a.bl_inv, Reps.bls b]
      rfl
theorem snd_any : SndL K (rAny K) (wBls fun bs ds Q => Q ds (.fz (.bool (bs.any id)))) := by
  intro B m H σ ds ts vs xs us Q R hl S h k
  unfold wBls at h
  split at h
  · rename_i x
    obtain ⟨ns, e, h⟩ := h
    match us, hl with
    | [u], _ =>
      obtain ⟨f, g, a, ys, c, e1, hs, r⟩ := Stt.reps1 (v := u) S e
      subst e1
      rw [r.bls] at hs
      exact ⟨a, ns, rfl, hs, k _ _ _ _ (Stt.pushBl (Stt.pop (v := .ref a) S) _) h⟩
  · exact h.elim
theorem snd_all : SndL K (rAll K) (wBls fun bs ds Q => Q ds (.fz (.bool (bs.all id)))) := by
  intro B m H σ ds ts vs xs us Q R hl S h k
  unfold wBls at h
  split at h
  · rename_i x
    obtain ⟨ns, e, h⟩ := h
    match us, hl with
    | [u], _ =>
      obtain ⟨f, g, a, ys, c, e1, hs, r⟩ := Stt.reps1 (v := u) S e
      subst e1
      rw [r.bls] at hs
      exact ⟨a, ns, rfl, hs, k _ _ _ _ (Stt.pushBl (Stt.pop (v := .ref a) S) _) h⟩
  · exact h.elim
/-! ### sequences put together -/
def wCatT : WR := fun x y ds Q => match x, y with
  | .fz (.tuple a), .fz (.tuple b) => a.length + b.length ≤ 100000 ∧ Q ds (.fz (.tuple (a ++ b)))
  | _, _ => False
theorem snd_catT : SndR K (rCatB K) wCatT := by
  intro B m H σ ds ts vs x y v u Q R S h k
  unfold wCatT at h
  split at h
  · rename_i a b
    obtain ⟨f, g, p, ys, c, rfl, hs, r⟩ := S.tup1
    obtain ⟨w, e, r2⟩ := c.pop.top
    cases e
    obtain ⟨q, xs, rfl, hq, r2⟩ := r2.tup_inv
    obtain ⟨w0, e0, ry⟩ := c.top
    cases e0
    refine ⟨q, p, xs, ys, rfl, rfl, hq.sqt, hs, small_line' (by rw [← r.length, ← r2.length]; omega), fun e => ?_, fun e1 e2 => ?_, fun e1 e2 z o hz hd => ?_⟩
    · have ea : a = [] := List.length_eq_zero_iff.mp (by rw [r2.length, e]; rfl)
      rw [ea] at h
      exact k _ _ _ _ ⟨f, g, c.pop.pop.pushF ry⟩ h.2
    · have eb : b = [] := List.length_eq_zero_iff.mp (by rw [r.length, e2]; rfl)
      rw [eb, List.append_nil] at h
      exact k _ _ _ _ S.pop h.2
    · exact k _ _ _ _ (Stt.newT c.pop.pop hz hd (r2.append r)) h.2
  · exact h.elim
/-- list + list, both of one's own or lent -/
def oLs (ds : Sto) : AV → Option (List D)
  | .ls l => some l
  | .rf i => oL (ds.getD i .un)
  | _ => none
theorem Stt.ols1 {B : Hp} {m : Addr → Prop} {H : Hp} {σ : L2.St} {ds ts : List AV} {vs : List V} {x : AV} {v : V} {l : List D} {Fz : Addr → Prop} {g : Addr → Nat} (c : St0 K ⟨B, m, Fz, g⟩ H σ ds (x :: ts) (v :: vs)) (h : oLs ds x = some l) : ∃ a xs, v = .ref a ∧ H a = some (.lst xs) ∧ Reps K H Fz l xs := by
  have q := c.top
  cases x with
  | ls l =>
    cases h
    obtain ⟨a, xs, e, z, gi, b, hx, r⟩ := q
    cases e
    exact ⟨a, xs, rfl, hx, r⟩
  | rf i =>
    obtain ⟨w, e, s, o, hj⟩ := q
    cases e
    obtain ⟨a, xs, hi, e4, z, gi, bm, hx, rx⟩ := c.list h
    rw [s] at e4
    cases e4
    exact ⟨a, xs, rfl, hx, rx⟩
  | fz _ => cases h
  | lb _ => cases h
  | un => cases h
  | dk _ => cases h
def wCat : WR := fun x y ds Q => match oLs ds x, oLs ds y with
  | some a, some b => a.length + b.length ≤ 100000 ∧ Q ds (.ls (a ++ b))
  | _, _ => False
theorem snd_cat : SndR K rCat wCat := by
  intro B m H σ ds ts vs x y v u Q R S h k
  unfold wCat at h
  split at h
  · rename_i a b ea eb
    obtain ⟨f, g, c⟩ := S
    obtain ⟨p, ys, rfl, hp, r⟩ := Stt.ols1 c eb
    obtain ⟨q, xs, rfl, hq, r2⟩ := Stt.ols1 c.pop ea
    exact ⟨q, p, xs, ys, rfl, rfl, hq, hp, small_line' (by rw [← r.length, ← r2.length]; omega), fun z hz => k _ _ _ _ (Stt.newL c.pop.pop (upd_keep hz) hz upd_same ((r2.append r).keep (upd_keep hz))) h.2⟩
  · exact h.elim
def wRep : WR := fun x y ds Q => match oLs ds x, y with
  | some a, .fz (.int n) => 0 ≤ n ∧ n ≤ 100000 ∧ a.length * n.toNat ≤ 100000 ∧ Q ds (.ls (List.replicate n.toNat a).flatten)
  | _, _ => False
theorem snd_rep : SndR K rRep wRep := by
  intro B m H σ ds ts vs x y v u Q R S h k
  unfold wRep at h
  split at h
  · rename_i a n ea
    have e := S.topI
    subst e
    obtain ⟨f, g, c⟩ := S.pop
    obtain ⟨q, xs, rfl, hq, r2⟩ := Stt.ols1 c ea
    exact ⟨q, n, xs, rfl, rfl, hq, by omega, by omega, small_line' (by rw [← r2.length]; omega), fun z hz => k _ _ _ _ (Stt.newL c.pop (upd_keep hz) hz upd_same ((r2.replicate _).keep (upd_keep hz))) h.2.2.2⟩
  · exact h.elim
/-- x in ints -/
def wInI (neg : Bool) : WR := fun x y ds Q => match x with
  | .fz (.int i) => ∃ ns : List Int, its ds y = some (ns.map PyData.int) ∧ Q ds (.fz (.bool (if neg then !decide (i ∈ ns) else decide (i ∈ ns))))
  | _ => False
theorem inV_ints (i : Int) : ∀ ns : List Int, inV (.int i) (ns.map V.int) = decide (i ∈ ns)
  | [] => rfl
  | n :: ns => by
    show (eqV (.int n) (.int i) || inV (.int i) (ns.map V.int)) = decide (i ∈ n :: ns)
    rw [inV_ints i ns]
    have e : eqV (.int n) (.int i) = decide (i = n) := by
      show (n == i) = decide (i = n)
      by_cases q : n = i
      · subst q; simp
      · rw [decide_eq_false (fun z => q z.symm)]
        simpa using q
    rw [e]
    simp [List.mem_cons, Bool.decide_or]
theorem flat_ints : ∀ ns : List Int, (ns.map V.int).all flatV = true
  | [] => rfl
  | n :: ns => by
    show (true && (ns.map V.int).all flatV) = true
    rw [flat_ints ns]; rfl
theorem snd_inI {neg : Bool} : SndR K (rIn K neg) (wInI neg) := by
  intro B m H σ ds ts vs x y v u Q R S h k
  unfold wInI at h
  split at h
  · rename_i i
    obtain ⟨ns, e, h⟩ := h
    obtain ⟨f, g, a, ys, c, e1, hs, r⟩ := Stt.its0 S e
    subst e1
    have e2 := S.pop.topI
    subst e2
    rw [r.ints] at hs
    refine ⟨a, _, rfl, hs, rfl, flat_ints ns, ?_⟩
    rw [inV_ints]
    exact k _ _ _ _ (S.pop.pop.pushBl _) h
  · exact h.elim
end
end SX
namespace SX
open PySem PySem.Spec PyProof.Rows L2
section
variable {K : PySem.W.Frag}
/-! ### what a loop walks -/
theorem Reps.one {H : Hp} {Fz : Addr → Prop} {d : D} {v : V} (h : Reps K H Fz [d] [v]) : Rep K H Fz d v := by
  cases h with
  | cons a b => exact a
theorem Reps.two {H : Hp} {Fz : Addr → Prop} {d e : D} {v u : V} (h : Reps K H Fz [d, e] [v, u]) : Rep K H Fz d v ∧ Rep K H Fz e u := by
  cases h with
  | cons a b => exact ⟨a, b.one⟩
def rng (lo : Int) (n : Nat) : List D := (List.range n).map fun (k : Nat) => PyData.int (lo + (k : Int))
theorem rng_get {lo : Int} {n i : Nat} (h : i < n) : (rng lo n)[i]? = some (.int (lo + (i : Int))) := by
  unfold rng
  rw [List.getElem?_map, List.getElem?_range h]
  rfl
theorem rng_len {lo : Int} {n : Nat} : (rng lo n).length = n := by unfold rng; simp
theorem itr_for (lo : Int) (n : Nat) : ItFor K (Itr lo n) [] [] (rng lo n) := fun H Fz _ => by
  rw [rng_len]
  refine ⟨fun i h => h, fun i h => h, fun i y H' hi hy => ?_⟩
  obtain ⟨rfl, rfl⟩ := hy
  exact ⟨_, rng_get hi, fun _ _ q => q, .int _⟩
/-- lo, lo + c, .. -/
def rngC (lo c : Int) (n : Nat) : List D := (List.range n).map fun (k : Nat) => PyData.int (lo + (k : Int) * c)
theorem rngC_get {lo c : Int} {n i : Nat} (h : i < n) : (rngC lo c n)[i]? = some (.int (lo + (i : Int) * c)) := by
  unfold rngC
  rw [List.getElem?_map, List.getElem?_range h]
  rfl
theorem rngC_len {lo c : Int} {n : Nat} : (rngC lo c n).length = n := by unfold rngC; simp
theorem itc_for (lo c : Int) (n : Nat) : ItFor K (Itc lo c n) [] [] (rngC lo c n) := fun H Fz _ => by
  rw [rngC_len]
  refine ⟨fun i h => h, fun i h => h, fun i y H' hi hy => ?_⟩
  obtain ⟨rfl, rfl⟩ := hy
  exact ⟨_, rngC_get hi, fun _ _ q => q, .int _⟩
theorem itl_for {l : List D} {a : Addr} : ItFor K (Itl K a) [.list l] [.ref a] l := fun H Fz h => by
  obtain ⟨b, xs, e, fl, r⟩ := h.one.lst_inv
  cases e
  refine ⟨fun i hi => ?_, fun i hi => ⟨xs, fl.sql, by rw [← r.length]; exact hi⟩, fun i y H' hi hy => ?_⟩
  · obtain ⟨v, hv, _⟩ := r.get (List.getElem?_eq_getElem hi)
    exact ⟨xs, v, fl.sql, hv⟩
  · obtain ⟨rfl, hy⟩ := hy
    obtain ⟨d, hd, rd⟩ := r.getV (hy xs fl.sql)
    exact ⟨d, hd, fun _ _ q => q, rd⟩
theorem itt_for {l : List D} {a : Addr} : ItFor K (Itt K a) [.tuple l] [.ref a] l := fun H Fz h => by
  obtain ⟨b, xs, e, fl, r⟩ := h.one.tup_inv
  cases e
  refine ⟨fun i hi => ?_, fun i hi => ⟨xs, fl.sqt, by rw [← r.length]; exact hi⟩, fun i y H' hi hy => ?_⟩
  · obtain ⟨v, hv, _⟩ := r.get (List.getElem?_eq_getElem hi)
    exact ⟨xs, v, fl.sqt, hv⟩
  · obtain ⟨rfl, hy⟩ := hy
    obtain ⟨d, hd, rd⟩ := r.getV (hy xs fl.sqt)
    exact ⟨d, hd, fun _ _ q => q, rd⟩
/-- the items with their numbers -/
def enu (l : List D) : List D := l.zipIdx.map fun p => PyData.tuple [.int (p.2 : Int), p.1]
theorem enu_get {l : List D} {i : Nat} {d : D} (h : l[i]? = some d) : (enu l)[i]? = some (.tuple [.int (i : Int), d]) := by
  unfold enu
  rw [List.getElem?_map, List.getElem?_zipIdx, h]
  simp
theorem enu_len {l : List D} : (enu l).length = l.length := by unfold enu; simp
theorem SqT.keep {H H' : Hp} (hk : ∀ a o, H a = some o → H' a = some o) {a : Addr} {xs : List V} (h : SqT K H a xs) : SqT K H' a xs := by
  rcases h with (q | ⟨o, q⟩) | q
  · exact .inl (.inl (hk _ _ q))
  · exact .inl (.inr ⟨o, hk _ _ q⟩)
  · exact .inr q
/-- pairs -/
def zips (l m : List D) : List D := List.zipWith (fun a b => PyData.tuple [a, b]) l m
theorem zips_get {l m : List D} {i : Nat} {d e : D} (h : l[i]? = some d) (h' : m[i]? = some e) : (zips l m)[i]? = some (.tuple [d, e]) := by
  unfold zips
  rw [List.getElem?_zipWith, h, h']
theorem zips_len {l m : List D} : (zips l m).length = min l.length m.length := by unfold zips; simp
def wRng1 (wa : WA) : WI := fun ds Q => wa ds fun ds1 xs => match xs with
  | [.fz (.int j)] => (-1000000 ≤ j ∧ j ≤ 1000000) ∧ Q ds1 (rng 0 j.toNat)
  | _ => False
theorem snd_rng1 {ta : TA} {wa : WA} (ha : SndA K ta wa) : SndI K (iRng1 ta) (wRng1 wa) := fun B m H σ ds ts vs Q R S h k =>
  ha _ _ _ _ _ _ _ _ _ S h fun us H1 ds1 xs S1 hl h1 => by
    split at h1
    · rename_i j
      match us, hl with
      | [u], _ =>
        have e := Stt.topI (v := u) S1
        subst e
        refine ⟨j, rfl, by omega, by omega, ?_⟩
        exact k _ _ _ [] [] _ (Stt.pop (v := .int j) S1) rfl (itr_for 0 _) h1.2
    · exact h1.elim
def wRng2 (wa : WA) : WI := fun ds Q => wa ds fun ds1 xs => match xs with
  | [.fz (.int i), .fz (.int j)] => (-1000000 ≤ i ∧ i ≤ 1000000 ∧ -1000000 ≤ j ∧ j ≤ 1000000) ∧ Q ds1 (rng i (j - i).toNat)
  | _ => False
theorem snd_rng2 {ta : TA} {wa : WA} (ha : SndA K ta wa) : SndI K (iRng2 ta) (wRng2 wa) := fun B m H σ ds ts vs Q R S h k =>
  ha _ _ _ _ _ _ _ _ _ S h fun us H1 ds1 xs S1 hl h1 => by
    split at h1
    · rename_i i j
      match us, hl with
      | [u, w], _ =>
        have S2 : Stt K B m H1 σ ds1 (.fz (.int j) :: .fz (.int i) :: ts) (w :: u :: vs) := S1
        have e := S2.topI
        subst e
        have e := S2.pop.topI
        subst e
        refine ⟨i, j, rfl, by omega, ?_⟩
        exact k _ _ _ [] [] _ S2.pop.pop rfl (itr_for i _) h1.2
    · exact h1.elim
/-- range(i, j, c), c positive -/
def wRng3 (wa : WA) : WI := fun ds Q => wa ds fun ds1 xs => match xs with
  | [.fz (.int i), .fz (.int j), .fz (.int c)] => ∃ n : Nat, RgC i j c n ∧ Q ds1 (rngC i c n)
  | _ => False
theorem snd_rng3 {ta : TA} {wa : WA} (ha : SndA K ta wa) : SndI K (iRng3 ta) (wRng3 wa) := fun B m H σ ds ts vs Q R S h k =>
  ha _ _ _ _ _ _ _ _ _ S h fun us H1 ds1 xs S1 hl h1 => by
    split at h1
    · rename_i i j c
      match us, hl with
      | [u, w, z], _ =>
        have S2 : Stt K B m H1 σ ds1 (.fz (.int c) :: .fz (.int j) :: .fz (.int i) :: ts) (z :: w :: u :: vs) := S1
        have e := S2.topI
        subst e
        have e := S2.pop.topI
        subst e
        have e := S2.pop.pop.topI
        subst e
        obtain ⟨n, hn, h1⟩ := h1
        refine ⟨i, j, c, n, rfl, hn, ?_⟩
        exact k _ _ _ [] [] _ S2.pop.pop.pop rfl (itc_for i c n) h1
    · exact h1.elim
def wIList (w : WE) : WI := fun ds Q => w ds fun ds1 x => match x with
  | .fz (.list l) => Q ds1 l
  | _ => False
theorem snd_iList {t : TE} {w : WE} (h : SndE K t w) : SndI K (iList K t) (wIList w) := fun B m H σ ds ts vs Q R S q k =>
  h _ _ _ _ _ _ _ _ _ S q fun v H1 ds1 x S1 h1 => by
    split at h1
    · rename_i l
      obtain ⟨f, g, c, r⟩ := S1.top
      obtain ⟨a, xs, rfl, fl, rr⟩ := r.lst_inv
      exact ⟨a, rfl, ⟨xs, fl.sql⟩, k _ _ _ [.list l] [.ref a] _ S1 rfl itl_for h1⟩
    · exact h1.elim
def wITup (w : WE) : WI := fun ds Q => w ds fun ds1 x => match x with
  | .fz (.tuple l) => Q ds1 l
  | _ => False
theorem snd_iTup {t : TE} {w : WE} (h : SndE K t w) : SndI K (iTup K t) (wITup w) := fun B m H σ ds ts vs Q R S q k =>
  h _ _ _ _ _ _ _ _ _ S q fun v H1 ds1 x S1 h1 => by
    split at h1
    · rename_i l
      obtain ⟨f, g, c, r⟩ := S1.top
      obtain ⟨a, xs, rfl, fl, rr⟩ := r.tup_inv
      exact ⟨a, rfl, ⟨xs, fl.sqt⟩, k _ _ _ [.tuple l] [.ref a] _ S1 rfl itt_for h1⟩
    · exact h1.elim
theorem set_ge {α : Type} {l : List α} {i : Nat} {x : α} (h : ¬ i < l.length) : l.set i x = l := by
  refine List.ext_getElem? fun j => ?_
  by_cases e : j = i
  · subst e
    rw [List.getElem?_eq_none (by rw [List.length_set]; omega), List.getElem?_eq_none (by omega)]
  · rw [List.getElem?_set_ne (Ne.symm e)]
theorem Stt.store {B : Hp} {m : Addr → Prop} {H : Hp} {σ : L2.St} {ds ts : List AV} {vs : List V} {x : AV} {v : V} (S : Stt K B m H σ ds (x :: ts) (v :: vs)) (i : Nat) (hx : ∀ j, x ≠ .rf j) (hn : noRf i ts) : Stt K B m H (σ.set i (some v)) (ds.set i x) ts vs := by
  obtain ⟨f, g, c⟩ := S
  by_cases hi : i < ds.length
  · obtain ⟨g', c'⟩ := c.store hx hi hn
    exact ⟨f, g', c'⟩
  · rw [set_ge hi, set_ge (by rw [c.len]; exact hi)]
    exact ⟨f, g, c.pop⟩
/-- a value stored at the slot i -/
def sto (i : Nat) (x : AV) (ds : Sto) (Q : Sto → Prop) : Prop := match x with
  | .rf _ => False
  | x => Q (ds.set i x)
theorem sto_ok {i : Nat} {x : AV} {ds : Sto} {Q : Sto → Prop} (h : sto i x ds Q) : (∀ j, x ≠ .rf j) ∧ Q (ds.set i x) := by
  cases x with
  | rf j => exact h.elim
  | un => exact ⟨fun j q => (nomatch q), h⟩
  | fz _ => exact ⟨fun j q => (nomatch q), h⟩
  | ls _ => exact ⟨fun j q => (nomatch q), h⟩
  | lb _ => exact ⟨fun j q => (nomatch q), h⟩
  | dk _ => exact ⟨fun j q => (nomatch q), h⟩
def wName (i : Nat) : WG := fun x ds Q => sto i x ds Q
theorem snd_name (i : Nat) : SndG K (gName i) (wName i) [i] := fun B m H σ ds ts vs x v Q R hn S h k => by
  obtain ⟨hx, hq⟩ := sto_ok h
  refine k _ _ _ (S.store i hx (hn i List.mem_cons_self)) (by rw [List.length_set]) (fun j hj => ?_) hq
  rw [List.getElem?_set_ne (fun e => hj (by rw [e]; exact List.mem_cons_self))]
abbrev WGs := List D → Sto → (Sto → Prop) → Prop
def SndGs (K : PySem.W.Frag) (g : TGs) (w : WGs) (ws : List Nat) : Prop := ∀ (B : Hp) (m : Addr → Prop) (H : Hp) (σ : L2.St) (ds ts : List AV) (vs : List V) (l : List D) (us : List V) (Q : Sto → Prop) (R : L2.St → Hp → Prop), (∀ i ∈ ws, noRf i ts) → us.length = l.length → Stt K B m H σ ds (l.map AV.fz ++ ts) (us ++ vs) → w l ds Q →
  (∀ σ' H' ds', Stt K B m H' σ' ds' ts vs → σ'.length = σ.length → (∀ j, j ∉ ws → σ'[j]? = σ[j]?) → Q ds' → R σ' H') → g us σ H R
def wgNil : WGs := fun l ds Q => match l with
  | [] => Q ds
  | _ => False
def wgCons (w : WG) (ws : WGs) : WGs := fun l ds Q => match l with
  | d :: r => w (.fz d) ds fun ds1 => ws r ds1 Q
  | [] => False
theorem snd_gNil : SndGs K gNil wgNil [] := fun B m H σ ds ts vs l us Q R hn hl S h k => by
  unfold wgNil at h
  split at h
  · match us, hl with
    | [], _ => exact ⟨rfl, k _ _ _ S rfl (fun _ _ => rfl) h⟩
  · exact h.elim
theorem noRf_fz {i : Nat} {l : List D} {ts : List AV} (h : noRf i ts) : noRf i (l.map AV.fz ++ ts) := fun x hx => by
  rcases List.mem_append.mp hx with hx | hx
  · obtain ⟨d, _, rfl⟩ := List.mem_map.mp hx
    exact fun q => nomatch q
  · exact h x hx
theorem snd_gCons {t : TG} {u : TGs} {w : WG} {ws : WGs} {a b : List Nat} (h1 : SndG K t w a) (h2 : SndGs K u ws b) : SndGs K (gCons t u) (wgCons w ws) (a ++ b) := fun B m H σ ds ts vs l us Q R hn hl S h k => by
  unfold wgCons at h
  split at h
  · rename_i d r
    match us, hl with
    | v :: us, hl =>
      refine ⟨v, us, rfl, ?_⟩
      refine h1 _ _ _ _ _ _ _ _ _ _ _ (fun i hi => noRf_fz (hn i (List.mem_append_left _ hi))) S h fun σ1 H1 ds1 S1 l1 e1 q1 => ?_
      refine h2 _ _ _ _ _ _ _ _ _ _ _ (fun i hi => hn i (List.mem_append_right _ hi)) (by simpa using hl) S1 q1 fun σ2 H2 ds2 S2 l2 e2 q2 => ?_
      exact k _ _ _ S2 (l2.trans l1) (fun j hj => (e2 j fun z => hj (List.mem_append_right _ z)).trans (e1 j fun z => hj (List.mem_append_left _ z))) q2
  · exact h.elim
def wgTup (n : Nat) (ws : WGs) : WG := fun x ds Q => match x with
  | .fz (.tuple l) => l.length = n ∧ ws l ds Q
  | _ => False
theorem St0.spread {G : Gh} {H : Hp} {σ : L2.St} {ds : Sto} {ts : List AV} {vs : List V} : ∀ {l : List D} {us : List V}, Reps K H G.Fz l us → St0 K G H σ ds ts vs → St0 K G H σ ds (l.map AV.fz ++ ts) (us ++ vs)
  | [], us, r, S => by cases r; exact S
  | d :: l, us, r, S => by
    cases r with
    | cons a b => exact (St0.spread b S).pushF a
theorem snd_gTup {n : Nat} {u : TGs} {ws : WGs} {a : List Nat} (h : SndGs K u ws a) : SndG K (gTup K n u) (wgTup n ws) a := fun B m H σ ds ts vs x v Q R hn S q k => by
  unfold wgTup at q
  split at q
  · rename_i l
    obtain ⟨f, g, b, xs, c, rfl, hs, r⟩ := S.tup1
    refine ⟨b, xs, rfl, hs, by rw [← r.length]; exact q.1, ?_⟩
    exact h _ _ _ _ _ _ _ _ _ _ _ hn r.length.symm ⟨f, g, St0.spread r c.pop⟩ q.2 k
  · exact q.elim
/-- a, b = a list of one's own -/
def wgLst (n : Nat) (ws : WGs) : WG := fun x ds Q => match lsOf ds x with
  | some l => l.length = n ∧ ws l ds Q
  | none => False
theorem snd_gLst {n : Nat} {u : TGs} {ws : WGs} {a : List Nat} (h : SndGs K u ws a) : SndG K (gLst K n u) (wgLst n ws) a := fun B m H σ ds ts vs x v Q R hn S q k => by
  unfold wgLst at q
  split at q
  · rename_i l hl
    obtain ⟨f, g, b, xs, c, rfl, hs, r⟩ := S.reps1 hl
    refine ⟨b, xs, rfl, hs, by rw [← r.length]; exact q.1, ?_⟩
    exact h _ _ _ _ _ _ _ _ _ _ _ hn r.length.symm ⟨f, g, St0.spread r c.pop⟩ q.2 k
  · exact q.elim
/-- o[i] = d, o a list of one's own -/
def wgSub (wo wi : WE) : WG := fun x ds Q => match x with
  | .fz d => wo ds fun ds1 o => wi ds1 fun ds2 i => match o, i with
    | .rf j, .fz (.int z) => match oL (ds2.getD j .un) with
      | some l => ∃ n, ixN l.length z = some n ∧ Q (ds2.set j (upL (ds2.getD j .un) (l.set n d)))
      | none => False
    | _, _ => False
  | _ => False
theorem snd_gSub {to ti : TE} {wo wi : WE} (ho : SndE K to wo) (hi : SndE K ti wi) : SndG K (gSub to ti rSetL) (wgSub wo wi) [] := fun B m H σ ds ts vs x v Q R hn S q k => by
  unfold wgSub at q
  split at q
  · rename_i d
    refine ho _ _ _ _ _ _ _ _ _ S q fun o H1 ds1 xo S1 h1 => hi _ _ _ _ _ _ _ _ _ S1 h1 fun i H2 ds2 xi S2 h2 => ?_
    split at h2
    · rename_i j z
      split at h2
      · rename_i l e
        obtain ⟨n, hn, h2⟩ := h2
        have e1 := S2.topI
        subst e1
        obtain ⟨f, g, a, xs, c, rfl, s, hx, rx, hj, hz, gj⟩ := S2.pop.recv0 e
        obtain ⟨w, e2, rd⟩ := c.pop.top
        cases e2
        refine ⟨a, xs, z, n, rfl, rfl, hx, by rw [← rx.length]; exact hn, k _ _ _ ⟨f, g, St0.put c.pop.pop e s hx hz (rx.set rd n)⟩ rfl (fun _ _ => rfl) h2⟩
      · exact h2.elim
    · exact h2.elim
  · exact q.elim
end
end SX
namespace SX
open PySem PySem.Spec PyProof.Rows L2
section
variable {K : PySem.W.Frag}
/-! ### statements -/
def wNext : WS := fun N ds => N.nx ds
theorem snd_next : SndS K tNext wNext := fun B m H σ ds ts vs N E hf S h n r b c => n _ _ _ S h
def wSeq (a b : WS) : WS := fun N ds => a { N with nx := b N } ds
theorem snd_seq {t u : TS} {a b : WS} (h1 : SndS K t a) (h2 : SndS K u b) : SndS K (tSeq t u) (wSeq a b) := fun B m H σ ds ts vs N E hf S h n r k c =>
  h1 B m H σ ds ts vs { N with nx := b N } { E with nx := u E } hf S h (fun σ' H' ds' S' q => h2 B m H' σ' ds' ts vs N E hf S' q n r k c) r k c
def wAsg (we : WE) (wg : WG) : WS := fun N ds => we ds fun ds1 x => wg x ds1 N.nx
theorem snd_asg {t : TE} {g : TG} {we : WE} {wg : WG} {ws : List Nat} (h1 : SndE K t we) (h2 : SndG K g wg ws) : SndS K (tAsg t g) (wAsg we wg) := fun B m H σ ds ts vs N E hf S h n r b c =>
  h1 _ _ _ _ _ _ _ _ _ S h fun v H1 ds1 x S1 q => h2 _ _ _ _ _ _ _ _ _ _ _ (fun i _ => hf.noRf i) S1 q fun σ' H' ds' S' _ _ q' => n _ _ _ S' q'
def wDrop (we : WE) : WS := fun N ds => we ds fun ds1 _ => N.nx ds1
theorem snd_drop {t : TE} {we : WE} (h1 : SndE K t we) : SndS K (tDrop t) (wDrop we) := fun B m H σ ds ts vs N E hf S h n r b c =>
  h1 _ _ _ _ _ _ _ _ _ S h fun v H1 ds1 x S1 q => n _ _ _ S1.pop q
def wRet (we : WE) : WS := fun N ds => we ds fun ds1 x => N.rt ds1 x
theorem snd_ret {t : TE} {we : WE} (h1 : SndE K t we) : SndS K (tRet t) (wRet we) := fun B m H σ ds ts vs N E hf S h n r b c =>
  h1 _ _ _ _ _ _ _ _ _ S h fun v H1 ds1 x S1 q => r _ _ _ _ _ S1 q
def wRetN : WS := fun N ds => N.rt ds (.fz .none)
theorem snd_retN : SndS K tRetN wRetN := fun B m H σ ds ts vs N E hf S h n r b c => r σ _ _ _ _ S.pushNon h
def wIf (wt : WT) (a b : WS) : WS := fun N ds => wt ds fun ds1 c => if c = true then a N ds1 else b N ds1
theorem snd_if {tt : TT} {t u : TS} {wt : WT} {a b : WS} (ht : SndT K tt wt) (h1 : SndS K t a) (h2 : SndS K u b) : SndS K (tIfS tt t u) (wIf wt a b) := fun B m H σ ds ts vs N E hf S h n r k c =>
  ht _ _ _ _ _ _ _ _ _ S h fun b' H1 ds1 S1 q => by
    cases b' with
    | true => exact h1 _ _ _ _ _ _ _ _ _ hf S1 q n r k c
    | false => exact h2 _ _ _ _ _ _ _ _ _ hf S1 q n r k c
def wNever : WS := fun _ _ => False
theorem snd_never : SndS K tNever wNever := fun B m H σ ds ts vs N E hf S h n r b c => h
def wBreak : WS := fun N ds => N.bk ds
theorem snd_break : SndS K tBreak wBreak := fun B m H σ ds ts vs N E hf S h n r b c => b _ _ _ S h
def wCont : WS := fun N ds => N.ct ds
theorem snd_cont : SndS K tCont wCont := fun B m H σ ds ts vs N E hf S h n r b c => c _ _ _ S h
/-- a, b = x, y of plain names -/
def wPar (i j : Nat) (wa : WA) : WS := fun N ds => wa ds fun ds1 xs => match xs with
  | [x, y] => (match y with
    | .rf _ => False
    | _ => sto i x ds1 fun ds2 => sto j y ds2 N.nx)
  | _ => False
theorem St0.swap {G : Gh} {H : Hp} {σ : L2.St} {ds ts : Sto} {vs : List V} {x y : AV} {u v : V} (S : St0 K G H σ ds (y :: x :: ts) (u :: v :: vs)) (hx : ∀ j, x ≠ .rf j) (hy : ∀ j, y ≠ .rf j) : ∃ g', St0 K { G with g := g' } H σ ds (x :: y :: ts) (v :: u :: vs) := by
  let n := ds.length + ts.length
  let g' : Addr → Nat := fun a => if G.g a = n then n + 1 else if G.g a = n + 1 then n else G.g a
  have hT : ∀ j, j ≠ n → j ≠ n + 1 → ∀ a, (∃ o, H a = some o) → ¬ G.Fz a → G.g a = j → ¬ (fun _ => False) a ∧ ¬ G.Fz a ∧ g' a = j := fun j h1 h2 a ho nz gj => ⟨id, nz, by
    show (if G.g a = n then n + 1 else if G.g a = n + 1 then n else G.g a) = j
    rw [if_neg (by omega), if_neg (by omega)]
    exact gj⟩
  have key := S.pop.pop.move (H' := H) (Fz' := G.Fz) (g' := g') (ds' := ds) (fun _ => False) (fun b o _ q => q) (fun _ w => w.elim) S.mm (fun _ q => q) S.fz S.mz (fun _ q => q) rfl S.nr
    (fun j hj => .inr ⟨rfl, hT j (by omega) (by omega)⟩) (fun j _ hj => hT j (by omega) (by omega))
  have top := S.top
  have tx := S.pop.top
  have k1 : Ok1 K { G with g := g' } H σ ds (ds.length + ts.length) y (some u) := by
    refine Ok1.stored hy (fun ow a q => ?_) top
    subst q
    have e : G.g a = n + 1 := by
      cases y with
      | un => cases ow
      | fz _ => cases ow
      | rf _ => cases ow
      | ls l => obtain ⟨a2, _, e1, _, gi, _⟩ := top; cases e1; exact gi
      | lb l => obtain ⟨a2, _, e1, _, gi, _⟩ := top; cases e1; exact gi
      | dk l => obtain ⟨a2, _, e1, _, gi, _⟩ := top; cases e1; exact gi
    show (if G.g a = n then n + 1 else if G.g a = n + 1 then n else G.g a) = n
    rw [if_neg (by omega), if_pos e]
  have k2 : Ok1 K { G with g := g' } H σ ds (ds.length + (y :: ts).length) x (some v) := by
    refine Ok1.stored hx (fun ow a q => ?_) tx
    subst q
    have e : G.g a = n := by
      cases x with
      | un => cases ow
      | fz _ => cases ow
      | rf _ => cases ow
      | ls l => obtain ⟨a2, _, e1, _, gi, _⟩ := tx; cases e1; exact gi
      | lb l => obtain ⟨a2, _, e1, _, gi, _⟩ := tx; cases e1; exact gi
      | dk l => obtain ⟨a2, _, e1, _, gi, _⟩ := tx; cases e1; exact gi
    show (if G.g a = n then n + 1 else if G.g a = n + 1 then n else G.g a) = n + 1
    rw [if_pos e]
  exact ⟨g', (key.push k1).push k2⟩
theorem snd_par {i j : Nat} {ta : TA} {wa : WA} (ha : SndA K ta wa) : SndS K (tPar i j ta) (wPar i j wa) := fun B m H σ ds ts vs N E hf S h n r b c =>
  ha _ _ _ _ _ _ _ _ _ S h fun us H1 ds1 xs S1 hl q => by
    split at q
    · rename_i x y
      match us, hl with
      | [v, w], _ =>
        have S2 : Stt K B m H1 σ ds1 (y :: x :: ts) (w :: v :: vs) := S1
        have hy : ∀ j, y ≠ .rf j := fun j e => by subst e; exact q
        have q : sto i x ds1 fun ds2 => sto j y ds2 N.nx := by
          cases y with
          | rf j => exact absurd rfl (hy j)
          | un => exact q
          | fz _ => exact q
          | ls _ => exact q
          | lb _ => exact q
          | dk _ => exact q
        obtain ⟨hx, q⟩ := sto_ok q
        obtain ⟨_, q⟩ := sto_ok q
        obtain ⟨f, g, c0⟩ := S2
        obtain ⟨g', c1⟩ := c0.swap hx hy
        have S3 : Stt K B m H1 σ ds1 (x :: y :: ts) (v :: w :: vs) := ⟨f, g', c1⟩
        have nr1 : noRf i (y :: ts) := fun z hz => by
          rcases List.mem_cons.mp hz with e | e
          · rw [e]; exact hy i
          · exact hf.noRf i z e
        refine ⟨v, w, rfl, n _ _ _ ((S3.store i hx nr1).store j hy (hf.noRf j)) q⟩
    · exact q.elim
/-- name op= e -/
def wAug (i : Nat) (g : Int → Int → Int) (we : WE) : WS := fun N ds => match ds.getD i .un with
  | .fz (.int a) => we ds fun ds1 y => match y with
    | .fz (.int b) => N.nx (ds1.set i (.fz (.int (g a b))))
    | _ => False
  | _ => False
theorem snd_aug {i : Nat} {g : Int → Int → Int} {te : TE} {we : WE} (h1 : SndE K te we) : SndS K (tAug i te (ipI g)) (wAug i g we) := fun B m H σ ds ts vs N E hf S h n r b c => by
  unfold wAug at h
  split at h
  · rename_i a ea
    obtain ⟨f, gg, c0⟩ := id S
    obtain ⟨v, e1, rv⟩ : Ok1 K _ H σ ds i (.fz (.int a)) (σ.getD i none) := by rw [← ea]; exact c0.sl i (getD_lt ea (fun q => by cases q))
    refine ⟨v, getD_some e1, h1 _ _ _ _ _ _ _ _ _ S h fun w H1 ds1 y S1 q => ?_⟩
    split at q
    · rename_i b'
      have e2 := S1.topI
      subst e2
      refine ⟨a, b', rv.int_inv, rfl, n _ _ _ ((S1.pop.pushInt (g a b')).store i (fun j e => nomatch e) (hf.noRf i)) q⟩
    · exact q.elim
  · exact h.elim
/-! loops -/
def wWhile (wt : WT) (wb : WS) : WS := fun N ds => ∃ I : Nat → Sto → Prop, (∃ k, I k ds) ∧ ∀ k ds, I k ds → wt ds fun ds1 b => if b = true then wb { N with nx := fun ds' => ∃ k', k' < k ∧ I k' ds', ct := fun ds' => ∃ k', k' < k ∧ I k' ds', bk := N.nx } ds1 else N.nx ds1
theorem snd_while {tt : TT} {t : TS} {wt : WT} {wb : WS} (ht : SndT K tt wt) (hb : SndS K t wb) : SndS K (tWhile tt t) (wWhile wt wb) := fun B m H σ ds ts vs N E hf S ⟨I, ⟨k0, h0⟩, h⟩ n r b c => by
  refine ⟨fun k σ H => ∃ ds, Stt K B m H σ ds ts vs ∧ I k ds, ⟨k0, ds, S, h0⟩, fun k σ H ⟨ds, S, hI⟩ => ?_⟩
  refine ht _ _ _ _ _ _ _ _ _ S (h k ds hI) fun b' H1 ds1 S1 q => ?_
  cases b' with
  | true =>
    refine ⟨fun σ' H' => ∃ k', k' < k ∧ ∃ ds, Stt K B m H' σ' ds ts vs ∧ I k' ds, fun σ' H' ⟨k', l, d, s, i⟩ => ⟨k', l, d, s, i⟩, ?_⟩
    exact hb B m H1 σ ds1 ts vs _ _ hf S1 q (fun σ' H' ds' S' ⟨k', l, i⟩ => ⟨k', l, ds', S', i⟩) r (fun σ' H' ds' S' q => n _ _ _ S' q) (fun σ' H' ds' S' ⟨k', l, i⟩ => ⟨k', l, ds', S', i⟩)
  | false => exact n _ _ _ S1 q
def wFor (wi : WI) (wg : WG) (wb : WS) : WS := fun N ds => wi ds fun ds1 l => ∃ I : Nat → Sto → Prop, I 0 ds1 ∧ (∀ i d ds, l[i]? = some d → I i ds → wg (.fz d) ds fun ds' => wb { N with nx := I (i + 1), ct := I (i + 1), bk := N.nx } ds') ∧ ∀ ds, I l.length ds → N.nx ds
theorem frzd.app {ts : List AV} (h : frzd ts) (dl : List D) : frzd (dl.map AV.fz ++ ts) := fun x hx => by
  rcases List.mem_append.mp hx with hx | hx
  · obtain ⟨d, _, rfl⟩ := List.mem_map.mp hx
    exact ⟨d, rfl⟩
  · exact h x hx
theorem Stt.pops {B : Hp} {m : Addr → Prop} {H : Hp} {σ : L2.St} {ds ts : List AV} {vs : List V} : ∀ {dl : List D} {us : List V}, us.length = dl.length → Stt K B m H σ ds (dl.map AV.fz ++ ts) (us ++ vs) → Stt K B m H σ ds ts vs
  | [], [], _, S => S
  | d :: dl, u :: us, h, S => Stt.pops (dl := dl) (us := us) (by simpa using h) (Stt.pop (x := .fz d) (v := u) S)
  | [], _ :: _, h, _ => by simp at h
  | _ :: _, [], h, _ => by simp at h
theorem St0.seen {G : Gh} {H : Hp} {σ : L2.St} {ds : Sto} {ts : List AV} {vs : List V} : ∀ {dl : List D} {us : List V}, us.length = dl.length → St0 K G H σ ds (dl.map AV.fz ++ ts) (us ++ vs) → Reps K H G.Fz dl us
  | [], [], _, S => .nil
  | d :: dl, u :: us, h, S => by
    obtain ⟨w, e, r⟩ := St0.top (x := .fz d) (v := u) S
    cases e
    exact .cons r (St0.seen (dl := dl) (us := us) (by simpa using h) (St0.pop (x := .fz d) (v := u) S))
  | [], _ :: _, h, _ => by simp at h
  | _ :: _, [], h, _ => by simp at h
/-- frozen temps below the top are forgotten -/
theorem St0.under {G : Gh} {H : Hp} {σ : L2.St} {ds : Sto} {ts : List AV} {vs : List V} {dl : List D} {us : List V} {x : AV} {v : V} (hl : us.length = dl.length) (S : St0 K G H σ ds (x :: (dl.map AV.fz ++ ts)) (v :: (us ++ vs))) : ∃ g', St0 K { G with g := g' } H σ ds (x :: ts) (v :: vs) := by
  let n := ds.length + ts.length
  let k := ds.length + (dl.map AV.fz ++ ts).length
  let g' : Addr → Nat := fun a => if G.g a = k ∧ v = .ref a then n else G.g a
  have Sp : St0 K G H σ ds ts vs := by
    have q := S.pop
    have : ∀ {dl : List D} {us : List V}, us.length = dl.length → St0 K G H σ ds (dl.map AV.fz ++ ts) (us ++ vs) → St0 K G H σ ds ts vs := by
      intro dl
      induction dl with
      | nil =>
        intro us h S
        match us, h with
        | [], _ => exact S
      | cons d dl ih =>
        intro us h S
        match us, h with
        | u :: us, h => exact ih (by simpa using h) (St0.pop (x := .fz d) (v := u) S)
    exact this hl q
  have hk : n ≤ k := by show ds.length + ts.length ≤ ds.length + (dl.map AV.fz ++ ts).length; rw [List.length_append]; omega
  have hT : ∀ j, j < n → ∀ a, (∃ o, H a = some o) → ¬ G.Fz a → G.g a = j → ¬ (fun _ => False) a ∧ ¬ G.Fz a ∧ g' a = j := fun j h1 a ho nz gj => ⟨id, nz, by
    show (if G.g a = k ∧ v = .ref a then n else G.g a) = j
    rw [if_neg (fun q => by have := q.1; omega)]
    exact gj⟩
  have key := Sp.move (H' := H) (Fz' := G.Fz) (g' := g') (ds' := ds) (fun _ => False) (fun b o _ q => q) (fun _ w => w.elim) S.mm (fun _ q => q) S.fz S.mz (fun _ q => q) rfl S.nr
    (fun j hj => .inr ⟨rfl, hT j (by omega)⟩) (fun j _ hj => hT j (by omega))
  have top := S.top
  refine ⟨g', key.push ?_⟩
  by_cases hx : ∃ j, x = .rf j
  · obtain ⟨j, rfl⟩ := hx
    exact top
  · refine Ok1.stored (fun j e => hx ⟨j, e⟩) (fun ow a q => ?_) top
    subst q
    refine if_pos (c := G.g a = k ∧ V.ref a = .ref a) ⟨?_, rfl⟩
    cases x with
    | un => cases ow
    | fz _ => cases ow
    | rf _ => cases ow
    | ls l => obtain ⟨a2, _, e1, _, gi, _⟩ := top; cases e1; exact gi
    | lb l => obtain ⟨a2, _, e1, _, gi, _⟩ := top; cases e1; exact gi
    | dk l => obtain ⟨a2, _, e1, _, gi, _⟩ := top; cases e1; exact gi
theorem snd_for {ti : TI} {g : TG} {t : TS} {wi : WI} {wg : WG} {ws : List Nat} {wb : WS} (hi : SndI K ti wi) (hg : SndG K g wg ws) (hb : SndS K t wb) : SndS K (tFor ti g t) (wFor wi wg wb) := fun B m H σ ds ts vs N E hf S h n r b c =>
  hi _ _ _ _ _ _ _ _ _ S h fun J H1 ds1 dl ivs l S1 hl hJ ⟨I, h0, hs, hd⟩ => by
    refine ⟨fun i k σ H => k = l.length - i ∧ i ≤ l.length ∧ ∃ ds, Stt K B m H σ ds (dl.map AV.fz ++ ts) (ivs ++ vs) ∧ I i ds, ⟨l.length, by simp, Nat.zero_le _, ds1, S1, h0⟩, ?_⟩
    rintro i k σ H ⟨rfl, hi, ds, ⟨f, gg, S⟩, hI⟩
    obtain ⟨j1, j2, j3⟩ := hJ H f (St0.seen hl S)
    by_cases hlt : i < l.length
    · refine .inr ⟨j1 i hlt, fun σ' H' => i + 1 ≤ l.length ∧ ∃ ds, Stt K B m H' σ' ds (dl.map AV.fz ++ ts) (ivs ++ vs) ∧ I (i + 1) ds, fun σ' H' ⟨q, r⟩ => ⟨l.length - (i + 1), by omega, rfl, q, r⟩, fun y H' hy => ?_⟩
      obtain ⟨d, hd', hk, rd⟩ := j3 i y H' hlt hy
      have S2 : Stt K B m H' σ ds (.fz d :: (dl.map AV.fz ++ ts)) (y :: (ivs ++ vs)) := ⟨f, gg, (S.ext hk).pushF rd⟩
      refine hg _ _ _ _ _ _ _ _ _ _ _ (fun i _ => (hf.app dl).noRf i) S2 (hs i d ds hd' hI) fun σ2 H2 ds2 S3 _ _ q => ?_
      refine hb B m H2 σ2 ds2 _ _ _ _ (hf.app dl) S3 q (fun σ' H' ds' S' q => ⟨hlt, ds', S', q⟩) (fun σ' v H' ds' x S' q => ?_) (fun σ' H' ds' S' q => n _ _ _ (Stt.pops hl S') q) (fun σ' H' ds' S' q => ⟨hlt, ds', S', q⟩)
      -- return out of the loop: the walked things are forgotten, the value kept
      obtain ⟨f', g', c'⟩ := S'
      obtain ⟨g2, c2⟩ := c'.under hl
      exact r _ _ _ _ _ ⟨f', g2, c2⟩ q
    · have e : i = l.length := by omega
      subst e
      exact .inl ⟨j2 _ (Nat.le_refl _), n _ _ _ (Stt.pops hl ⟨f, gg, S⟩) (hd ds hI)⟩
end
end SX
namespace SX
open PySem PySem.Spec PyProof.Rows L2
section
variable {K : PySem.W.Frag}
/-! ### list comprehensions -/
def wipeS (ds : Sto) : List Nat → Sto
  | [] => ds
  | i :: r => (wipeS ds r).set i .un
theorem wipeS_len (ds : Sto) : ∀ own : List Nat, (wipeS ds own).length = ds.length
  | [] => rfl
  | i :: r => by
    show ((wipeS ds r).set i .un).length = _
    rw [List.length_set, wipeS_len ds r]
theorem wipeS_get (ds : Sto) (j : Nat) : ∀ own : List Nat, (wipeS ds own).getD j .un = if j ∈ own then AV.un else ds.getD j .un
  | [] => by simp [wipeS]
  | i :: r => by
    show ((wipeS ds r).set i .un).getD j .un = _
    by_cases hi : i < ds.length
    · rw [getD_set (by rw [wipeS_len]; exact hi), wipeS_get ds j r]
      by_cases e : j = i
      · rw [if_pos e, if_pos (by rw [e]; exact List.mem_cons_self)]
      · rw [if_neg e]
        by_cases h : j ∈ r
        · rw [if_pos h, if_pos (List.mem_cons_of_mem _ h)]
        · rw [if_neg h, if_neg (by simp only [List.mem_cons, not_or]; exact ⟨e, h⟩)]
    · rw [set_ge (by rw [wipeS_len]; exact hi), wipeS_get ds j r]
      by_cases e : j = i
      · rw [if_pos (show j ∈ i :: r by rw [e]; exact List.mem_cons_self)]
        have : ds.getD j .un = .un := by rw [List.getD_eq_getElem?_getD, List.getElem?_eq_none (by omega)] <;> rfl
        split
        · rfl
        · exact this
      · by_cases h : j ∈ r
        · rw [if_pos h, if_pos (List.mem_cons_of_mem _ h)]
        · rw [if_neg h, if_neg (by simp only [List.mem_cons, not_or]; exact ⟨e, h⟩)]
theorem wipe_get (σ : L2.St) (j : Nat) : ∀ own : List Nat, j ∉ own → (wipe σ own)[j]? = σ[j]?
  | [], _ => rfl
  | i :: r, h => by
    show ((wipe σ r).set i none)[j]? = _
    rw [List.getElem?_set_ne (fun e => h (by rw [e]; exact List.mem_cons_self)), wipe_get σ j r (fun z => h (List.mem_cons_of_mem _ z))]
theorem wipe_in (σ : L2.St) (j : Nat) : ∀ own : List Nat, j ∈ own → j < σ.length → (wipe σ own)[j]? = some none
  | [], h, _ => by cases h
  | i :: r, h, hj => by
    show ((wipe σ r).set i none)[j]? = _
    by_cases e : j = i
    · subst e
      rw [List.getElem?_set_self (by rw [wipe_length]; exact hj)]
    · rw [List.getElem?_set_ne (Ne.symm e)]
      exact wipe_in σ j r ((List.mem_cons.mp h).resolve_left e) hj
theorem wipe_eq {σ τ : L2.St} {own : List Nat} (hl : τ.length = σ.length) (h : ∀ j, j ∉ own → τ[j]? = σ[j]?) : wipe τ own = wipe σ own := by
  refine List.ext_getElem? fun j => ?_
  by_cases hj : j ∈ own
  · by_cases hjl : j < σ.length
    · rw [wipe_in σ j own hj hjl, wipe_in τ j own hj (by omega)]
    · rw [List.getElem?_eq_none (by rw [wipe_length]; omega), List.getElem?_eq_none (by rw [wipe_length]; omega)]
  · rw [wipe_get σ j own hj, wipe_get τ j own hj, h j hj]
/-- nothing that one owns stands in these slots -/
def ownFree (own : List Nat) (ds : Sto) : Bool := own.all fun j => !(ds.getD j .un).own
theorem ownFree_of {own : List Nat} {ds : Sto} (h : ownFree own ds = true) {j : Nat} (hj : j ∈ own) : (ds.getD j .un).own = false := by
  have := List.all_eq_true.mp h j hj
  simpa using this
theorem TOk.wiped {G : Gh} {H : Hp} {σ τ : L2.St} {ds es : Sto} (hl : es.length = ds.length) (h : ∀ j, (ds.getD j .un).own = true → j < ds.length → τ[j]? = σ[j]? ∧ (es.getD j .un).own = true) : ∀ {ts : List AV} {vs : List V}, TOk K G H σ ds ts vs → TOk K G H τ es ts vs
  | [], [], _ => trivial
  | y :: ts, v :: vs, q => by
    refine ⟨?_, TOk.wiped hl h q.2⟩
    have q := q.1
    rw [hl]
    cases y with
    | un => trivial
    | fz d => exact q
    | ls l => exact q
    | lb l => exact q
    | dk l => exact q
    | rf j =>
      obtain ⟨w, e, s, o, l⟩ := q
      obtain ⟨h1, h2⟩ := h j o l
      exact ⟨w, e, by rw [h1]; exact s, h2, by rw [hl]; exact l⟩
  | [], _ :: _, h => h.elim
  | _ :: _, [], h => h.elim
theorem Ok1.other {G : Gh} {H : Hp} {σ τ : L2.St} {ds es : Sto} {i : Nat} {x : AV} {o : Option V} (hx : ∀ j, x ≠ .rf j) (h : Ok1 K G H σ ds i x o) : Ok1 K G H τ es i x o := by
  cases x with
  | rf j => exact absurd rfl (hx j)
  | un => trivial
  | fz _ => exact h
  | ls _ => exact h
  | lb _ => exact h
  | dk _ => exact h
/-- the block's own slots are forgotten -/
theorem St0.wipe {G : Gh} {H : Hp} {σ : L2.St} {ds ts : Sto} {vs : List V} {own : List Nat} (S : St0 K G H σ ds ts vs) (hf : ownFree own ds = true) : St0 K G H (wipe σ own) (wipeS ds own) ts vs := by
  refine ⟨S.fr, S.mm, S.mb, S.mz, S.fz, by rw [wipe_length, wipeS_len]; exact S.len, fun i j => ?_, fun i hi => ?_, TOk.wiped (wipeS_len _ _) (fun j ho hj => ?_) S.tp⟩
  · rw [wipeS_get]
    split
    · exact fun q => nomatch q
    · exact S.nr i j
  · rw [wipeS_get]
    rw [wipeS_len] at hi
    split
    · trivial
    · rename_i hn
      have e : (L2.wipe σ own).getD i none = σ.getD i none := by rw [List.getD_eq_getElem?_getD, List.getD_eq_getElem?_getD, wipe_get σ i own hn]
      rw [e]
      exact (S.sl i hi).other (S.nr i)
  · have hn : j ∉ own := fun z => by
      rw [ownFree_of hf z] at ho; cases ho
    exact ⟨wipe_get σ j own hn, by rw [wipeS_get, if_neg hn]; exact ho⟩
/-- .. and behind the block the frame's slots are as they were -/
theorem St0.unwipe {G : Gh} {H : Hp} {σ : L2.St} {ds ts : Sto} {vs : List V} {own : List Nat} (S : St0 K G H (L2.wipe σ own) ds ts vs) (hu : ∀ j ∈ own, ds.getD j .un = .un) : St0 K G H σ ds ts vs := by
  refine ⟨S.fr, S.mm, S.mb, S.mz, S.fz, by rw [← S.len, wipe_length], S.nr, fun i hi => ?_, TOk.wiped rfl (fun j ho hj => ?_) S.tp⟩
  · by_cases hn : i ∈ own
    · rw [hu i hn]; trivial
    · have e : (L2.wipe σ own).getD i none = σ.getD i none := by rw [List.getD_eq_getElem?_getD, List.getD_eq_getElem?_getD, wipe_get σ i own hn]
      rw [← e]
      exact (S.sl i hi).other (S.nr i)
  · have hn : j ∉ own := fun z => by
      rw [hu j z] at ho; cases ho
    exact ⟨(wipe_get σ j own hn).symm, ho⟩
def wLc (wi : WI) (wg : WG) (wt : WT) (we : WE) (own : List Nat) : WE := fun ds Q => wi ds fun ds1 l => ownFree own ds1 = true ∧ ∃ I : Nat → List D → Sto → Prop, I 0 [] (wipeS ds1 own) ∧
  (∀ i d acc ds, l[i]? = some d → (∀ j ∈ own, ds.getD j .un = .un) → I i acc ds → wg (.fz d) ds fun ds2 => wt ds2 fun ds3 b => if b = true then we ds3 fun ds4 y => match y with
    | .fz e => acc.length ≤ 100000 ∧ ownFree own ds4 = true ∧ I (i + 1) (acc ++ [e]) (wipeS ds4 own)
    | _ => False
  else ownFree own ds3 = true ∧ I (i + 1) acc (wipeS ds3 own)) ∧ ∀ acc ds, (∀ j ∈ own, ds.getD j .un = .un) → I l.length acc ds → Q ds (.ls acc)
theorem snd_lc {ti : TI} {g : TG} {tt : TT} {te : TE} {wi : WI} {wg : WG} {ws own : List Nat} {wt : WT} {we : WE} (hi : SndI K ti wi) (hg : SndG K g wg ws) (ht : SndT K tt wt) (he : SndE K te we) (hw : ∀ i ∈ ws, i ∈ own) : SndE K (tLc ti g tt te own) (wLc wi wg wt we own) := fun B m H σ ds ts vs Q R S h k =>
  hi _ _ _ _ _ _ _ _ _ S h fun J H1 ds1 dl ivs l S1 hl hJ ⟨hof, I, h0, hs, hd⟩ D hD => by
    obtain ⟨f, g0, c1⟩ := S1
    have hm : ∀ j ∈ own, (wipeS ds1 own).getD j .un = .un := fun j hj => by rw [wipeS_get, if_pos hj]
    have W0 : Stt K B m (upd H1 D (.lst [])) (L2.wipe σ own) (wipeS ds1 own) (.ls [] :: (dl.map AV.fz ++ ts)) (.ref D :: (ivs ++ vs)) := Stt.newL (c1.wipe hof) (upd_keep hD) hD upd_same .nil
    refine ⟨fun i k H => k = l.length - i ∧ i ≤ l.length ∧ ∃ acc ds, Stt K B m H (L2.wipe σ own) ds (.ls acc :: (dl.map AV.fz ++ ts)) (.ref D :: (ivs ++ vs)) ∧ (∀ j ∈ own, ds.getD j .un = .un) ∧ I i acc ds, ⟨l.length, by simp, Nat.zero_le _, [], _, W0, hm, h0⟩, ?_⟩
    rintro i k' H ⟨rfl, hi, acc, ds, ⟨f, gg, S⟩, hu, hI⟩
    obtain ⟨j1, j2, j3⟩ := hJ H f (St0.seen hl S.pop)
    by_cases hlt : i < l.length
    · refine .inr ⟨j1 i hlt, fun H' => i + 1 ≤ l.length ∧ ∃ acc ds, Stt K B m H' (L2.wipe σ own) ds (.ls acc :: (dl.map AV.fz ++ ts)) (.ref D :: (ivs ++ vs)) ∧ (∀ j ∈ own, ds.getD j .un = .un) ∧ I (i + 1) acc ds, fun H' ⟨q, r⟩ => ⟨l.length - (i + 1), by omega, rfl, q, r⟩, fun y H' hy => ?_⟩
      obtain ⟨d, hd', hk, rd⟩ := j3 i y H' hlt hy
      have S2 : Stt K B m H' (L2.wipe σ own) ds (.fz d :: .ls acc :: (dl.map AV.fz ++ ts)) (y :: .ref D :: (ivs ++ vs)) := ⟨f, gg, (S.ext hk).pushF rd⟩
      have hno : ∀ i ∈ ws, noRf i (.ls acc :: (dl.map AV.fz ++ ts)) := fun i hi x hx e => by
        subst e
        have : ∀ {ts : List AV} {vs : List V}, TOk K ⟨B, m, f, gg⟩ H (L2.wipe σ own) ds ts vs → AV.rf i ∈ ts → (ds.getD i .un).own = true := by
          intro ts
          induction ts with
          | nil => intro vs _ h; cases h
          | cons y ts ih =>
            intro vs q h
            cases vs with
            | nil => exact q.elim
            | cons v vs =>
              rcases List.mem_cons.mp h with e | e
              · subst e
                obtain ⟨w, _, _, o, _⟩ := q.1
                exact o
              · exact ih q.2 e
        have q := this S.tp hx
        rw [hu i (hw i hi)] at q
        cases q
      refine hg _ _ _ _ _ _ _ _ _ _ _ hno S2 (hs i d acc ds hd' hu hI) fun σ2 H2 ds2 S3 l2 e2 q => ⟨?_, ht _ _ _ _ _ _ _ _ _ S3 q fun b H3 ds3 S4 q3 => ?_⟩
      · have e : L2.wipe σ2 own = L2.wipe (L2.wipe σ own) own := wipe_eq l2 (fun j hj => e2 j (fun z => hj (hw j z)))
        rw [e]
        exact wipe_eq (wipe_length _ _) (fun j hj => wipe_get σ j own hj)
      have ew : L2.wipe σ2 own = L2.wipe σ own := by
        have e : L2.wipe σ2 own = L2.wipe (L2.wipe σ own) own := wipe_eq l2 (fun j hj => e2 j (fun z => hj (hw j z)))
        rw [e]
        exact wipe_eq (wipe_length _ _) (fun j hj => wipe_get σ j own hj)
      cases b with
      | true =>
        have q3 : we ds3 fun ds4 y => match y with
          | .fz e => acc.length ≤ 100000 ∧ ownFree own ds4 = true ∧ I (i + 1) (acc ++ [e]) (wipeS ds4 own)
          | _ => False := q3
        refine he _ _ _ _ _ _ _ _ _ S4 q3 fun z H4 ds4 x S5 q4 => ?_
        split at q4
        · rename_i e
          obtain ⟨f5, g5, c5, r5⟩ := S5.top
          obtain ⟨a2, xs, e1, z5, gi, bb, hx, rx⟩ := c5.pop.top
          cases e1
          refine ⟨xs, hx, small_line (by rw [← rx.length]; omega), hlt, acc ++ [e], wipeS ds4 own, ?_, fun j hj => by rw [wipeS_get, if_pos hj], q4.2.2⟩
          have c6 := St0.writeT (H' := upd H4 D (.lst (xs ++ [z]))) (l' := acc ++ [e]) (v := .ref D) c5.pop upd_but upd_same ((rx.append (.cons r5 .nil)).upd hx z5)
          have c7 := c6.wipe q4.2.1
          rw [ew] at c7
          exact ⟨f5, g5, c7⟩
        · exact q4.elim
      | false =>
        have q3 : ownFree own ds3 = true ∧ I (i + 1) acc (wipeS ds3 own) := q3
        obtain ⟨f4, g4, c4⟩ := S4
        have c7 := c4.wipe q3.1
        rw [ew] at c7
        exact ⟨hlt, acc, wipeS ds3 own, ⟨f4, g4, c7⟩, fun j hj => by rw [wipeS_get, if_pos hj], q3.2⟩
    · have e : i = l.length := by omega
      subst e
      refine .inl ⟨j2 _ (Nat.le_refl _), ?_⟩
      obtain ⟨g2, c2⟩ := (S.unwipe hu).under hl
      exact k _ _ _ _ ⟨f, g2, c2⟩ (hd acc ds hu hI)
theorem snd_tYes : SndT K tYes (fun ds Q => Q ds true) := fun B m H σ ds ts vs Q R S h k => k _ _ _ S h
/-! ### defs -/
variable {P : Program} {w : World} {mg : Str → Option Value} {base : Heap}
theorem start_ok {H : Hp} {N : List Str} {dl : List D} {us : List V} {B : Hp} {m : Addr → Prop} {Fz : Addr → Prop} (r : Reps K H Fz dl us) : ∀ {n k : Nat} {g : Addr → Nat} (i : Nat), i < (dl.map AV.fz ++ List.replicate n AV.un).length → ∀ {σ' : L2.St} {ds' : Sto}, Ok1 K ⟨B, m, Fz, g⟩ H σ' ds' k ((dl.map AV.fz ++ List.replicate n AV.un).getD i .un) ((us.map some ++ List.replicate n none).getD i none) := by
  intro n k g i hi σ' ds'
  rw [List.getD_eq_getElem?_getD, List.getD_eq_getElem?_getD]
  by_cases h : i < dl.length
  · rw [List.getElem?_append_left (by simpa using h), List.getElem?_append_left (by simpa [← r.length] using h), List.getElem?_map, List.getElem?_map]
    obtain ⟨v, hv, rv⟩ := r.get (List.getElem?_eq_getElem h)
    rw [hv, List.getElem?_eq_getElem h]
    exact ⟨v, rfl, rv⟩
  · rw [List.getElem?_append_right (by simpa using h), List.getElem?_replicate]
    split
    · trivial
    · trivial
theorem fz_none (i : Nat) : ∀ (dl : List D) (n : Nat) (j : Nat), (dl.map AV.fz ++ List.replicate n AV.un).getD i .un ≠ .rf j := fun dl n j e => by
  have hi := getD_lt e (fun q => nomatch q)
  have : AV.rf j ∈ dl.map AV.fz ++ List.replicate n AV.un := by
    rw [← e, List.getD_eq_getElem?_getD, List.getElem?_eq_getElem hi]
    exact List.getElem_mem hi
  rcases List.mem_append.mp this with q | q
  · obtain ⟨d, _, z⟩ := List.mem_map.mp q
    cases z
  · have := (List.mem_replicate.mp q).2
    cases this
/-- a def of plain values by its body -/
theorem okP {x qual : Str} {st : Stmt} {f : Addr} {fd : FuncData} {N ps : List Str} {k n : Nat} {pre : List D → Prop} {post : List D → AV → Prop} (F : Fun K x qual st f fd) (S : FnScope N ps (defScope st)) (hn : ps.length = n)
    (hbody : ∀ (cdv : Value) (A : Around) (outer : List Env) (s : Shared) (H : Hp) (E : XK), Room k (A.deeper (envOfC qual (defScope st) s.heap.objs.size f cdv)) →
      ∃ t w', ASs (cxOf CX0 P w K mg base N qual (defScope st) f cdv A outer s H E).nox (defBody st) t w' ∧ ∀ dl, dl.length = n → pre dl → w' { nx := fun _ => post dl (.fz .none), rt := fun ds x => RetOk (post dl) ds x } (dl.map AV.fz ++ List.replicate (N.length - n) AV.un)) :
    FnOk P w K mg base CX0 (k + 1) f fd ps (spP n pre post K) := by
  refine F.ok S (fun vs H Q E h => ?_) (fun cdv A outer s H vs Q E hr h => ?_)
  · obtain ⟨dl, r, e, _⟩ := h
    rw [← r.length, e, hn]
  · obtain ⟨dl, r, e, p, q⟩ := h
    obtain ⟨t, w', hA, hw⟩ := hbody cdv A outer s H E hr
    refine ⟨t, hA.ps, ?_⟩
    have hl : vs.length = n := by rw [← r.length, e]
    have r' : Reps K H (fun a => ∃ o, H a = some o) dl vs := Reps.mono (fun _ _ q => q) (fun a xs q => by
      rcases q with q | q
      · refine .inl ⟨?_, q.2⟩
        rcases q.2 with q | ⟨o, q⟩
        · exact ⟨_, q⟩
        · exact ⟨_, q⟩
      · exact .inr q) _ _ r
    have S0 : Stt K H (fun _ => False) H (L2.start N vs) (dl.map AV.fz ++ List.replicate (N.length - n) AV.un) [] [] := by
      refine ⟨fun a => ∃ o, H a = some o, fun _ => 0, fun _ _ q _ => q, fun _ q => q.elim, fun _ q => q.elim, fun _ q => q.elim, fun _ q => q, ?_, fun i j => fz_none i _ _ j, fun i hi => ?_, trivial⟩
      · unfold L2.start
        simp [e, hl]
      · unfold L2.start
        rw [hl]
        exact start_ok (N := N) r' i hi
    refine hA.sd H (fun _ => False) H _ _ [] [] _ _ (fun _ hx => by cases hx) S0 (hw dl e p) (fun σ' H' ds' S' pp => ?_) (fun σ' v H' ds' y S' pp => ?_) (fun _ _ _ _ z => z.elim) (fun _ _ _ _ z => z.elim)
    · obtain ⟨f, g, c⟩ := S'
      exact q .non H' (.fz .none) pp (fun a o z => c.fr a o z id) ⟨rfl, .non⟩
    · obtain ⟨f, g, c⟩ := id S'
      obtain ⟨y', hy, nv⟩ := ret_ok S' pp
      exact q v H' y' hy (fun a o z => c.fr a o z id) nv
/-- a def whose first argument is a list that it changes -/
theorem okM {x qual : Str} {st : Stmt} {f : Addr} {fd : FuncData} {N ps : List Str} {k n : Nat} {pre : List D → List D → Prop} {post : List D → List D → List D → AV → Prop} (F : Fun K x qual st f fd) (S : FnScope N ps (defScope st)) (hn : ps.length = n + 1)
    (hbody : ∀ (cdv : Value) (A : Around) (outer : List Env) (s : Shared) (H : Hp) (E : XK), Room k (A.deeper (envOfC qual (defScope st) s.heap.objs.size f cdv)) →
      ∃ t w', ASs (cxOf CX0 P w K mg base N qual (defScope st) f cdv A outer s H E).nox (defBody st) t w' ∧ ∀ l dl, dl.length = n → pre l dl → w' { nx := fun ds => ∃ l', ds.getD 0 .un = .lb l' ∧ imms l' = true ∧ post l dl l' (.fz .none), rt := fun ds x => ∃ l', ds.getD 0 .un = .lb l' ∧ imms l' = true ∧ RetOk (post l dl l') ds x } (.lb l :: (dl.map AV.fz ++ List.replicate (N.length - (n + 1)) AV.un))) :
    FnOk P w K mg base CX0 (k + 1) f fd ps (spM n pre post K) := by
  refine F.ok S (fun vs H Q E h => ?_) (fun cdv A outer s H vs Q E hr h => ?_)
  · obtain ⟨a, xs, l, us, dl, rfl, _, _, r, e, _⟩ := h
    rw [List.length_cons, ← r.length, e, hn]
  · obtain ⟨a, xs, l, us, dl, rfl, hx, rl, r, e, p, q⟩ := h
    obtain ⟨t, w', hA, hw⟩ := hbody cdv A outer s H E hr
    refine ⟨t, hA.ps, ?_⟩
    have hl : us.length = n := by rw [← r.length, e]
    have hF : ∀ b ys, FL K H (fun b => b ≠ a) b ys → FL K H (fun b => (∃ o, H b = some o) ∧ b ≠ a) b ys := fun b ys q => by
      rcases q with q | q
      · refine .inl ⟨⟨?_, q.1⟩, q.2⟩
        rcases q.2 with q | ⟨o, q⟩
        · exact ⟨_, q⟩
        · exact ⟨_, q⟩
      · exact .inr q
    have r' := Reps.mono (fun _ _ q => q) hF _ _ r
    have rl' := Reps.mono (fun _ _ q => q) hF _ _ rl
    have S0 : Stt K H (fun b => b = a) H (L2.start N (.ref a :: us)) (.lb l :: (dl.map AV.fz ++ List.replicate (N.length - (n + 1)) AV.un)) [] [] := by
      refine ⟨fun b => (∃ o, H b = some o) ∧ b ≠ a, fun _ => 0, fun _ _ q _ => q, fun b z => ⟨xs, by rw [z]; exact hx⟩, fun b z => ⟨xs, by rw [z]; exact hx⟩, fun b z q => q.2 z, fun _ q => q.1, ?_, fun i j => ?_, fun i hi => ?_, trivial⟩
      · unfold L2.start
        simp [e, hl]
      · cases i with
        | zero => exact fun z => nomatch z
        | succ i => exact fz_none i _ _ j
      · unfold L2.start
        rw [List.length_cons, hl]
        cases i with
        | zero => exact ⟨a, xs, rfl, fun z => z.2 rfl, rfl, rfl, hx, rl'⟩
        | succ i => exact start_ok (N := N) r' i (by simpa using hi)
    have fin : ∀ {σ' : L2.St} {H' : Hp} {ds' ts : Sto} {vs : List V} {l' : List D} {v : V} {y : AV}, Stt K H (fun b => b = a) H' σ' ds' ts vs → ds'.getD 0 .un = .lb l' → imms l' = true → post l dl l' y → NewV K H H' y v → Q v H' := fun {σ' H' ds' ts vs l' v y} S' e0 im pp nv => by
      obtain ⟨f, g, c⟩ := S'
      obtain ⟨b, xs', e1, z, gi, hb, hx', rx'⟩ : Ok1 K _ H' σ' ds' 0 (.lb l') (σ'.getD 0 none) := by rw [← e0]; exact c.sl 0 (getD_lt e0 (fun q => by cases q))
      have hb : b = a := hb
      subst hb
      exact q v H' y l' xs' pp (fun b' o hb' z => c.fr b' o z hb') hx' (imms_any im rx') im nv
    refine hA.sd H (fun b => b = a) H _ _ [] [] _ _ (fun _ hx => by cases hx) S0 (hw l dl e p) (fun σ' H' ds' S' pp => ?_) (fun σ' v H' ds' y S' pp => ?_) (fun _ _ _ _ z => z.elim) (fun _ _ _ _ z => z.elim)
    · obtain ⟨l', e0, im, pp⟩ := pp
      exact fin S' e0 im pp ⟨rfl, .non⟩
    · obtain ⟨l', e0, im, pp⟩ := pp
      obtain ⟨y', hy, nv⟩ := ret_ok S' pp
      exact fin S' e0 im hy nv
end
end SX

set_option Elab.async false
set_option linter.all false
set_option maxRecDepth 100000
set_option maxHeartbeats 2000000
namespace SX
open PySem PySem.Spec PyProof.Rows L2
/-! ### the terms -/
section
variable {X : Cx}
theorem av (i : Nat) {x : Str} {pos : Pos} (hN : X.N[i]? = some x := by rfl) (hv : Vis X.env.scope x := by first | exact Or.inl rfl | exact Or.inr (Or.inl rfl) | exact Or.inr (Or.inr rfl)) (hd : (x == ("__debug__" : Str)) = false := by decide)
    (hcd : (x == ("__classdict__" : Str)) = false := by decide) : AE X (.Name x pos) (tVar i) (wVar i) := ⟨pe_var hN hv hd hcd, snd_var i⟩
theorem ae_int {i j pos} : AE X (.Constant (.int i) j pos) (tC (.int i)) (wC (.int i)) := ⟨pe_int, snd_int i⟩
theorem ae_bl {i j pos} : AE X (.Constant (.bool i) j pos) (tC (.bl i)) (wC (.bool i)) := ⟨pe_bl, snd_bl i⟩
theorem ae_str {i j pos} : AE X (.Constant (.str i) j pos) (tC (.str i)) (wC (.str i)) := ⟨pe_str, snd_str i⟩
theorem ae_non {j pos} : AE X (.Constant .none j pos) (tC .non) (wC .none) := ⟨pe_non, snd_non⟩
theorem ae_globI {x : Str} {i : Int} {t : Tok} {pos : Pos} (hm : X.mg x = some (.int i t)) (hg : Gl X x := by rfl) (hd : (x == ("__debug__" : Str)) = false := by decide) : AE X (.Name x pos) (tC (.int i)) (wC (.int i)) := ⟨pe_glob hg hm ⟨_, rfl⟩ hd, snd_int i⟩
theorem ae_globS {x : Str} {i : Str} {t : Tok} {pos : Pos} (hm : X.mg x = some (.str i t)) (hg : Gl X x := by rfl) (hd : (x == ("__debug__" : Str)) = false := by decide) : AE X (.Name x pos) (tC (.str i)) (wC (.str i)) := ⟨pe_glob hg hm ⟨_, rfl⟩ hd, snd_str i⟩
variable {a b c e : Expr} {ta tb tc te : TE} {wa wb wc we : WE} {pos p : Pos}
theorem AE.frz (h : AE X e te we) : AE X e te (wFrz we) := ⟨h.pe, snd_frz h.sd⟩
theorem ae_op {op : Operator} {r : R2} {wr : WR} (ho : AOp X (binaryOp op) r wr) (ha : AE X a ta wa) (hb : AE X b tb wb) : AE X (.BinOp a op b pos) (tOp r ta tb) (wOp wr wa wb) := ⟨pe_op ho.op ha.pe hb.pe, snd_op ho.sd ha.sd hb.sd⟩
theorem ae_neg (ha : AE X a ta wa) : AE X (.UnaryOp .USub a pos) (tUn (rU fun i => .int (-i)) ta) (wUn wNeg wa) := ⟨pe_un un_neg ha.pe, snd_un snd_neg ha.sd⟩
def o_add {X : Cx} := (⟨op_add, snd_II⟩ : AOp X (binaryOp .Add) _ (wII fun i j => i + j))
def o_sub {X : Cx} := (⟨op_sub, snd_II⟩ : AOp X (binaryOp .Sub) _ (wII fun i j => i - j))
def o_mul {X : Cx} := (⟨op_mul, snd_IC⟩ : AOp X (binaryOp .Mult) _ (wIC CMul fun i j => i * j))
def o_mod {X : Cx} := (⟨op_mod, snd_IC⟩ : AOp X (binaryOp .Mod) _ (wIC (fun _ j => 0 < j) fun i j => i % j))
def o_fdiv {X : Cx} := (⟨op_fdiv, snd_IC⟩ : AOp X (binaryOp .FloorDiv) _ (wIC CDiv fun i j => i / j))
def o_pow {X : Cx} := (⟨op_pow, snd_IC⟩ : AOp X (binaryOp .Pow) _ (wIC CPow fun i j => i ^ j.toNat))
def o_catT {X : Cx} := (⟨op_catB, snd_catT⟩ : AOp X (binaryOp .Add) _ wCatT)
def o_cat {X : Cx} := (⟨op_cat, snd_cat⟩ : AOp X (binaryOp .Add) _ wCat)
def o_rep {X : Cx} := (⟨op_rep, snd_rep⟩ : AOp X (binaryOp .Mult) _ wRep)
def c_lt {X : Cx} := (⟨op_lt, snd_IB⟩ : AOp X (compareOp .Lt) _ (wIB fun i j => decide (i < j)))
def c_le {X : Cx} := (⟨op_le, snd_IB⟩ : AOp X (compareOp .LtE) _ (wIB fun i j => decide (i ≤ j)))
def c_gt {X : Cx} := (⟨op_gt, snd_IB⟩ : AOp X (compareOp .Gt) _ (wIB fun i j => decide (j < i)))
def c_ge {X : Cx} := (⟨op_ge, snd_IB⟩ : AOp X (compareOp .GtE) _ (wIB fun i j => decide (j ≤ i)))
def c_eq {X : Cx} := (⟨op_eq, snd_eqI⟩ : AOp X (compareOp .Eq) _ (wEqI false))
def c_ne {X : Cx} := (⟨op_ne, snd_neI⟩ : AOp X (compareOp .NotEq) _ (wEqI true))
def c_isN {X : Cx} := (⟨op_isN, snd_isN⟩ : AOp X (compareOp .Is) _ (wIsN false))
def c_notN {X : Cx} := (⟨op_notN, snd_notN⟩ : AOp X (compareOp .IsNot) _ (wIsN true))
def c_in {X : Cx} := (⟨op_in_seq, snd_inI⟩ : AOp X (compareOp .In) _ (wInI false))
def c_notIn {X : Cx} := (⟨op_notIn_seq, snd_inI⟩ : AOp X (compareOp .NotIn) _ (wInI true))
def c_eqD {X : Cx} {k : Nat} (hr : Room k X.A) := (⟨op_eqD hr.units, snd_eqD⟩ : AOp X (compareOp .Eq) _ (wEqD false))
def c_neD {X : Cx} {k : Nat} (hr : Room k X.A) := (⟨op_neD hr.units, snd_neD⟩ : AOp X (compareOp .NotEq) _ (wEqD true))
theorem ae_cmp {op : CmpOp} {r : R2} {wr : WR} (ho : AOp X (compareOp op) r wr) (ha : AE X a ta wa) (hb : AE X b tb wb) (hm : behindInMarks op b = false := by first | exact nomark _ | rfl) : AE X (.Compare a [op] [b] pos) (tOp r ta tb) (wOp wr wa wb) := ⟨pe_cmpR ho.op ha.pe hb.pe hm, snd_op ho.sd ha.sd hb.sd⟩
theorem at_cmp {op : CmpOp} {r : R2} {wr : WR} (ho : AOp X (compareOp op) r wr) (ha : AE X a ta wa) (hb : AE X b tb wb) (hm : behindInMarks op b = false := by first | exact nomark _ | rfl) : AT X (.Compare a [op] [b] pos) (tTest (tOp r ta tb)) (wTest (wOp wr wa wb)) := ⟨pt_cmpR ho.op ha.pe hb.pe hm, snd_test (snd_op ho.sd ha.sd hb.sd)⟩
theorem at_val (h : AE X e te we) (he : ∀ whole, isTrue e X.env whole = (do let v ← whole; standAt e.pos; holding [v] (truthy v)) := by intro _; rfl) : AT X e (tB te) (wTest we) := ⟨pt_val h.pe he, snd_tB h.sd⟩
variable {tA tB' : TT} {wA wB : WT} {rest : List Expr}
theorem AW.pT (h : AW X e tA wA) : AT X e tA wA := ⟨h.pt.pt, h.sd⟩
theorem aw_and1 (ha : AT X a tA wA) : AW X (.BoolOp .And [a] pos) tA wA := ⟨pw_and1 ha.pt, ha.sd⟩
theorem aw_or1 (ha : AT X a tA wA) : AW X (.BoolOp .Or [a] pos) tA wA := ⟨pw_or1 ha.pt, ha.sd⟩
theorem aw_and (ha : AT X a tA wA) (hb : AW X (.BoolOp .And (b :: rest) pos) tB' wB) : AW X (.BoolOp .And (a :: b :: rest) pos) (tAnd tA tB') (wAnd wA wB) := ⟨pw_and ha.pt hb.pt, snd_and ha.sd hb.sd⟩
theorem aw_or (ha : AT X a tA wA) (hb : AW X (.BoolOp .Or (b :: rest) pos) tB' wB) : AW X (.BoolOp .Or (a :: b :: rest) pos) (tOr tA tB') (wOr wA wB) := ⟨pw_or ha.pt hb.pt, snd_or ha.sd hb.sd⟩
theorem at_not (ha : AT X a tA wA) : AT X (.UnaryOp .Not a pos) (tNot tA) (wNot wA) := ⟨pt_not ha.pt, snd_not ha.sd⟩
theorem ae_one {op} (h : AE X a ta wa) : AE X (.BoolOp op [a] pos) ta wa := ⟨pe_one h.pe, h.sd⟩
theorem ae_and (ha : AE X a ta wa) (hb : AE X (.BoolOp .And (b :: rest) pos) tb wb) : AE X (.BoolOp .And (a :: b :: rest) pos) (tAndV ta tb) (wAndV wa wb) := ⟨pe_and ha.pe hb.pe, snd_andV ha.sd hb.sd⟩
theorem ae_or (ha : AE X a ta wa) (hb : AE X (.BoolOp .Or (b :: rest) pos) tb wb) : AE X (.BoolOp .Or (a :: b :: rest) pos) (tOrV ta tb) (wOrV wa wb) := ⟨pe_or ha.pe hb.pe, snd_orV ha.sd hb.sd⟩
theorem ae_not (ha : AE X a ta wa) : AE X (.UnaryOp .Not a pos) (tNotV ta) (wNotV wa) := ⟨pe_not ha.pe, snd_notV ha.sd⟩
theorem ae_if (hc : AT X c tA wA) (ha : AE X a ta wa) (hb : AE X b tb wb) : AE X (.IfExp c a b pos) (tIf tA ta tb) (wIfE wA wa wb) := ⟨pe_ifExp hc.pt ha.pe hb.pe, snd_ifE hc.sd ha.sd hb.sd⟩
variable {es : List Expr} {t : TA} {w : WA}
theorem aa_nil : AA X [] tNil wNil := ⟨pa_nil, snd_nil⟩
theorem aa_cons (ha : AE X e te we) (hr : AA X es t w) (hs : starEach (e :: es) X.env = (false, eval e X.env) :: starEach es X.env := by rfl) : AA X (e :: es) (tCons te t) (wCons we w) := ⟨pa_cons ha.pe hr.pa hs, snd_cons ha.sd hr.sd⟩
theorem ae_tup {x1} (h : AA X es t w) : AE X (.Tuple es x1 pos) (tTupB t) (wTup w) := ⟨pe_tupB h.pa, snd_tup h.sd⟩
theorem ae_lst (h : AA X es t w) : AE X (.List es pos) (tLst t) (wLst w) := ⟨pe_lst h.pa, snd_lst h.sd⟩
theorem ae_ixL (ha : AE X a ta wa) (hb : AE X b tb wb) (hs : PlainIx b := by exact fun _ _ => rfl) : AE X (.Subscript a b pos) (tOp (rIxL X.K) ta tb) (wOp wIxL wa wb) := ⟨pe_ix ix_list ha.pe hb.pe hs, snd_op snd_ixL ha.sd hb.sd⟩
theorem ae_ixT (ha : AE X a ta wa) (hb : AE X b tb wb) (hs : PlainIx b := by exact fun _ _ => rfl) : AE X (.Subscript a b pos) (tOp (rIxT X.K) ta tb) (wOp wIxT wa wb) := ⟨pe_ix ix_tup ha.pe hb.pe hs, snd_op snd_ixT ha.sd hb.sd⟩
variable {lo hi : Option Expr} {tl th : TO} {wl wh : WO} {p2 : Pos}
theorem ao_none : AO X none tNoPart wNoPart := ⟨po_none, snd_noPart⟩
theorem ao_some (h : AE X e te we) : AO X (some e) (tPart te) (wPart we) := ⟨po_some h.pe, snd_part h.sd⟩
theorem ae_slL (he : AE X e te we) (hl : AO X lo tl wl) (hh : AO X hi th wh) : AE X (.Subscript e (.Slice lo hi none p2) pos) (tSl (rSlL X.K) te tl th) (wSl wSlL we wl wh) := ⟨pe_slice sl_list he.pe hl.po hh.po, snd_sl snd_slL he.sd hl.sd hh.sd⟩
theorem ae_slT (he : AE X e te we) (hl : AO X lo tl wl) (hh : AO X hi th wh) : AE X (.Subscript e (.Slice lo hi none p2) pos) (tSl (rSlB X.K) te tl th) (wSl wSlT we wl wh) := ⟨pe_slice sl_tupB he.pe hl.po hh.po, snd_sl snd_slT he.sd hl.sd hh.sd⟩
/-! calls -/
def k_len {X : Cx} := (⟨call_len_seq, snd_len⟩ : ACall X (.builtin "len") _ wLen)
def k_abs {X : Cx} := (⟨call_abs, snd_abs⟩ : ACall X (.builtin "abs") _ wAbs)
def k_list {X : Cx} := (⟨call_list_of, snd_listOf⟩ : ACall X (.type "list") _ wListOf)
def k_tuple {X : Cx} := (⟨call_tupB, snd_tupleOf⟩ : ACall X (.type "tuple") _ wTupleOf)
def k_sum {X : Cx} (hc : X.calm = true := by rfl) := (⟨cr_sum hc, snd_sum⟩ : ACall X (.builtin "sum") _ (wInts fun ns ds Q => Q ds (.fz (.int ns.sum))))
def fMax (ns : List Int) (ds : Sto) (Q : Sto → AV → Prop) : Prop := 0 < ns.length ∧ ∀ m, m ∈ ns → (∀ y, y ∈ ns → y ≤ m) → Q ds (.fz (.int m))
def fMin (ns : List Int) (ds : Sto) (Q : Sto → AV → Prop) : Prop := 0 < ns.length ∧ ∀ m, m ∈ ns → (∀ y, y ∈ ns → m ≤ y) → Q ds (.fz (.int m))
def fSorted (ns : List Int) (ds : Sto) (Q : Sto → AV → Prop) : Prop := ns.length < 64 ∧ ∀ ns' : List Int, ns'.Perm ns → ns'.Pairwise (· ≤ ·) → Q ds (.ls (ns'.map PyData.int))
def k_max {X : Cx} (hc : X.calm = true := by rfl) := (⟨cr_max hc, snd_max⟩ : ACall X (.builtin "max") _ (wInts fMax))
def k_min {X : Cx} (hc : X.calm = true := by rfl) := (⟨cr_min hc, snd_min⟩ : ACall X (.builtin "min") _ (wInts fMin))
def k_sortedI {X : Cx} := (⟨cr_sorted, snd_sortedI⟩ : ACall X (.builtin "sorted") _ (wInts fSorted))
def k_any {X : Cx} (hc : X.calm = true := by rfl) := (⟨cr_any hc, snd_any⟩ : ACall X (.builtin "any") _ (wBls fun bs ds Q => Q ds (.fz (.bool (bs.any id)))))
def k_all {X : Cx} (hc : X.calm = true := by rfl) := (⟨cr_all hc, snd_all⟩ : ACall X (.builtin "all") _ (wBls fun bs ds Q => Q ds (.fz (.bool (bs.all id)))))
theorem ae_callB {x : Str} {id : String} {r : List V → Hp → VK → Prop} {wl : WL} (hc : ACall X (.builtin id) r wl) (hm : X.mg x = none) (hv : bootBuiltins x = some (.builtin id)) (ha : AA X (e :: es) t w) (hg : Gl X x := by rfl) (hn : x ≠ "__name__" := by decide) (hdb : (x == ("__debug__" : Str)) = false := by decide)
    (he : starEach (e :: es) X.env = (false, eval e X.env) :: starEach es X.env := by rfl) (hpl : (backTo pos (starEach es X.env)).any (·.1) = false := by rfl) : AE X (.Call (.Name x p) (e :: es) [] pos) (tCB r t) (wCB wl w) := ⟨pe_callB hc.cl hg hm hv ha.pa hn hdb he hpl, snd_CB hc.sd ha.sd⟩
theorem ae_callTy {x : Str} {T : String} {r : List V → Hp → VK → Prop} {wl : WL} (hc : ACall X (.type T) r wl) (hm : X.mg x = none) (hv : bootBuiltins x = some (.type T)) (ha : AA X (e :: es) t w) (hg : Gl X x := by rfl) (hn : x ≠ "__name__" := by decide) (hdb : (x == ("__debug__" : Str)) = false := by decide)
    (he : starEach (e :: es) X.env = (false, eval e X.env) :: starEach es X.env := by rfl) (hpl : (backTo pos (starEach es X.env)).any (·.1) = false := by rfl) : AE X (.Call (.Name x p) (e :: es) [] pos) (tCB r t) (wCB wl w) := ⟨pe_callTy hc.cl hg hm hv ha.pa hn hdb he hpl, snd_CB hc.sd ha.sd⟩
end
/-- a def that callers may take, by its name -/
structure Cal (P : Program) (w : World) (K : PySem.W.Frag) (mg : Str → Option Value) (base : Heap) (k : Nat) (x : Str) (sp : Sp) : Prop where
  ex : ∃ (f : Addr) (fd : FuncData) (ps : List Str), FnOk P w K mg base CX0 k f fd ps sp ∧ mg x = some (.ref f) ∧ PySem.W.keepIn K (.ref f) = true ∧ Binds K fd ps []
section
variable {X : Cx} {e : Expr} {es : List Expr} {t : TA} {w : WA} {p pos : Pos}
theorem ae_callP {x : Str} {k j n : Nat} {pre : List D → Prop} {post : List D → AV → Prop} (C : Cal X.prog X.w X.K X.mg X.base k x (spP n pre post X.K)) (hr : Room j X.A) (ha : AA X (e :: es) t w) (hk : k ≤ j := by decide) (hg : Gl X x := by rfl) (hdb : (x == ("__debug__" : Str)) = false := by decide)
    (he : starEach (e :: es) X.env = (false, eval e X.env) :: starEach es X.env := by rfl) (hpl : (backTo pos (starEach es X.env)).any (·.1) = false := by rfl) : AE X (.Call (.Name x p) (e :: es) [] pos) (tCall (spP n pre post X.K) [] E0 t) (wCallP pre post n w) := by
  obtain ⟨f, fd, ps, F, g, kp, b⟩ := C.ex
  exact ⟨pe_call F (hr.mono hk) hg g kp b .nil pass0 ha.pa hdb he hpl, snd_callP ha.sd⟩
theorem ae_callM {x : Str} {k j n : Nat} {pre : List D → List D → Prop} {post : List D → List D → List D → AV → Prop} (C : Cal X.prog X.w X.K X.mg X.base k x (spM n pre post X.K)) (hr : Room j X.A) (ha : AA X (e :: es) t w) (hk : k ≤ j := by decide) (hg : Gl X x := by rfl) (hdb : (x == ("__debug__" : Str)) = false := by decide)
    (he : starEach (e :: es) X.env = (false, eval e X.env) :: starEach es X.env := by rfl) (hpl : (backTo pos (starEach es X.env)).any (·.1) = false := by rfl) : AE X (.Call (.Name x p) (e :: es) [] pos) (tCall (spM n pre post X.K) [] E0 t) (wCallM pre post n w) := by
  obtain ⟨f, fd, ps, F, g, kp, b⟩ := C.ex
  exact ⟨pe_call F (hr.mono hk) hg g kp b .nil pass0 ha.pa hdb he hpl, snd_callM ha.sd⟩
variable {o : Expr} {to : TE} {wo : WE} {apos cpos : Pos}
/-! methods of lists -/
structure AMt (X : Cx) (id : String) (r : V → List V → Hp → VK → Prop) (wr : WM) : Prop where
  mt : MtR X id r
  sd : SndM X.K r wr
theorem m_append : AMt X "list.append" rAppend wAppend := ⟨mt_append, snd_append⟩
theorem m_extend : AMt X "list.extend" rExtend wExtend := ⟨mt_extend, snd_extend⟩
theorem m_popAt : AMt X "list.pop" rPopAt wPopAt := ⟨mt_popAt, snd_popAt⟩
theorem m_pop : AMt X "list.pop" rPop wPop := ⟨mt_pop, snd_pop⟩
theorem m_reverse : AMt X "list.reverse" rReverse wReverse := ⟨mt_reverse, snd_reverse⟩
theorem ae_bm {id : String} {name : Str} {r : V → List V → Hp → VK → Prop} {wr : WM} (slot : Slot "list" name id) (hty : typeOf (.builtin id) = pure (.type "method_descriptor")) (hm : AMt X id r wr) (ho : AE X o to wo) (ha : AA X (e :: es) t w)
    (hbase : attributeBase o name X.env (eval o X.env) = eval o X.env := by rfl)
    (hfew : ((backTo cpos (starEach (e :: es) X.env)).all (fun x => !x.1) && (backToKw cpos (keywordEach [] X.env)).all (fun x => x.1.isSome)
      && decide ((e :: es).length + ([] : List Keyword).length + (if ([] : List Keyword).isEmpty then 0 else 1) < 30)) = true := by rfl)
    (hline : (apos.endLine == cpos.line) = true := by rfl) (hs : starEach (e :: es) X.env = (false, eval e X.env) :: starEach es X.env := by rfl) (hplain : (backTo cpos (starEach es X.env)).any (·.1) = false := by rfl) :
    AE X (.Call (.Attribute o name apos) (e :: es) [] cpos) (tBM X.K "list" r to t) (wBM wr wo w) := ⟨pe_bm PySem.F.plainAttrs_list slot hty hm.mt ho.pe ha.pa hbase hfew hline hs hplain, snd_BM hm.sd ho.sd ha.sd⟩
theorem ae_bm0 {id : String} {name : Str} {r : V → List V → Hp → VK → Prop} {wr : WM} (slot : Slot "list" name id) (hty : typeOf (.builtin id) = pure (.type "method_descriptor")) (hm : AMt X id r wr) (ho : AE X o to wo)
    (hbase : attributeBase o name X.env (eval o X.env) = eval o X.env := by rfl) (hline : (apos.endLine == cpos.line) = true := by rfl) : AE X (.Call (.Attribute o name apos) [] [] cpos) (tBM0 X.K "list" r to) (wBM0 wr wo) := ⟨pe_bm0 PySem.F.plainAttrs_list slot hty hm.mt ho.pe hbase hline, snd_BM0 hm.sd ho.sd⟩
/-! what is walked -/
variable {tg iter a b c : Expr} {te ta tb tc : TE} {we wa wb wc : WE}
theorem ai_range1 (hm : X.mg "range" = none) (ha : AA X [a] t w) (hg : Gl X "range" := by rfl) (hs : starEach [a] X.env = [(false, eval a X.env)] := by rfl) : AI X tg (.Call (.Name "range" p) [a] [] pos) (iRng1 t) (wRng1 w) := ⟨pi_range1 hg hm ha.pa hs, snd_rng1 ha.sd⟩
theorem ai_range2 (hm : X.mg "range" = none) (ha : AA X [a, b] t w) (hg : Gl X "range" := by rfl) (hs : starEach [a, b] X.env = [(false, eval a X.env), (false, eval b X.env)] := by rfl) (hs2 : starEach [b] X.env = [(false, eval b X.env)] := by rfl) : AI X tg (.Call (.Name "range" p) [a, b] [] pos) (iRng2 t) (wRng2 w) := ⟨pi_range2 hg hm ha.pa hs hs2, snd_rng2 ha.sd⟩
theorem ai_list (h : AE X e te we) : AI X tg e (iList X.K te) (wIList we) := ⟨pi_list h.pe, snd_iList h.sd⟩
theorem ai_tup (h : AE X e te we) : AI X tg e (iTup X.K te) (wITup we) := ⟨pi_tup h.pe, snd_iTup h.sd⟩
/-! targets -/
variable {g : TG} {wg : WG} {ws : List Nat}
theorem ag_name (i : Nat) {x : Str} (hN : X.N.Nodup) (hi : X.N[i]? = some x := by rfl) (hx : Loc X.env.scope x := by first | exact Or.inl rfl | exact Or.inr rfl) (hf : X.fn x = true ∨ X.env.scope.names.lookup x = some .local := by first | exact .inl rfl | exact .inr rfl) : AG X (.Name x pos) (gName i) (wName i) [i] := ⟨pg_name hN hi hx hf, snd_name i⟩
structure AGs (X : Cx) (es : List Expr) (g : TGs) (w : WGs) (ws : List Nat) : Prop where
  pg : PGs X es g
  sd : SndGs X.K g w ws
theorem ags_nil : AGs X [] gNil wgNil [] := ⟨pgs_nil, snd_gNil⟩
theorem ags_cons {gs : TGs} {wgs : WGs} {ws' : List Nat} (h1 : AG X e g wg ws) (h2 : AGs X es gs wgs ws') (hs : (assignEach (e :: es) X.env).map (·.2) = assign e X.env :: (assignEach es X.env).map (·.2) := by rfl) : AGs X (e :: es) (gCons g gs) (wgCons wg wgs) (ws ++ ws') := ⟨pgs_cons h1.pg h2.pg hs, snd_gCons h1.sd h2.sd⟩
theorem ag_tup {gs : TGs} {wgs : WGs} {k n : Nat} (h : AGs X es gs wgs ws) (hc : X.calm = true := by rfl) (hn : (assignEach es X.env).length = n := by rfl) (hst : (assignEach es X.env).findIdx? (·.1) = none := by rfl) : AG X (.Tuple es k pos) (gTup X.K n gs) (wgTup n wgs) ws := ⟨pg_tup hc h.pg hn hst, snd_gTup h.sd⟩
theorem ag_sub (ho : AE X o to wo) (hi : AE X a ta wa) (ha : ∀ v, assign (.Subscript o a pos) X.env v = (do
      let ov ← holding [v] (eval o X.env)
      let iv ← holding [v, ov] (eval a X.env)
      standAt pos
      holding [v, ov, iv] (setItem ov iv v)
      release [v, ov, iv] []) := by intro _; rfl) : AG X (.Subscript o a pos) (gSub to ta rSetL) (wgSub wo wa) [] := ⟨pg_sub ho.pe hi.pe set_list ha, snd_gSub ho.sd hi.sd⟩
/-! comprehensions -/
structure ATs (X : Cx) (ifs : List Expr) (t : TT) (w : WT) : Prop where
  pt : PTs X ifs t
  sd : SndT X.K t w
theorem ats_nil : ATs X [] tYes (fun ds Q => Q ds true) := ⟨pts_nil, snd_tYes⟩
theorem ats_one {tA : TT} {wA : WT} (h : AT X e tA wA) : ATs X [e] tA wA := ⟨pts_one h.pt, h.sd⟩
theorem ae_lc {elt : Expr} {ifs : List Expr} {scope : Scope} (own : List (Str × Nat)) {wi : TI} {wI : WI} {g' : Shared → Hp → Addr → List (Str × Addr) → List Addr → TG} {tt : Shared → Hp → Addr → List (Str × Addr) → List Addr → TT} {te' : Shared → Hp → Addr → List (Str × Addr) → List Addr → TE} {wt : WT} (hN : X.N.Nodup) (ok : BlkOk X.N X.env.scope scope own) (hi : AI X tg iter wi wI)
    (hg : ∀ (s : Shared) (H : Hp) (C : Addr) (cl : List (Str × Addr)) (fp : List Addr), AG (X.blk s H scope (compEnvC scope cl C X.env) fp) tg (g' s H C cl fp) wg ws) (ht : ∀ (s : Shared) (H : Hp) (C : Addr) (cl : List (Str × Addr)) (fp : List Addr), ATs (X.blk s H scope (compEnvC scope cl C X.env) fp) ifs (tt s H C cl fp) wt)
    (he : ∀ (s : Shared) (H : Hp) (C : Addr) (cl : List (Str × Addr)) (fp : List Addr), AE (X.blk s H scope (compEnvC scope cl C X.env) fp) elt (te' s H C cl fp) we) (hw : ∀ i ∈ ws, i ∈ own.map (·.2) := by decide) (hc : X.calm = true := by rfl) (hgE : ∀ (s : Shared) (H : Hp) (C : Addr) (cl : List (Str × Addr)) (fp : List Addr), g' s H C cl fp = g' X.s_0 X.H_0 0 [] [] := by intros; rfl) (httE : ∀ (s : Shared) (H : Hp) (C : Addr) (cl : List (Str × Addr)) (fp : List Addr), tt s H C cl fp = tt X.s_0 X.H_0 0 [] [] := by intros; rfl) (hteE : ∀ (s : Shared) (H : Hp) (C : Addr) (cl : List (Str × Addr)) (fp : List Addr), te' s H C cl fp = te' X.s_0 X.H_0 0 [] [] := by intros; rfl) (hs : ∀ x, foldedSetIterable iter X.env x = pure x := by intro _; rfl) :
    AE X (.ListComp elt [⟨tg, iter, ifs, 0⟩] scope pos) (tLc wi (g' X.s_0 X.H_0 0 [] []) (tt X.s_0 X.H_0 0 [] []) (te' X.s_0 X.H_0 0 [] []) (own.map (·.2))) (wLc wI wg wt we (own.map (·.2))) :=
  ⟨pe_lc hc hN hi.pi ok (fun s H C cl fp => by rw [← hgE s H C cl fp]; exact (hg s H C cl fp).pg) (fun s H C cl fp => by rw [← httE s H C cl fp]; exact (ht s H C cl fp).pt) (fun s H C cl fp => by rw [← hteE s H C cl fp]; exact (he s H C cl fp).pe) hs,
   snd_lc hi.sd (hg X.s_0 X.H_0 0 [] []).sd (ht X.s_0 X.H_0 0 [] []).sd (he X.s_0 X.H_0 0 [] []).sd hw⟩
/-! statements -/
variable {st : Stmt} {rest : List Stmt} {tS uS : TS} {wS vS : WS}
theorem ass_nil : ASs X [] tNext wNext := ⟨pss_nil, snd_next⟩
theorem ass_cons (h1 : AS X st tS wS) (h2 : ASs X rest uS vS) : ASs X (st :: rest) (tSeq tS uS) (wSeq wS vS) := ⟨pss_cons h1.ps h2.ps, snd_seq h1.sd h2.sd⟩
theorem ass_one (h1 : AS X st tS wS) : ASs X [st] tS wS := ⟨pss_one h1.ps, h1.sd⟩
theorem as_set (i : Nat) {x : Str} {pos' : Pos} (hN : X.N.Nodup) (he : AE X e te we) (hi : X.N[i]? = some x := by rfl) (hx : Loc X.env.scope x := by first | exact Or.inl rfl | exact Or.inr rfl) (hs : swapsWith e (some (.Name x pos')) pos.line X.env = pure false := by rfl)
    (hf : X.fn x = true ∨ X.env.scope.names.lookup x = some .local := by first | exact .inl rfl | exact .inr rfl) : AS X (.Assign [.Name x pos'] e pos) (tAsg te (gName i)) (wAsg we (wName i)) := ⟨ps_set hN hi hx he.pe hs hf, snd_asg he.sd (snd_name i)⟩
theorem as_setLc {elt : Expr} {ifs : List Expr} {scope : Scope} (i : Nat) {y : Str} {py spos : Pos} (own : List (Str × Nat)) {wi : TI} {wI : WI} {g' : Shared → Hp → Addr → List (Str × Addr) → List Addr → TG} {tt : Shared → Hp → Addr → List (Str × Addr) → List Addr → TT} {te' : Shared → Hp → Addr → List (Str × Addr) → List Addr → TE} {wt : WT} (hN : X.N.Nodup) (ok : BlkOk X.N X.env.scope scope own) (hi : AI X tg iter wi wI)
    (hg : ∀ (s : Shared) (H : Hp) (C : Addr) (cl : List (Str × Addr)) (fp : List Addr), AG (X.blk s H scope (compEnvC scope cl C X.env) fp) tg (g' s H C cl fp) wg ws) (ht : ∀ (s : Shared) (H : Hp) (C : Addr) (cl : List (Str × Addr)) (fp : List Addr), ATs (X.blk s H scope (compEnvC scope cl C X.env) fp) ifs (tt s H C cl fp) wt)
    (he : ∀ (s : Shared) (H : Hp) (C : Addr) (cl : List (Str × Addr)) (fp : List Addr), AE (X.blk s H scope (compEnvC scope cl C X.env) fp) elt (te' s H C cl fp) we) (hsw : swapsWith (.ListComp elt [⟨tg, iter, ifs, 0⟩] scope pos) (some (.Name y py)) spos.line X.env = pure true)
    (hy : X.N[i]? = some y := by rfl) (hyl : X.env.scope.names.lookup y = some .local := by rfl) (hw : ∀ i ∈ ws, i ∈ own.map (·.2) := by decide) (hc : X.calm = true := by rfl) (hgE : ∀ (s : Shared) (H : Hp) (C : Addr) (cl : List (Str × Addr)) (fp : List Addr), g' s H C cl fp = g' X.s_0 X.H_0 0 [] [] := by intros; rfl) (httE : ∀ (s : Shared) (H : Hp) (C : Addr) (cl : List (Str × Addr)) (fp : List Addr), tt s H C cl fp = tt X.s_0 X.H_0 0 [] [] := by intros; rfl) (hteE : ∀ (s : Shared) (H : Hp) (C : Addr) (cl : List (Str × Addr)) (fp : List Addr), te' s H C cl fp = te' X.s_0 X.H_0 0 [] [] := by intros; rfl) (hs : ∀ x, foldedSetIterable iter X.env x = pure x := by intro _; rfl) :
    AS X (.Assign [.Name y py] (.ListComp elt [⟨tg, iter, ifs, 0⟩] scope pos) spos) (tAsg (tLc wi (g' X.s_0 X.H_0 0 [] []) (tt X.s_0 X.H_0 0 [] []) (te' X.s_0 X.H_0 0 [] []) (own.map (·.2))) (gName i)) (wAsg (wLc wI wg wt we (own.map (·.2))) (wName i)) :=
  ⟨ps_setLc hc hN hy hyl hsw hi.pi ok (fun s H C cl fp => by rw [← hgE s H C cl fp]; exact (hg s H C cl fp).pg) (fun s H C cl fp => by rw [← httE s H C cl fp]; exact (ht s H C cl fp).pt) (fun s H C cl fp => by rw [← hteE s H C cl fp]; exact (he s H C cl fp).pe) hs,
   snd_asg (snd_lc hi.sd (hg X.s_0 X.H_0 0 [] []).sd (ht X.s_0 X.H_0 0 [] []).sd (he X.s_0 X.H_0 0 [] []).sd hw) (snd_name i)⟩
theorem as_asg (he : AE X e te we) (hg : AG X tg g wg ws) (hs : swapsWithSole [tg] e pos.line X.env = pure false := by rfl) (hw : swappedStores [tg] e X.env = pure none := by rfl)
    (h1 : (assignEach [tg] X.env).map (·.2) = [assign tg X.env] := by rfl) : AS X (.Assign [tg] e pos) (tAsg te g) (wAsg we wg) := ⟨ps_asg he.pe hg.pg hs hw h1, snd_asg he.sd hg.sd⟩
theorem as_par (i j : Nat) {x y : Str} {px py pt : Pos} {kt k2 pt2} (hN : X.N.Nodup) (ha : AA X [a, b] t w) (hi : X.N[i]? = some x := by rfl) (hj : X.N[j]? = some y := by rfl) (hij : i ≠ j := by decide)
    (hx : X.env.scope.names.lookup x = some .local := by rfl) (hy : X.env.scope.names.lookup y = some .local := by rfl) (hc : X.calm = true := by rfl)
    (hw : swappedStores [.Tuple [.Name x px, .Name y py] kt pt] (.Tuple [a, b] k2 pt2) X.env = pure (some [x, y]) := by rfl)
    (hs : swapsWithSole [.Tuple [.Name x px, .Name y py] kt pt] (.Tuple [a, b] k2 pt2) pos.line X.env = pure false := by rfl) :
    AS X (.Assign [.Tuple [.Name x px, .Name y py] kt pt] (.Tuple [a, b] k2 pt2) pos) (tPar i j t) (wPar i j w) := ⟨ps_par hc hN hi hj hij hx hy ha.pa hw hs, snd_par ha.sd⟩
theorem as_expr (he : AE X e te we) (hs : swapsWith e none pos.line X.env = pure false := by rfl) : AS X (.Expr e pos) (tDrop te) (wDrop we) := ⟨ps_expr he.pe hs, snd_drop he.sd⟩
theorem as_ret (he : AE X e te we) : AS X (.Return (some e) pos) (tRet te) (wRet we) := ⟨ps_ret he.pe, snd_ret he.sd⟩
theorem as_retN : AS X (.Return none pos) tRetN wRetN := ⟨ps_retN, snd_retN⟩
theorem as_if {p q : List Stmt} {tA : TT} {wA : WT} (hc : AT X c tA wA) (ha : ASs X p tS wS) (hb : ASs X q uS vS) : AS X (.If c p q pos) (tIfS tA tS uS) (wIf wA wS vS) := ⟨ps_if hc.pt ha.ps hb.ps, snd_if hc.sd ha.sd hb.sd⟩
theorem as_never : AS X st tNever wNever := ⟨ps_never, snd_never⟩
theorem ass_never {sts : List Stmt} : ASs X sts tNever wNever := ⟨pss_never, snd_never⟩
theorem as_break : AS X (.Break pos) tBreak wBreak := ⟨ps_break, snd_break⟩
theorem as_cont : AS X (.Continue pos) tCont wCont := ⟨ps_continue, snd_cont⟩
theorem as_pass : AS X (.Pass pos) tNext wNext := ⟨ps_pass, snd_next⟩
theorem as_while {body : List Stmt} {tA : TT} {wA : WT} (hc : AT X c tA wA) (hb : ASs X body tS wS) (hp : PassesOwn (model X.prog X.w) X.A X.env X.xe := by exact PassesOwn.never) : AS X (.While c body [] pos) (tWhile tA tS) (wWhile wA wS) := ⟨ps_while hp hc.pt hb.ps, snd_while hc.sd hb.sd⟩
theorem as_for {body : List Stmt} {wi : TI} {wI : WI} (hi : AI X tg iter wi wI) (hg : AG X tg g wg ws) (hb : ASs X body tS wS) (hp : PassesOwn (model X.prog X.w) X.A X.env X.xe := by exact PassesOwn.never) (hc : X.calm = true := by rfl) (hs : ∀ x, foldedSetIterable iter X.env x = pure x := by intro _; rfl) :
    AS X (.For tg iter body [] pos) (tFor wi g tS) (wFor wI wg wS) := ⟨ps_for hp hc hi.pi hg.pg hb.ps hs, snd_for hi.sd hg.sd hb.sd⟩
structure AIp (X : Cx) (op : Operator) (g : Int → Int → Int) : Prop where
  ip : PIp X op (ipI g)
theorem i_add : AIp X .Add (fun i j => i + j) := ⟨ip_add⟩
theorem i_sub : AIp X .Sub (fun i j => i - j) := ⟨ip_sub⟩
theorem as_aug (i : Nat) {x : Str} {op : Operator} {f : Int → Int → Int} {pos' : Pos} (hN : X.N.Nodup) (ho : AIp X op f) (he : AE X e te we) (hi : X.N[i]? = some x := by rfl) (hx : Loc X.env.scope x := by first | exact Or.inl rfl | exact Or.inr rfl)
    (hf : X.fn x = true ∨ X.env.scope.names.lookup x = some .local := by first | exact .inl rfl | exact .inr rfl) : AS X (.AugAssign (.Name x pos') op e pos) (tAug i te (ipI f)) (wAug i f we) := ⟨ps_aug hN hi hx he.pe ho.ip hf, snd_aug he.sd⟩
/-- ahead of a statement a slot's own list is declared to stay as it is -/
def wFrzS (i : Nat) (w : WS) : WS := fun N ds => match ds.getD i .un with
  | .ls l => w N (ds.set i (.fz (.list l)))
  | _ => False
theorem snd_frzS {K : PySem.W.Frag} {i : Nat} {t : TS} {w : WS} (h : SndS K t w) : SndS K t (wFrzS i w) := fun B m H σ ds ts vs N E hf S q n r b c => by
  unfold wFrzS at q
  split at q
  · rename_i l hd
    obtain ⟨f, g, c0⟩ := S
    obtain ⟨f', v, _, _, c1⟩ := c0.freezeS hd (hf.noRf i)
    exact h _ _ _ _ _ _ _ _ _ hf ⟨f', g, c1⟩ q n r b c
  · exact q.elim
theorem AS.frz (i : Nat) (h : AS X st tS wS) : AS X st tS (wFrzS i wS) := ⟨h.ps, snd_frzS h.sd⟩
end
end SX

set_option Elab.async false
set_option linter.all false
set_option maxRecDepth 100000
set_option maxHeartbeats 2000000
namespace SX
open PySem PySem.Spec PyProof.Rows L2
/-! ### isinstance -/
def tyn : D → String
  | .none => "NoneType"
  | .bool _ => "bool"
  | .int _ => "int"
  | .str _ => "str"
  | .list _ => "list"
  | .tuple _ => "tuple"
  | .dict _ => "dict"
def isiS (t T : String) : Bool := t == T || (T == "int" && t == "bool")
def isiB (T : String) (d : D) : Bool := isiS (tyn d) T
theorem Rep.tyx {K : PySem.W.Frag} {H : Hp} {Fz : Addr → Prop} {d : D} {v : V} (r : Rep K H Fz d v) : TyX K H v (.type (tyn d)) := by
  cases r with
  | non => exact .base .non
  | bl b => exact .base (.bl b)
  | int i => exact .base (.int i)
  | str x => exact .base (.str x)
  | lst f _ =>
    rcases f with ⟨_, h | ⟨o, h⟩⟩ | ⟨o, its, n, h, c, _⟩
    · exact .base (.lst h)
    · exact .base (.frz h)
    · exact .kList h c
  | tup f _ =>
    rcases f with ⟨o, h, _⟩ | ⟨o, its, n, h, c, _⟩
    · exact .fTuple h
    · exact .kTuple h c
/-- the types that the code asks for -/
def askT (T : String) : Bool := T == "int" || T == "bool" || T == "str" || T == "tuple" || T == "list"
def allT : List String := ["int", "bool", "str", "tuple", "list"]
theorem kit_all : (["NoneType", "bool", "int", "str", "list", "tuple", "dict"].all fun t => allT.all fun T => kitB t T == some (isiS t T)) = true := by decide +kernel
theorem kit_one {K : PySem.W.Frag} {T : String} (h : T ∈ allT) (d : D) : PySem.W.kitOne K (.type (tyn d)) (.type T) = some (isiB T d) := by
  have q := kit_all
  rw [List.all_eq_true] at q
  have q1 := q (tyn d) (by cases d <;> simp [tyn])
  rw [List.all_eq_true] at q1
  have q2 := q1 T h
  exact kit_ty (by unfold isiB; simpa using q2)
def rIsT (K : PySem.W.Frag) (T : String) (ta : TE) : TE := tCB (rIsi K) (tCons ta (tCons (tC (.ty T)) tNil))
def wIsT (T : String) (wa : WE) : WE := fun ds Q => wa ds fun ds1 x => match vl ds1 x with
  | some d => Q ds1 (.fz (.bool (isiB T d)))
  | none => False
theorem snd_isT {K : PySem.W.Frag} {T : String} (hT : T ∈ allT) {ta : TE} {wa : WE} (ha : SndE K ta wa) : SndE K (rIsT K T ta) (wIsT T wa) := fun B m H σ ds ts vs Q R S h k =>
  ha _ _ _ _ _ _ _ _ _ S h fun v H1 ds1 x S1 q => by
    split at q
    · rename_i d e
      exact ⟨v, .ty T, _, _, _, rfl, .ty T, (S1.vl1 e).tyx, kit_one hT d, k _ _ _ _ (S1.pop.pushBl _) q⟩
    · exact q.elim
theorem ae_isi {X : Cx} {e : Expr} {te : TE} {we : WE} {p p2 pos : Pos} (T : String) {x : Str} (hm : X.mg "isinstance" = none) (hx : X.mg x = none) (ha : AE X e te we) (hT : T ∈ allT := by decide) (hv : bootBuiltins x = some (.type T) := by decide +kernel) (hv2 : bootBuiltins "isinstance" = some (.builtin "isinstance") := by decide +kernel)
    (hg : Gl X "isinstance" := by rfl) (hg2 : Gl X x := by rfl) (hn : x ≠ "__name__" := by decide) (hdb : (x == ("__debug__" : Str)) = false := by decide)
    (he : starEach [e, .Name x p2] X.env = (false, eval e X.env) :: starEach [.Name x p2] X.env := by rfl) (he2 : starEach [.Name x p2] X.env = (false, eval (.Name x p2) X.env) :: starEach [] X.env := by rfl) (hpl : (backTo pos (starEach [.Name x p2] X.env)).any (·.1) = false := by rfl) :
    AE X (.Call (.Name "isinstance" p) [e, .Name x p2] [] pos) (rIsT X.K T te) (wIsT T we) :=
  ⟨pe_callB call_isi hg hm hv2 (pa_cons ha.pe (pa_cons (pe_bltn hg2 hx hv rfl hn hdb) pa_nil he2) he) (by decide) (by decide) he hpl, snd_isT hT ha.sd⟩

/-! ### enumerate over a tuple -/
section
theorem meets_enumT {v : Value} {o : Obj} {Z : Heap → Prop} (Bg : Begins v o Z) : Meets (Builtin.«enumerate.__new__» ⟨[.type "enumerate", v], []⟩) (fun _ R z => Z z.heap ∧ R (.ok (.ret (.ref (z.heap.push o).objs.size))) { z with heap := (z.heap.push o).push { cls := .type "enumerate", data := .fields #[.none, .bool false, .ref z.heap.objs.size, rawInt 0, .none, .none] } }) :=
  .of_wp fun prog w A R z hz => by
    obtain ⟨hp, gg, dd, tk, os⟩ := z; obtain ⟨z1, hz⟩ := hz
    have hsubEn := sub_enumerate
    have q1 : ∀ {A' : Around} {E : Value → Shared → Prop} {Q : Value → Shared → Prop}, Q (.ref hp.objs.size) ⟨hp.push o, gg, dd, tk, os⟩ → wpAny (model prog w) A' (pyIter v) Q E ⟨hp, gg, dd, tk, os⟩ := fun q => Bg.iter prog w _ _ ⟨hp, gg, dd, tk, os⟩ _ z1 q
    wp_walk using q1
    refine wpAny_stack_any fun st => wpAny_pure ?_
    split
    · rename_i cc _ _ _ _ _
      cases (cc == Value.type "enumerate") <;> (wp_walk using q1; exact ⟨_, rfl, hz⟩)
    · wp_walk using q1; exact ⟨_, rfl, hz⟩
theorem call_enumT {prog : Program} {w : World} {A : Around} {E : Value → Shared → Prop} {z : Shared} {v : Value} {o : Obj} {Z : Heap → Prop} {Q : Value → Shared → Prop} (Bg : Begins v o Z) (z1 : Z z.heap)
    (h : ∀ h', IsEnum h' (z.heap.objs.size + 1) z.heap.objs.size 0 .none → h'.get? z.heap.objs.size = some o → h'.objs.size = z.heap.objs.size + 2 → (∀ b o, z.heap.get? b = some o → h'.get? b = some o) → Q (.ref (z.heap.objs.size + 1)) { z with heap := h' }) :
    wpAny (model prog w) A (call (.type "enumerate") [v]) Q E z := by
  refine callType_new F.called_enumerate (by decide) (F.typeCall_enumerate_1 _) (F.newCall_enumerate_1 _) (fun obj => F.args_object_init_2 obj _) F.entry_enumerate_new (meets_enumT Bg) ⟨z1, ?_⟩
  have sz : (z.heap.push o).objs.size = z.heap.objs.size + 1 := Heap.size_push ..
  show _ ∧ _
  rw [sz]
  have en : IsEnum ((z.heap.push o).push { cls := .type "enumerate", data := .fields #[.none, .bool false, .ref z.heap.objs.size, rawInt 0, .none, .none] }) (z.heap.objs.size + 1) z.heap.objs.size 0 .none := by
    have q := Heap.get?_push_size (z.heap.push o) (o := { cls := .type "enumerate", data := .fields #[.none, .bool false, .ref z.heap.objs.size, rawInt 0, .none, .none] }) rfl
    rw [sz] at q; exact q
  refine ⟨⟨_, en, rfl⟩, h _ en (Heap.get?_push_of_some _ (Heap.get?_push_size _ Bg.free)) (by rw [Heap.size_push, sz]) fun b o x => Heap.get?_push_of_some _ (Heap.get?_push_of_some _ x)⟩
/-- the tuple at a, each item in a new pair -/
def IteT (K : PySem.W.Frag) (a : Addr) : It :=
  ⟨fun i H => ∃ (ys : List V) (x : V), SqT K H a ys ∧ ys[i]? = some x, fun i H v H' => ∃ T x, v = .ref T ∧ H T = none ∧ (∃ o : Obj, o.dict = none ∧ H' = upd H T (.frz o (.tup [.int (i : Nat), x]))) ∧ ∀ ys, SqT K H a ys → ys[i]? = some x, fun i H => ∃ ys : List V, SqT K H a ys ∧ ys.length ≤ i⟩
theorem turn_enumT {P : Program} {w : World} {K : PySem.W.Frag} {elts : List Expr} {kk : Nat} {tpos : Pos} (a e it : Addr) : Turn P w K (.Tuple elts kk tpos) (IteT K a) [e, it] e (fun i h => (∃ old, IsEnum h e it ((i : Nat) : Int) old) ∧ h.IsTupleIter it a i ∧ e ≠ it ∧ a ≠ it ∧ a ≠ e) where
  mem := by simp
  obj := fun i h st b hb => by
    obtain ⟨⟨old, en⟩, ⟨o, ho, hc, hd⟩, _⟩ := st
    have e' : b = e ∨ b = it := by simpa using hb
    rcases e' with z | z
    · rw [z]; exact ⟨_, en, fun v q => nomatch q⟩
    · rw [z]; exact ⟨o, ho, fun v q => by rw [hd] at q; cases q⟩
  keep := fun i h h' st k => let ⟨⟨old, en⟩, ti, ne1, ne2⟩ := st; ⟨⟨old, k e (by simp) _ en⟩, ti.at fun o q => k it (by simp) o q, ne1, ne2⟩
  item := by
    intro X hP hw hK hc i pins s σ H E I hf st hg
    subst hP hw hK
    obtain ⟨⟨old, en⟩, ti, ne1, ne2, ne3⟩ := st
    obtain ⟨ys, x, hq, hx⟩ := hg
    obtain ⟨its, rv, p, hz⟩ := I.tuple hq
    obtain ⟨u, hu, ru⟩ := rv.get hx
    have pt : s.heap.IsTuple a its.toArray := p
    have lt : i < its.toArray.size := by
      have := (List.getElem?_eq_some_iff.mp hu).1
      simpa using this
    have hh : X.A.in1.handled = none := I.ok.hd hc
    have lte : e < s.heap.objs.size := Heap.lt_size en
    have lti : it < s.heap.objs.size := by obtain ⟨_, q, _⟩ := ti; exact Heap.lt_size q
    refine wpAny_pyNext_enum_itemD (Draws.tuple hh it a ne2 its.toArray) en ⟨ti, pt⟩ lt ne1 (by simp [ne1, Ne.symm ne3]) fun x' h' tk hpx ho hst' hT sz hk => ?_
    have ex : x' = u := by
      have z : its.toArray[i]? = some u := by simpa using hu
      rw [z] at hpx; cases hpx; rfl
    subst ex
    refine ⟨_, rfl, wpAny_letOwnedTupleGo_enum (s := { s with heap := h', toks := tk + 1 }) ho fun h'' en' sb => ?_⟩
    have hT2 : h''.get? s.heap.objs.size = some { cls := .type "tuple", data := .seq #[.int i tk, x'] } := (sb.2 _ (Nat.ne_of_gt lte)).trans hT
    have new : ObjOk X.prog X.w (upd H s.heap.objs.size (.frz { cls := .type "tuple", data := .seq #[.int i tk, x'] } (.tup [.int (i : Nat), x]))) h'' s.heap.objs.size (.frz { cls := .type "tuple", data := .seq #[.int i tk, x'] } (.tup [.int (i : Nat), x])) := ⟨hT2, by show 2 ≤ sizeLine; decide, [.int i tk, x'], .cons ⟨_, rfl⟩ (.cons ru .nil), ⟨_, hT2, rfl, _, rfl⟩⟩
    have I1 : Inv X pins σ (upd H s.heap.objs.size (.frz { cls := .type "tuple", data := .seq #[.int i tk, x'] } (.tup [.int (i : Nat), x]))) { s with heap := h'', toks := tk + 1 } := I.turnedNew (ch := [e, it]) (fun b ob hb q => (sb.2 b (fun z => hb (by simp [z]))).trans (hk b ob (fun z => hb (by simp [z])) (fun z => hb (by simp [z])) q)) hf (Nat.le_refl _) new
    refine ⟨.ref s.heap.objs.size, _, I1, rfl, ⟨_, x, rfl, I.hok.fresh (Nat.le_refl _), ⟨_, rfl, rfl⟩, fun zs hy => by rw [I.tuple_inj hy hq]; exact hx⟩, ⟨⟨x', ?_⟩, hst'.1.at fun o q => (sb.2 it (Ne.symm ne1)).trans q, ne1, ne2, ne3⟩, fun b hb => ?_⟩
    · have e1 : ((i + 1 : Nat) : Int) = (i : Int) + 1 := by omega
      rw [e1]; exact en'
    · have hb' : b < s.heap.objs.size := by
        have e' : b = e ∨ b = it := by simpa using hb
        rcases e' with z | z
        · rw [z]; exact lte
        · rw [z]; exact lti
      rw [upd_ne (Nat.ne_of_lt hb')]
      exact (hf b hb).1
  done := by
    intro X hP hw hK hc i pins s σ H E I hf st hg
    subst hP hw hK
    obtain ⟨⟨old, en⟩, ti, ne1, ne2, ne3⟩ := st
    obtain ⟨ys, hq, hx⟩ := hg
    obtain ⟨its, rv, p, hz⟩ := I.tuple hq
    obtain ⟨f0, f1, f2, f3, f4, f5⟩ := hf it (by simp)
    have hh : X.A.in1.handled = none := I.ok.hd hc
    have hl := rv.length
    have pt : s.heap.IsTuple a its.toArray := p
    have dr : Draws X.prog X.w X.A.in1 it [it, a] i (fun _ _ => True) (fun j h => j = i ∧ h.IsTupleIter it a j ∧ h.IsTuple a its.toArray) := {
      live := fun _ _ st => let ⟨o, ho, _⟩ := st.2.1; ⟨o, ho⟩
      frame := fun _ _ _ st hk => ⟨st.1, st.2.1.at fun o e => hk it (by simp) o e, st.2.2.at fun o e => hk a (by simp) o e⟩
      item := fun j s Q E hi st hQ => absurd st.1 (Nat.ne_of_lt hi)
      done := fun s Q E st hE => wpAny_nextOf_tuple_end hh st.2.1 st.2.2 (by simp; omega) hE }
    exact wpAny_pyNext_enum_endD dr en ⟨rfl, ti, pt⟩ fun h' eb => ⟨rfl, I.turned (t' := s.toks) (fun b o hb q => eb b o hb q) f0 f1 f3 f4 f5⟩
  self := fun A i s Q E st h => let ⟨⟨_, en⟩, _⟩ := st; wpAny_pyIter_enum en h
def iEnumT (K : PySem.W.Frag) (ta : TA) : TI := fun σ H R => ta σ H fun vs H1 => ∃ a ys, vs = [.ref a] ∧ SqT K H1 a ys ∧ R (IteT K a) H1
theorem pi_enumT {X : Cx} {e : Expr} {ta : TA} {p pos tpos : Pos} {elts : List Expr} {kk : Nat} (hg : Gl X "enumerate") (hm : X.mg "enumerate" = none) (ha : PA X [e] ta) (hs : starEach [e] X.env = [(false, eval e X.env)] := by rfl) : PI X (.Tuple elts kk tpos) (.Call (.Name "enumerate" p) [e] [] pos) (iEnumT X.K ta) := by
  refine ⟨fun pins z σ H R I h => ?_⟩
  refine Call_ (ld_blt I hg hm boot_enumerate (PyProof.Rows.callWith_type1 (thn (ha.run pos pins z σ H _ I h) fun us s1 ⟨vs, H1, I1, r1, q1⟩ => ?_) hs rfl))
  obtain ⟨a, ys, ex, hq, q⟩ := q1
  subst ex
  cases r1 with
  | cons r rr =>
    cases rr
    cases r
    obtain ⟨its, rv, p', hz⟩ := I1.tuple hq
    have pt : s1.heap.IsTuple a its.toArray := p'
    have lta : a < s1.heap.objs.size := by obtain ⟨_, q, _⟩ := pt; exact Heap.lt_size q
    refine call_enumT (begins_tuple a its.toArray) pt fun h' en ti sz hk => wpAny_pyIter_enum en ?_
    have I2 : Inv X pins σ H1 { s1 with heap := h' } := I1.kept (t' := s1.toks) hk
    refine ⟨s1.heap.objs.size + 1, [s1.heap.objs.size + 1, s1.heap.objs.size], _, _, H1, rfl, I2, turn_enumT a (s1.heap.objs.size + 1) s1.heap.objs.size, ⟨⟨.none, en⟩, ⟨_, ti, rfl, rfl⟩, Nat.succ_ne_self _, Nat.ne_of_lt lta, Nat.ne_of_lt (Nat.lt_succ_of_lt lta)⟩, fun b hb => ?_, q⟩
    have e' : b = s1.heap.objs.size + 1 ∨ b = s1.heap.objs.size := by simpa using hb
    have le : s1.heap.objs.size ≤ b := by rcases e' with z | z <;> (rw [z]; omega)
    exact I1.fpOk le (I1.hok.fresh le)
end
section
variable {K : PySem.W.Frag}
theorem iteT_for {l : List D} {a : Addr} : ItFor K (IteT K a) [.tuple l] [.ref a] (enu l) := fun H Fz h => by
  obtain ⟨b, xs, e, fl, r⟩ := h.one.tup_inv
  cases e
  rw [enu_len]
  refine ⟨fun i hi => ?_, fun i hi => ⟨xs, fl.sqt, by rw [← r.length]; exact hi⟩, fun i y H' hi hy => ?_⟩
  · obtain ⟨v, hv, _⟩ := r.get (List.getElem?_eq_getElem hi)
    exact ⟨xs, v, fl.sqt, hv⟩
  · obtain ⟨T, x, rfl, hT, ⟨o, ho, rfl⟩, hx⟩ := hy
    obtain ⟨d, hd, rd⟩ := r.getV (hx xs fl.sqt)
    exact ⟨_, enu_get hd, upd_keep hT, .tup (BT.of upd_same ho) (.cons (.int _) (.cons (rd.keep (upd_keep hT)) .nil))⟩
def wEnumT (wa : WA) : WI := fun ds Q => wa ds fun ds1 xs => match xs with
  | [.fz (.tuple l)] => Q ds1 (enu l)
  | _ => False
theorem snd_enumT {ta : TA} {wa : WA} (ha : SndA K ta wa) : SndI K (iEnumT K ta) (wEnumT wa) := fun B m H σ ds ts vs Q R S h k =>
  ha _ _ _ _ _ _ _ _ _ S h fun us H1 ds1 xs S1 hl h1 => by
    split at h1
    · rename_i l
      match us, hl with
      | [u], _ =>
        have S2 : Stt K B m H1 σ ds1 (.fz (.tuple l) :: ts) (u :: vs) := S1
        obtain ⟨f, g, c, r⟩ := S2.top
        obtain ⟨a, xs, rfl, fl, rr⟩ := r.tup_inv
        exact ⟨a, xs, rfl, fl.sqt, k _ _ _ [.tuple l] [.ref a] _ S2 rfl iteT_for h1⟩
    · exact h1.elim
end
theorem ai_enumT {X : Cx} {e : Expr} {t : TA} {w : WA} {p pos : Pos} {elts : List Expr} {kk : Nat} {tpos : Pos} (hm : X.mg "enumerate" = none) (ha : AA X [e] t w) (hg : Gl X "enumerate" := by rfl) (hs : starEach [e] X.env = [(false, eval e X.env)] := by rfl) : AI X (.Tuple elts kk tpos) (.Call (.Name "enumerate" p) [e] [] pos) (iEnumT X.K t) (wEnumT w) := ⟨pi_enumT hg hm ha.pa hs, snd_enumT ha.sd⟩
section
/-- the list at a, each item in a new pair -/
def IteL (K : PySem.W.Frag) (a : Addr) : It :=
  ⟨fun i H => ∃ (ys : List V) (x : V), SqL K H a ys ∧ ys[i]? = some x, fun i H v H' => ∃ T x, v = .ref T ∧ H T = none ∧ (∃ o : Obj, o.dict = none ∧ H' = upd H T (.frz o (.tup [.int (i : Nat), x]))) ∧ ∀ ys, SqL K H a ys → ys[i]? = some x, fun i H => ∃ ys : List V, SqL K H a ys ∧ ys.length ≤ i⟩
theorem turn_enumL {P : Program} {w : World} {K : PySem.W.Frag} {elts : List Expr} {kk : Nat} {tpos : Pos} (a e it : Addr) : Turn P w K (.Tuple elts kk tpos) (IteL K a) [e, it] e (fun i h => (∃ old, IsEnum h e it ((i : Nat) : Int) old) ∧ h.IsListIter it a i ∧ e ≠ it ∧ a ≠ it ∧ a ≠ e) where
  mem := by simp
  obj := fun i h st b hb => by
    obtain ⟨⟨old, en⟩, ⟨o, ho, hc, hd⟩, _⟩ := st
    have e' : b = e ∨ b = it := by simpa using hb
    rcases e' with z | z
    · rw [z]; exact ⟨_, en, fun v q => nomatch q⟩
    · rw [z]; exact ⟨o, ho, fun v q => by rw [hd] at q; cases q⟩
  keep := fun i h h' st k => let ⟨⟨old, en⟩, ti, ne1, ne2⟩ := st; ⟨⟨old, k e (by simp) _ en⟩, ti.at fun o q => k it (by simp) o q, ne1, ne2⟩
  item := by
    intro X hP hw hK hc i pins s σ H E I hf st hg
    subst hP hw hK
    obtain ⟨⟨old, en⟩, ti, ne1, ne2, ne3⟩ := st
    obtain ⟨ys, x, hq, hx⟩ := hg
    obtain ⟨its, rv, p, hz⟩ := I.list hq
    obtain ⟨u, hu, ru⟩ := rv.get hx
    have pt : s.heap.IsList a its.toArray := p.isList
    have lt : i < its.toArray.size := by
      have := (List.getElem?_eq_some_iff.mp hu).1
      simpa using this
    have hh : X.A.in1.handled = none := I.ok.hd hc
    have lte : e < s.heap.objs.size := Heap.lt_size en
    have lti : it < s.heap.objs.size := by obtain ⟨_, q, _⟩ := ti; exact Heap.lt_size q
    refine wpAny_pyNext_enum_itemD (Draws.list hh it a ne2 its.toArray) en ⟨ti, pt⟩ lt ne1 (by simp [ne1, Ne.symm ne3]) fun x' h' tk hpx ho hst' hT sz hk => ?_
    have ex : x' = u := by
      have z : its.toArray[i]? = some u := by simpa using hu
      rw [z] at hpx; cases hpx; rfl
    subst ex
    refine ⟨_, rfl, wpAny_letOwnedTupleGo_enum (s := { s with heap := h', toks := tk + 1 }) ho fun h'' en' sb => ?_⟩
    have hT2 : h''.get? s.heap.objs.size = some { cls := .type "tuple", data := .seq #[.int i tk, x'] } := (sb.2 _ (Nat.ne_of_gt lte)).trans hT
    have new : ObjOk X.prog X.w (upd H s.heap.objs.size (.frz { cls := .type "tuple", data := .seq #[.int i tk, x'] } (.tup [.int (i : Nat), x]))) h'' s.heap.objs.size (.frz { cls := .type "tuple", data := .seq #[.int i tk, x'] } (.tup [.int (i : Nat), x])) := ⟨hT2, by show 2 ≤ sizeLine; decide, [.int i tk, x'], .cons ⟨_, rfl⟩ (.cons ru .nil), ⟨_, hT2, rfl, _, rfl⟩⟩
    have I1 : Inv X pins σ (upd H s.heap.objs.size (.frz { cls := .type "tuple", data := .seq #[.int i tk, x'] } (.tup [.int (i : Nat), x]))) { s with heap := h'', toks := tk + 1 } := I.turnedNew (ch := [e, it]) (fun b ob hb q => (sb.2 b (fun z => hb (by simp [z]))).trans (hk b ob (fun z => hb (by simp [z])) (fun z => hb (by simp [z])) q)) hf (Nat.le_refl _) new
    refine ⟨.ref s.heap.objs.size, _, I1, rfl, ⟨_, x, rfl, I.hok.fresh (Nat.le_refl _), ⟨_, rfl, rfl⟩, fun zs hy => by rw [I.list_inj hy hq]; exact hx⟩, ⟨⟨x', ?_⟩, hst'.1.at fun o q => (sb.2 it (Ne.symm ne1)).trans q, ne1, ne2, ne3⟩, fun b hb => ?_⟩
    · have e1 : ((i + 1 : Nat) : Int) = (i : Int) + 1 := by omega
      rw [e1]; exact en'
    · have hb' : b < s.heap.objs.size := by
        have e' : b = e ∨ b = it := by simpa using hb
        rcases e' with z | z
        · rw [z]; exact lte
        · rw [z]; exact lti
      rw [upd_ne (Nat.ne_of_lt hb')]
      exact (hf b hb).1
  done := by
    intro X hP hw hK hc i pins s σ H E I hf st hg
    subst hP hw hK
    obtain ⟨⟨old, en⟩, ti, ne1, ne2, ne3⟩ := st
    obtain ⟨ys, hq, hx⟩ := hg
    obtain ⟨its, rv, p, hz⟩ := I.list hq
    obtain ⟨f0, f1, f2, f3, f4, f5⟩ := hf it (by simp)
    have hh : X.A.in1.handled = none := I.ok.hd hc
    have hl := rv.length
    have pt : s.heap.IsList a its.toArray := p.isList
    have dr : Draws X.prog X.w X.A.in1 it [it, a] i (fun _ _ => True) (fun j h => j = i ∧ h.IsListIter it a j ∧ h.IsList a its.toArray) := {
      live := fun _ _ st => let ⟨o, ho, _⟩ := st.2.1; ⟨o, ho⟩
      frame := fun _ _ _ st hk => ⟨st.1, st.2.1.at fun o e => hk it (by simp) o e, st.2.2.at fun o e => hk a (by simp) o e⟩
      item := fun j s Q E hi st hQ => absurd st.1 (Nat.ne_of_lt hi)
      done := fun s Q E st hE => wpAny_nextOf_list_end hh st.2.1 st.2.2 (by simp; omega) hE }
    exact wpAny_pyNext_enum_endD dr en ⟨rfl, ti, pt⟩ fun h' eb => ⟨rfl, I.turned (t' := s.toks) (fun b o hb q => eb b o hb q) f0 f1 f3 f4 f5⟩
  self := fun A i s Q E st h => let ⟨⟨_, en⟩, _⟩ := st; wpAny_pyIter_enum en h
def iEnumL (K : PySem.W.Frag) (ta : TA) : TI := fun σ H R => ta σ H fun vs H1 => ∃ a ys, vs = [.ref a] ∧ SqL K H1 a ys ∧ R (IteL K a) H1
theorem pi_enumL {X : Cx} {e : Expr} {ta : TA} {p pos tpos : Pos} {elts : List Expr} {kk : Nat} (hg : Gl X "enumerate") (hm : X.mg "enumerate" = none) (ha : PA X [e] ta) (hs : starEach [e] X.env = [(false, eval e X.env)] := by rfl) : PI X (.Tuple elts kk tpos) (.Call (.Name "enumerate" p) [e] [] pos) (iEnumL X.K ta) := by
  refine ⟨fun pins z σ H R I h => ?_⟩
  refine Call_ (ld_blt I hg hm boot_enumerate (PyProof.Rows.callWith_type1 (thn (ha.run pos pins z σ H _ I h) fun us s1 ⟨vs, H1, I1, r1, q1⟩ => ?_) hs rfl))
  obtain ⟨a, ys, ex, hq, q⟩ := q1
  subst ex
  cases r1 with
  | cons r rr =>
    cases rr
    cases r
    obtain ⟨its, rv, p', hz⟩ := I1.list hq
    have pt : s1.heap.IsList a its.toArray := p'.isList
    have lta : a < s1.heap.objs.size := by obtain ⟨_, q, _⟩ := pt; exact Heap.lt_size q
    refine call_enumT (begins_list a its.toArray) pt fun h' en ti sz hk => wpAny_pyIter_enum en ?_
    have I2 : Inv X pins σ H1 { s1 with heap := h' } := I1.kept (t' := s1.toks) hk
    refine ⟨s1.heap.objs.size + 1, [s1.heap.objs.size + 1, s1.heap.objs.size], _, _, H1, rfl, I2, turn_enumL a (s1.heap.objs.size + 1) s1.heap.objs.size, ⟨⟨.none, en⟩, ⟨_, ti, rfl, rfl⟩, Nat.succ_ne_self _, Nat.ne_of_lt lta, Nat.ne_of_lt (Nat.lt_succ_of_lt lta)⟩, fun b hb => ?_, q⟩
    have e' : b = s1.heap.objs.size + 1 ∨ b = s1.heap.objs.size := by simpa using hb
    have le : s1.heap.objs.size ≤ b := by rcases e' with z | z <;> (rw [z]; omega)
    exact I1.fpOk le (I1.hok.fresh le)
end
section
variable {K : PySem.W.Frag}
theorem ite_for {l : List D} {a : Addr} : ItFor K (IteL K a) [.list l] [.ref a] (enu l) := fun H Fz h => by
  obtain ⟨b, xs, e, fl, r⟩ := h.one.lst_inv
  cases e
  rw [enu_len]
  refine ⟨fun i hi => ?_, fun i hi => ⟨xs, fl.sql, by rw [← r.length]; exact hi⟩, fun i y H' hi hy => ?_⟩
  · obtain ⟨v, hv, _⟩ := r.get (List.getElem?_eq_getElem hi)
    exact ⟨xs, v, fl.sql, hv⟩
  · obtain ⟨T, x, rfl, hT, ⟨o, ho, rfl⟩, hx⟩ := hy
    obtain ⟨d, hd, rd⟩ := r.getV (hx xs fl.sql)
    exact ⟨_, enu_get hd, upd_keep hT, .tup (BT.of upd_same ho) (.cons (.int _) (.cons (rd.keep (upd_keep hT)) .nil))⟩
def wEnum (wa : WA) : WI := fun ds Q => wa ds fun ds1 xs => match xs with
  | [.fz (.list l)] => Q ds1 (enu l)
  | _ => False
theorem snd_enum {ta : TA} {wa : WA} (ha : SndA K ta wa) : SndI K (iEnumL K ta) (wEnum wa) := fun B m H σ ds ts vs Q R S h k =>
  ha _ _ _ _ _ _ _ _ _ S h fun us H1 ds1 xs S1 hl h1 => by
    split at h1
    · rename_i l
      match us, hl with
      | [u], _ =>
        have S2 : Stt K B m H1 σ ds1 (.fz (.list l) :: ts) (u :: vs) := S1
        obtain ⟨f, g, c, r⟩ := S2.top
        obtain ⟨a, xs, rfl, fl, rr⟩ := r.lst_inv
        exact ⟨a, xs, rfl, fl.sql, k _ _ _ [.list l] [.ref a] _ S2 rfl ite_for h1⟩
    · exact h1.elim
end
theorem ai_enum {X : Cx} {e : Expr} {t : TA} {w : WA} {p pos : Pos} {elts : List Expr} {kk : Nat} {tpos : Pos} (hm : X.mg "enumerate" = none) (ha : AA X [e] t w) (hg : Gl X "enumerate" := by rfl) (hs : starEach [e] X.env = [(false, eval e X.env)] := by rfl) : AI X (.Tuple elts kk tpos) (.Call (.Name "enumerate" p) [e] [] pos) (iEnumL X.K t) (wEnum w) := ⟨pi_enumL hg hm ha.pa hs, snd_enum ha.sd⟩
end SX

set_option Elab.async false
set_option linter.all false
set_option maxRecDepth 100000
set_option maxHeartbeats 2000000
namespace SX
open PySem PySem.Spec PyProof.Rows L2
/-! ### a op b op c -/
section
variable {K : PySem.W.Frag}
def wChainF (wr wr' : WR) (wa wb wc : WE) : WE := fun ds Q => wa ds fun ds1 x => wb ds1 fun ds2 y => match x, y with
  | .fz d, .fz e => wr (.fz d) (.fz e) ds2 fun ds3 z => match z with
    | .fz (.bool k) => if k = true then wc ds3 fun ds4 w => wr' (.fz e) w ds4 Q else Q ds3 (.fz (.bool false))
    | _ => False
  | _, _ => False
theorem snd_chain {r r' : R2} {wr wr' : WR} {ta tb tc : TE} {wa wb wc : WE} (hr : SndR K r wr) (hr' : SndR K r' wr') (ha : SndE K ta wa) (hb : SndE K tb wb) (hc : SndE K tc wc) : SndE K (tChain r r' ta tb tc) (wChainF wr wr' wa wb wc) := fun B m H σ ds ts vs Q R S h k =>
  ha _ _ _ _ _ _ _ _ _ S h fun v H1 ds1 x S1 h1 => hb _ _ _ _ _ _ _ _ _ S1 h1 fun u H2 ds2 y S2 h2 => by
    split at h2
    · rename_i d e
      obtain ⟨f, g, c⟩ := S2
      obtain ⟨u1, e1, ru⟩ := c.top
      obtain ⟨v1, e2, rv⟩ := c.pop.top
      cases e1
      cases e2
      have S3 : Stt K B m H2 σ ds2 (.fz e :: .fz d :: .fz e :: ts) (u :: v :: u :: vs) := ⟨f, g, ((c.pop.pop.pushF ru).pushF rv).pushF ru⟩
      refine hr _ _ _ _ _ _ _ _ _ _ _ _ _ S3 h2 fun zv H3 ds3 z S4 h3 => ?_
      split at h3
      · rename_i kk
        cases S4.topB
        refine ⟨kk, rfl, ?_⟩
        cases kk with
        | false => exact k _ _ _ _ (S4.pop.pop.pushBl false) h3
        | true => exact hc _ _ _ _ _ _ _ _ _ S4.pop h3 fun w H4 ds4 y S5 h4 => hr' _ _ _ _ _ _ _ _ _ _ _ _ _ S5 h4 k
      · exact h3.elim
    · exact h2.elim
end
theorem ae_chain {X : Cx} {a b c : Expr} {pos : Pos} {op op' : CmpOp} {r r' : R2} {wr wr' : WR} {ta tb tc : TE} {wa wb wc : WE} (ho : AOp X (compareOp op) r wr) (ho' : AOp X (compareOp op') r' wr') (ha : AE X a ta wa) (hb : AE X b tb wb) (hc : AE X c tc wc)
    (hm : lastMarks [op, op'] [b, c] = false := by with_unfolding_all rfl) : AE X (.Compare a [op, op'] [b, c] pos) (tChain r r' ta tb tc) (wChainF wr wr' wa wb wc) := ⟨pe_chain ho.op ho'.op ha.pe hb.pe hc.pe hm, snd_chain ho.sd ho'.sd ha.sd hb.sd hc.sd⟩
theorem at_chain {X : Cx} {a b c : Expr} {pos : Pos} {op op' : CmpOp} {r r' : R2} {wr wr' : WR} {ta tb tc : TE} {wa wb wc : WE} (ho : AOp X (compareOp op) r wr) (ho' : AOp X (compareOp op') r' wr') (ha : AE X a ta wa) (hb : AE X b tb wb) (hc : AE X c tc wc)
    (hm : lastMarks [op, op'] [b, c] = false := by with_unfolding_all rfl) : AT X (.Compare a [op, op'] [b, c] pos) (tTest (tChain r r' ta tb tc)) (wTest (wChainF wr wr' wa wb wc)) := ⟨pt_chain ho.op ho'.op ha.pe hb.pe hc.pe hm, snd_test (snd_chain ho.sd ho'.sd ha.sd hb.sd hc.sd)⟩

/-! ### dicts of one's own -/
def valD (kvs : List (Key × D)) (k : Key) : Option D := (kvs.find? fun kv => decide (kv.1 = k)).map (·.2)
def putD (kvs : List (Key × D)) (k : Key) (v : D) : List (Key × D) := if (kvs.any fun kv => decide (kv.1 = k)) = true then kvs.map (fun kv => if kv.1 = k then (kv.1, v) else kv) else kvs ++ [(k, v)]
def mergeD (kvs more : List (Key × D)) : List (Key × D) := more.foldl (fun acc kv => putD acc kv.1 kv.2) kvs
section
variable {K : PySem.W.Frag} {H : Hp} {Fz : Addr → Prop}
theorem DReps.val {l : List (Key × D)} {xs : List (Key × V)} (r : DReps K H Fz l xs) (k : Key) : (valD l k = none ∧ valV xs k = none) ∨ ∃ d v, valD l k = some d ∧ valV xs k = some v ∧ Rep K H Fz d v := by
  unfold DReps at r
  induction r with
  | nil => exact .inl ⟨rfl, rfl⟩
  | @cons p q ps qs h t ih =>
    by_cases e : p.1 = k
    · refine .inr ⟨p.2, q.2, ?_, valV_pos (h.1.symm.trans e), h.2⟩
      simp [valD, List.find?_cons, e]
    · have e1 : valD (p :: ps) k = valD ps k := by simp [valD, List.find?_cons, e]
      rw [e1, valV_neg (fun z => e (h.1.trans z))]
      exact ih
theorem DReps.any {l : List (Key × D)} {xs : List (Key × V)} (r : DReps K H Fz l xs) (k : Key) : (l.any fun kv => decide (kv.1 = k)) = xs.any fun kv => decide (kv.1 = k) := by
  unfold DReps at r
  induction r with
  | nil => rfl
  | cons h t ih => rw [List.any_cons, List.any_cons, ih, h.1]
theorem DReps.put {l : List (Key × D)} {xs : List (Key × V)} (r : DReps K H Fz l xs) (k : Key) {d : D} {v : V} (rv : Rep K H Fz d v) : DReps K H Fz (putD l k d) (putK xs k v) := by
  unfold putD putK
  rw [r.any k]
  by_cases e : (xs.any fun kv => decide (kv.1 = k)) = true
  · rw [if_pos e, if_pos e]
    clear e
    unfold DReps at r ⊢
    induction r with
    | nil => exact .nil
    | @cons p q ps qs h t ih =>
      rw [List.map_cons, List.map_cons]
      refine .cons ?_ ih
      by_cases e : p.1 = k
      · rw [if_pos e, if_pos (h.1.symm.trans e)]; exact ⟨h.1, rv⟩
      · rw [if_neg e, if_neg (fun z => e (h.1.trans z))]; exact h
  · rw [if_neg e, if_neg e]
    exact Paired.snoc r ⟨rfl, rv⟩
theorem DReps.merge : ∀ {more : List (Key × D)} {rs : List (Key × V)} {l : List (Key × D)} {xs : List (Key × V)}, DReps K H Fz more rs → DReps K H Fz l xs → DReps K H Fz (mergeD l more) (mergeK xs rs) := by
  intro more rs l xs r
  unfold DReps at r
  induction r generalizing l xs with
  | nil => exact id
  | @cons p q ps qs h t ih =>
    intro r0
    refine ih ?_
    show DReps K H Fz (putD l p.1 p.2) (putK xs q.1 q.2)
    rw [h.1]
    exact r0.put q.1 h.2
theorem DReps.length {l : List (Key × D)} {xs : List (Key × V)} (r : DReps K H Fz l xs) : l.length = xs.length := Paired.length r
theorem Rep.updD {a : Addr} {ys : List (Key × V)} {o : HO} (hx : H a = some (.dK ys)) {d : D} {v : V} (r : Rep K H Fz d v) : Rep K (L2.upd H a o) Fz d v := Rep.mono (fun b zs q => q.to fun u e nm => upd_but b _ (fun e' => by rw [e', hx] at e; cases e; exact nm trivial) e) (fun b zs q => by
    rcases q with ⟨f, q | ⟨o', q⟩⟩ | q
    · exact .inl ⟨f, .inl (upd_but b _ (fun e => by rw [e, hx] at q; cases q) q)⟩
    · exact .inl ⟨f, .inr ⟨o', upd_but b _ (fun e => by rw [e, hx] at q; cases q) q⟩⟩
    · exact .inr q) _ _ r
theorem DReps.updD {a : Addr} {ys : List (Key × V)} {o : HO} (hx : H a = some (.dK ys)) {l : List (Key × D)} {xs : List (Key × V)} (r : DReps K H Fz l xs) : DReps K (L2.upd H a o) Fz l xs :=
  Paired.mapP r fun _ _ q => ⟨q.1, q.2.updD hx⟩
end
def keyOf : AV → Option Key
  | .fz (.int i) => some (.inl i)
  | .fz (.str s) => some (.inr s)
  | _ => none
/-- the dict that a place leads to -/
def dkOf (ds : Sto) : AV → Option (List (Key × D))
  | .dk l => some l
  | .rf i => match ds.getD i .un with
    | .dk l => some l
    | _ => none
  | _ => none
section
variable {K : PySem.W.Frag} {G : Gh} {B : Hp} {m : Addr → Prop} {H H' : Hp} {σ : L2.St} {ds ts : List AV} {vs : List V}
theorem keyOf_ok {x : AV} {v : V} {k : Key} {i : Nat} (h : Ok1 K G H σ ds i x (some v)) (e : keyOf x = some k) : v = kV k := by
  cases x with
  | fz d =>
    obtain ⟨w, e1, r⟩ := h
    cases e1
    cases d with
    | int i => cases e; exact r.int_inv
    | str s => cases e; exact r.str_inv
    | none => cases e
    | bool _ => cases e
    | list _ => cases e
    | tuple _ => cases e
    | dict _ => cases e
  | un => cases e
  | ls _ => cases e
  | lb _ => cases e
  | dk _ => cases e
  | rf _ => cases e
/-- a slot's own dict -/
theorem St0.dictS (S : St0 K G H σ ds ts vs) {i : Nat} {l : List (Key × D)} (h : ds.getD i .un = .dk l) : ∃ a xs, i < ds.length ∧ σ[i]? = some (some (.ref a)) ∧ ¬ G.Fz a ∧ G.g a = i ∧ (G.B a = none ∧ ¬ G.m a) ∧ H a = some (.dK xs) ∧ DReps K H G.Fz l xs := by
  have hi := getD_lt h (fun q => by cases q)
  obtain ⟨a, xs, e1, z, gi, b, hx, r⟩ : Ok1 K _ H σ ds i (.dk l) (σ.getD i none) := by rw [← h]; exact S.sl i hi
  exact ⟨a, xs, hi, getD_some e1, z, gi, b, hx, r⟩
theorem St0.dictV (S : St0 K G H σ ds ts vs) {x : AV} {v : V} {i : Nat} {l : List (Key × D)} (h : Ok1 K G H σ ds i x (some v)) (e : dkOf ds x = some l) : ∃ a xs, v = .ref a ∧ H a = some (.dK xs) ∧ DReps K H G.Fz l xs := by
  cases x with
  | dk l' =>
    cases e
    obtain ⟨a, xs, e1, _, _, _, hx, r⟩ := h
    cases e1
    exact ⟨a, xs, rfl, hx, r⟩
  | rf j =>
    obtain ⟨w, e1, s, o, hj⟩ := h
    cases e1
    have e : (match ds.getD j .un with | .dk l => some l | _ => none) = some l := e
    split at e
    · rename_i l' hd
      cases e
      obtain ⟨a, xs, _, s2, _, _, _, hx, r⟩ := S.dictS hd
      rw [s] at s2
      cases s2
      exact ⟨a, xs, rfl, hx, r⟩
    · cases e
  | un => cases e
  | fz _ => cases e
  | ls _ => cases e
  | lb _ => cases e
theorem St0.writeD (S : St0 K G H σ ds ts vs) {i : Nat} {l l' : List (Key × D)} {a : Addr} {xs' : List (Key × V)} (h : ds.getD i .un = .dk l) (ha : σ[i]? = some (some (.ref a)))
    (hk : ∀ b o, b ≠ a → H b = some o → H' b = some o) (hx : H' a = some (.dK xs')) (r : DReps K H' G.Fz l' xs') : St0 K G H' σ (ds.set i (.dk l')) ts vs := by
  obtain ⟨a', xs, hi, e1, z, gi, bm, hx0, _⟩ := S.dictS h
  rw [ha] at e1
  cases e1
  have gg : ∀ j, (ds.set i (.dk l')).getD j .un = if j = i then .dk l' else ds.getD j .un := fun j => getD_set hi
  have key := S.move (H' := H') (Fz' := G.Fz) (g' := G.g) (ds' := ds.set i (.dk l')) (fun b => b = a) (fun b o w q => hk b o w q)
    (fun b w => by subst w; exact ⟨z, _, hx0, trivial, .inl bm.1⟩) (fun b q => by
      by_cases e : b = a
      · exact absurd (e ▸ q) bm.2
      · obtain ⟨ys, q⟩ := S.mm b q
        exact ⟨ys, hk _ _ e q⟩) (fun _ q => q) (fun b q => by
      by_cases e : b = a
      · exact ⟨_, by rw [e]; exact hx⟩
      · obtain ⟨o, q⟩ := S.fz b q
        exact ⟨o, hk _ _ e q⟩) S.mz (fun j q => by
      rw [gg j]
      split
      · rfl
      · exact q) (by rw [List.length_set]) (fun j k => by
      rw [gg j]
      split
      · exact fun q => nomatch q
      · exact S.nr j k) (fun j hj => by
      by_cases e : j = i
      · subst e
        left
        rw [gg j, if_pos rfl]
        have sg : σ.getD j none = some (.ref a) := by rw [List.getD_eq_getElem?_getD, ha] <;> rfl
        rw [sg]
        exact ⟨a, xs', rfl, z, gi, bm, hx, r⟩
      · right
        rw [gg j, if_neg e]
        refine ⟨rfl, fun b ho nz gb => ⟨fun q => e ?_, nz, gb⟩⟩
        rw [← gb, q]
        exact gi) (fun j hj _ b ho nz gb => ⟨fun q => by
      rw [q, gi] at gb
      omega, nz, gb⟩)
  exact key
theorem St0.writeTD {l l' : List (Key × D)} {a : Addr} {xs' : List (Key × V)} (S : St0 K G H σ ds (.dk l :: ts) (.ref a :: vs))
    (hk : ∀ b o, b ≠ a → H b = some o → H' b = some o) (hx : H' a = some (.dK xs')) (r : DReps K H' G.Fz l' xs') : St0 K G H' σ ds (.dk l' :: ts) (.ref a :: vs) := by
  obtain ⟨a2, xs2, e1, z, gi, bb, hx2, _⟩ := S.top
  cases e1
  have key := S.pop.move (H' := H') (Fz' := G.Fz) (g' := G.g) (ds' := ds) (fun b => b = a) (fun b o w q => hk b o w q)
    (fun b w => by subst w; exact ⟨z, _, hx2, trivial, .inl bb.1⟩) (fun b q => by
      by_cases e : b = a
      · exact absurd (e ▸ q) bb.2
      · obtain ⟨ys, q⟩ := S.mm b q
        exact ⟨ys, hk _ _ e q⟩) (fun _ q => q) (fun b q => by
      by_cases e : b = a
      · exact ⟨_, by rw [e]; exact hx⟩
      · obtain ⟨o, q⟩ := S.fz b q
        exact ⟨o, hk _ _ e q⟩) S.mz (fun _ q => q) rfl S.nr (fun j hj => .inr ⟨rfl, fun b ho nz gb => ⟨fun q => by
      rw [q, gi] at gb
      omega, nz, gb⟩⟩) (fun j _ hj b ho nz gb => ⟨fun q => by
      rw [q, gi] at gb
      omega, nz, gb⟩)
  exact St0.push key ⟨a, xs', rfl, z, gi, bb, hx, r⟩
theorem Stt.newD {p : Addr} {l : List (Key × D)} {xs : List (Key × V)} {Fz : Addr → Prop} {g : Addr → Nat} (S : St0 K ⟨B, m, Fz, g⟩ H σ ds ts vs) (hk : ∀ a o, H a = some o → H' a = some o) (hp : H p = none) (hx : H' p = some (.dK xs)) (r : DReps K H' Fz l xs) : Stt K B m H' σ ds (.dk l :: ts) (.ref p :: vs) := by
  obtain ⟨n1, n2, n3⟩ := S.new hp
  exact ⟨Fz, _, (S.grow hk hp).push ⟨p, xs, rfl, n1, if_pos rfl, ⟨n2, n3⟩, hx, r⟩⟩
def wDNew : WE := fun ds Q => Q ds (.dk [])
theorem snd_dNew : SndE K tDNewK wDNew := fun B m H σ ds ts vs Q R S h k p hp => by
  obtain ⟨f, g, c⟩ := S
  exact k _ _ _ _ (Stt.newD c (upd_keep hp) hp upd_same .nil) h
/-- the key, then the dict -/
def wDIn (neg : Bool) (wk wd : WE) : WE := fun ds Q => wk ds fun ds1 x => wd ds1 fun ds2 y => match keyOf x, dkOf ds2 y with
  | some k, some l => Q ds2 (.fz (.bool (if neg then !(valD l k).isSome else (valD l k).isSome)))
  | _, _ => False
theorem DReps.dget {Fz : Addr → Prop} {l : List (Key × D)} {xs : List (Key × V)} {a : Addr} (hx : H a = some (.dK xs)) (r : DReps K H Fz l xs) (k : Key) : ∃ o, DGet H a (kV k) o ∧ o.isSome = (valD l k).isSome := by
  refine ⟨_, DGet.k hx, ?_⟩
  rcases r.val k with ⟨a, b⟩ | ⟨d, v, a, b, _⟩ <;> rw [a, b] <;> rfl
theorem snd_dIn {tk td : TE} {wk wd : WE} (hk : SndE K tk wk) (hd : SndE K td wd) : SndE K (tDIn tk td) (wDIn false wk wd) := fun B m H σ ds ts vs Q R S h k =>
  hk _ _ _ _ _ _ _ _ _ S h fun v H1 ds1 x S1 h1 => hd _ _ _ _ _ _ _ _ _ S1 h1 fun u H2 ds2 y S2 h2 => by
    split at h2
    · rename_i kk l e1 e2
      obtain ⟨f, g, c⟩ := S2
      obtain ⟨a, xs, rfl, hx, r⟩ := c.dictV c.top e2
      cases keyOf_ok c.pop.top e1
      obtain ⟨o, hg, ho⟩ := r.dget hx kk
      refine ⟨a, o, rfl, hg, k _ _ _ _ ⟨f, g, c.pop.pop.pushF (.bl _)⟩ ?_⟩
      rw [ho]; exact h2
    · exact h2.elim
theorem snd_dNotIn {tk td : TE} {wk wd : WE} (hk : SndE K tk wk) (hd : SndE K td wd) : SndE K (tDNotIn tk td) (wDIn true wk wd) := fun B m H σ ds ts vs Q R S h k =>
  hk _ _ _ _ _ _ _ _ _ S h fun v H1 ds1 x S1 h1 => hd _ _ _ _ _ _ _ _ _ S1 h1 fun u H2 ds2 y S2 h2 => by
    split at h2
    · rename_i kk l e1 e2
      obtain ⟨f, g, c⟩ := S2
      obtain ⟨a, xs, rfl, hx, r⟩ := c.dictV c.top e2
      cases keyOf_ok c.pop.top e1
      obtain ⟨o, hg, ho⟩ := r.dget hx kk
      refine ⟨a, o, rfl, hg, k _ _ _ _ ⟨f, g, c.pop.pop.pushF (.bl _)⟩ ?_⟩
      rw [ho]; exact h2
    · exact h2.elim
def wDGet (wd wk : WE) : WE := fun ds Q => wd ds fun ds1 x => wk ds1 fun ds2 y => match dkOf ds2 x, keyOf y with
  | some l, some k => ∃ d, valD l k = some d ∧ Q ds2 (.fz d)
  | _, _ => False
theorem snd_dGet {tk td : TE} {wk wd : WE} (hd : SndE K td wd) (hk : SndE K tk wk) : SndE K (tDGet td tk) (wDGet wd wk) := fun B m H σ ds ts vs Q R S h k =>
  hd _ _ _ _ _ _ _ _ _ S h fun v H1 ds1 x S1 h1 => hk _ _ _ _ _ _ _ _ _ S1 h1 fun u H2 ds2 y S2 h2 => by
    split at h2
    · rename_i l kk e2 e1
      obtain ⟨d, hd, h2⟩ := h2
      obtain ⟨f, g, c⟩ := S2
      obtain ⟨a, xs, rfl, hx, r⟩ := c.pop.dictV c.pop.top e2
      cases keyOf_ok c.top e1
      rcases r.val kk with ⟨q, _⟩ | ⟨d', w, q1, q2, rr⟩
      · rw [q] at hd; cases hd
      · rw [hd] at q1; cases q1
        exact ⟨a, w, rfl, by have := DGet.k (k := kk) hx; rw [q2] at this; exact this, k _ _ _ _ ⟨f, g, c.pop.pop.pushF rr⟩ h2⟩
    · exact h2.elim
/-- d.get(k, x) -/
def wDGet2 (wd wk wx : WE) : WE := fun ds Q => wd ds fun ds1 x => match dkOf ds1 x with
  | some _ => wk ds1 fun ds2 y => wx ds2 fun ds3 z => match dkOf ds3 x, keyOf y, z with
    | some l, some k, .fz d => Q ds3 (.fz ((valD l k).getD d))
    | _, _, _ => False
  | none => False
theorem snd_dGet2 {tk td tx : TE} {wk wd wx : WE} (hd : SndE K td wd) (hk : SndE K tk wk) (hx : SndE K tx wx) : SndE K (tDGet2 td tk tx) (wDGet2 wd wk wx) := fun B m H σ ds ts vs Q R S h k =>
  hd _ _ _ _ _ _ _ _ _ S h fun v H1 ds1 x S1 h1 => by
    split at h1
    · rename_i l0 e0
      obtain ⟨a0, xs0, e3, hx0, r0⟩ : ∃ a xs, v = .ref a ∧ H1 a = some (.dK xs) ∧ True := by
        obtain ⟨f, g, c⟩ := S1
        obtain ⟨a, xs, q1, q2, _⟩ := c.dictV c.top e0
        exact ⟨a, xs, q1, q2, trivial⟩
      subst e3
      refine ⟨a0, rfl, .inl ⟨_, .inl hx0⟩, hk _ _ _ _ _ _ _ _ _ S1 h1 fun u H2 ds2 y S2 h2 => hx _ _ _ _ _ _ _ _ _ S2 h2 fun w H3 ds3 z S3 h3 => ?_⟩
      split at h3
      · rename_i l kk d e2 e1
        obtain ⟨f, g, c⟩ := S3
        obtain ⟨a, xs, e4, hx, r⟩ := c.pop.pop.dictV c.pop.pop.top e2
        cases e4
        cases keyOf_ok c.pop.top e1
        obtain ⟨w1, e5, rw1⟩ := c.top
        cases e5
        refine ⟨_, DGet.k hx, ?_⟩
        rcases r.val kk with ⟨q, q'⟩ | ⟨d', w', q1, q2, rr⟩
        · rw [q] at h3; rw [q']
          exact k _ _ _ _ ⟨f, g, c.pop.pop.pop.pushF rw1⟩ h3
        · rw [q1] at h3; rw [q2]
          exact k _ _ _ _ ⟨f, g, c.pop.pop.pop.pushF rr⟩ h3
      · exact h3.elim
    · exact h1.elim
/-- d[k] = v: the value, the dict, the key -/
def wDPut (wd wk wv : WE) : WS := fun N ds => wv ds fun ds1 z => wd ds1 fun ds2 x => wk ds2 fun ds3 y => match z, x, keyOf y with
  | .fz d, .rf i, some k => match ds3.getD i .un with
    | .dk l => l.length ≤ 100000 ∧ N.nx (ds3.set i (.dk (putD l k d)))
    | _ => False
  | _, _, _ => False
theorem snd_dPut {td tk tv : TE} {wd wk wv : WE} (hd : SndE K td wd) (hk : SndE K tk wk) (hv : SndE K tv wv) : SndS K (sDPut td tk tv) (wDPut wd wk wv) := fun B m H σ ds ts vs N E hf S h n r b c =>
  hv _ _ _ _ _ _ _ _ _ S h fun v H1 ds1 z S1 h1 => hd _ _ _ _ _ _ _ _ _ S1 h1 fun u H2 ds2 x S2 h2 => hk _ _ _ _ _ _ _ _ _ S2 h2 fun w H3 ds3 y S3 h3 => by
    split at h3
    · rename_i d i kk e1
      split at h3
      · rename_i l e2
        obtain ⟨f, g, c3⟩ := S3
        cases keyOf_ok c3.top e1
        obtain ⟨w1, e4, s, o, hj⟩ := c3.pop.top
        cases e4
        obtain ⟨w2, e5, rd⟩ := c3.pop.pop.top
        cases e5
        obtain ⟨a, xs, hi, s2, z, gi, bb, hx, rr⟩ := c3.dictS e2
        rw [s] at s2
        cases s2
        refine ⟨a, _, rfl, DPut.k hx (small_line (by rw [← rr.length]; omega)), n _ _ _ ⟨f, g, St0.writeD c3.pop.pop.pop e2 s upd_but upd_same ?_⟩ h3.2⟩
        exact (rr.put kk rd).updD hx
      · exact h3.elim
    · exact h3.elim
/-- d.update(e), two dicts -/
def rDUpd : V → List V → Hp → VK → Prop := fun x xs H Q => ∃ (a b : Addr) (kvs more : List (Key × V)), x = .ref a ∧ xs = [.ref b] ∧ a ≠ b ∧ H a = some (.dK kvs) ∧ H b = some (.dK more) ∧ kvs.length + more.length ≤ 1000000 ∧ Q .non (upd H a (.dK (mergeK kvs more)))
theorem mt_dupd {X : Cx} : MtR X "dict.update" rDUpd := by
  intro pins z σ H x xs v us Q I rx rv h
  obtain ⟨a, b, kvs, more, ex, ev, hab, ha, hb, hl, q⟩ := h
  subst ex
  subst ev
  obtain rfl : v = Value.ref a := rx
  cases rv with
  | cons r1 r2 =>
    cases r2
    cases (show _ = Value.ref b from r1)
    obtain ⟨z1, d1, vs1, k1, t1⟩ := dk_of I.hok ha
    obtain ⟨z2, d2, vs2, k2, t2⟩ := dk_of I.hok hb
    refine call_meetsIn PySem.F.slot_dict_update t1.typeIs PySem.F.entry_dict_update (PySem.F.args_dict_update_2 _ _) (meets_dict_update (mixKind X.prog X.w) a b hab d2) ⟨vs1, vs2, t1, t2, small_line' (by rw [← k1.length, ← k2.length]; exact hl), fun h' dd' _ hs => ?_⟩
    have he : ∃ q, h'.get? a = some q := let ⟨q, _, _, hq, _⟩ := dd'; ⟨q, hq⟩
    have hlen : (mergeK kvs more).length ≤ sizeLine := by
      have := length_mergeK more kvs
      exact small_line' (by omega)
    exact ⟨.non, _, d_write (t' := z.toks) I (by rw [ha]; exact True.intro) hs he (dk_new hlen d1 (KV.merge k2 k1) dd'), rfl, q⟩
def wDUpd (wo wa : WE) : WE := fun ds Q => wo ds fun ds1 o => match dkOf ds1 o with
  | some _ => wa ds1 fun ds2 y => match o, y with
    | .rf i, .dk more => match ds2.getD i .un with
      | .dk l => l.length + more.length ≤ 100000 ∧ Q (ds2.set i (.dk (mergeD l more))) (.fz .none)
      | _ => False
    | _, _ => False
  | none => False
theorem snd_dUpd {to ta : TE} {wo wa : WE} (ho : SndE K to wo) (ha : SndE K ta wa) : SndE K (tBM K "dict" rDUpd to (tCons ta tNil)) (wDUpd wo wa) := fun B m H σ ds ts vs Q R S h k =>
  ho _ _ _ _ _ _ _ _ _ S h fun v H1 ds1 o S1 h1 => by
    split at h1
    · rename_i l0 e0
      obtain ⟨a0, xs0, e3, hx0⟩ : ∃ a xs, v = .ref a ∧ H1 a = some (.dK xs) := by
        obtain ⟨f, g, c⟩ := S1
        obtain ⟨a, xs, q1, q2, _⟩ := c.dictV c.top e0
        exact ⟨a, xs, q1, q2⟩
      subst e3
      refine ⟨?_, ha _ _ _ _ _ _ _ _ _ S1 h1 fun u H2 ds2 y S2 h2 => ?_⟩
      · exact .inr (.inr (.inl ⟨rfl, .inl ⟨_, hx0⟩⟩))
      · split at h2
        · rename_i i more
          split at h2
          · rename_i l e2
            obtain ⟨f, g, c3⟩ := S2
            obtain ⟨w1, e4, s, o, hj⟩ := c3.pop.top
            cases e4
            obtain ⟨a2, xs2, e5, z2, g2, b2, hx2, r2⟩ := c3.top
            cases e5
            obtain ⟨a, xs, hi, s2, z, gi, bb, hx, rr⟩ := c3.dictS e2
            rw [s] at s2
            cases s2
            have hne : a0 ≠ a2 := fun e => by
              subst e
              rw [gi] at g2
              simp only [List.length_cons] at g2
              omega
            refine ⟨a0, a2, xs, xs2, rfl, rfl, hne, hx, hx2, by rw [← rr.length, ← r2.length]; omega, k _ _ _ _ ⟨f, g, (St0.writeD c3.pop.pop e2 s upd_but upd_same ((DReps.merge r2 rr).updD hx)).pushF .non⟩ h2.2⟩
          · exact h2.elim
        · exact h2.elim
    · exact h1.elim
/-- {k: v for target in ..} -/
def wDc (wi : WI) (wg : WG) (wt : WT) (wk wv : WE) (own : List Nat) : WE := fun ds Q => wi ds fun ds1 l => ownFree own ds1 = true ∧ ∃ I : Nat → List (Key × D) → Sto → Prop, I 0 [] (wipeS ds1 own) ∧
  (∀ i d acc ds, l[i]? = some d → (∀ j ∈ own, ds.getD j .un = .un) → I i acc ds → wg (.fz d) ds fun ds2 => wt ds2 fun ds3 b => if b = true then wk ds3 fun ds4 y => wv ds4 fun ds5 z => match keyOf y, z with
    | some k, .fz e => acc.length ≤ 100000 ∧ ownFree own ds5 = true ∧ I (i + 1) (putD acc k e) (wipeS ds5 own)
    | _, _ => False
  else ownFree own ds3 = true ∧ I (i + 1) acc (wipeS ds3 own)) ∧ ∀ acc ds, (∀ j ∈ own, ds.getD j .un = .un) → I l.length acc ds → Q ds (.dk acc)
theorem snd_dc {ti : TI} {g : TG} {tt : TT} {tk tv : TE} {wi : WI} {wg : WG} {ws own : List Nat} {wt : WT} {wk wv : WE} (hi : SndI K ti wi) (hg : SndG K g wg ws) (ht : SndT K tt wt) (hky : SndE K tk wk) (he : SndE K tv wv) (hw : ∀ i ∈ ws, i ∈ own) : SndE K (tDc ti g tt tk tv own) (wDc wi wg wt wk wv own) := fun B m H σ ds ts vs Q R S h k =>
  hi _ _ _ _ _ _ _ _ _ S h fun J H1 ds1 dl ivs l S1 hl hJ ⟨hof, I, h0, hs, hd⟩ D hD => by
    obtain ⟨f, g0, c1⟩ := S1
    have hm : ∀ j ∈ own, (wipeS ds1 own).getD j .un = .un := fun j hj => by rw [wipeS_get, if_pos hj]
    have W0 : Stt K B m (upd H1 D (.dK [])) (L2.wipe σ own) (wipeS ds1 own) (.dk [] :: (dl.map AV.fz ++ ts)) (.ref D :: (ivs ++ vs)) := Stt.newD (c1.wipe hof) (upd_keep hD) hD upd_same .nil
    refine ⟨fun i k H => k = l.length - i ∧ i ≤ l.length ∧ ∃ acc ds, Stt K B m H (L2.wipe σ own) ds (.dk acc :: (dl.map AV.fz ++ ts)) (.ref D :: (ivs ++ vs)) ∧ (∀ j ∈ own, ds.getD j .un = .un) ∧ I i acc ds, ⟨l.length, by simp, Nat.zero_le _, [], _, W0, hm, h0⟩, ?_⟩
    rintro i k' H ⟨rfl, hi, acc, ds, ⟨f, gg, S⟩, hu, hI⟩
    obtain ⟨j1, j2, j3⟩ := hJ H f (St0.seen hl S.pop)
    by_cases hlt : i < l.length
    · refine .inr ⟨j1 i hlt, fun H' => i + 1 ≤ l.length ∧ ∃ acc ds, Stt K B m H' (L2.wipe σ own) ds (.dk acc :: (dl.map AV.fz ++ ts)) (.ref D :: (ivs ++ vs)) ∧ (∀ j ∈ own, ds.getD j .un = .un) ∧ I (i + 1) acc ds, fun H' ⟨q, r⟩ => ⟨l.length - (i + 1), by omega, rfl, q, r⟩, fun y H' hy => ?_⟩
      obtain ⟨d, hd', hk, rd⟩ := j3 i y H' hlt hy
      have S2 : Stt K B m H' (L2.wipe σ own) ds (.fz d :: .dk acc :: (dl.map AV.fz ++ ts)) (y :: .ref D :: (ivs ++ vs)) := ⟨f, gg, (S.ext hk).pushF rd⟩
      have hno : ∀ i ∈ ws, noRf i (.dk acc :: (dl.map AV.fz ++ ts)) := fun i hi x hx e => by
        subst e
        have : ∀ {ts : List AV} {vs : List V}, TOk K ⟨B, m, f, gg⟩ H (L2.wipe σ own) ds ts vs → AV.rf i ∈ ts → (ds.getD i .un).own = true := by
          intro ts
          induction ts with
          | nil => intro vs _ h; cases h
          | cons y ts ih =>
            intro vs q h
            cases vs with
            | nil => exact q.elim
            | cons v vs =>
              rcases List.mem_cons.mp h with e | e
              · subst e
                obtain ⟨w, _, _, o, _⟩ := q.1
                exact o
              · exact ih q.2 e
        have q := this S.tp hx
        rw [hu i (hw i hi)] at q
        cases q
      refine hg _ _ _ _ _ _ _ _ _ _ _ hno S2 (hs i d acc ds hd' hu hI) fun σ2 H2 ds2 S3 l2 e2 q => ⟨?_, ht _ _ _ _ _ _ _ _ _ S3 q fun b H3 ds3 S4 q3 => ?_⟩
      · have e : L2.wipe σ2 own = L2.wipe (L2.wipe σ own) own := wipe_eq l2 (fun j hj => e2 j (fun z => hj (hw j z)))
        rw [e]
        exact wipe_eq (wipe_length _ _) (fun j hj => wipe_get σ j own hj)
      have ew : L2.wipe σ2 own = L2.wipe σ own := by
        have e : L2.wipe σ2 own = L2.wipe (L2.wipe σ own) own := wipe_eq l2 (fun j hj => e2 j (fun z => hj (hw j z)))
        rw [e]
        exact wipe_eq (wipe_length _ _) (fun j hj => wipe_get σ j own hj)
      cases b with
      | true =>
        have q3 : wk ds3 fun ds4 y => wv ds4 fun ds5 z => match keyOf y, z with
          | some k, .fz e => acc.length ≤ 100000 ∧ ownFree own ds5 = true ∧ I (i + 1) (putD acc k e) (wipeS ds5 own)
          | _, _ => False := q3
        refine hky _ _ _ _ _ _ _ _ _ S4 q3 fun z H4 ds4 x S5 q4 => he _ _ _ _ _ _ _ _ _ S5 q4 fun z5 H5 ds5 x5 S6 q5 => ?_
        split at q5
        · rename_i kk e ek
          obtain ⟨f5, g5, c5⟩ := S6
          obtain ⟨w5, e5, r5⟩ := c5.top
          cases e5
          obtain ⟨a2, xs, e1, zz5, gi, bb, hx, rx⟩ := c5.pop.pop.top
          cases e1
          refine ⟨xs, kk, keyOf_ok c5.pop.top ek, hx, small_line (by rw [← rx.length]; omega), hlt, putD acc kk e, wipeS ds5 own, ?_, fun j hj => by rw [wipeS_get, if_pos hj], q5.2.2⟩
          have c6 := St0.writeTD (H' := upd H5 D (.dK (putK xs kk z5))) (l' := putD acc kk e) c5.pop.pop upd_but upd_same ((rx.put kk r5).updD hx)
          have c7 := c6.wipe q5.2.1
          rw [ew] at c7
          exact ⟨f5, g5, c7⟩
        · exact q5.elim
      | false =>
        have q3 : ownFree own ds3 = true ∧ I (i + 1) acc (wipeS ds3 own) := q3
        obtain ⟨f4, g4, c4⟩ := S4
        have c7 := c4.wipe q3.1
        rw [ew] at c7
        exact ⟨hlt, acc, wipeS ds3 own, ⟨f4, g4, c7⟩, fun j hj => by rw [wipeS_get, if_pos hj], q3.2⟩
    · have e : i = l.length := by omega
      subst e
      refine .inl ⟨j2 _ (Nat.le_refl _), ?_⟩
      obtain ⟨g2, c2⟩ := (S.unwipe hu).under hl
      exact k _ _ _ _ ⟨f, g2, c2⟩ (hd acc ds hu hI)
end
section
variable {X : Cx} {a b c e o tg iter : Expr} {ta tb tc te to : TE} {wa wb wc we wo : WE} {p pos apos cpos : Pos} {g : TG} {wg : WG} {ws : List Nat}
theorem ae_dNew : AE X (.Dict [] [] pos) tDNewK wDNew := ⟨pe_dnewK, snd_dNew⟩
theorem ae_dIn {k : Nat} (hr : Room k X.A) (ha : AE X a ta wa) (hb : AE X b tb wb) (h1 : behindInMarks .In b = false := by first | exact nomark _ | rfl) : AE X (.Compare a [.In] [b] pos) (tDIn ta tb) (wDIn false wa wb) := ⟨pe_cmp (pc_din (Nat.lt_of_le_of_lt (Nat.add_le_add_left (by decide) _) hr.units) ha.pe hb.pe) h1, snd_dIn ha.sd hb.sd⟩
theorem ae_dNotIn {k : Nat} (hr : Room k X.A) (ha : AE X a ta wa) (hb : AE X b tb wb) (h1 : behindInMarks .NotIn b = false := by first | exact nomark _ | rfl) : AE X (.Compare a [.NotIn] [b] pos) (tDNotIn ta tb) (wDIn true wa wb) := ⟨pe_cmp (pc_dnotin (Nat.lt_of_le_of_lt (Nat.add_le_add_left (by decide) _) hr.units) ha.pe hb.pe) h1, snd_dNotIn ha.sd hb.sd⟩
theorem at_dIn {k : Nat} (hr : Room k X.A) (ha : AE X a ta wa) (hb : AE X b tb wb) (h1 : behindInMarks .In b = false := by first | exact nomark _ | rfl) : AT X (.Compare a [.In] [b] pos) (tB (tDIn ta tb)) (wTest (wDIn false wa wb)) := ⟨pt_cmp (pc_din (Nat.lt_of_le_of_lt (Nat.add_le_add_left (by decide) _) hr.units) ha.pe hb.pe) h1, snd_tB (snd_dIn ha.sd hb.sd)⟩
theorem at_dNotIn {k : Nat} (hr : Room k X.A) (ha : AE X a ta wa) (hb : AE X b tb wb) (h1 : behindInMarks .NotIn b = false := by first | exact nomark _ | rfl) : AT X (.Compare a [.NotIn] [b] pos) (tB (tDNotIn ta tb)) (wTest (wDIn true wa wb)) := ⟨pt_cmp (pc_dnotin (Nat.lt_of_le_of_lt (Nat.add_le_add_left (by decide) _) hr.units) ha.pe hb.pe) h1, snd_tB (snd_dNotIn ha.sd hb.sd)⟩
theorem ae_dGet {k : Nat} (hr : Room k X.A) (ha : AE X a ta wa) (hb : AE X b tb wb) (hs : NoSl b := by exact fun _ _ => rfl) : AE X (.Subscript a b pos) (tDGet ta tb) (wDGet wa wb) := ⟨pe_dget (Nat.lt_of_le_of_lt (Nat.add_le_add_left (by decide) _) hr.units) ha.pe hb.pe hs, snd_dGet ha.sd hb.sd⟩
theorem ae_dUpd (ho : AE X o to wo) (ha : AE X e te we) (hbase : attributeBase o "update" X.env (eval o X.env) = eval o X.env := by rfl)
    (hfew : ((backTo cpos (starEach [e] X.env)).all (fun x => !x.1) && (backToKw cpos (keywordEach [] X.env)).all (fun x => x.1.isSome)
      && decide (([e] : List Expr).length + ([] : List Keyword).length + (if ([] : List Keyword).isEmpty then 0 else 1) < 30)) = true := by rfl)
    (hline : (apos.endLine == cpos.line) = true := by rfl) (hs : starEach [e] X.env = (false, eval e X.env) :: starEach [] X.env := by rfl) (hplain : (backTo cpos (starEach [] X.env)).any (·.1) = false := by rfl) :
    AE X (.Call (.Attribute o "update" apos) [e] [] cpos) (tBM X.K "dict" rDUpd to (tCons te tNil)) (wDUpd wo we) := ⟨pe_bm PySem.F.plainAttrs_dict PySem.F.slot_dict_update PySem.F.type_dict_update mt_dupd ho.pe (pa_cons ha.pe pa_nil hs) hbase hfew hline hs hplain, snd_dUpd ho.sd ha.sd⟩
theorem as_dPut {k : Nat} {pos' : Pos} (hr : Room k X.A) (ho : AE X a ta wa) (hi : AE X b tb wb) (hv : AE X c tc wc) (hs : swapsWith c (some (.Subscript a b pos')) pos.line X.env = pure false := by rfl) : AS X (.Assign [.Subscript a b pos'] c pos) (sDPut ta tb tc) (wDPut wa wb wc) := ⟨ps_dput (Nat.lt_of_le_of_lt (Nat.add_le_add_left (by decide) _) hr.units) ho.pe hi.pe hv.pe hs, snd_dPut ho.sd hi.sd hv.sd⟩
theorem ae_dc {kx vx : Expr} {ifs : List Expr} {scope : Scope} (own : List (Str × Nat)) {wi : TI} {wI : WI} {g' : Shared → Hp → Addr → List (Str × Addr) → List Addr → TG} {tt : Shared → Hp → Addr → List (Str × Addr) → List Addr → TT} {ta' : Shared → Hp → Addr → List (Str × Addr) → List Addr → TE} {te' : Shared → Hp → Addr → List (Str × Addr) → List Addr → TE} {wt : WT} (hN : X.N.Nodup) (ok : BlkOk X.N X.env.scope scope own) (hi : AI X tg iter wi wI)
    (hg : ∀ (s : Shared) (H : Hp) (C : Addr) (cl : List (Str × Addr)) (fp : List Addr), AG (X.blk s H scope (compEnvC scope cl C X.env) fp) tg (g' s H C cl fp) wg ws) (ht : ∀ (s : Shared) (H : Hp) (C : Addr) (cl : List (Str × Addr)) (fp : List Addr), ATs (X.blk s H scope (compEnvC scope cl C X.env) fp) ifs (tt s H C cl fp) wt)
    (hk : ∀ (s : Shared) (H : Hp) (C : Addr) (cl : List (Str × Addr)) (fp : List Addr), AE (X.blk s H scope (compEnvC scope cl C X.env) fp) kx (ta' s H C cl fp) wa)
    (he : ∀ (s : Shared) (H : Hp) (C : Addr) (cl : List (Str × Addr)) (fp : List Addr), AE (X.blk s H scope (compEnvC scope cl C X.env) fp) vx (te' s H C cl fp) we) (hw : ∀ i ∈ ws, i ∈ own.map (·.2) := by decide) (hc : X.calm = true := by rfl) (hgE : ∀ (s : Shared) (H : Hp) (C : Addr) (cl : List (Str × Addr)) (fp : List Addr), g' s H C cl fp = g' X.s_0 X.H_0 0 [] [] := by intros; rfl) (httE : ∀ (s : Shared) (H : Hp) (C : Addr) (cl : List (Str × Addr)) (fp : List Addr), tt s H C cl fp = tt X.s_0 X.H_0 0 [] [] := by intros; rfl) (htaE : ∀ (s : Shared) (H : Hp) (C : Addr) (cl : List (Str × Addr)) (fp : List Addr), ta' s H C cl fp = ta' X.s_0 X.H_0 0 [] [] := by intros; rfl) (hteE : ∀ (s : Shared) (H : Hp) (C : Addr) (cl : List (Str × Addr)) (fp : List Addr), te' s H C cl fp = te' X.s_0 X.H_0 0 [] [] := by intros; rfl) (hs : ∀ x, foldedSetIterable iter X.env x = pure x := by intro _; rfl) :
    AE X (.DictComp kx vx [⟨tg, iter, ifs, 0⟩] scope pos) (tDc wi (g' X.s_0 X.H_0 0 [] []) (tt X.s_0 X.H_0 0 [] []) (ta' X.s_0 X.H_0 0 [] []) (te' X.s_0 X.H_0 0 [] []) (own.map (·.2))) (wDc wI wg wt wa we (own.map (·.2))) :=
  ⟨pe_dc hc hN hi.pi ok (fun s H C cl fp => by rw [← hgE s H C cl fp]; exact (hg s H C cl fp).pg) (fun s H C cl fp => by rw [← httE s H C cl fp]; exact (ht s H C cl fp).pt) (fun s H C cl fp => by rw [← htaE s H C cl fp]; exact (hk s H C cl fp).pe) (fun s H C cl fp => by rw [← hteE s H C cl fp]; exact (he s H C cl fp).pe) hs,
   snd_dc hi.sd (hg X.s_0 X.H_0 0 [] []).sd (ht X.s_0 X.H_0 0 [] []).sd (hk X.s_0 X.H_0 0 [] []).sd (he X.s_0 X.H_0 0 [] []).sd hw⟩
end
end SX

set_option Elab.async false
set_option linter.all false
set_option maxRecDepth 100000
set_option maxHeartbeats 2000000
namespace SX
open PySem PySem.Spec PyProof.Rows L2
section
variable {K : PySem.W.Frag}
theorem rg_reps {H : Hp} {Fz : Addr → Prop} (a b : Int) : Reps K H Fz (rng a (b - a).toNat) (rgV a b) := by
  unfold rng rgV
  generalize (b - a).toNat = n
  have : ∀ l : List Nat, Reps K H Fz (l.map fun (k : Nat) => PyData.int (a + (k : Int))) (l.map fun (k : Nat) => V.int (a + (k : Int))) := fun l => by
    induction l with
    | nil => exact .nil
    | cons x l ih => exact .cons (.int _) ih
  exact this _
/-- range(..) as an argument: its bounds -/
abbrev WRg := Sto → (Sto → Int → Int → Prop) → Prop
def SndRg (K : PySem.W.Frag) (t : L2.St → Hp → (Int → Int → Hp → Prop) → Prop) (w : WRg) : Prop := ∀ (B : Hp) (m : Addr → Prop) (H : Hp) (σ : L2.St) (ds ts : List AV) (vs : List V) (Q : Sto → Int → Int → Prop) (R : Int → Int → Hp → Prop), Stt K B m H σ ds ts vs → w ds Q →
  (∀ a b H' ds', Stt K B m H' σ ds' ts vs → Q ds' a b → R a b H') → t σ H R
def wRg1 (wa : WE) : WRg := fun ds Q => wa ds fun ds1 x => match x with
  | .fz (.int n) => Q ds1 0 n
  | _ => False
def wRg2 (wa wb : WE) : WRg := fun ds Q => wa ds fun ds1 x => wb ds1 fun ds2 y => match x, y with
  | .fz (.int i), .fz (.int j) => Q ds2 i j
  | _, _ => False
theorem snd_rg1 {ta : TE} {wa : WE} (ha : SndE K ta wa) : SndRg K (tRg1 ta) (wRg1 wa) := fun B m H σ ds ts vs Q R S h k =>
  ha _ _ _ _ _ _ _ _ _ S h fun v H1 ds1 x S1 h1 => by
    split at h1
    · rename_i n
      exact ⟨n, S1.topI, k _ _ _ _ S1.pop h1⟩
    · exact h1.elim
theorem snd_rg2 {ta tb : TE} {wa wb : WE} (ha : SndE K ta wa) (hb : SndE K tb wb) : SndRg K (tRg2 ta tb) (wRg2 wa wb) := fun B m H σ ds ts vs Q R S h k =>
  ha _ _ _ _ _ _ _ _ _ S h fun v H1 ds1 x S1 h1 => hb _ _ _ _ _ _ _ _ _ S1 h1 fun u H2 ds2 y S2 h2 => by
    split at h2
    · rename_i i j
      exact ⟨i, j, S2.pop.topI, S2.topI, k _ _ _ _ S2.pop.pop h2⟩
    · exact h2.elim
def rgOk (a b : Int) : Prop := -1000000 ≤ a ∧ a ≤ 1000000 ∧ -1000000 ≤ b ∧ b ≤ 1000000
theorem rgOk.ok {a b : Int} (h : rgOk a b) : RgOk a b := by
  obtain ⟨h1, h2, h3, h4⟩ := h
  exact ⟨by omega, by omega, by omega, by omega, by omega⟩
def tTupRgB (te : L2.St → Hp → (Int → Int → Hp → Prop) → Prop) : TE := fun σ H Q => te σ H fun a b H1 => RgOk a b ∧ NewT H1 (rgV a b) Q
theorem pe_tupRgB {X : Cx} {e : Expr} {te : L2.St → Hp → (Int → Int → Hp → Prop) → Prop} {p pos : Pos} (hc : X.calm = true) (hg : Gl X "tuple") (hm : X.mg "tuple" = none) (he : PRg X e te) (na : starEach [e] X.env = (false, eval e X.env) :: starEach [] X.env := by rfl) : PE X (.Call (.Name "tuple" p) [e] [] pos) (tTupRgB te) := by
  refine ⟨fun pins z σ H Q I h => ?_⟩
  refine Call_ (ld_blt I hg hm boot_tuple (PyProof.Rows.callWith_type1 (args_cons (thn (he pins z σ H _ I h) fun x s1 ⟨r, a, b, t, u, v, H1, ex, hr, I1, ok, q⟩ => args_nil ?_) na) na))
  subst ex
  obtain ⟨b1, b2, b3, b4, b5⟩ := ok
  refine call_tuple_range (n := (b - a).toNat) (I1.ok.hd hc) hr (small_one b1 b2 b3 b4) (rangeSize_nat a b) b5 fun h' tk acc hk hi => ?_
  have e := newT_at (s := s1) (h' := h') (tk := tk) (I1.kept hk) (vals_rg hi) (by rw [rgV_length, sizeLine_eq]; omega) q
  rw [Array.toArray_toList] at e
  exact e
def wLstRg (w : WRg) : WE := fun ds Q => w ds fun ds1 a b => rgOk a b ∧ Q ds1 (.ls (rng a (b - a).toNat))
def wTupRg (w : WRg) : WE := fun ds Q => w ds fun ds1 a b => rgOk a b ∧ Q ds1 (.fz (.tuple (rng a (b - a).toNat)))
theorem snd_lstRg {t : L2.St → Hp → (Int → Int → Hp → Prop) → Prop} {w : WRg} (h : SndRg K t w) : SndE K (tLstRg t) (wLstRg w) := fun B m H σ ds ts vs Q R S q k =>
  h _ _ _ _ _ _ _ _ _ S q fun a b H1 ds1 ⟨f, g, c⟩ h1 => ⟨h1.1.ok, fun p hp => k _ _ _ _ (Stt.newL c (upd_keep hp) hp upd_same (rg_reps a b)) h1.2⟩
theorem snd_tupRg {t : L2.St → Hp → (Int → Int → Hp → Prop) → Prop} {w : WRg} (h : SndRg K t w) : SndE K (tTupRgB t) (wTupRg w) := fun B m H σ ds ts vs Q R S q k =>
  h _ _ _ _ _ _ _ _ _ S q fun a b H1 ds1 ⟨f, g, c⟩ h1 => ⟨h1.1.ok, fun p o hp hd => k _ _ _ _ (Stt.newT c hp hd (rg_reps a b)) h1.2⟩
end
structure ARg (X : Cx) (e : Expr) (t : L2.St → Hp → (Int → Int → Hp → Prop) → Prop) (w : WRg) : Prop where
  pr : PRg X e t
  sd : SndRg X.K t w
section
variable {X : Cx} {a b c e tg : Expr} {ta tb tc te : TE} {wa wb wc we : WE} {p pos : Pos} {t : TA} {w : WA} {tr : L2.St → Hp → (Int → Int → Hp → Prop) → Prop} {wr : WRg}
theorem arg_1 (hm : X.mg "range" = none) (ha : AE X a ta wa) (hg : Gl X "range" := by rfl) (na : starEach [a] X.env = (false, eval a X.env) :: starEach [] X.env := by rfl) : ARg X (.Call (.Name "range" p) [a] [] pos) (tRg1 ta) (wRg1 wa) := ⟨prg_1 hg hm ha.pe na, snd_rg1 ha.sd⟩
theorem arg_2 (hm : X.mg "range" = none) (ha : AE X a ta wa) (hb : AE X b tb wb) (hg : Gl X "range" := by rfl) (na : starEach [a, b] X.env = (false, eval a X.env) :: starEach [b] X.env := by rfl) (nb : starEach [b] X.env = (false, eval b X.env) :: starEach [] X.env := by rfl)
    (hp : (backTo pos (starEach [b] X.env)).any (·.1) = false := by rfl) : ARg X (.Call (.Name "range" p) [a, b] [] pos) (tRg2 ta tb) (wRg2 wa wb) := ⟨prg_2 hg hm ha.pe hb.pe na nb hp, snd_rg2 ha.sd hb.sd⟩
theorem ae_lstRg (hm : X.mg "list" = none) (he : ARg X e tr wr) (hc : X.calm = true := by rfl) (hg : Gl X "list" := by rfl) (na : starEach [e] X.env = (false, eval e X.env) :: starEach [] X.env := by rfl) : AE X (.Call (.Name "list" p) [e] [] pos) (tLstRg tr) (wLstRg wr) := ⟨pe_listRg hc hg hm he.pr na, snd_lstRg he.sd⟩
theorem ae_tupRg (hm : X.mg "tuple" = none) (he : ARg X e tr wr) (hc : X.calm = true := by rfl) (hg : Gl X "tuple" := by rfl) (na : starEach [e] X.env = (false, eval e X.env) :: starEach [] X.env := by rfl) : AE X (.Call (.Name "tuple" p) [e] [] pos) (tTupRgB tr) (wTupRg wr) := ⟨pe_tupRgB hc hg hm he.pr na, snd_tupRg he.sd⟩
theorem ai_range3 (hm : X.mg "range" = none) (ha : AA X [a, b, c] t w) (hg : Gl X "range" := by rfl) (hs : starEach [a, b, c] X.env = (false, eval a X.env) :: starEach [b, c] X.env := by rfl) (hpl : (backTo pos (starEach [b, c] X.env)).any (·.1) = false := by rfl) : AI X tg (.Call (.Name "range" p) [a, b, c] [] pos) (iRng3 t) (wRng3 w) := ⟨pi_range3 hg hm ha.pa hs hpl, snd_rng3 ha.sd⟩
end
/-- ahead of a statement a slot's own list is declared to stay as it is -/
def wFrzV (i : Nat) (w : WS) : WS := fun N ds => match ds.getD i .un with
  | .ls l => w N (ds.set i (.fz (.list l)))
  | .fz d => w N ds
  | _ => False
theorem AS.frzV {X : Cx} {st : Stmt} {t : TS} {w : WS} (i : Nat) (h : AS X st t w) : AS X st t (wFrzV i w) := ⟨h.ps, fun B m H σ ds ts vs N E hf S q n r b c => by
  unfold wFrzV at q
  split at q
  · rename_i l hd
    obtain ⟨f, g, c0⟩ := S
    obtain ⟨f', v, _, _, c1⟩ := c0.freezeS hd (hf.noRf i)
    exact h.sd _ _ _ _ _ _ _ _ _ hf ⟨f', g, c1⟩ q n r b c
  · exact h.sd _ _ _ _ _ _ _ _ _ hf S q n r b c
  · exact q.elim⟩
/-- a subscript of a list or a tuple -/
def wIxA : WR := fun x y ds Q => match its ds x, y with
  | some l, .fz (.int i) => ∃ d, atI l i = some d ∧ Q ds (.fz d)
  | _, _ => False
theorem snd_ixA {K : PySem.W.Frag} : SndR K (fun x y H Q => rIxL K x y H Q ∨ rIxT K x y H Q) wIxA := by
  intro B m H σ ds ts vs x y v u Q R S h k
  unfold wIxA at h
  split at h
  · rename_i l i hl
    obtain ⟨d, hd, h⟩ := h
    have e := S.topI
    subst e
    obtain ⟨f, g, a, xs, c, rfl, hs, r⟩ := S.pop.its0 hl
    obtain ⟨z, hz, rz⟩ := atI_reps r hd
    rcases hs with hs | hs
    · exact .inl ⟨a, xs, i, z, rfl, rfl, hs, hz, k _ _ _ _ ⟨f, g, c.pop.pushF rz⟩ h⟩
    · exact .inr ⟨a, xs, i, z, rfl, rfl, hs, hz, k _ _ _ _ ⟨f, g, c.pop.pushF rz⟩ h⟩
  · exact h.elim
theorem ae_ixA {X : Cx} {a b : Expr} {ta tb : TE} {wa wb : WE} {pos : Pos} (ha : AE X a ta wa) (hb : AE X b tb wb) (hs : PlainIx b := by exact fun _ _ => rfl) : AE X (.Subscript a b pos) (tOp (fun x y H Q => rIxL X.K x y H Q ∨ rIxT X.K x y H Q) ta tb) (wOp wIxA wa wb) := ⟨pe_ix (IxR.or ix_list ix_tup) ha.pe hb.pe hs, snd_op snd_ixA ha.sd hb.sd⟩
end SX

set_option Elab.async false
set_option linter.all false
set_option maxRecDepth 100000
set_option maxHeartbeats 2000000
namespace SX
open PySem PySem.Spec PyProof.Rows L2
/-! ### methods of tuples -/
section
variable {X : Cx}
def tBMT (K : PySem.W.Frag) (r : V → List V → Hp → VK → Prop) (to : TE) (t : TA) : TE := fun σ H Q => to σ H fun x H1 => (∃ p xs, x = .ref p ∧ BT K H1 p xs) ∧ t σ H1 fun ys H2 => r x ys H2 Q
theorem bt_is {pins : List (Addr × Obj)} {σ : L2.St} {H : Hp} {s : Shared} {p : Addr} {xs : List V} (I : Inv X pins σ H s) (b : BT X.K H p xs) : s.TypeIs (.ref p) "tuple" ∧ ∀ a, Value.ref p = .ref a → ∃ ob, s.heap.get? a = some ob ∧ ob.dict = none := by
  rcases b with ⟨o, h, hd⟩ | ⟨o, its, n, hk, hc, hd, _⟩
  · obtain ⟨e, _, its, _, ⟨o', e', c, _⟩⟩ := (show ObjOk X.prog X.w H s.heap p (.frz o (.tup xs)) from I.hok p _ h)
    exact ⟨⟨o', e', c⟩, fun a q => by cases q; exact ⟨o, e, hd⟩⟩
  · exact ⟨⟨o, I.kIn p o hk, hc⟩, fun a q => by cases q; exact ⟨o, I.kIn p o hk, hd⟩⟩
variable {o e : Expr} {es : List Expr} {to : TE} {t : TA} {name : Str} {apos cpos : Pos} {id : String} {r : V → List V → Hp → VK → Prop}
theorem pe_bmT (slot : Slot "tuple" name id) (hty : typeOf (.builtin id) = pure (.type "method_descriptor")) (hm : MtR X id r) (ho : PE X o to) (ha : PA X (e :: es) t)
    (hbase : attributeBase o name X.env (eval o X.env) = eval o X.env := by rfl)
    (hfew : ((backTo cpos (starEach (e :: es) X.env)).all (fun x => !x.1) && (backToKw cpos (keywordEach [] X.env)).all (fun x => x.1.isSome) && decide ((e :: es).length + ([] : List Keyword).length + (if ([] : List Keyword).isEmpty then 0 else 1) < 30)) = true := by rfl)
    (hline : (apos.endLine == cpos.line) = true := by rfl) (hs : starEach (e :: es) X.env = (false, eval e X.env) :: starEach es X.env := by rfl) (hplain : (backTo cpos (starEach es X.env)).any (·.1) = false := by rfl) : PE X (.Call (.Attribute o name apos) (e :: es) [] cpos) (tBMT X.K r to t) := by
  refine ⟨fun pins z σ H Q I h => ?_⟩
  refine wpAny_Call_method_late hbase hfew hline rfl (thn (ho.run pins z σ H _ I h) fun v s1 ⟨x, H1, I1, r1, ⟨p, xs, ex, bt⟩, q1⟩ => ?_)
  subst ex
  obtain rfl : v = Value.ref p := r1
  obtain ⟨h1, h2⟩ := bt_is I1 bt
  refine ⟨"tuple", id, PySem.F.plainAttrs_tuple, slot, hty, h1, h2, ?_⟩
  have hA := ha.run cpos pins s1 σ H1 _ I1 q1
  rw [hs] at hA ⊢
  refine Calls.callWith_builtin (by show (false || (backTo cpos (starEach es X.env)).any (·.1)) = false; rw [hplain] <;> rfl) (Calls.evalArgs_plain ?_)
  exact thn hA fun us s2 ⟨vs, H2, I2, r2, q2⟩ => hm pins s2 σ H2 (.ref p) vs _ us Q I2 rfl r2 q2
def rTIdx (K : PySem.W.Frag) : V → List V → Hp → VK → Prop := fun x ys H Q => ∃ (a : Addr) (ns : List Int) (k : Int), x = .ref a ∧ ys = [.int k] ∧ SqT K H a (ns.map V.int) ∧ k ∈ ns ∧ Q (.int (ns.idxOf k : Nat)) H
theorem mt_tidx : MtR X "tuple.index" (rTIdx X.K) := by
  intro pins z σ H x xs v us Q I rx rxs h
  obtain ⟨a, ns, k, rfl, rfl, hs, hk, q⟩ := h
  cases rx
  obtain ⟨u, rfl, ru⟩ := vals1 rxs
  obtain ⟨t, rfl⟩ := ru
  obtain ⟨its, rv, p, hz⟩ := I.tuple hs
  exact SeqAt.tuple_index_ints (show z.heap.IsTuple a its.toArray from p) rv.ints hk ⟨.int (ns.idxOf k : Nat), H, I.tok _, ⟨_, rfl⟩, q⟩
def rLIdx (K : PySem.W.Frag) : V → List V → Hp → VK → Prop := fun x ys H Q => ∃ (a : Addr) (ns : List Int) (k : Int), x = .ref a ∧ ys = [.int k] ∧ SqL K H a (ns.map V.int) ∧ k ∈ ns ∧ Q (.int (ns.idxOf k : Nat)) H
theorem mt_lidx : MtR X "list.index" (rLIdx X.K) := by
  intro pins z σ H x xs v us Q I rx rxs h
  obtain ⟨a, ns, k, rfl, rfl, hs, hk, q⟩ := h
  cases rx
  obtain ⟨u, rfl, ru⟩ := vals1 rxs
  obtain ⟨t, rfl⟩ := ru
  obtain ⟨its, rv, p, hz⟩ := I.list hs
  exact SeqAt.list_index_ints p.isList rv.ints (by rw [List.length_map] at hz; exact hz) hk ⟨.int (ns.idxOf k : Nat), H, I.tok _, ⟨_, rfl⟩, q⟩
end
section
variable {K : PySem.W.Frag}
def wTIdx (wo wa : WE) : WE := fun ds Q => wo ds fun ds1 o => match o with
  | .fz (.tuple l) => wa ds1 fun ds2 y => match y with
    | .fz (.int k) => ∃ ns : List Int, l = ns.map PyData.int ∧ k ∈ ns ∧ Q ds2 (.fz (.int (ns.idxOf k : Nat)))
    | _ => False
  | _ => False
theorem snd_tidx {to ta : TE} {wo wa : WE} (ho : SndE K to wo) (ha : SndE K ta wa) : SndE K (tBMT K (rTIdx K) to (tCons ta tNil)) (wTIdx wo wa) := fun B m H σ ds ts vs Q R S h k =>
  ho _ _ _ _ _ _ _ _ _ S h fun v H1 ds1 o S1 h1 => by
    split at h1
    · rename_i l
      refine ⟨?_, ha _ _ _ _ _ _ _ _ _ S1 h1 fun u H2 ds2 y S2 h2 => ?_⟩
      · obtain ⟨f, g, c, r⟩ := S1.top
        obtain ⟨a, xs, rfl, b, _⟩ := r.tup_inv
        exact ⟨a, xs, rfl, b⟩
      · split at h2
        · rename_i kk
          obtain ⟨ns, rfl, hk, h2⟩ := h2
          have e := S2.topI
          subst e
          obtain ⟨f, g, a, xs, c, rfl, hs, r⟩ := S2.pop.tup1
          rw [r.ints] at hs
          exact ⟨a, ns, kk, rfl, rfl, hs, hk, k _ _ _ _ ⟨f, g, c.pop.pushF (.int _)⟩ h2⟩
        · exact h2.elim
    · exact h1.elim
def wLIdx : WM := fun o xs ds Q => match xs with
  | [.fz (.int k)] => ∃ ns : List Int, lsOf ds o = some (ns.map PyData.int) ∧ k ∈ ns ∧ Q ds (.fz (.int (ns.idxOf k : Nat)))
  | _ => False
theorem snd_lidx : SndM K (rLIdx K) wLIdx := by
  intro B m H σ ds ts vs o v xs us Q R hl S h k
  unfold wLIdx at h
  split at h
  · rename_i kk
    match us, hl with
    | [u], _ =>
      obtain ⟨ns, e, hk, h⟩ := h
      have S2 : Stt K B m H σ ds (.fz (.int kk) :: o :: ts) (u :: v :: vs) := S
      have eu := S2.topI
      subst eu
      obtain ⟨a, rfl, hs, S3⟩ := ints_arg S2.pop e
      exact ⟨a, ns, kk, rfl, rfl, hs, hk, k _ _ _ _ (S3.pushInt _) h⟩
  · exact h.elim
end
theorem ae_tidx {X : Cx} {o e : Expr} {to te : TE} {wo we : WE} {apos cpos : Pos} (ho : AE X o to wo) (ha : AE X e te we) (hbase : attributeBase o "index" X.env (eval o X.env) = eval o X.env := by rfl)
    (hfew : ((backTo cpos (starEach [e] X.env)).all (fun x => !x.1) && (backToKw cpos (keywordEach [] X.env)).all (fun x => x.1.isSome) && decide (([e] : List Expr).length + ([] : List Keyword).length + (if ([] : List Keyword).isEmpty then 0 else 1) < 30)) = true := by rfl)
    (hline : (apos.endLine == cpos.line) = true := by rfl) (hs : starEach [e] X.env = (false, eval e X.env) :: starEach [] X.env := by rfl) (hplain : (backTo cpos (starEach [] X.env)).any (·.1) = false := by rfl) :
    AE X (.Call (.Attribute o "index" apos) [e] [] cpos) (tBMT X.K (rTIdx X.K) to (tCons te tNil)) (wTIdx wo we) := ⟨pe_bmT PySem.F.slot_tuple_index PySem.F.type_tuple_index mt_tidx ho.pe (pa_cons ha.pe pa_nil hs) hbase hfew hline hs hplain, snd_tidx ho.sd ha.sd⟩
theorem m_index {X : Cx} : AMt X "list.index" (rLIdx X.K) wLIdx := ⟨mt_lidx, snd_lidx⟩
end SX

set_option Elab.async false
set_option linter.all false
set_option maxRecDepth 100000
set_option maxHeartbeats 2000000
namespace SX
open PySem PySem.Spec PyProof.Rows L2
/-! ### + by what the operands are -/
section
variable {K : PySem.W.Frag}
def rOr (r r' : R2) : R2 := fun x y H Q => r x y H Q ∨ r' x y H Q
theorem OpR.or {X : Cx} {f : Value → Value → Sem Value} {r r' : R2} (h : OpR X f r) (h' : OpR X f r') : OpR X f (rOr r r') := by
  intro pins s σ H x y v u Q I rx ry q
  rcases q with q | q
  · exact h pins s σ H x y v u Q I rx ry q
  · exact h' pins s σ H x y v u Q I rx ry q
def rAddStr : R2 := fun x y H Q => ∃ i j, x = .str i ∧ y = .str j ∧ i.length + j.length ≤ sizeLine ∧ Q (.str (i ++ j)) H
def wAddD : WR := fun x y ds Q => match x, y with
  | .fz (.int i), .fz (.int j) => Q ds (.fz (.int (i + j)))
  | .fz (.str a), .fz (.str b) => a.length + b.length ≤ 100000 ∧ Q ds (.fz (.str (a ++ b)))
  | .fz (.tuple a), .fz (.tuple b) => a.length + b.length ≤ 100000 ∧ Q ds (.fz (.tuple (a ++ b)))
  | _, _ => match oLs ds x, oLs ds y with
    | some a, some b => a.length + b.length ≤ 100000 ∧ Q ds (.ls (a ++ b))
    | _, _ => False
theorem snd_addD : SndR K (rOr (rI0 fun i j => .int (i + j)) (rOr rAddStr (rOr (rCatB K) rCat))) wAddD := by
  intro B m H σ ds ts vs x y v u Q R S h k
  unfold wAddD at h
  split at h
  · exact .inl (snd_II (g := fun i j => i + j) B m H σ ds ts vs _ _ v u Q R S h k)
  · rename_i a b
    exact .inr (.inl ⟨a, b, S.pop.topS, S.topS, small_line' (by have := h.1; omega), k _ _ _ _ (S.pop.pop.pushStr _) h.2⟩)
  · exact .inr (.inr (.inl (snd_catT B m H σ ds ts vs _ _ v u Q R S h k)))
  · exact .inr (.inr (.inr (snd_cat B m H σ ds ts vs _ _ v u Q R S h k)))
end
def o_addD {X : Cx} := (⟨OpR.or op_add (OpR.or op_add_str (OpR.or op_catB op_cat)), snd_addD⟩ : AOp X (binaryOp .Add) _ wAddD)
end SX

set_option Elab.async false
set_option linter.all false
set_option maxRecDepth 100000
set_option maxHeartbeats 2000000
namespace SX
open PySem PySem.Spec PyProof.Rows L2
section
variable {K : PySem.W.Frag}
theorem St0.drop {G : Gh} {H : Hp} {σ : L2.St} {ds : Sto} {ts : List AV} {vs : List V} : ∀ {dl : List D} {us : List V}, us.length = dl.length → St0 K G H σ ds (dl.map AV.fz ++ ts) (us ++ vs) → St0 K G H σ ds ts vs
  | [], [], _, S => S
  | d :: dl, u :: us, h, S => St0.drop (dl := dl) (us := us) (by simpa using h) (St0.pop (x := .fz d) (v := u) S)
  | [], _ :: _, h, _ => by simp at h
  | _ :: _, [], h, _ => by simp at h
theorem St0.pushFs {G : Gh} {H : Hp} {σ : L2.St} {ds : Sto} {ts : List AV} {vs : List V} (S : St0 K G H σ ds ts vs) : ∀ {dl : List D} {us : List V}, Reps K H G.Fz dl us → St0 K G H σ ds (dl.map AV.fz ++ ts) (us ++ vs)
  | [], _, h => by cases h; exact S
  | d :: dl, _, h => by
    cases h with
    | cons a b => exact (St0.pushFs S b).pushF a
/-- a list of one's own is raised over frozen temps -/
theorem St0.raise {G : Gh} {H : Hp} {σ : L2.St} {ds : Sto} {ts : List AV} {vs : List V} {dl : List D} {us : List V} {l : List D} {v : V} (hl : us.length = dl.length) (S : St0 K G H σ ds (dl.map AV.fz ++ .ls l :: ts) (us ++ v :: vs)) : ∃ g', St0 K { G with g := g' } H σ ds (.ls l :: (dl.map AV.fz ++ ts)) (v :: (us ++ vs)) := by
  have r := St0.seen hl S
  have S1 := St0.drop hl S
  obtain ⟨a, xs, e1, z, gi, b, hx, rl⟩ := S1.top
  cases e1
  refine ⟨fun c => if c = a then ds.length + (dl.map AV.fz ++ ts).length else G.g c, ?_⟩
  have key := S1.pop.move (H' := H) (Fz' := G.Fz) (g' := fun c => if c = a then ds.length + (dl.map AV.fz ++ ts).length else G.g c) (ds' := ds) (fun _ => False) (fun b o _ q => q) (fun _ w => w.elim) S1.mm (fun _ q => q) S1.fz S1.mz (fun _ q => q) rfl S1.nr
    (fun j hj => .inr ⟨rfl, fun c ho nz gb => ⟨id, nz, by
      have ne : c ≠ a := fun q => by
        rw [q, gi] at gb
        omega
      rw [if_neg ne]; exact gb⟩⟩)
    (fun j h1 h2 c ho nz gb => ⟨id, nz, by
      have ne : c ≠ a := fun q => by
        rw [q, gi] at gb
        omega
      rw [if_neg ne]; exact gb⟩)
  exact St0.push (St0.pushFs key r) ⟨a, xs, rfl, z, if_pos rfl, b, hx, rl⟩
/-- what the store of a target leaves as it was -/
theorem wipe_back {σ2 σ : L2.St} {ws own : List Nat} (l2 : σ2.length = (L2.wipe σ own).length) (e2 : ∀ j, j ∉ ws → σ2[j]? = (L2.wipe σ own)[j]?) (hw : ∀ i ∈ ws, i ∈ own) : L2.wipe σ2 own = L2.wipe σ own := by
  have e : L2.wipe σ2 own = L2.wipe (L2.wipe σ own) own := wipe_eq l2 (fun j hj => e2 j (fun z => hj (hw j z)))
  rw [e]
  exact wipe_eq (wipe_length _ _) (fun j hj => wipe_get σ j own hj)
theorem noRf_of {B : Hp} {m : Addr → Prop} {f : Addr → Prop} {gg : Addr → Nat} {H : Hp} {σ : L2.St} {ds : Sto} {ws own : List Nat} (hw : ∀ i ∈ ws, i ∈ own) (hu : ∀ j ∈ own, ds.getD j .un = .un) {ts : List AV} {vs : List V} (S : TOk K ⟨B, m, f, gg⟩ H σ ds ts vs) : ∀ i ∈ ws, noRf i ts := fun i hi x hx e => by
  subst e
  have : ∀ {ts : List AV} {vs : List V}, TOk K ⟨B, m, f, gg⟩ H σ ds ts vs → AV.rf i ∈ ts → (ds.getD i .un).own = true := by
    intro ts
    induction ts with
    | nil => intro vs _ h; cases h
    | cons y ts ih =>
      intro vs q h
      cases vs with
      | nil => exact q.elim
      | cons v vs =>
        rcases List.mem_cons.mp h with e | e
        · subst e
          obtain ⟨w, _, _, o, _⟩ := q.1
          exact o
        · exact ih q.2 e
  have q := this S hx
  rw [hu i (hw i hi)] at q
  cases q
/-- the inner walk, from what is made so far to what is made behind it -/
def lc2In (wg1 : WG) (wt1 : WT) (we : WE) (own1 : List Nat) (ds4 : Sto) (l1 : List D) (acc0 : List D) (Q : List D → Sto → Prop) : Prop := ∃ I : Nat → List D → Sto → Prop, I 0 acc0 (wipeS ds4 own1) ∧
  (∀ j d acc ds, l1[j]? = some d → (∀ j ∈ own1, ds.getD j .un = .un) → I j acc ds → wg1 (.fz d) ds fun ds5 => wt1 ds5 fun ds6 b => if b = true then we ds6 fun ds7 y => match y with
    | .fz e => acc.length ≤ 100000 ∧ ownFree own1 ds7 = true ∧ I (j + 1) (acc ++ [e]) (wipeS ds7 own1)
    | _ => False
  else ownFree own1 ds6 = true ∧ I (j + 1) acc (wipeS ds6 own1)) ∧ ∀ acc ds, (∀ j ∈ own1, ds.getD j .un = .un) → I l1.length acc ds → Q acc ds
def wLc2 (wi : WI) (wg : WG) (wt : WT) (wi1 : WI) (wg1 : WG) (wt1 : WT) (we : WE) (own own1 : List Nat) : WE := fun ds Q => wi ds fun ds1 l => ownFree own ds1 = true ∧ ∃ I : Nat → List D → Sto → Prop, I 0 [] (wipeS ds1 own) ∧
  (∀ i d acc ds, l[i]? = some d → (∀ j ∈ own, ds.getD j .un = .un) → I i acc ds → wg (.fz d) ds fun ds2 => wt ds2 fun ds3 b => if b = true then wi1 ds3 fun ds4 l1 => ownFree own1 ds4 = true ∧ lc2In wg1 wt1 we own1 ds4 l1 acc fun acc' ds' => ownFree own ds' = true ∧ I (i + 1) acc' (wipeS ds' own)
  else ownFree own ds3 = true ∧ I (i + 1) acc (wipeS ds3 own)) ∧ ∀ acc ds, (∀ j ∈ own, ds.getD j .un = .un) → I l.length acc ds → Q ds (.ls acc)
theorem snd_lc2 {ti ti1 : TI} {g g1 : TG} {tt tt1 : TT} {te : TE} {wi wi1 : WI} {wg wg1 : WG} {ws own ws1 own1 : List Nat} {wt wt1 : WT} {we : WE} (hi : SndI K ti wi) (hg : SndG K g wg ws) (ht : SndT K tt wt) (hi1 : SndI K ti1 wi1) (hg1 : SndG K g1 wg1 ws1) (ht1 : SndT K tt1 wt1) (he : SndE K te we) (hw : ∀ i ∈ ws, i ∈ own) (hw1 : ∀ i ∈ ws1, i ∈ own1) (h1 : ∀ i ∈ own1, i ∈ own) :
    SndE K (tLc2 ti g tt ti1 g1 tt1 te own own1) (wLc2 wi wg wt wi1 wg1 wt1 we own own1) := fun B m H σ ds ts vs Q R S h k =>
  hi _ _ _ _ _ _ _ _ _ S h fun J H1 ds1 dl ivs l S1 hl hJ ⟨hof, I, h0, hs, hd⟩ D hD => by
    obtain ⟨f, g0, c1⟩ := S1
    have hm : ∀ j ∈ own, (wipeS ds1 own).getD j .un = .un := fun j hj => by rw [wipeS_get, if_pos hj]
    have W0 : Stt K B m (upd H1 D (.lst [])) (L2.wipe σ own) (wipeS ds1 own) (.ls [] :: (dl.map AV.fz ++ ts)) (.ref D :: (ivs ++ vs)) := Stt.newL (c1.wipe hof) (upd_keep hD) hD upd_same .nil
    refine ⟨fun i k H => k = l.length - i ∧ i ≤ l.length ∧ ∃ acc ds, Stt K B m H (L2.wipe σ own) ds (.ls acc :: (dl.map AV.fz ++ ts)) (.ref D :: (ivs ++ vs)) ∧ (∀ j ∈ own, ds.getD j .un = .un) ∧ I i acc ds, ⟨l.length, by simp, Nat.zero_le _, [], _, W0, hm, h0⟩, ?_⟩
    rintro i k' H ⟨rfl, hi, acc, ds, ⟨f, gg, S⟩, hu, hI⟩
    obtain ⟨j1, j2, j3⟩ := hJ H f (St0.seen hl S.pop)
    by_cases hlt : i < l.length
    · refine .inr ⟨j1 i hlt, fun H' => i + 1 ≤ l.length ∧ ∃ acc ds, Stt K B m H' (L2.wipe σ own) ds (.ls acc :: (dl.map AV.fz ++ ts)) (.ref D :: (ivs ++ vs)) ∧ (∀ j ∈ own, ds.getD j .un = .un) ∧ I (i + 1) acc ds, fun H' ⟨q, r⟩ => ⟨l.length - (i + 1), by omega, rfl, q, r⟩, fun y H' hy => ?_⟩
      obtain ⟨d, hd', hk, rd⟩ := j3 i y H' hlt hy
      have S2 : Stt K B m H' (L2.wipe σ own) ds (.fz d :: .ls acc :: (dl.map AV.fz ++ ts)) (y :: .ref D :: (ivs ++ vs)) := ⟨f, gg, (S.ext hk).pushF rd⟩
      refine hg _ _ _ _ _ _ _ _ _ _ _ (noRf_of hw hu S.tp) S2 (hs i d acc ds hd' hu hI) fun σ2 H2 ds2 S3 l2 e2 q => ⟨wipe_back l2 e2 hw, ht _ _ _ _ _ _ _ _ _ S3 q fun b H3 ds3 S4 q3 => ?_⟩
      have ew := wipe_back l2 e2 hw
      cases b with
      | true =>
        have q3 : wi1 ds3 fun ds4 l1 => ownFree own1 ds4 = true ∧ lc2In wg1 wt1 we own1 ds4 l1 acc fun acc' ds' => ownFree own ds' = true ∧ I (i + 1) acc' (wipeS ds' own) := q3
        refine hi1 _ _ _ _ _ _ _ _ _ S4 q3 fun J1 H4 ds4 dl1 ivs1 ll S5 hl1 hJ1 ⟨hof1, I1, i0, is, id⟩ => ?_
        obtain ⟨f5, g5, c5⟩ := S5
        obtain ⟨g6, c6⟩ := c5.raise hl1
        have c7 := c6.wipe hof1
        have hm1 : ∀ j ∈ own1, (wipeS ds4 own1).getD j .un = .un := fun j hj => by rw [wipeS_get, if_pos hj]
        have W1 : Stt K B m H4 (L2.wipe σ2 own1) (wipeS ds4 own1) (.ls acc :: (dl1.map AV.fz ++ (dl.map AV.fz ++ ts))) (.ref D :: (ivs1 ++ (ivs ++ vs))) := ⟨f5, g6, c7⟩
        refine ⟨fun j k H => k = ll.length - j ∧ j ≤ ll.length ∧ ∃ acc ds, Stt K B m H (L2.wipe σ2 own1) ds (.ls acc :: (dl1.map AV.fz ++ (dl.map AV.fz ++ ts))) (.ref D :: (ivs1 ++ (ivs ++ vs))) ∧ (∀ j ∈ own1, ds.getD j .un = .un) ∧ I1 j acc ds, ⟨ll.length, by simp, Nat.zero_le _, acc, _, W1, hm1, i0⟩, ?_⟩
        rintro j k' H ⟨rfl, hj, acc, ds, ⟨f, gg, S⟩, hu, hI⟩
        obtain ⟨j1, j2, j3⟩ := hJ1 H f (St0.seen hl1 S.pop)
        by_cases hltj : j < ll.length
        · refine .inr ⟨j1 j hltj, fun H' => j + 1 ≤ ll.length ∧ ∃ acc ds, Stt K B m H' (L2.wipe σ2 own1) ds (.ls acc :: (dl1.map AV.fz ++ (dl.map AV.fz ++ ts))) (.ref D :: (ivs1 ++ (ivs ++ vs))) ∧ (∀ j ∈ own1, ds.getD j .un = .un) ∧ I1 (j + 1) acc ds, fun H' ⟨q, r⟩ => ⟨ll.length - (j + 1), by omega, rfl, q, r⟩, fun y H' hy => ?_⟩
          obtain ⟨d, hd', hk, rd⟩ := j3 j y H' hltj hy
          have S2 : Stt K B m H' (L2.wipe σ2 own1) ds (.fz d :: .ls acc :: (dl1.map AV.fz ++ (dl.map AV.fz ++ ts))) (y :: .ref D :: (ivs1 ++ (ivs ++ vs))) := ⟨f, gg, (S.ext hk).pushF rd⟩
          refine hg1 _ _ _ _ _ _ _ _ _ _ _ (noRf_of hw1 hu S.tp) S2 (is j d acc ds hd' hu hI) fun σ3 H2 ds2 S3 l2 e2 q => ⟨wipe_back l2 e2 hw1, ht1 _ _ _ _ _ _ _ _ _ S3 q fun b H3 ds3 S4 q3 => ?_⟩
          have ew1 := wipe_back l2 e2 hw1
          cases b with
          | true =>
            have q3 : we ds3 fun ds4 y => match y with
              | .fz e => acc.length ≤ 100000 ∧ ownFree own1 ds4 = true ∧ I1 (j + 1) (acc ++ [e]) (wipeS ds4 own1)
              | _ => False := q3
            refine he _ _ _ _ _ _ _ _ _ S4 q3 fun z H4 ds4 x S5 q4 => ?_
            split at q4
            · rename_i e
              obtain ⟨f5, g5, c5, r5⟩ := S5.top
              obtain ⟨a2, xs, e1, z5, gi, bb, hx, rx⟩ := c5.pop.top
              cases e1
              refine ⟨xs, hx, small_line (by rw [← rx.length]; omega), hltj, acc ++ [e], wipeS ds4 own1, ?_, fun j hj => by rw [wipeS_get, if_pos hj], q4.2.2⟩
              have c6 := St0.writeT (H' := upd H4 D (.lst (xs ++ [z]))) (l' := acc ++ [e]) (v := .ref D) c5.pop upd_but upd_same ((rx.append (.cons r5 .nil)).upd hx z5)
              have c7 := c6.wipe q4.2.1
              rw [ew1] at c7
              exact ⟨f5, g5, c7⟩
            · exact q4.elim
          | false =>
            have q3 : ownFree own1 ds3 = true ∧ I1 (j + 1) acc (wipeS ds3 own1) := q3
            obtain ⟨f4, g4, c4⟩ := S4
            have c7 := c4.wipe q3.1
            rw [ew1] at c7
            exact ⟨hltj, acc, wipeS ds3 own1, ⟨f4, g4, c7⟩, fun j hj => by rw [wipeS_get, if_pos hj], q3.2⟩
        · have e : j = ll.length := by omega
          subst e
          refine .inl ⟨j2 _ (Nat.le_refl _), ?_⟩
          obtain ⟨r1, r2⟩ := id acc ds hu hI
          obtain ⟨g2, c2⟩ := (S.unwipe hu).under hl1
          have c7 := c2.wipe r1
          rw [ew] at c7
          exact ⟨hlt, acc, wipeS ds own, ⟨f, g2, c7⟩, fun j hj => by rw [wipeS_get, if_pos hj], r2⟩
      | false =>
        have q3 : ownFree own ds3 = true ∧ I (i + 1) acc (wipeS ds3 own) := q3
        obtain ⟨f4, g4, c4⟩ := S4
        have c7 := c4.wipe q3.1
        rw [ew] at c7
        exact ⟨hlt, acc, wipeS ds3 own, ⟨f4, g4, c7⟩, fun j hj => by rw [wipeS_get, if_pos hj], q3.2⟩
    · have e : i = l.length := by omega
      subst e
      refine .inl ⟨j2 _ (Nat.le_refl _), ?_⟩
      obtain ⟨g2, c2⟩ := (S.unwipe hu).under hl
      exact k _ _ _ _ ⟨f, g2, c2⟩ (hd acc ds hu hI)
end
section
variable {X : Cx} {e : Expr} {tg iter tg1 iter1 : Expr} {pos : Pos} {wg wg1 : WG} {ws ws1 : List Nat} {we : WE}
theorem ae_lc2 {elt : Expr} {ifs ifs1 : List Expr} {scope : Scope} (own : List (Str × Nat)) (own1 : List Nat) {wi : TI} {wI wI1 : WI} {g' g1' : Shared → Hp → Addr → List (Str × Addr) → List Addr → TG} {wi1 : Shared → Hp → Addr → List (Str × Addr) → List Addr → TI} {tt tt1 : Shared → Hp → Addr → List (Str × Addr) → List Addr → TT} {te' : Shared → Hp → Addr → List (Str × Addr) → List Addr → TE} {wt wt1 : WT} (hN : X.N.Nodup) (ok : BlkOk X.N X.env.scope scope own) (hi : AI X tg iter wi wI)
    (hg : ∀ (s : Shared) (H : Hp) (C : Addr) (cl : List (Str × Addr)) (fp : List Addr), AG (X.blk s H scope (compEnvC scope cl C X.env) fp) tg (g' s H C cl fp) wg ws) (ht : ∀ (s : Shared) (H : Hp) (C : Addr) (cl : List (Str × Addr)) (fp : List Addr), ATs (X.blk s H scope (compEnvC scope cl C X.env) fp) ifs (tt s H C cl fp) wt)
    (hi1 : ∀ (s : Shared) (H : Hp) (C : Addr) (cl : List (Str × Addr)) (fp : List Addr), AI (X.blk s H scope (compEnvC scope cl C X.env) fp) tg1 iter1 (wi1 s H C cl fp) wI1)
    (hg1 : ∀ (s : Shared) (H : Hp) (C : Addr) (cl : List (Str × Addr)) (fp : List Addr), AG (X.blk s H scope (compEnvC scope cl C X.env) fp) tg1 (g1' s H C cl fp) wg1 ws1) (ht1 : ∀ (s : Shared) (H : Hp) (C : Addr) (cl : List (Str × Addr)) (fp : List Addr), ATs (X.blk s H scope (compEnvC scope cl C X.env) fp) ifs1 (tt1 s H C cl fp) wt1)
    (he : ∀ (s : Shared) (H : Hp) (C : Addr) (cl : List (Str × Addr)) (fp : List Addr), AE (X.blk s H scope (compEnvC scope cl C X.env) fp) elt (te' s H C cl fp) we) (hv : ∀ i ∈ own1, i ∈ own.map (·.2) := by decide) (hw : ∀ i ∈ ws, i ∈ own.map (·.2) := by decide) (hw1 : ∀ i ∈ ws1, i ∈ own1 := by decide) (hc : X.calm = true := by rfl)
    (hgE : ∀ (s : Shared) (H : Hp) (C : Addr) (cl : List (Str × Addr)) (fp : List Addr), g' s H C cl fp = g' X.s_0 X.H_0 0 [] [] := by intros; rfl) (httE : ∀ (s : Shared) (H : Hp) (C : Addr) (cl : List (Str × Addr)) (fp : List Addr), tt s H C cl fp = tt X.s_0 X.H_0 0 [] [] := by intros; rfl) (hteE : ∀ (s : Shared) (H : Hp) (C : Addr) (cl : List (Str × Addr)) (fp : List Addr), te' s H C cl fp = te' X.s_0 X.H_0 0 [] [] := by intros; rfl)
    (hiE : ∀ (s : Shared) (H : Hp) (C : Addr) (cl : List (Str × Addr)) (fp : List Addr), wi1 s H C cl fp = wi1 X.s_0 X.H_0 0 [] [] := by intros; rfl) (hg1E : ∀ (s : Shared) (H : Hp) (C : Addr) (cl : List (Str × Addr)) (fp : List Addr), g1' s H C cl fp = g1' X.s_0 X.H_0 0 [] [] := by intros; rfl) (htt1E : ∀ (s : Shared) (H : Hp) (C : Addr) (cl : List (Str × Addr)) (fp : List Addr), tt1 s H C cl fp = tt1 X.s_0 X.H_0 0 [] [] := by intros; rfl)
    (hs : ∀ x, foldedSetIterable iter X.env x = pure x := by intro _; rfl) (hs1 : ∀ env x, foldedSetIterable iter1 env x = pure x := by intro _ _; rfl) :
    AE X (.ListComp elt [⟨tg, iter, ifs, 0⟩, ⟨tg1, iter1, ifs1, 0⟩] scope pos) (tLc2 wi (g' X.s_0 X.H_0 0 [] []) (tt X.s_0 X.H_0 0 [] []) (wi1 X.s_0 X.H_0 0 [] []) (g1' X.s_0 X.H_0 0 [] []) (tt1 X.s_0 X.H_0 0 [] []) (te' X.s_0 X.H_0 0 [] []) (own.map (·.2)) own1) (wLc2 wI wg wt wI1 wg1 wt1 we (own.map (·.2)) own1) :=
  ⟨pe_lc2 hc hN hi.pi ok hv (fun s H C cl fp => by rw [← hgE s H C cl fp]; exact (hg s H C cl fp).pg) (fun s H C cl fp => by rw [← httE s H C cl fp]; exact (ht s H C cl fp).pt) (fun s H C cl fp => by rw [← hiE s H C cl fp]; exact (hi1 s H C cl fp).pi) (fun s H C cl fp => by rw [← hg1E s H C cl fp]; exact (hg1 s H C cl fp).pg) (fun s H C cl fp => by rw [← htt1E s H C cl fp]; exact (ht1 s H C cl fp).pt) (fun s H C cl fp => by rw [← hteE s H C cl fp]; exact (he s H C cl fp).pe) hs hs1,
   snd_lc2 hi.sd (hg X.s_0 X.H_0 0 [] []).sd (ht X.s_0 X.H_0 0 [] []).sd (hi1 X.s_0 X.H_0 0 [] []).sd (hg1 X.s_0 X.H_0 0 [] []).sd (ht1 X.s_0 X.H_0 0 [] []).sd (he X.s_0 X.H_0 0 [] []).sd hw hw1 hv⟩
end
end SX

set_option Elab.async false
set_option linter.all false
set_option maxRecDepth 100000
set_option maxHeartbeats 2000000
namespace SX
open PySem PySem.Spec PyProof.Rows L2
/-! ### sorted(set(t)), t a tuple of whole numbers -/
section
variable {X : Cx}
def rSetT (K : PySem.W.Frag) (w : World) : List V → Hp → VK → Prop := fun xs H Q => ∃ (p : Addr) (ns : List Int), xs = [.ref p] ∧ SqT K H p (ns.map V.int) ∧ ns.length ≤ 1000 ∧ ∀ q c, H q = none → c ≤ ns.length → Q (.ref q) (upd H q (SetO w q (fun j => decide (j ∈ ns)) c))
theorem cr_setT (hc : X.calm = true) : CallR X (.type "set") (rSetT X.K X.w) := by
  intro pins s σ H xs us Q I r h
  obtain ⟨p, ns, rfl, hq, hl, q⟩ := h
  obtain ⟨u, rfl, rx⟩ := vals1 r
  cases rx
  obtain ⟨its, rv, pt, hz⟩ := I.tuple hq
  have hi : IntsAre its.toArray.toList ns := ints_of_vals rv
  refine call_set_tupI ns (I.ok.hd hc) (show s.heap.IsTuple p its.toArray from pt) hi (by unfold scanBound; omega) fun h' tk c R1 hcn k => ?_
  exact ⟨.ref _, _, I.laid (t' := tk) k (Nat.le_refl _) (setO_new R1), rfl, q _ c (I.hok.fresh (Nat.le_refl _)) hcn⟩
end
section
variable {K : PySem.W.Frag}
def wSortSet (we : WE) : WE := fun ds Q => we ds fun ds1 x => match x with
  | .fz (.tuple l) => ∃ ns : List Int, l = ns.map PyData.int ∧ ns.length < 64 ∧ ∀ ns' : List Int, ns'.Pairwise (· < ·) → (∀ k, k ∈ ns' ↔ k ∈ ns) → Q ds1 (.ls (ns'.map PyData.int))
  | _ => False
theorem snd_sortSet {w : World} {te : TE} {we : WE} (he : SndE K te we) : SndE K (tCB (rSortedSet w) (tCons (tCB (rSetT K w) (tCons te tNil)) tNil)) (wSortSet we) := fun B m H σ ds ts vs Q R S h k =>
  he _ _ _ _ _ _ _ _ _ S h fun v H1 ds1 x S1 h1 => by
    split at h1
    · rename_i l
      obtain ⟨ns, rfl, hn, h1⟩ := h1
      obtain ⟨f, g, a, xs, c, rfl, hs, r⟩ := S1.tup1
      rw [r.ints] at hs
      refine ⟨a, ns, rfl, hs, by omega, fun q n hq hn' => ?_⟩
      refine ⟨q, _, n, rfl, upd_same, by omega, fun ns' p hp hm hl hpn => ?_⟩
      have c1 := c.pop.ext (upd_keep (o := SetO w q (fun j => decide (j ∈ ns)) n) hq)
      exact k _ _ _ _ (Stt.newL c1 (upd_keep hpn) hpn upd_same (Reps.of_ints ns')) (h1 ns' hp fun k => by rw [hm k, decide_eq_true_eq])
    · exact h1.elim
end
theorem ae_sortSet {X : Cx} {e : Expr} {te : TE} {we : WE} {p p2 pos pos2 : Pos} (hm : X.mg "sorted" = none) (hm2 : X.mg "set" = none) (he : AE X e te we) (hc : X.calm = true := by rfl) (hg : Gl X "sorted" := by rfl) (hg2 : Gl X "set" := by rfl)
    (h1 : starEach [.Call (.Name "set" p2) [e] [] pos2] X.env = (false, eval (.Call (.Name "set" p2) [e] [] pos2) X.env) :: starEach [] X.env := by rfl) (h2 : starEach [e] X.env = (false, eval e X.env) :: starEach [] X.env := by rfl)
    (hp1 : (backTo pos (starEach [] X.env)).any (·.1) = false := by rfl) (hp2 : (backTo pos2 (starEach [] X.env)).any (·.1) = false := by rfl) :
    AE X (.Call (.Name "sorted" p) [.Call (.Name "set" p2) [e] [] pos2] [] pos) (tCB (rSortedSet X.w) (tCons (tCB (rSetT X.K X.w) (tCons te tNil)) tNil)) (wSortSet we) :=
  ⟨pe_callB (cr_sortedSet hc) hg hm (by decide +kernel) (pa_cons (pe_callTy (cr_setT hc) hg2 hm2 (by decide +kernel) (pa_cons he.pe pa_nil h2) (by decide) (by decide) h2 hp2) pa_nil h1) (by decide) (by decide) h1 hp1, snd_sortSet he.sd⟩
/-! ### keyword-only parameters that are empty tuples if they are not told -/
/-- an empty tuple of the written part -/
def TupE (K : PySem.W.Frag) (T : Addr) : Prop := ∃ (o : Obj) (n : Nat), K.lookup T = some o ∧ o.cls = .type "tuple" ∧ o.dict = none ∧ o.data = .seq #[] n
theorem TupE.rep {K : PySem.W.Frag} {T : Addr} (h : TupE K T) {H : Hp} {Fz : Addr → Prop} : Rep K H Fz (.tuple []) (.ref T) := by
  obtain ⟨o, n, h1, h2, h3, h4⟩ := h
  exact .tup (.inr ⟨o, #[], n, h1, h2, h3, h4, Nat.zero_le _, .nil⟩) .nil
/-- a def with one such parameter, the last one -/
structure CalD (P : Program) (w : World) (K : PySem.W.Frag) (mg : Str → Option Value) (base : Heap) (k : Nat) (x : Str) (n : Nat) (kw : Str) (T : Addr) (sp : Sp) : Prop where
  ex : ∃ (f : Addr) (fd : FuncData) (ps : List Str), FnOk P w K mg base CX0 k f fd ps sp ∧ mg x = some (.ref f) ∧ PySem.W.keepIn K (.ref f) = true ∧ TupE K T ∧ (∃ ds, Vals [V.ref T] ds ∧ Binds K fd ps ds) ∧ KBn K fd ps n [kw] (fun us ws => us ++ ws) (fun vs zs => vs ++ zs)
section
variable {K : PySem.W.Frag} {ι : Type}
/-- .. not told -/
def wCallID (n : Nat) (args : ι → List D) (pre : ι → Prop) (post : ι → AV → Prop) (wa : WA) : WE := fun ds Q => wa ds fun ds1 xs => ∃ i, (vls ds1 xs).map (· ++ [.tuple []]) = some (args i) ∧ (args i).length = n ∧ pre i ∧ ∀ x, post i x → Q ds1 x
theorem snd_callD {n : Nat} {pre : List D → Prop} {post : List D → AV → Prop} {E : XK} {B : Hp} {m : Addr → Prop} {H1 : Hp} {σ : L2.St} {ds1 : Sto} {ts xs : List AV} {vs us : List V} {R : VK} {T : Addr} (hT : TupE K T) (S1 : Stt K B m H1 σ ds1 (xs.reverse ++ ts) (us.reverse ++ vs)) (hl : us.length = xs.length) {dl : List D} (e : (vls ds1 xs).map (· ++ [.tuple []]) = some dl) (en : dl.length = n) (p : pre dl) (k : ∀ v H' x, Stt K B m H' σ ds1 (x :: ts) (v :: vs) → post dl x → R v H') : spP n pre post K (us ++ [.ref T]) H1 R E := by
  obtain ⟨f, g, c⟩ := S1
  cases e2 : vls ds1 xs with
  | none => rw [e2] at e; cases e
  | some dl0 =>
    rw [e2] at e
    have e : dl0 ++ [.tuple []] = dl := Option.some.inj e
    obtain ⟨r, c⟩ := St0.argsV hl e2 c
    refine ⟨dl, by rw [← e]; exact r.append (.cons hT.rep .nil), en, p, fun v H' x hp hk nv => k v H' x (Stt.take c hk nv) hp⟩
theorem snd_callID {n : Nat} {args : ι → List D} {pre : ι → Prop} {post : ι → AV → Prop} {ta : TA} {wa : WA} {E : XK} {T : Addr} (hT : TupE K T) (ha : SndA K ta wa) : SndE K (tCall (fun vs H Q E => ∃ i, spP n (fun dl => dl = args i ∧ pre i) (fun _ x => post i x) K vs H Q E) [V.ref T] E ta) (wCallID n args pre post wa) := fun B m H σ ds ts vs Q R S h k =>
  ha _ _ _ _ _ _ _ _ _ S h fun us H1 ds1 xs S1 hl ⟨i, e, hn, p, h1⟩ => ⟨i, snd_callD hT S1 hl e hn ⟨rfl, p⟩ fun v H' x S2 hp => k v H' ds1 x S2 (h1 x hp)⟩
/-- .. told -/
def wCallIK (n n0 : Nat) (args : ι → List D) (pre : ι → Prop) (post : ι → AV → Prop) (wa wk : WA) : WE := fun ds Q => wa ds fun ds1 xs => wk ds1 fun ds2 ys => ∃ i, xs.length = n0 ∧ ys.length = 1 ∧ vls ds2 (xs ++ ys) = some (args i) ∧ (args i).length = n ∧ pre i ∧ ∀ x, post i x → Q ds2 x
theorem snd_callIK {n n0 : Nat} {args : ι → List D} {pre : ι → Prop} {post : ι → AV → Prop} {ta tk : TA} {wa wk : WA} {E : XK} (ha : SndA K ta wa) (hk : SndA K tk wk) : SndE K (tCallN n0 1 (fun vs H Q E => ∃ i, spP n (fun dl => dl = args i ∧ pre i) (fun _ x => post i x) K vs H Q E) (fun vs zs => vs ++ zs) E ta tk) (wCallIK n n0 args pre post wa wk) := fun B m H σ ds ts vs Q R S h k =>
  ha _ _ _ _ _ _ _ _ _ S h fun us H1 ds1 xs S1 hl h1 => hk _ _ _ _ _ _ _ _ _ S1 h1 fun zs H2 ds2 ys S2 hl2 ⟨i, e1, e2, e, hn, p, h2⟩ => by
    refine ⟨by rw [hl, e1], by rw [hl2, e2], i, ?_⟩
    have S3 : Stt K B m H2 σ ds2 ((xs ++ ys).reverse ++ ts) ((us ++ zs).reverse ++ vs) := by
      rw [List.reverse_append, List.reverse_append, List.append_assoc, List.append_assoc]
      exact S2
    obtain ⟨f, g, c⟩ := S3
    obtain ⟨r, c⟩ := St0.argsV (by rw [List.length_append, List.length_append, hl, hl2]) e c
    exact ⟨args i, r, hn, ⟨rfl, p⟩, fun v H' x hp hk nv => k v H' ds2 x (Stt.take c hk nv) (h2 x hp)⟩
end
structure AK (X : Cx) (kws : List Keyword) (t : TA) (w : WA) : Prop where
  pk : PK X kws t
  sd : SndA X.K t w
section
variable {X : Cx} {e e2 : Expr} {es : List Expr} {t tk : TA} {w wk : WA} {p pos kpos : Pos} {ι : Type} {args : ι → List D} {pre : ι → Prop} {post : ι → AV → Prop} {te : TE} {we : WE} {nm : Option Str} {kws : List Keyword}
theorem ak_one (ha : AE X e te we) : AK X [⟨nm, e, kpos⟩] (tCons te tNil) (wCons we wNil) := ⟨pk_cons ha.pe pk_nil, snd_cons ha.sd snd_nil⟩
theorem ae_callID {x kw : Str} {k j n n0 : Nat} {T : Addr} (C : CalD X.prog X.w X.K X.mg X.base k x n0 kw T (fun vs H Q E => ∃ i, spP n (fun dl => dl = args i ∧ pre i) (fun _ x => post i x) X.K vs H Q E)) (hr : Room j X.A) (ha : AA X (e :: es) t w) (hk : k ≤ j := by decide) (hg : Gl X x := by rfl) (hdb : (x == ("__debug__" : Str)) = false := by decide)
    (he : starEach (e :: es) X.env = (false, eval e X.env) :: starEach es X.env := by rfl) (hpl : (backTo pos (starEach es X.env)).any (·.1) = false := by rfl) : AE X (.Call (.Name x p) (e :: es) [] pos) (tCall (fun vs H Q E => ∃ i, spP n (fun dl => dl = args i ∧ pre i) (fun _ x => post i x) X.K vs H Q E) [V.ref T] E0 t) (wCallID n args pre post w) := by
  obtain ⟨f, fd, ps, F, g, kp, hT, ⟨ds, hv, b⟩, _⟩ := C.ex
  exact ⟨pe_call F (hr.mono hk) hg g kp b hv pass0 ha.pa hdb he hpl, snd_callID hT ha.sd⟩
theorem ae_callIK {x kw : Str} {k j n n0 : Nat} {T : Addr} (C : CalD X.prog X.w X.K X.mg X.base k x n0 kw T (fun vs H Q E => ∃ i, spP n (fun dl => dl = args i ∧ pre i) (fun _ x => post i x) X.K vs H Q E)) (hr : Room j X.A) (ha : AA X (e :: es) t w) (hw : AK X kws tk wk) (hk : k ≤ j := by decide) (hg : Gl X x := by rfl) (hdb : (x == ("__debug__" : Str)) = false := by decide)
    (hall : (backToKw pos (keywordEach kws X.env)).all (·.1.isSome) = true := by rfl) (hks : (backToKw pos (keywordEach kws X.env)).filterMap (·.1) = [kw] := by rfl)
    (he : starEach (e :: es) X.env = (false, eval e X.env) :: starEach es X.env := by rfl) (hpl : ((backTo pos (starEach (e :: es) X.env)).any (·.1) || (backToKw pos (keywordEach kws X.env)).any (·.1.isNone)) = false := by rfl) :
    AE X (.Call (.Name x p) (e :: es) kws pos) (tCallN n0 1 (fun vs H Q E => ∃ i, spP n (fun dl => dl = args i ∧ pre i) (fun _ x => post i x) X.K vs H Q E) (fun vs zs => vs ++ zs) E0 t tk) (wCallIK n n0 args pre post w wk) := by
  obtain ⟨f, fd, ps, F, g, kp, hT, _, b⟩ := C.ex
  exact ⟨pe_callN F (hr.mono hk) hg g kp b pass0 ha.pa hw.pk hall hks hdb he hpl, snd_callIK ha.sd hw.sd⟩
end
end SX

set_option Elab.async false
set_option linter.all false
set_option maxRecDepth 100000
set_option maxHeartbeats 2000000
namespace SX
open PySem PySem.Spec PyProof.Rows L2
/-! ### zip of two tuples (or two lists): each pair a new tuple, laid with its record -/
section
def SqA (tl : Bool) (K : PySem.W.Frag) (H : Hp) (a : Addr) (xs : List V) : Prop := if tl then SqT K H a xs else SqL K H a xs
def ItzB (tl : Bool) (K : PySem.W.Frag) (a b : Addr) : It where
  go := fun j H => ∃ (us ws : List V) (u w : V), SqA tl K H a us ∧ SqA tl K H b ws ∧ us[j]? = some u ∧ ws[j]? = some w
  yld := fun j H v H' => ∃ (T : Addr) (u w : V), v = .ref T ∧ H T = none ∧ (∃ o : Obj, o.dict = none ∧ H' = upd H T (.frz o (.tup [u, w]))) ∧ (∀ us, SqA tl K H a us → us[j]? = some u) ∧ ∀ ws, SqA tl K H b ws → ws[j]? = some w
  stop := fun j H => ∃ us ws : List V, SqA tl K H a us ∧ SqA tl K H b ws ∧ (us.length ≤ j ∨ ws.length ≤ j)
def five (q r1 r2 k1 k2 : Addr) : List Addr := [q, r1, r2, k1, k2]
theorem five_mem {q r1 r2 k1 k2 c : Addr} (h : c ∈ five q r1 r2 k1 k2) : c = q ∨ c = r1 ∨ c = r2 ∨ c = k1 ∨ c = k2 := by
  unfold five at h
  simpa using h
theorem five_not {q r1 r2 k1 k2 c : Addr} (h : c ∉ five q r1 r2 k1 k2) : c ≠ q ∧ c ≠ r1 ∧ c ≠ r2 ∧ c ≠ k1 ∧ c ≠ k2 := by
  unfold five at h
  simpa using h
def IterA (tl : Bool) (h : Heap) (k a : Addr) (j : Nat) : Prop := if tl then h.IsTupleIter k a j else h.IsListIter k a j
theorem IterA.rec {tl : Bool} {h : Heap} {k a : Addr} {j : Nat} (x : IterA tl h k a j) : ∃ o, h.get? k = some o ∧ ∀ v, o.data ≠ .cell v := by
  cases tl with
  | true =>
    obtain ⟨o, e, _, d⟩ : h.IsTupleIter k a j := x
    exact ⟨o, e, fun v q => by rw [d] at q; cases q⟩
  | false =>
    obtain ⟨o, e, _, d⟩ : h.IsListIter k a j := x
    exact ⟨o, e, fun v q => by rw [d] at q; cases q⟩
theorem IterA.to {tl : Bool} {h h' : Heap} {k a : Addr} {j : Nat} (x : IterA tl h k a j) (keep : ∀ o, h.get? k = some o → h'.get? k = some o) : IterA tl h' k a j := by
  cases tl with
  | true => exact (show h.IsTupleIter k a j from x).at keep
  | false => exact (show h.IsListIter k a j from x).at keep
def IsA (tl : Bool) (h : Heap) (a : Addr) (xs : Array Value) : Prop := if tl then h.IsTuple a xs else h.IsList a xs
theorem IsA.lt {tl : Bool} {h : Heap} {a : Addr} {xs : Array Value} (x : IsA tl h a xs) : a < h.objs.size := by
  cases tl with
  | true =>
    obtain ⟨o, e, _⟩ := (show h.IsTuple a xs from x)
    exact Heap.lt_size e
  | false =>
    obtain ⟨o, e, _⟩ := (show h.IsList a xs from x)
    exact Heap.lt_size e
theorem SqA.is {tl : Bool} {X : Cx} {pins : List (Addr × Obj)} {σ : L2.St} {H : Hp} {s : Shared} {a : Addr} {xs : List V} (I : Inv X pins σ H s) (h : SqA tl X.K H a xs) : ∃ its : List Value, Vals xs its ∧ IsA tl s.heap a its.toArray := by
  cases tl with
  | true =>
    obtain ⟨its, rv, p, _⟩ := I.tuple (show SqT X.K H a xs from h)
    exact ⟨its, rv, p⟩
  | false =>
    obtain ⟨its, rv, p, _⟩ := I.list (show SqL X.K H a xs from h)
    exact ⟨its, rv, p.isList⟩
theorem SqA.inj {tl : Bool} {X : Cx} {pins : List (Addr × Obj)} {σ : L2.St} {H : Hp} {s : Shared} {a : Addr} {xs ys : List V} (I : Inv X pins σ H s) (h : SqA tl X.K H a xs) (h2 : SqA tl X.K H a ys) : xs = ys := by
  cases tl with
  | true => exact I.tuple_inj (show SqT X.K H a xs from h) (show SqT X.K H a ys from h2)
  | false => exact I.list_inj (show SqL X.K H a xs from h) (show SqL X.K H a ys from h2)
section
variable {P : Program} {w : World} {A : Around} {E : Value → Shared → Prop} {s : Shared} {q r1 r2 k1 k2 a b : Addr} {j : Nat} {xs ys : Array Value} {x0 y0 : Value} {Q : Option Value → Shared → Prop}
/-- what is kept beside the zip's own parts -/
def KeptZ (q r2 k1 k2 : Addr) (h h' : Heap) : Prop := ∀ c o, (c ≠ q ∧ c ≠ r2 ∧ c ≠ k1 ∧ c ≠ k2) → h.get? c = some o → h'.get? c = some o
theorem nextA {tl : Bool} {u v : Value} (D : ZipApart q r1 r2 k1 k2 a b) (sz : IsZip s.heap q r1 r2 .none) (s1 : IsPair s.heap r1 (.ref k1) (.ref k2)) (s2 : IsPair s.heap r2 x0 y0) (t1 : IterA tl s.heap k1 a j) (t2 : IterA tl s.heap k2 b j) (pa : IsA tl s.heap a xs) (pb : IsA tl s.heap b ys) (hu : xs[j]? = some u) (hv : ys[j]? = some v)
    (h : ∀ h', IsZip h' q r1 r2 (rawInt s.heap.objs.size) → IsPair h' r2 u v → IterA tl h' k1 a (j + 1) ∧ IterA tl h' k2 b (j + 1) → IsPair h' s.heap.objs.size u v → KeptZ q r2 k1 k2 s.heap h' → Q (some (.ref s.heap.objs.size)) { s with heap := h' }) : wpAny (model P w) A (pyNext (.ref q)) Q E s := by
  cases tl with
  | true => exact RZ.pyNext_zipT_item D sz s1 s2 t1 t2 pa pb hu hv fun h' e1 e2 e3 e4 e5 _ e6 => h h' e1 e2 ⟨e3, e4⟩ e5 fun c o n => e6 c o n.1 n.2.1 n.2.2.1 n.2.2.2
  | false => exact wpAny_pyNext_zip_item D sz s1 s2 t1 t2 pa pb hu hv fun h' e1 e2 e3 e4 e5 _ e6 => h h' e1 e2 ⟨e3, e4⟩ e5 fun c o n => e6 c o n.1 n.2.1 n.2.2.1 n.2.2.2
theorem endA {tl : Bool} (hh : A.handled = none) (D : ZipApart q r1 r2 k1 k2 a b) (sz : IsZip s.heap q r1 r2 .none) (s1 : IsPair s.heap r1 (.ref k1) (.ref k2)) (s2 : IsPair s.heap r2 x0 y0) (t1 : IterA tl s.heap k1 a j) (t2 : IterA tl s.heap k2 b j) (pa : IsA tl s.heap a xs) (pb : IsA tl s.heap b ys) (he : xs[j]? = none ∨ ys[j]? = none)
    (h : ∀ h', KeptZ q r2 k1 k2 s.heap h' → Q none { s with heap := h' }) : wpAny (model P w) A (pyNext (.ref q)) Q E s := by
  cases tl with
  | true => exact RZ.pyNext_zipT_end hh D sz s1 s2 t1 t2 pa pb he fun h' e => h h' fun c o n => e c o n.1 n.2.1 n.2.2.1 n.2.2.2
  | false => exact wpAny_pyNext_zip_end hh D sz s1 s2 t1 t2 pa pb he fun h' e => h h' fun c o n => e c o n.1 n.2.1 n.2.2.1 n.2.2.2
end
theorem turn_zipB {tl : Bool} {P : Program} {w : World} {K : PySem.W.Frag} {ys : List Expr} {m : Nat} {tp : Pos} {a b q r1 r2 k1 k2 : Addr} (D : ZipApart q r1 r2 k1 k2 a b) :
    Turn P w K (.Tuple ys m tp) (ItzB tl K a b) (five q r1 r2 k1 k2) q (fun j h => (IsZip h q r1 r2 .none ∧ IsPair h r1 (.ref k1) (.ref k2)) ∧ (∃ x y, IsPair h r2 x y) ∧ IterA tl h k1 a j ∧ IterA tl h k2 b j) where
  mem := List.mem_cons_self
  obj := fun j h S c hc => by
    obtain ⟨⟨sz, s1⟩, ⟨x, y, s2⟩, t1, t2⟩ := S
    rcases five_mem hc with rfl | rfl | rfl | rfl | rfl
    · exact ⟨_, sz, fun v n => nomatch n⟩
    · exact ⟨_, s1, fun v n => nomatch n⟩
    · exact ⟨_, s2, fun v n => nomatch n⟩
    · exact t1.rec
    · exact t2.rec
  keep := fun j h h' S kp => by
    obtain ⟨⟨sz, s1⟩, ⟨x, y, s2⟩, t1, t2⟩ := S
    refine ⟨⟨kp _ (by simp [five]) _ sz, kp _ (by simp [five]) _ s1⟩, ⟨x, y, kp _ (by simp [five]) _ s2⟩, t1.to fun o e => kp _ (by simp [five]) o e, t2.to fun o e => kp _ (by simp [five]) o e⟩
  item := by
    intro X eP ew eK calm j pins s σ H E I hfp S hg
    subst eP
    subst ew
    subst eK
    obtain ⟨⟨sz, s1⟩, ⟨x0, y0, s2⟩, t1, t2⟩ := S
    obtain ⟨us, ws, u, w, qa, qb, hu, hw⟩ := hg
    obtain ⟨ia, ra, pa⟩ := SqA.is I qa
    obtain ⟨ib, rb, pb⟩ := SqA.is I qb
    obtain ⟨a1, ha1, ru⟩ := ra.get hu
    obtain ⟨a2, ha2, rw'⟩ := rb.get hw
    have lq : q < s.heap.objs.size := Heap.lt_size sz
    have low : ∀ c, c ∈ five q r1 r2 k1 k2 → c < s.heap.objs.size := fun c hc => by
      rcases five_mem hc with rfl | rfl | rfl | rfl | rfl
      · exact lq
      · exact Heap.lt_size s1
      · exact Heap.lt_size s2
      · obtain ⟨_, e, _⟩ := t1.rec; exact Heap.lt_size e
      · obtain ⟨_, e, _⟩ := t2.rec; exact Heap.lt_size e
    refine nextA (u := a1) (v := a2) D sz s1 s2 t1 t2 pa pb (by simpa using ha1) (by simpa using ha2) fun g z1 p2 its pT kz => ?_
    refine ⟨_, rfl, wpAny_letOwnedTupleGo_zip (s := { s with heap := g }) z1 fun g2 z2 sb => ?_⟩
    let T := s.heap.objs.size
    let rec0 : Obj := { cls := .type "tuple", data := .seq #[a1, a2] }
    have hT : g2.get? T = some rec0 := (sb.2 _ (Nat.ne_of_gt lq)).trans pT
    have made : ObjOk X.prog X.w (upd H T (.frz rec0 (.tup [u, w]))) g2 T (.frz rec0 (.tup [u, w])) := ⟨hT, by show 2 ≤ sizeLine; decide, [a1, a2], .cons ru (.cons rw' .nil), ⟨_, hT, rfl, _, rfl⟩⟩
    have kall : ∀ c o, c ∉ five q r1 r2 k1 k2 → s.heap.get? c = some o → g2.get? c = some o := fun c o nc e => by
      obtain ⟨n1, n2, n3, n4, n5⟩ := five_not nc
      exact (sb.2 c n1).trans (kz c o ⟨n1, n3, n4, n5⟩ e)
    have J : Inv X pins σ (upd H T (.frz rec0 (.tup [u, w]))) { s with heap := g2 } := I.turnedNew (t' := s.toks) (ch := five q r1 r2 k1 k2) kall hfp (Nat.le_refl _) made
    refine ⟨.ref T, _, J, rfl, ⟨T, u, w, rfl, I.hok.fresh (Nat.le_refl _), ⟨rec0, rfl, rfl⟩, fun ls e => by rw [SqA.inj I e qa]; exact hu, fun ls e => by rw [SqA.inj I e qb]; exact hw⟩, ⟨⟨z2, ?_⟩, ⟨a1, a2, ?_⟩, ?_, ?_⟩, fun c hc => ?_⟩
    · exact (sb.2 _ D.TIz).trans (kz _ _ ⟨D.TIz, D.TITO, D.TIi1, D.TIi2⟩ s1)
    · exact (sb.2 _ D.TOz).trans p2
    · exact its.1.to fun o e => (sb.2 _ D.i1z).trans e
    · exact its.2.to fun o e => (sb.2 _ D.i2z).trans e
    · rw [upd_ne (Nat.ne_of_lt (low c hc))]
      exact (hfp c hc).1
  done := by
    intro X eP ew eK calm j pins s σ H E I hfp S hg
    subst eP
    subst ew
    subst eK
    obtain ⟨⟨sz, s1⟩, ⟨x0, y0, s2⟩, t1, t2⟩ := S
    obtain ⟨us, ws, qa, qb, hend⟩ := hg
    obtain ⟨ia, ra, pa⟩ := SqA.is I qa
    obtain ⟨ib, rb, pb⟩ := SqA.is I qb
    have l1 := ra.length
    have l2 := rb.length
    refine endA (I.ok.hd calm) D sz s1 s2 t1 t2 pa pb ?_ fun g kz => ⟨rfl, I.turnedL (t' := s.toks) (ch := five q r1 r2 k1 k2) (fun c o nc e => ?_) hfp⟩
    · rcases hend with n | n
      · exact .inl (by simp; omega)
      · exact .inr (by simp; omega)
    · obtain ⟨n1, n2, n3, n4, n5⟩ := five_not nc
      exact kz c o ⟨n1, n3, n4, n5⟩ e
  self := fun A j s Q E S h => wpAny_pyIter_zip S.1.1 h
def iZipB (K : PySem.W.Frag) (ta : TA) : TI := fun σ H R => ta σ H fun vs H1 => ∃ (tl : Bool) (a b : Addr) (us ws : List V), vs = [.ref a, .ref b] ∧ SqA tl K H1 a us ∧ SqA tl K H1 b ws ∧ R (ItzB tl K a b) H1
theorem pi_zipB {X : Cx} {e e2 : Expr} {ta : TA} {p pos tp : Pos} {ys : List Expr} {m : Nat} (hg : Gl X "zip") (hm : X.mg "zip" = none) (ha : PA X [e, e2] ta)
    (n1 : starEach [e, e2] X.env = (false, eval e X.env) :: starEach [e2] X.env := by rfl) (n2 : (backTo pos (starEach [e2] X.env)).any (·.1) = false := by rfl) :
    PI X (.Tuple ys m tp) (.Call (.Name "zip" p) [e, e2] [] pos) (iZipB X.K ta) := by
  refine ⟨fun pins s σ H R I h => Call_ (ld_blt I hg hm PyProof.Rows.boot_zip (PyProof.Rows.callWith_type1 (thn (ha.run pos pins s σ H _ I h) ?_) n1 n2))⟩
  rintro us s1 ⟨vs, H1, I1, rv, tl, a, b, xs, zs, rfl, qa, qb, q⟩
  match us, rv with
  | [_, _], .cons ra (.cons rb .nil) =>
    cases ra
    cases rb
    obtain ⟨ia, va, pa⟩ := SqA.is I1 qa
    obtain ⟨ib, vb, pb⟩ := SqA.is I1 qb
    let n := s1.heap.objs.size
    have fresh : ∀ c, c ∈ five (n + 4) (n + 2) (n + 3) n (n + 1) → FpOk X pins H1 c := fun c hc => by
      have le : n ≤ c := by
        rcases five_mem hc with rfl | rfl | rfl | rfl | rfl <;> omega
      exact I1.fpOk le (I1.hok.fresh le)
    have ap := PySem.W.ktu_apart n a b pa.lt pb.lt
    cases tl with
    | true => exact RZ.call_zipT (show s1.heap.IsTuple a ia.toArray from pa) (show s1.heap.IsTuple b ib.toArray from pb) fun g e1 e2 e3 e4 e5 _ kp => wpAny_pyIter_zip e1 ⟨n + 4, five (n + 4) (n + 2) (n + 3) n (n + 1), _, _, H1, rfl, I1.kept (t' := s1.toks) kp, turn_zipB (tl := true) ap, ⟨⟨e1, e2⟩, ⟨_, _, e3⟩, e4, e5⟩, fresh, q⟩
    | false => exact call_zip_2 (show s1.heap.IsList a ia.toArray from pa) (show s1.heap.IsList b ib.toArray from pb) fun g e1 e2 e3 e4 e5 _ kp => wpAny_pyIter_zip e1 ⟨n + 4, five (n + 4) (n + 2) (n + 3) n (n + 1), _, _, H1, rfl, I1.kept (t' := s1.toks) kp, turn_zipB (tl := false) ap, ⟨⟨e1, e2⟩, ⟨_, _, e3⟩, e4, e5⟩, fresh, q⟩
end
section
variable {K : PySem.W.Frag}
def sqD (tl : Bool) (l : List D) : D := if tl then .tuple l else .list l
theorem Rep.sqA {tl : Bool} {H : Hp} {Fz : Addr → Prop} {l : List D} {v : V} (h : Rep K H Fz (sqD tl l) v) : ∃ a xs, v = .ref a ∧ SqA tl K H a xs ∧ Reps K H Fz l xs := by
  cases tl with
  | true =>
    obtain ⟨a, xs, e, f, r⟩ := Rep.tup_inv (show Rep K H Fz (.tuple l) v from h)
    exact ⟨a, xs, e, f.sqt, r⟩
  | false =>
    obtain ⟨a, xs, e, f, r⟩ := Rep.lst_inv (show Rep K H Fz (.list l) v from h)
    exact ⟨a, xs, e, f.sql, r⟩
theorem itzB_for {tl : Bool} {l m : List D} {a b : Addr} : ItFor K (ItzB tl K a b) [sqD tl m, sqD tl l] [.ref b, .ref a] (zips l m) := fun H Fz h => by
  cases h with
  | cons h1 h2 =>
    obtain ⟨b', ys, e, qb, rb⟩ := h1.sqA
    cases e
    obtain ⟨a', xs, e, qa, ra⟩ := h2.one.sqA
    cases e
    have la := ra.length
    have lb := rb.length
    rw [zips_len]
    refine ⟨fun i hi => ?_, fun i hi => ⟨xs, ys, qa, qb, by omega⟩, fun i y H' hi hy => ?_⟩
    · obtain ⟨v, hv, _⟩ := ra.get (List.getElem?_eq_getElem (show i < l.length by omega))
      obtain ⟨u, hu, _⟩ := rb.get (List.getElem?_eq_getElem (show i < m.length by omega))
      exact ⟨xs, ys, v, u, qa, qb, hv, hu⟩
    · obtain ⟨T, x, y2, rfl, hT, ⟨o, ho, rfl⟩, hx, hy⟩ := hy
      obtain ⟨d, hd, rd⟩ := ra.getV (hx xs qa)
      obtain ⟨d2, hd2, rd2⟩ := rb.getV (hy ys qb)
      exact ⟨_, zips_get hd hd2, upd_keep hT, .tup (BT.of upd_same ho) (.cons (rd.keep (upd_keep hT)) (.cons (rd2.keep (upd_keep hT)) .nil))⟩
def wZip (wa : WA) : WI := fun ds Q => wa ds fun ds1 xs => match xs with
  | [.fz (.tuple l), .fz (.tuple m)] => Q ds1 (zips l m)
  | [.fz (.list l), .fz (.list m)] => Q ds1 (zips l m)
  | _ => False
theorem snd_zip {ta : TA} {wa : WA} (ha : SndA K ta wa) : SndI K (iZipB K ta) (wZip wa) := fun B m H σ ds ts vs Q R S h k =>
  ha _ _ _ _ _ _ _ _ _ S h fun us H1 ds1 xs S1 hl h1 => by
    have go : ∀ (tl : Bool) (l m' : List D) (u1 u2 : V), Stt K B m H1 σ ds1 (.fz (sqD tl m') :: .fz (sqD tl l) :: ts) (u2 :: u1 :: vs) → Q ds1 (zips l m') → ∃ (tl : Bool) (a b : Addr) (us ws : List V), [u1, u2] = [V.ref a, V.ref b] ∧ SqA tl K H1 a us ∧ SqA tl K H1 b ws ∧ R (ItzB tl K a b) H1 := fun tl l m' u1 u2 S2 q => by
      obtain ⟨f, g, c⟩ := id S2
      obtain ⟨w2, e2, r2⟩ := c.top
      cases e2
      obtain ⟨w1, e1, r1⟩ := c.pop.top
      cases e1
      obtain ⟨b, ys, rfl, qb, _⟩ := r2.sqA
      obtain ⟨a, zs, rfl, qa, _⟩ := r1.sqA
      exact ⟨tl, a, b, zs, ys, rfl, qa, qb, k _ _ _ [sqD tl m', sqD tl l] [.ref b, .ref a] _ S2 rfl itzB_for q⟩
    split at h1
    · rename_i l m'
      match us, hl with
      | [u1, u2], _ => exact go true l m' u1 u2 S1 h1
    · rename_i l m'
      match us, hl with
      | [u1, u2], _ => exact go false l m' u1 u2 S1 h1
    · exact h1.elim
end
theorem ai_zip {X : Cx} {e e2 : Expr} {t : TA} {w : WA} {p pos tp : Pos} {ys : List Expr} {m : Nat} (hm : X.mg "zip" = none) (ha : AA X [e, e2] t w) (hg : Gl X "zip" := by rfl) (n1 : starEach [e, e2] X.env = (false, eval e X.env) :: starEach [e2] X.env := by rfl) (n2 : (backTo pos (starEach [e2] X.env)).any (·.1) = false := by rfl) :
    AI X (.Tuple ys m tp) (.Call (.Name "zip" p) [e, e2] [] pos) (iZipB X.K t) (wZip w) := ⟨pi_zipB hg hm ha.pa n1 n2, snd_zip ha.sd⟩
end SX

set_option Elab.async false
set_option linter.all false
set_option maxRecDepth 100000
set_option maxHeartbeats 2000000
namespace SX
open PySem PySem.Spec PyProof.Rows L2
section
variable {K : PySem.W.Frag}
/-! ### xs[::-1] -/
def wRevL (we : WE) : WE := fun ds Q => we ds fun ds1 x => match lsOf ds1 x with
  | some l => Q ds1 (.ls l.reverse)
  | none => False
theorem snd_revL {te : TE} {we : WE} (he : SndE K te we) : SndE K (tRevL K te) (wRevL we) := fun B m H σ ds ts vs Q R S h k =>
  he _ _ _ _ _ _ _ _ _ S h fun v H1 ds1 x S1 h1 => by
    split at h1
    · rename_i l hl
      obtain ⟨f, g, a, xs, c, rfl, hs, r⟩ := S1.reps1 hl
      exact ⟨a, xs, rfl, hs, fun p hp => k _ _ _ _ (Stt.newL c.pop (upd_keep hp) hp upd_same (r.reverse.keep (upd_keep hp))) h1⟩
    · exact h1.elim
end
theorem ae_revL {X : Cx} {e : Expr} {te : TE} {we : WE} {k : Nat} {p1 p2 p3 pos : Pos} (he : AE X e te we) : AE X (.Subscript e (.Slice none none (some (.UnaryOp .USub (.Constant (.int 1) k p1) p2)) p3) pos) (tRevL X.K te) (wRevL we) := ⟨pe_revL he.pe, snd_revL he.sd⟩
end SX

set_option Elab.async false
set_option linter.all false
set_option maxRecDepth 100000
set_option maxHeartbeats 2000000
namespace SX
open PySem PySem.Spec PyProof.Rows L2
/-- the law's dice: nothing is known of what they draw but that it lies in its range -/
def DiceL (l : List D) : Prop := ∃ (a b : Int) (r : List Int), l = .int a :: .int b :: r.map PyData.int ∧ 0 ≤ a ∧ a < 2147483647 ∧ 0 ≤ b ∧ (∀ c ∈ r, 0 ≤ c) ∧ r.length ≤ 63
theorem DiceL.imm {l : List D} (h : DiceL l) : imms l = true := by
  obtain ⟨a, b, r, rfl, _⟩ := h
  have := imms_ints r
  simp [imms, SX.imm, this]
/-- a function that draws by the dice: its first argument is the dice -/
def preD (P : List D → Prop) (l dl : List D) : Prop := DiceL l ∧ P dl
def postD (Q : List D → AV → Prop) (_ dl l' : List D) (x : AV) : Prop := DiceL l' ∧ Q dl x
/-- what the dice keep of the script -/
def dFil : D → Option D
  | .int c => if (10 : Int) ^ 18 ≤ c then some (.int c) else none
  | _ => none
theorem dFil_all : ∀ ns : List Int, ∃ r : List Int, (ns.map PyData.int).filterMap dFil = r.map PyData.int ∧ r.length ≤ ns.length ∧ ∀ c ∈ r, 0 ≤ c
  | [] => ⟨[], rfl, Nat.le_refl _, fun c h => nomatch h⟩
  | n :: ns => by
    obtain ⟨r, e, hl, h0⟩ := dFil_all ns
    rw [List.map_cons]
    by_cases h : (10 : Int) ^ 18 ≤ n
    · have q : dFil (.int n) = some (.int n) := if_pos h
      refine ⟨n :: r, ?_, by simp; omega, fun c hc => ?_⟩
      · rw [List.filterMap_cons_some q, e]
        rfl
      · rcases List.mem_cons.mp hc with q | q
        · rw [q]
          exact Int.le_trans (by decide) h
        · exact h0 c q
    · have q : dFil (.int n) = none := if_neg h
      refine ⟨r, ?_, by simp; omega, h0⟩
      rw [List.filterMap_cons_none q, e]
/-- data that may be compared and handed on -/
def fit (n : Nat) (d : D) : Bool := d.canLay0 && decide (d.depth ≤ n) && imm d
def fits (n : Nat) (l : List D) : Bool := l.all (fit n)
theorem fit_shaped {n : Nat} {d : D} (h : fit n d = true) (hn : n ≤ 64) : SeqAt.shaped d = true := by
  unfold fit at h
  simp only [Bool.and_eq_true, decide_eq_true_eq] at h
  unfold SeqAt.shaped
  simp only [Bool.and_eq_true, decide_eq_true_eq]
  exact ⟨h.1.1, by omega⟩
theorem fits_parts {n : Nat} : ∀ {l : List D}, fits n l = true → PyData.canLayAll0 l = true ∧ PyData.depthAll l ≤ n ∧ imms l = true
  | [], _ => ⟨by simp [PyData.canLayAll0], by simp [PyData.depthAll], rfl⟩
  | x :: l, h => by
    unfold fits at h
    rw [List.all_cons, Bool.and_eq_true] at h
    obtain ⟨a, b, c⟩ := fits_parts (l := l) h.2
    have q := h.1
    unfold fit at q
    simp only [Bool.and_eq_true, decide_eq_true_eq] at q
    refine ⟨by simp [PyData.canLayAll0, q.1.1, a], ?_, by simp [imms, q.2, c]⟩
    simp only [PyData.depthAll]
    omega
theorem fit_tup {n : Nat} {l : List D} (h : fits n l = true) : fit (n + 1) (.tuple l) = true := by
  obtain ⟨a, b, c⟩ := fits_parts h
  unfold fit
  simp only [Bool.and_eq_true, decide_eq_true_eq]
  exact ⟨⟨by simpa [PyData.canLay0] using a, by simp [PyData.depth]; omega⟩, by simpa [imm] using c⟩
/-- lists, too, may be compared -/
theorem shaped_list {n : Nat} {l : List D} (h : fits n l = true) (hn : n ≤ 60) : SeqAt.shaped (.list l) = true := by
  obtain ⟨a, b, c⟩ := fits_parts h
  unfold SeqAt.shaped
  simp only [Bool.and_eq_true, decide_eq_true_eq]
  exact ⟨by simpa [PyData.canLay0] using a, by simp [PyData.depth]; omega⟩
theorem shaped_nil : SeqAt.shaped (.list []) = true := by decide
theorem fits_ints (n : Nat) : ∀ ns : List Int, fits n (ns.map PyData.int) = true
  | [] => rfl
  | x :: ns => by
    unfold fits
    rw [List.map_cons, List.all_cons, Bool.and_eq_true]
    exact ⟨by simp [fit, PyData.canLay0, PyData.depth, imm], fits_ints n ns⟩
theorem fit_ints (n : Nat) (ns : List Int) : fit (n + 1) (.tuple (ns.map PyData.int)) = true := fit_tup (fits_ints n ns)
theorem fits_tups (n : Nat) : ∀ rs : List (List Int), fits (n + 1) (rs.map fun r => PyData.tuple (r.map PyData.int)) = true
  | [] => rfl
  | r :: rs => by
    unfold fits
    rw [List.map_cons, List.all_cons, Bool.and_eq_true]
    exact ⟨fit_ints n r, fits_tups n rs⟩
theorem fits_perm {n : Nat} {l m : List D} (p : l.Perm m) (h : fits n m = true) : fits n l = true := by
  unfold fits at h ⊢
  rw [List.all_eq_true] at h ⊢
  exact fun x hx => h x (p.mem_iff.mp hx)
theorem fits_imm {n : Nat} {l : List D} (h : fits n l = true) : imms l = true := (fits_parts h).2.2
theorem fits_app {n : Nat} {l m : List D} (h : fits n (l ++ m) = true) : fits n l = true ∧ fits n m = true := by
  unfold fits at h ⊢
  rw [List.all_append, Bool.and_eq_true] at h
  exact h
theorem eraseIdx_perm {α : Type} {l : List α} {i : Nat} {x : α} (h : l[i]? = some x) : (x :: l.eraseIdx i).Perm l := by
  induction l generalizing i with
  | nil => simp at h
  | cons y l ih =>
    cases i with
    | zero =>
      simp at h
      subst h
      exact List.Perm.refl _
    | succ i =>
      simp at h
      exact (List.Perm.swap y x _).trans ((ih h).cons y)
/-- a natural number as data -/
def nt (n : Nat) : D := .int (n : Int)
def nts (l : List Nat) : List D := l.map nt
theorem nts_ints (l : List Nat) : nts l = (l.map fun n : Nat => (n : Int)).map PyData.int := by
  unfold nts
  rw [List.map_map]
  rfl
theorem nts_len (l : List Nat) : (nts l).length = l.length := by unfold nts; rw [List.length_map]
theorem nts_get {l : List Nat} {i n : Nat} (h : l[i]? = some n) : (nts l)[i]? = some (nt n) := by
  unfold nts
  rw [List.getElem?_map, h]
  rfl
theorem nts_at {l : List Nat} {i : Nat} {d : D} (h : (nts l)[i]? = some d) : ∃ n, d = nt n ∧ l[i]? = some n := by
  unfold nts at h
  rw [List.getElem?_map] at h
  cases e : l[i]? with
  | none => rw [e] at h; cases h
  | some c => rw [e] at h; exact ⟨c, (Option.some.inj h).symm, rfl⟩
theorem nts_fit (n : Nat) (l : List Nat) : fits n (nts l) = true := by
  rw [nts_ints]
  exact fits_ints n _
theorem nts_imm (l : List Nat) : imms (nts l) = true := fits_imm (nts_fit 0 l)
theorem nts_app (l m : List Nat) : nts (l ++ m) = nts l ++ nts m := by unfold nts; rw [List.map_append]
theorem nts_set (l : List Nat) (i n : Nat) : (nts l).set i (nt n) = nts (l.set i n) := by unfold nts; rw [List.map_set]
theorem rng_nts (n : Nat) : rng 0 n = nts (List.range n) := by
  unfold rng nts
  refine List.map_congr_left fun k _ => ?_
  show PyData.int (0 + (k : Int)) = PyData.int (k : Int)
  rw [Int.zero_add]
def unt : D → Nat
  | .int i => i.toNat
  | _ => 0
theorem unt_nt (n : Nat) : unt (nt n) = n := rfl
theorem unt_nts (l : List Nat) : (nts l).map unt = l := by
  unfold nts
  rw [List.map_map]
  exact List.map_id l
theorem nts_perm {l : List D} {m : List Nat} (p : l.Perm (nts m)) : ∃ k : List Nat, l = nts k ∧ k.Perm m := by
  refine ⟨l.map unt, ?_, ?_⟩
  · unfold nts
    rw [List.map_map]
    have : l.map (nt ∘ unt) = l.map id := List.map_congr_left fun d hd => by
      obtain ⟨n, _, e⟩ := List.mem_map.mp (p.mem_iff.mp hd)
      subst e
      rfl
    rw [this, List.map_id]
  · have := p.map unt
    rw [unt_nts] at this
    exact this
theorem nts_cut_to (l : List Nat) (i : Nat) : (nts l).take i = nts (l.take i) := by unfold nts; rw [List.map_take]
theorem nts_drop (l : List Nat) (i : Nat) : (nts l).drop i = nts (l.drop i) := by unfold nts; rw [List.map_drop]
theorem nts_atI {l : List Nat} {i n : Nat} (h : l[i]? = some n) : atI (nts l) (i : Int) = some (nt n) := atI_get (nts_get h)
theorem nts_inj {l m : List Nat} (h : nts l = nts m) : l = m := by
  have := congrArg (List.map unt) h
  rwa [unt_nts, unt_nts] at this
theorem ixN_nat {n i : Nat} (h : i < n) : ixN n (i : Int) = some i := by
  unfold ixN
  rw [if_pos (Int.natCast_nonneg i), if_pos (by omega)]
  simp
/-- cards: which seat's guest comes where -/
def IsC (c : List Nat) : Prop := 2 ≤ c.length ∧ c.length ≤ 1000 ∧ c.Nodup ∧ ∀ i ∈ c, i < c.length
theorem IsC.of_perm {c : List Nat} {n : Nat} (p : c.Perm (List.range n)) (h2 : 2 ≤ n) (h : n ≤ 1000) : IsC c := by
  have hl : c.length = n := by rw [p.length_eq, List.length_range]
  refine ⟨by omega, by omega, p.nodup_iff.mpr List.nodup_range, fun i hi => ?_⟩
  rw [hl]
  exact List.mem_range.mp (p.mem_iff.mp hi)
/-- the ring's guests move on by one, the first k of them -/
def cyc (ring fo : List Nat) : Nat → List Nat
  | 0 => fo
  | k + 1 => (cyc ring fo k).set (ring.getD k 0) (ring.getD ((k + 1) % ring.length) 0)
theorem cyc_len (ring fo : List Nat) : ∀ k, (cyc ring fo k).length = fo.length
  | 0 => rfl
  | k + 1 => by
    unfold cyc
    rw [List.length_set, cyc_len ring fo k]
theorem getD_of {l : List Nat} {i x : Nat} (h : l[i]? = some x) : l.getD i 0 = x := by
  rw [List.getD_eq_getElem?_getD, h]
  rfl
theorem cyc_out (ring fo : List Nat) (p : Nat) : ∀ k, k ≤ ring.length → (∀ j, j < k → ring[j]? ≠ some p) → (cyc ring fo k)[p]? = fo[p]?
  | 0, _, _ => rfl
  | k + 1, hk, h => by
    unfold cyc
    have e : ring[k]? = some ring[k] := List.getElem?_eq_getElem hk
    rw [getD_of e, List.getElem?_set_ne (fun q => h k (Nat.lt_succ_self k) (by rw [e, q]))]
    exact cyc_out ring fo p k (by omega) fun j hj => h j (by omega)
theorem nodup_at {l : List Nat} (hn : l.Nodup) {i j x : Nat} (hi : l[i]? = some x) (hj : l[j]? = some x) : i = j := by
  have h1 := (List.getElem?_eq_some_iff.mp hi).1
  have h2 := (List.getElem?_eq_some_iff.mp hj).1
  exact (List.getElem?_inj h1 hn).mp (by rw [hi, hj])
theorem cyc_in {ring fo : List Nat} (hn : ring.Nodup) (hb : ∀ p ∈ ring, p < fo.length) : ∀ k j p, k ≤ ring.length → j < k → ring[j]? = some p → (cyc ring fo k)[p]? = some (ring.getD ((j + 1) % ring.length) 0)
  | 0, j, p, _, hj, _ => absurd hj (Nat.not_lt_zero j)
  | k + 1, j, p, hk, hj, hp => by
    unfold cyc
    have e : ring[k]? = some ring[k] := List.getElem?_eq_getElem hk
    rw [getD_of e]
    by_cases q : j = k
    · subst q
      have : ring[j] = p := by
        rw [hp] at e
        exact (Option.some.inj e).symm
      rw [this, List.getElem?_set_self (by rw [cyc_len]; exact hb p (List.mem_of_getElem? hp))]
    · have ne : ring[k] ≠ p := fun z => q (nodup_at hn hp (by rw [e, z]))
      rw [List.getElem?_set_ne ne]
      exact cyc_in hn hb k j p (by omega) (by omega) hp
/-- some rings of the order have been laid, the rest stays -/
def Laid (n : Nat) (ord : List Nat) (at_ : Nat) (fo : List Nat) : Prop := fo.length = n ∧ ∃ dn : List Nat, (∀ p ∈ dn, p ∈ ord.take at_) ∧ (∀ p, p < n → p ∉ dn → fo[p]? = some p) ∧ (∀ p ∈ dn, ∃ q ∈ dn, fo[p]? = some q) ∧ ∀ p q r, p ∈ dn → q ∈ dn → fo[p]? = some r → fo[q]? = some r → p = q
theorem Laid.start (n : Nat) (ord : List Nat) : Laid n ord 0 (List.range n) := by
  refine ⟨List.length_range, [], fun p h => absurd h List.not_mem_nil, fun p hp _ => ?_, fun p h => absurd h List.not_mem_nil, fun p q r h => absurd h List.not_mem_nil⟩
  rw [List.getElem?_range hp]
theorem take_mono {l : List Nat} {i j x : Nat} (h : i ≤ j) (hx : x ∈ l.take i) : x ∈ l.take j := by
  have : l.take i = (l.take j).take i := by rw [List.take_take, Nat.min_eq_left h]
  rw [this] at hx
  exact List.mem_of_mem_take hx
theorem Laid.skip {n i j : Nat} {ord fo : List Nat} (h : Laid n ord i fo) (hj : i ≤ j) : Laid n ord j fo := by
  obtain ⟨hl, dn, h1, h2, h3, h4⟩ := h
  exact ⟨hl, dn, fun p hp => take_mono hj (h1 p hp), h2, h3, h4⟩
theorem Laid.ring {n i j : Nat} {ord fo : List Nat} (h : Laid n ord i fo) (hp : ord.Perm (List.range n)) (hj : i ≤ j) : Laid n ord j (cyc ((ord.take j).drop i) fo ((ord.take j).drop i).length) := by
  obtain ⟨hl, dn, h1, h2, h3, h4⟩ := h
  have hno : ord.Nodup := hp.nodup_iff.mpr List.nodup_range
  generalize hr : (ord.take j).drop i = ring
  have hsub : ∀ x ∈ ring, x ∈ ord.take j := fun x hx => by rw [← hr] at hx; exact List.mem_of_mem_drop hx
  have hlt : ∀ x ∈ ring, x < fo.length := fun x hx => by
    rw [hl]
    exact List.mem_range.mp (hp.mem_iff.mp (List.mem_of_mem_take (hsub x hx)))
  have hrn : ring.Nodup := by
    rw [← hr]
    exact (hno.sublist (List.take_sublist j ord)).sublist (List.drop_sublist _ _)
  have hdis : ∀ x, x ∈ dn → x ∉ ring := fun x hx hy => by
    have q := h1 x hx
    have e : ord.take j = (ord.take j).take i ++ (ord.take j).drop i := (List.take_append_drop _ _).symm
    rw [List.take_take, Nat.min_eq_left hj, hr] at e
    have nd : (ord.take i ++ ring).Nodup := by
      rw [← e]
      exact hno.sublist (List.take_sublist j ord)
    exact (List.nodup_append.mp nd).2.2 x q x hy rfl
  have hin : ∀ x ∈ ring, ∃ k, k < ring.length ∧ ring[k]? = some x ∧ (cyc ring fo ring.length)[x]? = some (ring.getD ((k + 1) % ring.length) 0) := fun x hx => by
    obtain ⟨k, hk⟩ := List.mem_iff_getElem?.mp hx
    have lk := (List.getElem?_eq_some_iff.mp hk).1
    exact ⟨k, lk, hk, cyc_in hrn hlt ring.length k x (Nat.le_refl _) lk hk⟩
  have hout : ∀ x, x ∉ ring → (cyc ring fo ring.length)[x]? = fo[x]? := fun x hx => cyc_out ring fo x ring.length (Nat.le_refl _) fun k _ e => hx (List.mem_of_getElem? e)
  have hmod : ∀ k, k < ring.length → ring[(k + 1) % ring.length]? = some (ring.getD ((k + 1) % ring.length) 0) := fun k hk => by
    have lt : (k + 1) % ring.length < ring.length := Nat.mod_lt _ (by omega)
    rw [getD_of (List.getElem?_eq_getElem lt), List.getElem?_eq_getElem lt]
  refine ⟨by rw [cyc_len, hl], dn ++ ring, fun p hp => ?_, fun p hp hx => ?_, fun p hp => ?_, fun p q r hp hq e1 e2 => ?_⟩
  · rcases List.mem_append.mp hp with q | q
    · exact take_mono hj (h1 p q)
    · exact hsub p q
  · have : p ∉ ring := fun q => hx (List.mem_append_right _ q)
    rw [hout p this]
    exact h2 p hp fun q => hx (List.mem_append_left _ q)
  · rcases List.mem_append.mp hp with q | q
    · obtain ⟨z, hz, e⟩ := h3 p q
      exact ⟨z, List.mem_append_left _ hz, by rw [hout p (hdis p q)]; exact e⟩
    · obtain ⟨k, lk, _, e⟩ := hin p q
      exact ⟨_, List.mem_append_right _ (List.mem_of_getElem? (hmod k lk)), e⟩
  · rcases List.mem_append.mp hp with a | a <;> rcases List.mem_append.mp hq with b | b
    · rw [hout p (hdis p a)] at e1
      rw [hout q (hdis q b)] at e2
      exact h4 p q r a b e1 e2
    · obtain ⟨z, hz, e⟩ := h3 p a
      rw [hout p (hdis p a), e] at e1
      obtain ⟨k, lk, _, e3⟩ := hin q b
      rw [e3] at e2
      cases e1
      cases e2
      exact absurd (List.mem_of_getElem? (hmod k lk)) (hdis _ hz)
    · obtain ⟨z, hz, e⟩ := h3 q b
      rw [hout q (hdis q b), e] at e2
      obtain ⟨k, lk, _, e3⟩ := hin p a
      rw [e3] at e1
      cases e1
      cases e2
      exact absurd (List.mem_of_getElem? (hmod k lk)) (hdis _ hz)
    · obtain ⟨k, lk, ek, e3⟩ := hin p a
      obtain ⟨m, lm, em, e4⟩ := hin q b
      rw [e3] at e1
      rw [e4] at e2
      have e5 : ring[(k + 1) % ring.length]? = some r := by rw [hmod k lk]; exact e1
      have e6 : ring[(m + 1) % ring.length]? = some r := by rw [hmod m lm]; exact e2
      have e7 := nodup_at hrn e5 e6
      have : k = m := by
        rcases Nat.lt_or_ge (k + 1) ring.length with c | c <;> rcases Nat.lt_or_ge (m + 1) ring.length with d | d
        · rw [Nat.mod_eq_of_lt c, Nat.mod_eq_of_lt d] at e7
          omega
        · have : m + 1 = ring.length := by omega
          rw [Nat.mod_eq_of_lt c, this, Nat.mod_self] at e7
          omega
        · have : k + 1 = ring.length := by omega
          rw [Nat.mod_eq_of_lt d, this, Nat.mod_self] at e7
          omega
        · omega
      subst this
      rw [ek] at em
      exact Option.some.inj em
theorem Laid.isC {n i : Nat} {ord fo : List Nat} (h : Laid n ord i fo) (hp : ord.Perm (List.range n)) (h2 : 2 ≤ n) (h1000 : n ≤ 1000) : IsC fo := by
  obtain ⟨hl, dn, h1, h2', h3, h4⟩ := h
  have lt : ∀ p ∈ dn, p < n := fun p hp' => List.mem_range.mp (hp.mem_iff.mp (List.mem_of_mem_take (h1 p hp')))
  refine ⟨by omega, by omega, ?_, fun x hx => ?_⟩
  · refine List.pairwise_iff_getElem.mpr fun a b ha hb hab e => Nat.ne_of_lt hab ?_
    have ea : fo[a]? = some fo[a] := List.getElem?_eq_getElem ha
    have eb : fo[b]? = some fo[a] := by rw [List.getElem?_eq_getElem hb]; exact congrArg some e.symm
    by_cases da : a ∈ dn <;> by_cases db : b ∈ dn
    · exact h4 a b _ da db ea eb
    · obtain ⟨q, hq, e3⟩ := h3 a da
      rw [h2' b (by omega) db] at eb
      rw [e3] at ea
      have e1 := Option.some.inj ea
      have e2 := Option.some.inj eb
      rw [← e1] at e2
      exact absurd (e2 ▸ hq) db
    · obtain ⟨q, hq, e3⟩ := h3 b db
      rw [h2' a (by omega) da] at ea
      rw [e3] at eb
      have e1 := Option.some.inj ea
      have e2 := Option.some.inj eb
      rw [← e2] at e1
      exact absurd (e1 ▸ hq) da
    · rw [h2' a (by omega) da] at ea
      rw [h2' b (by omega) db] at eb
      have e1 := Option.some.inj ea
      have e2 := Option.some.inj eb
      omega
  · obtain ⟨p, hpx⟩ := List.mem_iff_getElem?.mp hx
    have lp := (List.getElem?_eq_some_iff.mp hpx).1
    rw [hl] at lp ⊢
    by_cases dp : p ∈ dn
    · obtain ⟨q, hq, e⟩ := h3 p dp
      rw [e] at hpx
      cases hpx
      exact lt _ hq
    · rw [h2' p lp dp] at hpx
      cases hpx
      exact lp
/-- data that the law's own comparison can walk, n deep at most -/
def okA : Nat → D → Bool
  | 0, _ => false
  | n + 1, .list l => decide (l.length ≤ 1000) && l.all (okA n)
  | n + 1, .tuple l => decide (l.length ≤ 1000) && l.all (okA n)
  | _ + 1, .none => true
  | _ + 1, .bool _ => true
  | _ + 1, .int _ => true
  | _ + 1, .str s => (PyData.str s).canLay0
  | _ + 1, .dict _ => false
theorem okA_at {n : Nat} {l : List D} {i : Nat} {d : D} (h : l.all (okA n) = true) (hd : l[i]? = some d) : okA n d = true := (List.all_eq_true.mp h) d (List.mem_of_getElem? hd)
theorem okA_ints (n : Nat) (l : List Int) : (l.map PyData.int).all (okA (n + 1)) = true := by
  rw [List.all_eq_true]
  intro x hx
  obtain ⟨y, _, rfl⟩ := List.mem_map.mp hx
  rfl
theorem okA_nts (n : Nat) (l : List Nat) : (nts l).all (okA (n + 1)) = true := by
  rw [nts_ints]
  exact okA_ints n _
theorem shaped_bool (b : Bool) : SeqAt.shaped (.bool b) = true := by cases b <;> decide
theorem shaped_int (i : Int) : SeqAt.shaped (.int i) = true := by simp [SeqAt.shaped, PyData.canLay0, PyData.depth]
theorem shaped_str {s : Str} (h : (PyData.str s).canLay0 = true) : SeqAt.shaped (.str s) = true := by simp [SeqAt.shaped, h, PyData.depth]
theorem eqv_bool (a b : Bool) : PyData.eqv (.bool a) (.bool b) = (a == b) := by simp only [PyData.eqv]
theorem eqv_int (a b : Int) : PyData.eqv (.int a) (.int b) = (a == b) := by simp only [PyData.eqv]
theorem eqv_str (a b : Str) : PyData.eqv (.str a) (.str b) = (a == b) := by simp only [PyData.eqv]
theorem rep_all (n : Nat) (b : Bool) : (List.replicate n (PyData.bool b)) = (List.replicate n b).map PyData.bool := by rw [List.map_replicate]
theorem rep_true : ∀ n : Nat, (List.replicate n true).any (fun b => !b) = false
  | 0 => rfl
  | n + 1 => by rw [List.replicate_succ, List.any_cons, rep_true n]; rfl
theorem rep_alltrue : ∀ n : Nat, (List.replicate n true).all id = true
  | 0 => rfl
  | n + 1 => by rw [List.replicate_succ, List.all_cons, rep_alltrue n]; rfl
end SX

set_option linter.all false
set_option maxRecDepth 100000
namespace SX
open PySem PySem.Spec PyProof.Rows L2
theorem wVar_ap (i : Nat) (ds : Sto) (Q : Sto → AV → Prop) : wVar i ds Q = (match ds.getD i .un with
  | .fz d => Q ds (.fz d)
  | .ls _ => Q ds (.rf i)
  | .lb _ => Q ds (.rf i)
  | .dk _ => Q ds (.rf i)
  | _ => False) := rfl
theorem wC_ap (d : D) (ds : Sto) (Q : Sto → AV → Prop) : wC d ds Q = (Q ds (.fz d)) := rfl
theorem wOp_ap (wr : WR) (wa wb : WE) (ds : Sto) (Q : Sto → AV → Prop) : wOp wr wa wb ds Q = (wa ds fun ds1 x => wb ds1 fun ds2 y => wr x y ds2 Q) := rfl
theorem wUn_ap (wr : WU) (wa : WE) (ds : Sto) (Q : Sto → AV → Prop) : wUn wr wa ds Q = (wa ds fun ds1 x => wr x ds1 Q) := rfl
theorem wII_ap (g : Int → Int → Int) (x : AV) (y : AV) (ds : Sto) (Q : Sto → AV → Prop) : wII g x y ds Q = (match x, y with
  | .fz (.int i), .fz (.int j) => Q ds (.fz (.int (g i j)))
  | _, _ => False) := rfl
theorem wIC_ap (C : Int → Int → Prop) (g : Int → Int → Int) (x : AV) (y : AV) (ds : Sto) (Q : Sto → AV → Prop) : wIC C g x y ds Q = (match x, y with
  | .fz (.int i), .fz (.int j) => C i j ∧ Q ds (.fz (.int (g i j)))
  | _, _ => False) := rfl
theorem wIB_ap (g : Int → Int → Bool) (x : AV) (y : AV) (ds : Sto) (Q : Sto → AV → Prop) : wIB g x y ds Q = (match x, y with
  | .fz (.int i), .fz (.int j) => Q ds (.fz (.bool (g i j)))
  | _, _ => False) := rfl
theorem wNeg_ap (x : AV) (ds : Sto) (Q : Sto → AV → Prop) : wNeg x ds Q = (match x with
  | .fz (.int i) => Q ds (.fz (.int (-i)))
  | _ => False) := rfl
theorem wEqI_ap (neg : Bool) (x : AV) (y : AV) (ds : Sto) (Q : Sto → AV → Prop) : wEqI neg x y ds Q = (match x, y with
  | .fz (.int i), .fz (.int j) => Q ds (.fz (.bool (if neg then !decide (i = j) else decide (i = j))))
  | .fz (.str i), .fz (.str j) => Q ds (.fz (.bool (if neg then !decide (i = j) else decide (i = j))))
  | _, _ => False) := rfl
theorem wEqD_ap (neg : Bool) (x : AV) (y : AV) (ds : Sto) (Q : Sto → AV → Prop) : wEqD neg x y ds Q = (∃ d e, vl ds x = some d ∧ vl ds y = some e ∧ SeqAt.shaped d = true ∧ SeqAt.shaped e = true ∧ Q ds (.fz (.bool (if neg then !PyData.eqv d e else PyData.eqv d e)))) := rfl
theorem wIsN_ap (neg : Bool) (x : AV) (y : AV) (ds : Sto) (Q : Sto → AV → Prop) : wIsN neg x y ds Q = (match y, isN x with
  | .fz .none, some b => Q ds (.fz (.bool (if neg then !b else b)))
  | _, _ => False) := rfl
theorem wAndV_ap (wa wb : WE) (ds : Sto) (Q : Sto → AV → Prop) : wAndV wa wb ds Q = (wa ds fun ds1 x => match x with
  | .fz (.bool c) => if c = true then wb ds1 Q else Q ds1 (.fz (.bool false))
  | _ => False) := rfl
theorem wOrV_ap (wa wb : WE) (ds : Sto) (Q : Sto → AV → Prop) : wOrV wa wb ds Q = (wa ds fun ds1 x => match x with
  | .fz (.bool c) => if c = true then Q ds1 (.fz (.bool true)) else wb ds1 Q
  | _ => False) := rfl
theorem wNotV_ap (wa : WE) (ds : Sto) (Q : Sto → AV → Prop) : wNotV wa ds Q = (wa ds fun ds1 x => match x with
  | .fz (.bool c) => Q ds1 (.fz (.bool (!c)))
  | _ => False) := rfl
theorem wTest_ap (wa : WE) (ds : Sto) (Q : Sto → Bool → Prop) : wTest wa ds Q = (wa ds fun ds1 x => match x with
  | .fz (.bool c) => Q ds1 c
  | _ => False) := rfl
theorem wAnd_ap (wa wb : WT) (ds : Sto) (Q : Sto → Bool → Prop) : wAnd wa wb ds Q = (wa ds fun ds1 c => if c = true then wb ds1 Q else Q ds1 false) := rfl
theorem wOr_ap (wa wb : WT) (ds : Sto) (Q : Sto → Bool → Prop) : wOr wa wb ds Q = (wa ds fun ds1 c => if c = true then Q ds1 true else wb ds1 Q) := rfl
theorem wNot_ap (wa : WT) (ds : Sto) (Q : Sto → Bool → Prop) : wNot wa ds Q = (wa ds fun ds1 c => Q ds1 (!c)) := rfl
theorem wIfE_ap (wt : WT) (wa wb : WE) (ds : Sto) (Q : Sto → AV → Prop) : wIfE wt wa wb ds Q = (wt ds fun ds1 c => if c = true then wa ds1 Q else wb ds1 Q) := rfl
theorem wNil_ap (ds : Sto) (Q : Sto → List AV → Prop) : wNil ds Q = (Q ds []) := rfl
theorem wCons_ap (wa : WE) (wr : WA) (ds : Sto) (Q : Sto → List AV → Prop) : wCons wa wr ds Q = (wa ds fun ds1 x => wr ds1 fun ds2 xs => Q ds2 (x :: xs)) := rfl
theorem wCB_ap (wr : WL) (wa : WA) (ds : Sto) (Q : Sto → AV → Prop) : wCB wr wa ds Q = (wa ds fun ds1 xs => wr xs ds1 Q) := rfl
theorem wTup_ap (wa : WA) (ds : Sto) (Q : Sto → AV → Prop) : wTup wa ds Q = (wa ds fun ds1 xs => match fzs xs with
  | some l => l.length ≤ 1000 ∧ Q ds1 (.fz (.tuple l))
  | none => False) := rfl
theorem wLst_ap (wa : WA) (ds : Sto) (Q : Sto → AV → Prop) : wLst wa ds Q = (wa ds fun ds1 xs => match fzs xs with
  | some l => l.length ≤ 1000 ∧ Q ds1 (.ls l)
  | none => False) := rfl
theorem wFrz_ap (w : WE) (ds : Sto) (Q : Sto → AV → Prop) : wFrz w ds Q = (w ds fun ds1 x => frz x ds1 Q) := rfl
theorem wCallP_ap (pre : List D → Prop) (post : List D → AV → Prop) (n : Nat) (wa : WA) (ds : Sto) (Q : Sto → AV → Prop) : wCallP pre post n wa ds Q = (wa ds fun ds1 xs => ∃ dl, vls ds1 xs = some dl ∧ dl.length = n ∧ pre dl ∧ ∀ x, post dl x → Q ds1 x) := rfl
theorem wCallM_ap (pre : List D → List D → Prop) (post : List D → List D → List D → AV → Prop) (n : Nat) (wa : WA) (ds : Sto) (Q : Sto → AV → Prop) : wCallM pre post n wa ds Q = (wa ds fun ds1 xs => match xs with
  | .rf i :: r => ∃ l dl, oL (ds1.getD i .un) = some l ∧ fzs r = some dl ∧ dl.length = n ∧ pre l dl ∧ ∀ l' x, post l dl l' x → Q (ds1.set i (upL (ds1.getD i .un) l')) x
  | _ => False) := rfl
theorem wBM_ap (wr : WM) (wo : WE) (wa : WA) (ds : Sto) (Q : Sto → AV → Prop) : wBM wr wo wa ds Q = (wo ds fun ds1 o => match lsOf ds1 o with
  | some _ => wa ds1 fun ds2 xs => wr o xs ds2 Q
  | none => False) := rfl
theorem wBM0_ap (wr : WM) (wo : WE) (ds : Sto) (Q : Sto → AV → Prop) : wBM0 wr wo ds Q = (wo ds fun ds1 o => match lsOf ds1 o with
  | some _ => wr o [] ds1 Q
  | none => False) := rfl
theorem wAppend_ap (o : AV) (xs : List AV) (ds : Sto) (Q : Sto → AV → Prop) : wAppend o xs ds Q = (match o, xs with
  | .rf i, [.fz d] => match oL (ds.getD i .un) with
    | some l => l.length ≤ 100000 ∧ Q (ds.set i (upL (ds.getD i .un) (l ++ [d]))) (.fz .none)
    | none => False
  | _, _ => False) := rfl
theorem wExtend_ap (o : AV) (xs : List AV) (ds : Sto) (Q : Sto → AV → Prop) : wExtend o xs ds Q = (match o, xs with
  | .rf i, [.ls l2] => match oL (ds.getD i .un) with
    | some l => l.length + l2.length ≤ 100000 ∧ Q (ds.set i (upL (ds.getD i .un) (l ++ l2))) (.fz .none)
    | none => False
  | _, _ => False) := rfl
theorem wPopAt_ap (o : AV) (xs : List AV) (ds : Sto) (Q : Sto → AV → Prop) : wPopAt o xs ds Q = (match o, xs with
  | .rf i, [.fz (.int j)] => match oL (ds.getD i .un) with
    | some l => 0 ≤ j ∧ j < (l.length : Int) ∧ l.length ≤ 1000000 ∧ ∃ d, l[j.toNat]? = some d ∧ Q (ds.set i (upL (ds.getD i .un) (l.eraseIdx j.toNat))) (.fz d)
    | none => False
  | _, _ => False) := rfl
theorem wPop_ap (o : AV) (xs : List AV) (ds : Sto) (Q : Sto → AV → Prop) : wPop o xs ds Q = (match o, xs with
  | .rf i, [] => match oL (ds.getD i .un) with
    | some l => ∃ d, l.getLast? = some d ∧ Q (ds.set i (upL (ds.getD i .un) l.dropLast)) (.fz d)
    | none => False
  | _, _ => False) := rfl
theorem wReverse_ap (o : AV) (xs : List AV) (ds : Sto) (Q : Sto → AV → Prop) : wReverse o xs ds Q = (match o, xs with
  | .rf i, [] => match oL (ds.getD i .un) with
    | some l => Q (ds.set i (upL (ds.getD i .un) l.reverse)) (.fz .none)
    | none => False
  | _, _ => False) := rfl
theorem wIxL_ap (x : AV) (y : AV) (ds : Sto) (Q : Sto → AV → Prop) : wIxL x y ds Q = (match lsOf ds x, y with
  | some l, .fz (.int i) => ∃ d, atI l i = some d ∧ Q ds (.fz d)
  | _, _ => False) := rfl
theorem wIxT_ap (x : AV) (y : AV) (ds : Sto) (Q : Sto → AV → Prop) : wIxT x y ds Q = (match x, y with
  | .fz (.tuple l), .fz (.int i) => ∃ d, atI l i = some d ∧ Q ds (.fz d)
  | _, _ => False) := rfl
theorem wNoPart_ap (ds : Sto) (Q : Sto → Option Int → Prop) : wNoPart ds Q = (Q ds none) := rfl
theorem wPart_ap (w : WE) (ds : Sto) (Q : Sto → Option Int → Prop) : wPart w ds Q = (w ds fun ds1 x => match x with
  | .fz (.int i) => Q ds1 (some i)
  | _ => False) := rfl
theorem wSl_ap (wr : AV → Option Int → Option Int → Sto → (Sto → AV → Prop) → Prop) (we : WE) (wl wh : WO) (ds : Sto) (Q : Sto → AV → Prop) : wSl wr we wl wh ds Q = (we ds fun ds1 x => wl ds1 fun ds2 lo => wh ds2 fun ds3 hi => wr x lo hi ds3 Q) := rfl
theorem wSlL_ap (x : AV) (lo : Option Int) (hi : Option Int) (ds : Sto) (Q : Sto → AV → Prop) : wSlL x lo hi ds Q = (match lsOf ds x with
  | some l => Q ds (.ls (cutD l lo hi))
  | none => False) := rfl
theorem wSlT_ap (x : AV) (lo : Option Int) (hi : Option Int) (ds : Sto) (Q : Sto → AV → Prop) : wSlT x lo hi ds Q = (match x with
  | .fz (.tuple l) => Q ds (.fz (.tuple (cutD l lo hi)))
  | _ => False) := rfl
theorem wLen_ap (xs : List AV) (ds : Sto) (Q : Sto → AV → Prop) : wLen xs ds Q = (match xs with
  | [x] => match its ds x with
    | some l => Q ds (.fz (.int (l.length : Int)))
    | none => False
  | _ => False) := rfl
theorem wListOf_ap (xs : List AV) (ds : Sto) (Q : Sto → AV → Prop) : wListOf xs ds Q = (match xs with
  | [x] => match its ds x with
    | some l => Q ds (.ls l)
    | none => False
  | _ => False) := rfl
theorem wTupleOf_ap (xs : List AV) (ds : Sto) (Q : Sto → AV → Prop) : wTupleOf xs ds Q = (match xs with
  | [x] => match lsOf ds x, x with
    | some l, _ => Q ds (.fz (.tuple l))
    | none, .fz (.tuple l) => Q ds (.fz (.tuple l))
    | _, _ => False
  | _ => False) := rfl
theorem wAbs_ap (xs : List AV) (ds : Sto) (Q : Sto → AV → Prop) : wAbs xs ds Q = (match xs with
  | [.fz (.int i)] => Q ds (.fz (.int (if i < 0 then -i else i)))
  | _ => False) := rfl
theorem wCatT_ap (x : AV) (y : AV) (ds : Sto) (Q : Sto → AV → Prop) : wCatT x y ds Q = (match x, y with
  | .fz (.tuple a), .fz (.tuple b) => a.length + b.length ≤ 100000 ∧ Q ds (.fz (.tuple (a ++ b)))
  | _, _ => False) := rfl
theorem wCat_ap (x : AV) (y : AV) (ds : Sto) (Q : Sto → AV → Prop) : wCat x y ds Q = (match oLs ds x, oLs ds y with
  | some a, some b => a.length + b.length ≤ 100000 ∧ Q ds (.ls (a ++ b))
  | _, _ => False) := rfl
theorem wRep_ap (x : AV) (y : AV) (ds : Sto) (Q : Sto → AV → Prop) : wRep x y ds Q = (match oLs ds x, y with
  | some a, .fz (.int n) => 0 ≤ n ∧ n ≤ 100000 ∧ a.length * n.toNat ≤ 100000 ∧ Q ds (.ls (List.replicate n.toNat a).flatten)
  | _, _ => False) := rfl
theorem wInI_ap (neg : Bool) (x : AV) (y : AV) (ds : Sto) (Q : Sto → AV → Prop) : wInI neg x y ds Q = (match x with
  | .fz (.int i) => ∃ ns : List Int, its ds y = some (ns.map PyData.int) ∧ Q ds (.fz (.bool (if neg then !decide (i ∈ ns) else decide (i ∈ ns))))
  | _ => False) := rfl
theorem wRng1_ap (wa : WA) (ds : Sto) (Q : Sto → List D → Prop) : wRng1 wa ds Q = (wa ds fun ds1 xs => match xs with
  | [.fz (.int j)] => (-1000000 ≤ j ∧ j ≤ 1000000) ∧ Q ds1 (rng 0 j.toNat)
  | _ => False) := rfl
theorem wRng2_ap (wa : WA) (ds : Sto) (Q : Sto → List D → Prop) : wRng2 wa ds Q = (wa ds fun ds1 xs => match xs with
  | [.fz (.int i), .fz (.int j)] => (-1000000 ≤ i ∧ i ≤ 1000000 ∧ -1000000 ≤ j ∧ j ≤ 1000000) ∧ Q ds1 (rng i (j - i).toNat)
  | _ => False) := rfl
theorem wRng3_ap (wa : WA) (ds : Sto) (Q : Sto → List D → Prop) : wRng3 wa ds Q = (wa ds fun ds1 xs => match xs with
  | [.fz (.int i), .fz (.int j), .fz (.int c)] => ∃ n : Nat, RgC i j c n ∧ Q ds1 (rngC i c n)
  | _ => False) := rfl
theorem wIList_ap (w : WE) (ds : Sto) (Q : Sto → List D → Prop) : wIList w ds Q = (w ds fun ds1 x => match x with
  | .fz (.list l) => Q ds1 l
  | _ => False) := rfl
theorem wITup_ap (w : WE) (ds : Sto) (Q : Sto → List D → Prop) : wITup w ds Q = (w ds fun ds1 x => match x with
  | .fz (.tuple l) => Q ds1 l
  | _ => False) := rfl
theorem wName_ap (i : Nat) (x : AV) (ds : Sto) (Q : Sto → Prop) : wName i x ds Q = (sto i x ds Q) := rfl
theorem wgNil_ap (l : List D) (ds : Sto) (Q : Sto → Prop) : wgNil l ds Q = (match l with
  | [] => Q ds
  | _ => False) := rfl
theorem wgCons_ap (w : WG) (ws : WGs) (l : List D) (ds : Sto) (Q : Sto → Prop) : wgCons w ws l ds Q = (match l with
  | d :: r => w (.fz d) ds fun ds1 => ws r ds1 Q
  | [] => False) := rfl
theorem wgTup_ap (n : Nat) (ws : WGs) (x : AV) (ds : Sto) (Q : Sto → Prop) : wgTup n ws x ds Q = (match x with
  | .fz (.tuple l) => l.length = n ∧ ws l ds Q
  | _ => False) := rfl
theorem wgLst_ap (n : Nat) (ws : WGs) (x : AV) (ds : Sto) (Q : Sto → Prop) : wgLst n ws x ds Q = (match lsOf ds x with
  | some l => l.length = n ∧ ws l ds Q
  | none => False) := rfl
theorem wgSub_ap (wo wi : WE) (x : AV) (ds : Sto) (Q : Sto → Prop) : wgSub wo wi x ds Q = (match x with
  | .fz d => wo ds fun ds1 o => wi ds1 fun ds2 i => match o, i with
    | .rf j, .fz (.int z) => match oL (ds2.getD j .un) with
      | some l => ∃ n, ixN l.length z = some n ∧ Q (ds2.set j (upL (ds2.getD j .un) (l.set n d)))
      | none => False
    | _, _ => False
  | _ => False) := rfl
theorem wNext_ap (N : AEnds) (ds : Sto) : wNext N ds = (N.nx ds) := rfl
theorem wSeq_ap (a b : WS) (N : AEnds) (ds : Sto) : wSeq a b N ds = (a { N with nx := b N } ds) := rfl
theorem wAsg_ap (we : WE) (wg : WG) (N : AEnds) (ds : Sto) : wAsg we wg N ds = (we ds fun ds1 x => wg x ds1 N.nx) := rfl
theorem wDrop_ap (we : WE) (N : AEnds) (ds : Sto) : wDrop we N ds = (we ds fun ds1 _ => N.nx ds1) := rfl
theorem wRet_ap (we : WE) (N : AEnds) (ds : Sto) : wRet we N ds = (we ds fun ds1 x => N.rt ds1 x) := rfl
theorem wRetN_ap (N : AEnds) (ds : Sto) : wRetN N ds = (N.rt ds (.fz .none)) := rfl
theorem wNever_ap (v0 : AEnds) (v1 : Sto) : wNever v0 v1 = (False) := rfl
theorem wBreak_ap (N : AEnds) (ds : Sto) : wBreak N ds = (N.bk ds) := rfl
theorem wCont_ap (N : AEnds) (ds : Sto) : wCont N ds = (N.ct ds) := rfl
theorem wPar_ap (i j : Nat) (wa : WA) (N : AEnds) (ds : Sto) : wPar i j wa N ds = (wa ds fun ds1 xs => match xs with
  | [x, y] => (match y with
    | .rf _ => False
    | _ => sto i x ds1 fun ds2 => sto j y ds2 N.nx)
  | _ => False) := rfl
theorem wAug_ap (i : Nat) (g : Int → Int → Int) (we : WE) (N : AEnds) (ds : Sto) : wAug i g we N ds = (match ds.getD i .un with
  | .fz (.int a) => we ds fun ds1 y => match y with
    | .fz (.int b) => N.nx (ds1.set i (.fz (.int (g a b))))
    | _ => False
  | _ => False) := rfl
theorem wIsT_ap (T : String) (wa : WE) (ds : Sto) (Q : Sto → AV → Prop) : wIsT T wa ds Q = (wa ds fun ds1 x => match vl ds1 x with
  | some d => Q ds1 (.fz (.bool (isiB T d)))
  | none => False) := rfl
theorem wEnumT_ap (wa : WA) (ds : Sto) (Q : Sto → List D → Prop) : wEnumT wa ds Q = (wa ds fun ds1 xs => match xs with
  | [.fz (.tuple l)] => Q ds1 (enu l)
  | _ => False) := rfl
theorem wEnum_ap (wa : WA) (ds : Sto) (Q : Sto → List D → Prop) : wEnum wa ds Q = (wa ds fun ds1 xs => match xs with
  | [.fz (.list l)] => Q ds1 (enu l)
  | _ => False) := rfl
theorem wChainF_ap (wr wr' : WR) (wa wb wc : WE) (ds : Sto) (Q : Sto → AV → Prop) : wChainF wr wr' wa wb wc ds Q = (wa ds fun ds1 x => wb ds1 fun ds2 y => match x, y with
  | .fz d, .fz e => wr (.fz d) (.fz e) ds2 fun ds3 z => match z with
    | .fz (.bool k) => if k = true then wc ds3 fun ds4 w => wr' (.fz e) w ds4 Q else Q ds3 (.fz (.bool false))
    | _ => False
  | _, _ => False) := rfl
theorem wDNew_ap (ds : Sto) (Q : Sto → AV → Prop) : wDNew ds Q = (Q ds (.dk [])) := rfl
theorem wDIn_ap (neg : Bool) (wk wd : WE) (ds : Sto) (Q : Sto → AV → Prop) : wDIn neg wk wd ds Q = (wk ds fun ds1 x => wd ds1 fun ds2 y => match keyOf x, dkOf ds2 y with
  | some k, some l => Q ds2 (.fz (.bool (if neg then !(valD l k).isSome else (valD l k).isSome)))
  | _, _ => False) := rfl
theorem wDGet_ap (wd wk : WE) (ds : Sto) (Q : Sto → AV → Prop) : wDGet wd wk ds Q = (wd ds fun ds1 x => wk ds1 fun ds2 y => match dkOf ds2 x, keyOf y with
  | some l, some k => ∃ d, valD l k = some d ∧ Q ds2 (.fz d)
  | _, _ => False) := rfl
theorem wDGet2_ap (wd wk wx : WE) (ds : Sto) (Q : Sto → AV → Prop) : wDGet2 wd wk wx ds Q = (wd ds fun ds1 x => match dkOf ds1 x with
  | some _ => wk ds1 fun ds2 y => wx ds2 fun ds3 z => match dkOf ds3 x, keyOf y, z with
    | some l, some k, .fz d => Q ds3 (.fz ((valD l k).getD d))
    | _, _, _ => False
  | none => False) := rfl
theorem wDPut_ap (wd wk wv : WE) (N : AEnds) (ds : Sto) : wDPut wd wk wv N ds = (wv ds fun ds1 z => wd ds1 fun ds2 x => wk ds2 fun ds3 y => match z, x, keyOf y with
  | .fz d, .rf i, some k => match ds3.getD i .un with
    | .dk l => l.length ≤ 100000 ∧ N.nx (ds3.set i (.dk (putD l k d)))
    | _ => False
  | _, _, _ => False) := rfl
theorem wDUpd_ap (wo wa : WE) (ds : Sto) (Q : Sto → AV → Prop) : wDUpd wo wa ds Q = (wo ds fun ds1 o => match dkOf ds1 o with
  | some _ => wa ds1 fun ds2 y => match o, y with
    | .rf i, .dk more => match ds2.getD i .un with
      | .dk l => l.length + more.length ≤ 100000 ∧ Q (ds2.set i (.dk (mergeD l more))) (.fz .none)
      | _ => False
    | _, _ => False
  | none => False) := rfl
theorem wRg1_ap (wa : WE) (ds : Sto) (Q : Sto → Int → Int → Prop) : wRg1 wa ds Q = (wa ds fun ds1 x => match x with
  | .fz (.int n) => Q ds1 0 n
  | _ => False) := rfl
theorem wRg2_ap (wa wb : WE) (ds : Sto) (Q : Sto → Int → Int → Prop) : wRg2 wa wb ds Q = (wa ds fun ds1 x => wb ds1 fun ds2 y => match x, y with
  | .fz (.int i), .fz (.int j) => Q ds2 i j
  | _, _ => False) := rfl
theorem wLstRg_ap (w : WRg) (ds : Sto) (Q : Sto → AV → Prop) : wLstRg w ds Q = (w ds fun ds1 a b => rgOk a b ∧ Q ds1 (.ls (rng a (b - a).toNat))) := rfl
theorem wTupRg_ap (w : WRg) (ds : Sto) (Q : Sto → AV → Prop) : wTupRg w ds Q = (w ds fun ds1 a b => rgOk a b ∧ Q ds1 (.fz (.tuple (rng a (b - a).toNat)))) := rfl
theorem wFrzV_ap (i : Nat) (w : WS) (N : AEnds) (ds : Sto) : wFrzV i w N ds = (match ds.getD i .un with
  | .ls l => w N (ds.set i (.fz (.list l)))
  | .fz d => w N ds
  | _ => False) := rfl
theorem wIxA_ap (x : AV) (y : AV) (ds : Sto) (Q : Sto → AV → Prop) : wIxA x y ds Q = (match its ds x, y with
  | some l, .fz (.int i) => ∃ d, atI l i = some d ∧ Q ds (.fz d)
  | _, _ => False) := rfl
theorem wTIdx_ap (wo wa : WE) (ds : Sto) (Q : Sto → AV → Prop) : wTIdx wo wa ds Q = (wo ds fun ds1 o => match o with
  | .fz (.tuple l) => wa ds1 fun ds2 y => match y with
    | .fz (.int k) => ∃ ns : List Int, l = ns.map PyData.int ∧ k ∈ ns ∧ Q ds2 (.fz (.int (ns.idxOf k : Nat)))
    | _ => False
  | _ => False) := rfl
theorem wLIdx_ap (o : AV) (xs : List AV) (ds : Sto) (Q : Sto → AV → Prop) : wLIdx o xs ds Q = (match xs with
  | [.fz (.int k)] => ∃ ns : List Int, lsOf ds o = some (ns.map PyData.int) ∧ k ∈ ns ∧ Q ds (.fz (.int (ns.idxOf k : Nat)))
  | _ => False) := rfl
theorem wAddD_ap (x : AV) (y : AV) (ds : Sto) (Q : Sto → AV → Prop) : wAddD x y ds Q = (match x, y with
  | .fz (.int i), .fz (.int j) => Q ds (.fz (.int (i + j)))
  | .fz (.str a), .fz (.str b) => a.length + b.length ≤ 100000 ∧ Q ds (.fz (.str (a ++ b)))
  | .fz (.tuple a), .fz (.tuple b) => a.length + b.length ≤ 100000 ∧ Q ds (.fz (.tuple (a ++ b)))
  | _, _ => match oLs ds x, oLs ds y with
    | some a, some b => a.length + b.length ≤ 100000 ∧ Q ds (.ls (a ++ b))
    | _, _ => False) := rfl
/-! ### what stands still until it is asked for: branches and loops -/
def ifB (a b : WS) (N : AEnds) (ds : Sto) (c : Bool) : Prop := if c = true then a N ds else b N ds
theorem wIf_ap (wt : WT) (a b : WS) (N : AEnds) (ds : Sto) : wIf wt a b N ds = wt ds (fun ds1 c => ifB a b N ds1 c) := rfl
theorem ifB_t (a b : WS) (N : AEnds) (ds : Sto) : ifB a b N ds true = a N ds := rfl
theorem ifB_f (a b : WS) (N : AEnds) (ds : Sto) : ifB a b N ds false = b N ds := rfl
theorem ifB_i {a b : WS} {N : AEnds} {ds : Sto} {c : Bool} (h1 : c = true → a N ds) (h2 : c = false → b N ds) : ifB a b N ds c := by
  cases c
  · exact h2 rfl
  · exact h1 rfl
def forB (wg : WG) (wb : WS) (N : AEnds) (ds : Sto) (l : List D) : Prop := ∃ I : Nat → Sto → Prop, I 0 ds ∧ (∀ i d ds, l[i]? = some d → I i ds → wg (.fz d) ds fun ds' => wb { N with nx := I (i + 1), ct := I (i + 1), bk := N.nx } ds') ∧ ∀ ds, I l.length ds → N.nx ds
theorem wFor_ap (wi : WI) (wg : WG) (wb : WS) (N : AEnds) (ds : Sto) : wFor wi wg wb N ds = wi ds (fun ds1 l => forB wg wb N ds1 l) := rfl
theorem forB_i {wg : WG} {wb : WS} {N : AEnds} {ds : Sto} {l : List D} (I : Nat → Sto → Prop) (h0 : I 0 ds) (h1 : ∀ i d ds, l[i]? = some d → I i ds → wg (.fz d) ds fun ds' => wb ⟨I (i + 1), N.rt, N.nx, I (i + 1)⟩ ds') (h2 : ∀ ds, I l.length ds → N.nx ds) : forB wg wb N ds l := ⟨I, h0, h1, h2⟩
def whileB (wt : WT) (wb : WS) (N : AEnds) (ds : Sto) : Prop := wWhile wt wb N ds
theorem wWhile_ap (wt : WT) (wb : WS) (N : AEnds) (ds : Sto) : wWhile wt wb N ds = whileB wt wb N ds := rfl
def wThen (f : Sto → Prop) : WS := fun _ ds => f ds
theorem wThen_ap (f : Sto → Prop) (N : AEnds) (ds : Sto) : wThen f N ds = f ds := rfl
theorem whileB_i {wt : WT} {wb : WS} {N : AEnds} {ds : Sto} (I : Nat → Sto → Prop) (k : Nat) (h0 : I k ds) (h1 : ∀ k ds, I k ds → wt ds fun ds1 b => ifB wb (wThen N.nx) ⟨fun ds' => ∃ k', k' < k ∧ I k' ds', N.rt, N.nx, fun ds' => ∃ k', k' < k ∧ I k' ds'⟩ ds1 b) : whileB wt wb N ds := ⟨I, ⟨k, h0⟩, h1⟩
def lcB (wg : WG) (wt : WT) (we : WE) (own : List Nat) (ds1 : Sto) (l : List D) (Q : Sto → AV → Prop) : Prop := ∃ I : Nat → List D → Sto → Prop, I 0 [] ds1 ∧
  (∀ i d acc ds, l[i]? = some d → (∀ j ∈ own, ds.getD j .un = .un) → I i acc ds → wg (.fz d) ds fun ds2 => wt ds2 fun ds3 b => if b = true then we ds3 fun ds4 y => match y with
    | .fz e => acc.length ≤ 100000 ∧ ownFree own ds4 = true ∧ I (i + 1) (acc ++ [e]) (wipeS ds4 own)
    | _ => False
  else ownFree own ds3 = true ∧ I (i + 1) acc (wipeS ds3 own)) ∧ ∀ acc ds, (∀ j ∈ own, ds.getD j .un = .un) → I l.length acc ds → Q ds (.ls acc)
theorem wLc_ap (wi : WI) (wg : WG) (wt : WT) (we : WE) (own : List Nat) (ds : Sto) (Q : Sto → AV → Prop) : wLc wi wg wt we own ds Q = wi ds (fun ds1 l => ownFree own ds1 = true ∧ lcB wg wt we own (wipeS ds1 own) l Q) := rfl
/-- a comprehension whose store stands: behind i items it holds acc i -/
theorem lcB_i {wg : WG} {wt : WT} {we : WE} {own : List Nat} {ds : Sto} {l : List D} {Q : Sto → AV → Prop} (acc : Nat → List D) (h0 : acc 0 = [])
    (h1 : ∀ i d, l[i]? = some d → wg (.fz d) ds fun ds2 => wt ds2 fun ds3 b => if b = true then we ds3 fun ds4 y => match y with
      | .fz e => (acc i).length ≤ 100000 ∧ ownFree own ds4 = true ∧ wipeS ds4 own = ds ∧ acc i ++ [e] = acc (i + 1)
      | _ => False
    else ownFree own ds3 = true ∧ wipeS ds3 own = ds ∧ acc i = acc (i + 1)) (h2 : Q ds (.ls (acc l.length))) : lcB wg wt we own ds l Q := by
  refine ⟨fun i a ds' => ds' = ds ∧ a = acc i, ⟨rfl, h0.symm⟩, fun i d a ds' hd _ ⟨e1, e2⟩ => ?_, fun a ds' _ ⟨e1, e2⟩ => ?_⟩
  · subst e1 e2
    exact h1 i d hd
  · subst e1 e2
    exact h2
theorem take_fm {f : D → Option D} {l : List D} {i : Nat} {d e : D} (hd : l[i]? = some d) (h : f d = some e) : (l.take i).filterMap f ++ [e] = (l.take (i + 1)).filterMap f := by
  rw [List.take_add_one, hd, Option.toList_some, List.filterMap_append]
  simp [h]
theorem take_fn {f : D → Option D} {l : List D} {i : Nat} {d : D} (hd : l[i]? = some d) (h : f d = none) : (l.take i).filterMap f = (l.take (i + 1)).filterMap f := by
  rw [List.take_add_one, hd, Option.toList_some, List.filterMap_append]
  simp [h]
theorem take_mp {α : Type} {f : D → α} {l : List D} {i : Nat} {d : D} (hd : l[i]? = some d) : (l.take i).map f ++ [f d] = (l.take (i + 1)).map f := by
  rw [List.take_add_one, hd, Option.toList_some, List.map_append]
  rfl
theorem take_fl (f : D → Option D) (l : List D) (i : Nat) : ((l.take i).filterMap f).length ≤ l.length := by
  refine Nat.le_trans (List.length_filterMap_le _ _) ?_
  rw [List.length_take]
  exact Nat.min_le_right _ _
def dcB (wg : WG) (wt : WT) (wk wv : WE) (own : List Nat) (ds1 : Sto) (l : List D) (Q : Sto → AV → Prop) : Prop := ∃ I : Nat → List (Key × D) → Sto → Prop, I 0 [] ds1 ∧
  (∀ i d acc ds, l[i]? = some d → (∀ j ∈ own, ds.getD j .un = .un) → I i acc ds → wg (.fz d) ds fun ds2 => wt ds2 fun ds3 b => if b = true then wk ds3 fun ds4 y => wv ds4 fun ds5 z => match keyOf y, z with
    | some k, .fz e => acc.length ≤ 100000 ∧ ownFree own ds5 = true ∧ I (i + 1) (putD acc k e) (wipeS ds5 own)
    | _, _ => False
  else ownFree own ds3 = true ∧ I (i + 1) acc (wipeS ds3 own)) ∧ ∀ acc ds, (∀ j ∈ own, ds.getD j .un = .un) → I l.length acc ds → Q ds (.dk acc)
theorem wDc_ap (wi : WI) (wg : WG) (wt : WT) (wk wv : WE) (own : List Nat) (ds : Sto) (Q : Sto → AV → Prop) : wDc wi wg wt wk wv own ds Q = wi ds (fun ds1 l => ownFree own ds1 = true ∧ dcB wg wt wk wv own (wipeS ds1 own) l Q) := rfl
/-! ### plain facts for the steps -/
theorem atI_0 {α : Type} (x : α) (l : List α) : atI (x :: l) 0 = some x := atI_get (i := 0) rfl
theorem atI_1 {α : Type} (x y : α) (l : List α) : atI (x :: y :: l) 1 = some y := atI_get (i := 1) rfl
theorem atI_2 {α : Type} (x y z : α) (l : List α) : atI (x :: y :: z :: l) 2 = some z := atI_get (i := 2) rfl
theorem ixN_0 (n : Nat) : ixN (n + 1) 0 = some 0 := by
  unfold ixN
  rw [if_pos (by decide), if_pos (by omega)]
  rfl
theorem ixN_1 (n : Nat) : ixN (n + 2) 1 = some 1 := by
  unfold ixN
  rw [if_pos (by decide), if_pos (by omega)]
  rfl
theorem eqv_nil (l : List D) : PyData.eqv (.list l) (.list []) = l.isEmpty := by
  cases l <;> rfl
theorem RetOk_fz (P : AV → Prop) (ds : Sto) (d : D) : RetOk P ds (.fz d) = (imm d = true ∧ P (.fz d)) := rfl
theorem RetOk_ls (P : AV → Prop) (ds : Sto) (d : List D) : RetOk P ds (.ls d) = (imms d = true ∧ P (.ls d)) := rfl
theorem RetOk_rf (P : AV → Prop) (ds : Sto) (i : Nat) : RetOk P ds (.rf i) = (match ds.getD i .un with
    | .ls l => imms l = true ∧ P (.ls l)
    | _ => False) := rfl
theorem imm_int (i : Int) : imm (.int i) = true := rfl
theorem imm_bool (i : Bool) : imm (.bool i) = true := rfl
theorem imm_str (i : Str) : imm (.str i) = true := rfl
theorem imm_none : imm .none = true := rfl
theorem own_fz (d : D) : (AV.fz d).own = false := rfl
theorem own_un : AV.un.own = false := rfl
theorem own_rf (i : Nat) : (AV.rf i).own = false := rfl
theorem own_ls (l : List D) : (AV.ls l).own = true := rfl
theorem own_lb (l : List D) : (AV.lb l).own = true := rfl
theorem own_dk (l : List (Key × D)) : (AV.dk l).own = true := rfl
theorem cmulL {i j : Int} (h1 : -1000000000000000000 ≤ i) (h2 : i ≤ 1000000000000000000) : CMul i j := .inl ⟨by omega, by omega⟩
theorem cmulR {i j : Int} (h1 : -1000000000000000000 ≤ j) (h2 : j ≤ 1000000000000000000) : CMul i j := .inr ⟨by omega, by omega⟩
theorem cdiv {i j : Int} (h1 : 0 < j) (h2 : j < 1073741824) : CDiv i j := ⟨h1, h2⟩
theorem int_at {ns : List Int} {i : Nat} {d : D} (h : (ns.map PyData.int)[i]? = some d) : ∃ c, d = .int c ∧ ns[i]? = some c := by
  rw [List.getElem?_map] at h
  cases e : ns[i]? with
  | none => rw [e] at h; cases h
  | some c => rw [e] at h; exact ⟨c, (Option.some.inj h).symm, rfl⟩
theorem rgC_up {b c : Int} (b0 : 0 ≤ b) (b1 : b ≤ 1000000) (c0 : 0 < c) (c1 : c ≤ 1000000) : RgC 0 b c (Builtin.Range.rangeSize 0 b c).toNat ∧ (Builtin.Range.rangeSize 0 b c).toNat ≤ 1000000 ∧ ∀ k : Nat, k < (Builtin.Range.rangeSize 0 b c).toNat → (k : Int) * c < b := by
  have e := rangeSize_toNat 0 b c
  have q := rangeSize_toNat_le 0 b c
  refine ⟨⟨by omega, by omega, ?_, e⟩, by omega, fun k hk => (start_inside (len := b) (c := c) (v := k) (by omega) b0 (by omega) (by omega)).2⟩
  unfold Builtin.Range.small
  simp only [Builtin.Range.rangeFitsLong, Bool.and_eq_true, Bool.or_eq_true, decide_eq_true_eq, beq_iff_eq, if_pos (show c > 0 from c0)]
  omega
theorem rngC_nt {c n i : Nat} {d : D} (h : (rngC 0 (c : Int) n)[i]? = some d) : d = nt (i * c) ∧ i < n := by
  have hi : i < n := by
    have := (List.getElem?_eq_some_iff.mp h).1
    rwa [rngC_len] at this
  rw [rngC_get hi] at h
  refine ⟨?_, hi⟩
  have e := Option.some.inj h
  rw [← e]
  show PyData.int (0 + (i : Int) * (c : Int)) = PyData.int ((i * c : Nat) : Int)
  congr 1
  rw [Int.natCast_mul, Int.zero_add]
theorem cut_mid_nts (l : List Nat) (i j : Nat) : cutD (nts l) (some (i : Int)) (some (j : Int)) = nts ((l.take j).drop i) := by
  rw [cut_mid, nts_cut_to, nts_drop]
theorem getElem_getD {l : List Nat} {i : Nat} (h : i < l.length) : l[i]? = some (l.getD i 0) := by
  rw [getD_of (List.getElem?_eq_getElem h), List.getElem?_eq_getElem h]
theorem nts_atD {l : List Nat} {i : Nat} (h : i < l.length) : atI (nts l) (i : Int) = some (nt (l.getD i 0)) := nts_atI (getElem_getD h)
theorem nt_def (n : Nat) : nt n = .int (n : Int) := rfl
theorem isi_int_none : isiB "int" (.none) = false := rfl
theorem isi_int_bool (b : Bool) : isiB "int" (.bool b) = true := rfl
theorem isi_int_int (b : Int) : isiB "int" (.int b) = true := rfl
theorem isi_int_str (b : Str) : isiB "int" (.str b) = false := rfl
theorem isi_int_list (b : List D) : isiB "int" (.list b) = false := rfl
theorem isi_int_tuple (b : List D) : isiB "int" (.tuple b) = false := rfl
theorem isi_bool_none : isiB "bool" (.none) = false := rfl
theorem isi_bool_bool (b : Bool) : isiB "bool" (.bool b) = true := rfl
theorem isi_bool_int (b : Int) : isiB "bool" (.int b) = false := rfl
theorem isi_bool_str (b : Str) : isiB "bool" (.str b) = false := rfl
theorem isi_bool_list (b : List D) : isiB "bool" (.list b) = false := rfl
theorem isi_bool_tuple (b : List D) : isiB "bool" (.tuple b) = false := rfl
theorem isi_str_none : isiB "str" (.none) = false := rfl
theorem isi_str_bool (b : Bool) : isiB "str" (.bool b) = false := rfl
theorem isi_str_int (b : Int) : isiB "str" (.int b) = false := rfl
theorem isi_str_str (b : Str) : isiB "str" (.str b) = true := rfl
theorem isi_str_list (b : List D) : isiB "str" (.list b) = false := rfl
theorem isi_str_tuple (b : List D) : isiB "str" (.tuple b) = false := rfl
theorem isi_tuple_none : isiB "tuple" (.none) = false := rfl
theorem isi_tuple_bool (b : Bool) : isiB "tuple" (.bool b) = false := rfl
theorem isi_tuple_int (b : Int) : isiB "tuple" (.int b) = false := rfl
theorem isi_tuple_str (b : Str) : isiB "tuple" (.str b) = false := rfl
theorem isi_tuple_list (b : List D) : isiB "tuple" (.list b) = false := rfl
theorem isi_tuple_tuple (b : List D) : isiB "tuple" (.tuple b) = true := rfl
theorem isi_list_none : isiB "list" (.none) = false := rfl
theorem isi_list_bool (b : Bool) : isiB "list" (.bool b) = false := rfl
theorem isi_list_int (b : Int) : isiB "list" (.int b) = false := rfl
theorem isi_list_str (b : Str) : isiB "list" (.str b) = false := rfl
theorem isi_list_list (b : List D) : isiB "list" (.list b) = true := rfl
theorem isi_list_tuple (b : List D) : isiB "list" (.tuple b) = false := rfl

end SX

set_option Elab.async false
set_option linter.all false
set_option maxRecDepth 100000
namespace SX
open PySem PySem.Spec PyProof.Rows L2
/-! ### cards as lists of numbers: walking, rings -/
def st (c : List Nat) (x : Nat) : Nat := c.getD x 0
def orb (c : List Nat) (s : Nat) : Nat → Nat
  | 0 => s
  | k + 1 => st c (orb c s k)
theorem st_at {c : List Nat} {x : Nat} (h : x < c.length) : c[x]? = some (st c x) := getElem_getD h
section
variable {c : List Nat}
theorem IsC.two (h : IsC c) : 2 ≤ c.length := h.1
theorem IsC.thousand (h : IsC c) : c.length ≤ 1000 := h.2.1
theorem IsC.st_lt (h : IsC c) {x : Nat} (hx : x < c.length) : st c x < c.length := h.2.2.2 _ (List.mem_of_getElem? (st_at hx))
theorem IsC.st_inj (h : IsC c) {x y : Nat} (hx : x < c.length) (hy : y < c.length) (e : st c x = st c y) : x = y :=
  nodup_at h.2.2.1 (st_at hx) (by rw [st_at hy, e])
theorem IsC.orb_lt (h : IsC c) {s : Nat} (hs : s < c.length) : ∀ k, orb c s k < c.length
  | 0 => hs
  | k + 1 => h.st_lt (h.orb_lt hs k)
theorem orb_add (c : List Nat) (s a : Nat) : ∀ b, orb c s (a + b) = orb c (orb c s a) b
  | 0 => rfl
  | b + 1 => by
    show st c (orb c s (a + b)) = st c (orb c (orb c s a) b)
    rw [orb_add c s a b]
theorem IsC.orb_inj (h : IsC c) {x y : Nat} (hx : x < c.length) (hy : y < c.length) : ∀ k, orb c x k = orb c y k → x = y
  | 0, e => e
  | k + 1, e => h.orb_inj hx hy k (h.st_inj (h.orb_lt hx k) (h.orb_lt hy k) e)
theorem pigeon : ∀ (n : Nat) (l : List Nat), l.Nodup → (∀ x ∈ l, x < n) → l.length ≤ n
  | 0, l, _, h => by
    cases l with
    | nil => exact Nat.le_refl _
    | cons x l => exact absurd (h x List.mem_cons_self) (Nat.not_lt_zero x)
  | n + 1, l, hn, h => by
    have q := pigeon n (l.erase n) (hn.erase n) fun x hx => by
      have := (List.Nodup.mem_erase_iff hn).mp hx
      have := h x this.2
      omega
    have := List.length_erase (a := n) (l := l)
    split at this <;> omega
theorem IsC.back (h : IsC c) {s : Nat} (hs : s < c.length) : ∃ k, 1 ≤ k ∧ k ≤ c.length ∧ orb c s k = s := by
  refine Classical.byContradiction fun hc => ?_
  have hc : ∀ k, 1 ≤ k → k ≤ c.length → orb c s k ≠ s := fun k h1 h2 e => hc ⟨k, h1, h2, e⟩
  have nd : ((List.range (c.length + 1)).map (orb c s)).Nodup := by
    refine List.pairwise_iff_getElem.mpr fun a b ha hb hab e => ?_
    simp only [List.length_map, List.length_range] at ha hb
    simp only [List.getElem_map, List.getElem_range] at e
    have e2 : b = a + (b - a) := by omega
    have e3 : a = 0 + a := by omega
    have : orb c (orb c s 0) a = orb c (orb c s (b - a)) a := by
      rw [← orb_add, ← orb_add, Nat.zero_add, e]
      congr 1
      omega
    have := h.orb_inj (h.orb_lt hs 0) (h.orb_lt hs (b - a)) a this
    exact hc (b - a) (by omega) (by omega) this.symm
  have := pigeon c.length _ nd fun x hx => by
    obtain ⟨k, _, rfl⟩ := List.mem_map.mp hx
    exact h.orb_lt hs k
  rw [List.length_map, List.length_range] at this
  omega
/-- how many evenings till the seat comes back -/
def per (c : List Nat) (s : Nat) : Nat := (((List.range c.length).map (· + 1)).find? fun k => decide (orb c s k = s)).getD 0
theorem IsC.per (h : IsC c) {s : Nat} (hs : s < c.length) : 1 ≤ per c s ∧ SX.per c s ≤ c.length ∧ orb c s (SX.per c s) = s ∧ ∀ k, 1 ≤ k → k < SX.per c s → orb c s k ≠ s := by
  obtain ⟨k, k1, k2, ke⟩ := h.back hs
  unfold SX.per
  cases e : ((List.range c.length).map (· + 1)).find? fun k => decide (orb c s k = s) with
  | none =>
    have := List.find?_eq_none.mp e k (List.mem_map.mpr ⟨k - 1, List.mem_range.mpr (by omega), by omega⟩)
    simp [ke] at this
  | some m =>
    have hm := List.find?_some e
    obtain ⟨hme, as, bs, e2, h3⟩ := List.find?_eq_some_iff_append.mp e
    have hmm : m ∈ (List.range c.length).map (· + 1) := List.mem_of_find?_eq_some e
    obtain ⟨j, hj, e4⟩ := List.mem_map.mp hmm
    have hj := List.mem_range.mp hj
    refine ⟨by show 1 ≤ m; omega, by show m ≤ _; omega, of_decide_eq_true hm, fun k a b q => ?_⟩
    have b : k < m := b
    -- k stands ahead of m
    have hk : k - 1 < as.length := by
      have lm : as.length = j := by
        have z : ((List.range c.length).map (· + 1))[as.length]? = some m := by rw [e2]; simp
        rw [List.getElem?_map] at z
        have la : as.length < c.length := by
          have := congrArg List.length e2
          simp at this
          omega
        rw [List.getElem?_range la] at z
        have : as.length + 1 = m := Option.some.inj z
        omega
      omega
    have hk2 : as[k - 1] = k := by
      have z : ((List.range c.length).map (· + 1))[k - 1]? = some as[k - 1] := by rw [e2, List.getElem?_append_left hk, List.getElem?_eq_getElem hk]
      rw [List.getElem?_map, List.getElem?_range (by omega)] at z
      have : k - 1 + 1 = as[k - 1] := Option.some.inj z
      omega
    have := h3 as[k - 1] (List.getElem_mem hk)
    rw [hk2] at this
    simp [q] at this
def ringOf (c : List Nat) (s : Nat) : List Nat := (List.range (per c s)).map (orb c s)
theorem ringOf_len (c : List Nat) (s : Nat) : (ringOf c s).length = per c s := by unfold ringOf; rw [List.length_map, List.length_range]
theorem ringOf_at {c : List Nat} {s k : Nat} (h : k < per c s) : (ringOf c s)[k]? = some (orb c s k) := by
  unfold ringOf
  rw [List.getElem?_map, List.getElem?_range h]
  rfl
theorem IsC.ring_nodup (h : IsC c) {s : Nat} (hs : s < c.length) : (ringOf c s).Nodup := by
  obtain ⟨p1, p2, p3, p4⟩ := h.per hs
  refine List.pairwise_iff_getElem.mpr fun a b ha hb hab e => ?_
  rw [ringOf_len] at ha hb
  have ea := ringOf_at ha
  have eb := ringOf_at hb
  rw [List.getElem?_eq_getElem (by rw [ringOf_len]; exact ha)] at ea
  rw [List.getElem?_eq_getElem (by rw [ringOf_len]; exact hb)] at eb
  have e5 : orb c s a = orb c s b := by rw [← Option.some.inj ea, ← Option.some.inj eb, e]
  have : orb c (orb c s 0) a = orb c (orb c s (b - a)) a := by
    rw [← orb_add, ← orb_add, Nat.zero_add, e5]
    congr 1
    omega
  have := h.orb_inj (h.orb_lt hs 0) (h.orb_lt hs (b - a)) a this
  exact p4 (b - a) (by omega) (by omega) this.symm
theorem IsC.orb_per (h : IsC c) {s : Nat} (hs : s < c.length) (k : Nat) : ∀ m, orb c s (k + m * SX.per c s) = orb c s k
  | 0 => by rw [Nat.zero_mul, Nat.add_zero]
  | m + 1 => by
    obtain ⟨p1, p2, p3, p4⟩ := h.per hs
    have e : k + (m + 1) * SX.per c s = SX.per c s + (k + m * SX.per c s) := by rw [Nat.succ_mul]; omega
    rw [e, orb_add, p3, h.orb_per hs k m]
theorem IsC.orb_mod (h : IsC c) {s : Nat} (hs : s < c.length) (k : Nat) : orb c s k = orb c s (k % SX.per c s) := by
  have e := h.orb_per hs (k % SX.per c s) (k / SX.per c s)
  rw [← e]
  congr 1
  rw [Nat.mul_comm]
  exact (Nat.mod_add_div k _).symm
theorem IsC.mem_ring (h : IsC c) {s : Nat} (hs : s < c.length) {x : Nat} : x ∈ ringOf c s ↔ ∃ k, x = orb c s k := by
  constructor
  · intro q
    unfold ringOf at q
    obtain ⟨k, _, e⟩ := List.mem_map.mp q
    exact ⟨k, e.symm⟩
  · rintro ⟨k, rfl⟩
    rw [h.orb_mod hs k]
    obtain ⟨p1, _⟩ := h.per hs
    exact List.mem_of_getElem? (ringOf_at (Nat.mod_lt _ p1))
theorem IsC.ring_lt (h : IsC c) {s : Nat} (hs : s < c.length) {x : Nat} (hx : x ∈ ringOf c s) : x < c.length := by
  obtain ⟨k, rfl⟩ := (h.mem_ring hs).mp hx
  exact h.orb_lt hs k
theorem IsC.ring_self (h : IsC c) {s : Nat} (hs : s < c.length) : s ∈ ringOf c s := (h.mem_ring hs).mpr ⟨0, rfl⟩
theorem IsC.ring_symm (h : IsC c) {s x : Nat} (hs : s < c.length) (hx : x ∈ ringOf c s) : s ∈ ringOf c x := by
  have lx := h.ring_lt hs hx
  obtain ⟨k, rfl⟩ := (h.mem_ring hs).mp hx
  obtain ⟨p1, p2, p3, _⟩ := h.per hs
  refine (h.mem_ring lx).mpr ⟨SX.per c s - k % SX.per c s, ?_⟩
  rw [h.orb_mod hs k, ← orb_add]
  have := Nat.mod_lt k p1
  have e : k % SX.per c s + (SX.per c s - k % SX.per c s) = SX.per c s := by omega
  rw [e, p3]
theorem IsC.ring_trans (h : IsC c) {s x y : Nat} (hs : s < c.length) (hx : x ∈ ringOf c s) (hy : y ∈ ringOf c x) : y ∈ ringOf c s := by
  have lx := h.ring_lt hs hx
  obtain ⟨k, rfl⟩ := (h.mem_ring hs).mp hx
  obtain ⟨j, rfl⟩ := (h.mem_ring lx).mp hy
  exact (h.mem_ring hs).mpr ⟨k + j, by rw [orb_add]⟩
/-- its ring's smallest seat -/
def isMin (c : List Nat) (s : Nat) : Bool := (ringOf c s).all fun x => decide (s ≤ x)
theorem isMin_iff {s : Nat} : isMin c s = true ↔ ∀ x ∈ ringOf c s, s ≤ x := by
  unfold isMin
  rw [List.all_eq_true]
  exact ⟨fun h x hx => of_decide_eq_true (h x hx), fun h x hx => decide_eq_true (h x hx)⟩
/-- a seat lies in a ring from a smaller seat if and only if it is not its ring's smallest -/
theorem IsC.met_iff (h : IsC c) {s : Nat} (hs : s < c.length) : (∃ t, t < s ∧ s ∈ ringOf c t) ↔ isMin c s = false := by
  constructor
  · rintro ⟨t, ht, q⟩
    have := h.ring_symm (Nat.lt_trans ht hs) q
    cases e : isMin c s with
    | false => rfl
    | true =>
      have := isMin_iff.mp e t this
      omega
  · intro e
    refine Classical.byContradiction fun q => ?_
    have : isMin c s = true := isMin_iff.mpr fun x hx => by
      refine Nat.le_of_not_lt fun z => q ⟨x, z, h.ring_symm hs hx⟩
    rw [e] at this
    cases this
def ringsOf (c : List Nat) : List (List Nat) := ((List.range c.length).filter (isMin c)).map (ringOf c)
/-- rings as data -/
def rgD (l : List (List Nat)) : List D := l.map fun r => PyData.tuple (nts r)
theorem rgD_app (l m : List (List Nat)) : rgD (l ++ m) = rgD l ++ rgD m := by unfold rgD; rw [List.map_append]
theorem rgD_len (l : List (List Nat)) : (rgD l).length = l.length := by unfold rgD; rw [List.length_map]
theorem rgD_fit (n : Nat) : ∀ l : List (List Nat), fits (n + 1) (rgD l) = true
  | [] => rfl
  | r :: l => by
    unfold fits rgD
    rw [List.map_cons, List.all_cons, Bool.and_eq_true]
    exact ⟨fit_tup (nts_fit n r), rgD_fit n l⟩
theorem rgD_imm (l : List (List Nat)) : imms (rgD l) = true := fits_imm (rgD_fit 0 l)
theorem rings_step {i : Nat} : (((List.range (i + 1)).filter (isMin c)).map (ringOf c)) = (((List.range i).filter (isMin c)).map (ringOf c)) ++ (if isMin c i = true then [ringOf c i] else []) := by
  rw [List.range_succ, List.filter_append, List.map_append]
  congr 1
  cases e : isMin c i <;> simp [e]
end
/-! ### dicts as sets -/
theorem valD_any (l : List (Key × D)) (k : Key) : (valD l k).isSome = l.any fun kv => decide (kv.1 = k) := by
  unfold valD
  induction l with
  | nil => rfl
  | cons p l ih =>
    rw [List.find?_cons, List.any_cons]
    cases e : decide (p.1 = k) with
    | true => rfl
    | false => exact ih
theorem putD_some {l : List (Key × D)} {k j : Key} {d : D} : (valD (putD l k d) j).isSome = true ↔ j = k ∨ (valD l j).isSome = true := by
  rw [valD_any, valD_any]
  unfold putD
  by_cases e : (l.any fun kv => decide (kv.1 = k)) = true
  · rw [if_pos e, List.any_map]
    have h1 : (l.any ((fun kv => decide (kv.1 = j)) ∘ fun kv => if kv.1 = k then (kv.1, d) else kv)) = l.any fun kv => decide (kv.1 = j) := by
      congr 1
      funext kv
      show decide ((if kv.1 = k then (kv.1, d) else kv).1 = j) = _
      split <;> rfl
    rw [h1]
    refine ⟨.inr, fun q => ?_⟩
    rcases q with q | q
    · rw [q]; exact e
    · exact q
  · rw [if_neg e, List.any_append, Bool.or_eq_true]
    simp only [List.any_cons, List.any_nil, Bool.or_false, decide_eq_true_eq]
    exact ⟨fun q => q.elim .inr fun z => .inl z.symm, fun q => q.elim (fun z => .inr z.symm) .inl⟩
theorem putD_len (l : List (Key × D)) (k : Key) (d : D) : (putD l k d).length ≤ l.length + 1 := by
  unfold putD
  split
  · rw [List.length_map]; omega
  · rw [List.length_append, List.length_singleton]; omega
theorem mergeD_some {k : Key} : ∀ (more l : List (Key × D)), (valD (mergeD l more) k).isSome = true ↔ (valD l k).isSome = true ∨ (valD more k).isSome = true
  | [], l => ⟨.inl, fun q => q.elim id fun z => nomatch z⟩
  | p :: more, l => by
    show (valD (mergeD (putD l p.1 p.2) more) k).isSome = true ↔ _
    rw [mergeD_some more (putD l p.1 p.2), putD_some]
    have e : (valD (p :: more) k).isSome = true ↔ k = p.1 ∨ (valD more k).isSome = true := by
      rw [valD_any, valD_any, List.any_cons, Bool.or_eq_true, decide_eq_true_eq]
      exact ⟨fun q => q.elim (fun z => .inl z.symm) .inr, fun q => q.elim (fun z => .inl z.symm) .inr⟩
    rw [e]
    constructor
    · rintro ((a | a) | a)
      · exact .inr (.inl a)
      · exact .inl a
      · exact .inr (.inr a)
    · rintro (a | a | a)
      · exact .inl (.inr a)
      · exact .inl (.inl a)
      · exact .inr a
theorem mergeD_len : ∀ (more l : List (Key × D)), (mergeD l more).length ≤ l.length + more.length
  | [], l => Nat.le_refl _
  | p :: more, l => by
    have h1 := mergeD_len more (putD l p.1 p.2)
    have h2 := putD_len l p.1 p.2
    show (mergeD (putD l p.1 p.2) more).length ≤ _
    rw [List.length_cons]
    omega
theorem inl_eq {x y : Nat} : (Sum.inl (x : Int) : Key) = .inl (y : Int) ↔ x = y := by
  constructor
  · intro h
    have := Sum.inl.inj h
    omega
  · rintro rfl
    rfl
theorem mem_take_succ {l : List Nat} {i n x : Nat} (h : l[i]? = some n) : x ∈ l.take (i + 1) ↔ x = n ∨ x ∈ l.take i := by
  rw [List.take_add_one, h, Option.toList_some, List.mem_append, List.mem_singleton]
  exact ⟨fun q => q.elim .inr .inl, fun q => q.elim .inr .inl⟩
theorem rgD_okA (n : Nat) {l : List (List Nat)} (h : l.length ≤ 1000) (h2 : ∀ r ∈ l, r.length ≤ 1000) : okA (n + 3) (.list (rgD l)) = true := by
  show (decide ((rgD l).length ≤ 1000) && (rgD l).all (okA (n + 2))) = true
  rw [Bool.and_eq_true, decide_eq_true_eq, rgD_len, List.all_eq_true]
  refine ⟨h, fun x hx => ?_⟩
  obtain ⟨r, hr, rfl⟩ := List.mem_map.mp hx
  show (decide ((nts r).length ≤ 1000) && (nts r).all (okA (n + 1))) = true
  rw [Bool.and_eq_true, decide_eq_true_eq, nts_len]
  exact ⟨h2 r hr, okA_nts _ _⟩
theorem ringsOf_small {c : List Nat} (h : IsC c) : (ringsOf c).length ≤ 1000 ∧ ∀ r ∈ ringsOf c, r.length ≤ 1000 := by
  have h3 := h.thousand
  unfold ringsOf
  refine ⟨?_, fun r hr => ?_⟩
  · rw [List.length_map]
    refine Nat.le_trans (List.length_filter_le _ _) ?_
    rw [List.length_range]
    exact h3
  · obtain ⟨s, hs, rfl⟩ := List.mem_map.mp hr
    have hs := List.mem_range.mp (List.mem_filter.mp hs).1
    rw [ringOf_len]
    have := (h.per hs).2.1
    omega
end SX

set_option Elab.async false
set_option linter.all false
set_option maxRecDepth 100000
namespace SX
open PySem PySem.Spec PyProof.Rows L2
/-! ### cards moved on by any number of evenings -/
/-- where one who sits at s sits e evenings later -/
def ik (c : List Nat) (s : Nat) (e : Int) : Nat := orb c s (e % (per c s : Int)).toNat
def pw (c : List Nat) (e : Int) : List Nat := (List.range c.length).map fun s => ik c s e
theorem pw_len (c : List Nat) (e : Int) : (pw c e).length = c.length := by unfold pw; rw [List.length_map, List.length_range]
theorem pw_at {c : List Nat} {s : Nat} (e : Int) (h : s < c.length) : (pw c e)[s]? = some (ik c s e) := by
  unfold pw
  rw [List.getElem?_map, List.getElem?_range h]
  rfl
theorem st_pw {c : List Nat} {s : Nat} (e : Int) (h : s < c.length) : st (pw c e) s = ik c s e := getD_of (pw_at e h)
section
variable {c : List Nat}
theorem IsC.ik_lt (h : IsC c) {s : Nat} (hs : s < c.length) (e : Int) : ik c s e < c.length := h.orb_lt hs _
theorem IsC.per_orb (h : IsC c) {s : Nat} (hs : s < c.length) (k : Nat) : SX.per c (orb c s k) = SX.per c s := by
  obtain ⟨p1, p2, p3, p4⟩ := h.per hs
  obtain ⟨q1, q2, q3, q4⟩ := h.per (h.orb_lt hs k)
  have a : orb c (orb c s k) (SX.per c s) = orb c s k := by
    rw [← orb_add, Nat.add_comm, orb_add, p3]
  have b : orb c s (SX.per c (orb c s k)) = s := by
    refine h.orb_inj (h.orb_lt hs _) hs k ?_
    rw [← orb_add, Nat.add_comm, orb_add, q3]
  refine Nat.le_antisymm (Nat.le_of_not_lt fun z => ?_) (Nat.le_of_not_lt fun z => ?_)
  · exact q4 _ p1 z a
  · exact p4 _ q1 z b
theorem IsC.ik_nat (h : IsC c) {s : Nat} (hs : s < c.length) (k : Nat) : ik c s (k : Int) = orb c s k := by
  unfold ik
  rw [h.orb_mod hs k]
  congr 1
theorem IsC.ik_mod (h : IsC c) {s : Nat} (hs : s < c.length) {e : Int} {k : Nat} (hk : (k : Int) % (SX.per c s : Int) = e % (SX.per c s : Int)) : orb c s k = ik c s e := by
  rw [← h.ik_nat hs k]
  unfold ik
  rw [hk]
theorem IsC.ik_add (h : IsC c) {s : Nat} (hs : s < c.length) (a b : Int) : ik c (ik c s a) b = ik c s (a + b) := by
  obtain ⟨p1, _⟩ := h.per hs
  have hp : SX.per c (ik c s a) = SX.per c s := h.per_orb hs _
  have e : ik c (ik c s a) b = orb c s ((a % (SX.per c s : Int)).toNat + (b % (SX.per c s : Int)).toNat) := by
    rw [orb_add]
    show orb c (ik c s a) (b % (SX.per c (ik c s a) : Int)).toNat = _
    rw [hp]
    rfl
  rw [e]
  refine h.ik_mod hs ?_
  have n1 := Int.emod_nonneg a (show ((SX.per c s : Nat) : Int) ≠ 0 by omega)
  have n2 := Int.emod_nonneg b (show ((SX.per c s : Nat) : Int) ≠ 0 by omega)
  rw [Int.natCast_add, Int.toNat_of_nonneg n1, Int.toNat_of_nonneg n2, ← Int.add_emod]
theorem IsC.ik_zero (h : IsC c) {s : Nat} (hs : s < c.length) : ik c s 0 = s := h.ik_nat hs 0
theorem IsC.ik_one (h : IsC c) {s : Nat} (hs : s < c.length) : ik c s 1 = st c s := h.ik_nat hs 1
theorem IsC.pw_isC (h : IsC c) (e : Int) : IsC (pw c e) := by
  refine ⟨by rw [pw_len]; exact h.two, by rw [pw_len]; exact h.thousand, ?_, fun x hx => ?_⟩
  · refine List.pairwise_iff_getElem.mpr fun a b ha hb hab q => ?_
    rw [pw_len] at ha hb
    have ea := pw_at e ha
    have eb := pw_at e hb
    rw [List.getElem?_eq_getElem (by rw [pw_len]; exact ha)] at ea
    rw [List.getElem?_eq_getElem (by rw [pw_len]; exact hb)] at eb
    have q2 : ik c a e = ik c b e := by rw [← Option.some.inj ea, ← Option.some.inj eb, q]
    have := congrArg (fun x => ik c x (-e)) q2
    simp only [h.ik_add ha, h.ik_add hb, Int.add_right_neg, h.ik_zero ha, h.ik_zero hb] at this
    omega
  · rw [pw_len]
    unfold pw at hx
    obtain ⟨s, hs, rfl⟩ := List.mem_map.mp hx
    exact h.ik_lt (List.mem_range.mp hs) e
theorem IsC.pw_zero (h : IsC c) : pw c 0 = List.range c.length := by
  unfold pw
  have : ∀ s ∈ List.range c.length, ik c s 0 = id s := fun s hs => h.ik_zero (List.mem_range.mp hs)
  rw [List.map_congr_left this, List.map_id]
theorem IsC.pw_one (h : IsC c) : pw c 1 = c := by
  refine List.ext_getElem? fun i => ?_
  rcases Nat.lt_or_ge i c.length with hi | hi
  · rw [pw_at 1 hi, h.ik_one hi, st_at hi]
  · rw [List.getElem?_eq_none (by rw [pw_len]; exact hi), List.getElem?_eq_none hi]
/-- one after the other -/
def joinL (a b : List Nat) : List Nat := a.map (st b)
theorem IsC.join_pw (h : IsC c) (a b : Int) : joinL (pw c a) (pw c b) = pw c (a + b) := by
  unfold joinL
  unfold pw
  rw [List.map_map]
  refine List.map_congr_left fun s hs => ?_
  have hs := List.mem_range.mp hs
  show st (pw c b) (ik c s a) = ik c s (a + b)
  rw [st_pw b (h.ik_lt hs a), h.ik_add hs]
theorem IsC.idx (h : IsC c) {s x : Nat} (hs : s < c.length) (e : c[s]? = some x) : c.idxOf x = s := by
  have hm : x ∈ c := List.mem_of_getElem? e
  have l := List.idxOf_lt_length_of_mem hm
  refine nodup_at h.2.2.1 ?_ e
  rw [List.getElem?_eq_getElem l]
  congr 1
  exact List.getElem_idxOf l
theorem IsC.pw_idx (h : IsC c) {s : Nat} (hs : s < c.length) (e : Int) : (pw c e).idxOf s = ik c s (-e) := by
  refine (h.pw_isC e).idx (by rw [pw_len]; exact h.ik_lt hs _) ?_
  rw [pw_at e (h.ik_lt hs _), h.ik_add hs, Int.add_left_neg, h.ik_zero hs]
theorem IsC.surj (h : IsC c) {s : Nat} (hs : s < c.length) : s ∈ c := by
  have := st_at (h.ik_lt hs (-1))
  have e : st c (ik c s (-1)) = s := by
    rw [← h.ik_one (h.ik_lt hs (-1)), h.ik_add hs]
    exact h.ik_zero hs
  rw [e] at this
  exact List.mem_of_getElem? this
/-- the index of numbers, as whole numbers -/
theorem idxOf_cast (x : Nat) : ∀ l : List Nat, (l.map fun n : Nat => (n : Int)).idxOf (x : Int) = l.idxOf x
  | [] => rfl
  | y :: l => by
    rw [List.map_cons, List.idxOf_cons, List.idxOf_cons, idxOf_cast x l]
    have : ((y : Int) == (x : Int)) = (y == x) := by
      rw [Bool.eq_iff_iff, beq_iff_eq, beq_iff_eq]
      omega
    rw [this]
theorem mem_cast {x : Nat} {l : List Nat} (h : x ∈ l) : (x : Int) ∈ l.map fun n : Nat => (n : Int) := List.mem_map.mpr ⟨x, h, rfl⟩
end
/-! ### rings, again -/
section
variable {c : List Nat}
theorem ringsOf_get {c : List Nat} {j : Nat} {r : List Nat} (h : (ringsOf c)[j]? = some r) : ∃ m, m < c.length ∧ r = ringOf c m ∧ isMin c m = true := by
  obtain ⟨m, hm, e⟩ := List.mem_map.mp (List.mem_of_getElem? h)
  obtain ⟨h1, h2⟩ := List.mem_filter.mp hm
  exact ⟨m, List.mem_range.mp h1, e.symm, h2⟩
theorem ringsOf_mem {c : List Nat} {r : List Nat} (h : r ∈ ringsOf c) : ∃ m, m < c.length ∧ r = ringOf c m ∧ isMin c m = true := by
  obtain ⟨m, hm, e⟩ := List.mem_map.mp h
  obtain ⟨h1, h2⟩ := List.mem_filter.mp hm
  exact ⟨m, List.mem_range.mp h1, e.symm, h2⟩
/-- the smallest seat of a ring -/
theorem IsC.min_of (h : IsC c) : ∀ (k s : Nat), s < k → s < c.length → ∃ m, m < c.length ∧ isMin c m = true ∧ s ∈ ringOf c m
  | 0, s, hk, _ => absurd hk (Nat.not_lt_zero s)
  | k + 1, s, hk, hs => by
    cases e : isMin c s with
    | true => exact ⟨s, hs, e, h.ring_self hs⟩
    | false =>
      obtain ⟨t, ht, hm⟩ := (h.met_iff hs).mpr e
      obtain ⟨m, m1, m2, m3⟩ := IsC.min_of h k t (by omega) (by omega)
      exact ⟨m, m1, m2, h.ring_trans m1 m3 hm⟩
theorem IsC.covered (h : IsC c) {s : Nat} (hs : s < c.length) : ∃ (j : Nat) (r : List Nat), (ringsOf c)[j]? = some r ∧ s ∈ r := by
  obtain ⟨m, m1, m2, m3⟩ := h.min_of (s + 1) s (by omega) hs
  have : ringOf c m ∈ ringsOf c := List.mem_map.mpr ⟨m, List.mem_filter.mpr ⟨List.mem_range.mpr m1, m2⟩, rfl⟩
  obtain ⟨j, hj⟩ := List.mem_iff_getElem?.mp this
  exact ⟨j, _, hj, m3⟩
theorem IsC.ring_step (h : IsC c) {m k : Nat} (hm : m < c.length) {e : Int} : ik c (orb c m k) e = orb c m ((((k : Int) + e) % (SX.per c m : Int)).toNat) := by
  have := h.ik_add hm (k : Int) e
  rw [h.ik_nat hm k] at this
  rw [this]
  rfl
theorem IsC.ringsOf_len (h : IsC c) : (ringsOf c).length ≤ c.length := by
  unfold ringsOf
  rw [List.length_map]
  refine Nat.le_trans (List.length_filter_le _ _) ?_
  rw [List.length_range]
  exact Nat.le_refl _
end
end SX

set_option linter.all false
set_option maxRecDepth 100000
namespace SX
open PySem PySem.Spec PyProof.Rows L2
/-! ### readings that stand still where something must be told (what comes later is named by a tag, so that simp keeps out of it) -/
/-- a tag: what it names stays as it is -/
inductive Hd.{u} {α : Sort u} (a : α) : Type where
  | mk
/-- a condition, then the rest -/
def sdB (C Q : Prop) (_ : Hd Q := .mk) : Prop := C ∧ Q
theorem sdB_i {C Q : Prop} (h : C) (q : Q) : sdB C Q := ⟨h, q⟩
theorem sdB_t {C Q : Prop} (h : C) : sdB C Q = Q := propext ⟨fun q => q.2, fun q => ⟨h, q⟩⟩
/-- an option's content, then the rest -/
def gtB {α : Type} (o : Option α) (Q : α → Prop) (_ : Hd Q := .mk) : Prop := ∃ d, o = some d ∧ Q d
theorem gtB_i {α : Type} {o : Option α} {Q : α → Prop} {d : α} (h : o = some d) (q : Q d) : gtB o Q := ⟨d, h, q⟩
theorem gtB_s {α : Type} (d : α) (Q : α → Prop) : gtB (some d) Q = Q d := propext ⟨fun ⟨_, e, q⟩ => by cases e; exact q, fun q => ⟨d, rfl, q⟩⟩
/-- numbers asked for -/
def intsB (l : List D) (Q : List Int → Prop) (_ : Hd Q := .mk) : Prop := ∃ ns : List Int, l = ns.map PyData.int ∧ Q ns
theorem intsB_m (ns : List Int) (Q : List Int → Prop) : intsB (ns.map PyData.int) Q = Q ns := propext ⟨fun ⟨ms, e, q⟩ => by
  have : ns = ms := by
    have := congrArg (List.map fun d : D => match d with | .int i => i | _ => 0) e
    simpa [List.map_map, Function.comp_def] using this
  rw [this]; exact q, fun q => ⟨ns, rfl, q⟩⟩
theorem intsB_1 (a : Int) (Q : List Int → Prop) : intsB [.int a] Q = Q [a] := intsB_m [a] Q
theorem intsB_2 (a b : Int) (Q : List Int → Prop) : intsB [.int a, .int b] Q = Q [a, b] := intsB_m [a, b] Q
theorem intsB_3 (a b c : Int) (Q : List Int → Prop) : intsB [.int a, .int b, .int c] Q = Q [a, b, c] := intsB_m [a, b, c] Q
def castL (l : List Nat) : List Int := l.map fun n : Nat => (n : Int)
theorem intsB_n (l : List Nat) (Q : List Int → Prop) : intsB (nts l) Q = Q (castL l) := by
  rw [nts_ints]; exact intsB_m _ _
theorem intsB_nil (Q : List Int → Prop) : intsB [] Q = Q [] := intsB_m [] Q
/-- a call of values -/
def callB (pre : List D → Prop) (post : List D → AV → Prop) (n : Nat) (o : Option (List D)) (ds : Sto) (Q : Sto → AV → Prop) (_ : Hd Q := .mk) : Prop := ∃ dl, o = some dl ∧ dl.length = n ∧ pre dl ∧ ∀ x, post dl x → Q ds x
theorem callB_i {pre : List D → Prop} {post : List D → AV → Prop} {n : Nat} {dl : List D} {ds : Sto} {Q : Sto → AV → Prop} (hn : dl.length = n) (hp : pre dl) (q : ∀ x, post dl x → Q ds x) : callB pre post n (some dl) ds Q := ⟨dl, rfl, hn, hp, q⟩
/-- the store with a list changed -/
def stL (ds : Sto) (i : Nat) (l : List D) : Sto := ds.set i (upL (ds.getD i .un) l)
def callMB (pre : List D → List D → Prop) (post : List D → List D → List D → AV → Prop) (n : Nat) (o : Option (List D)) (o2 : Option (List D)) (ds : Sto) (i : Nat) (Q : Sto → AV → Prop) (_ : Hd Q := .mk) : Prop := ∃ l dl, o = some l ∧ o2 = some dl ∧ dl.length = n ∧ pre l dl ∧ ∀ l' x, post l dl l' x → Q (stL ds i l') x
theorem callMB_i {pre : List D → List D → Prop} {post : List D → List D → List D → AV → Prop} {n : Nat} {l dl : List D} {ds : Sto} {i : Nat} {Q : Sto → AV → Prop} (hn : dl.length = n) (hp : pre l dl) (q : ∀ l' x, post l dl l' x → Q (stL ds i l') x) : callMB pre post n (some l) (some dl) ds i Q := ⟨l, dl, rfl, rfl, hn, hp, q⟩
/-- deep equality -/
def eqB (a b : Option D) (Q : Bool → Prop) (_ : Hd Q := .mk) : Prop := ∃ d e, a = some d ∧ b = some e ∧ SeqAt.shaped d = true ∧ SeqAt.shaped e = true ∧ Q (PyData.eqv d e)
theorem eqB_i {d e : D} {Q : Bool → Prop} (h1 : SeqAt.shaped d = true) (h2 : SeqAt.shaped e = true) (q : Q (PyData.eqv d e)) : eqB (some d) (some e) Q := ⟨d, e, rfl, rfl, h1, h2, q⟩
/-- the greatest, the least -/
def exB (ns : List Int) (le : Int → Int → Prop) (Q : Int → Prop) (_ : Hd Q := .mk) : Prop := 0 < ns.length ∧ ∀ m, m ∈ ns → (∀ y, y ∈ ns → le y m) → Q m
/-- sorted numbers -/
def soB (ns : List Int) (Q : List Int → Prop) (_ : Hd Q := .mk) : Prop := ns.length < 64 ∧ ∀ ns' : List Int, ns'.Perm ns → ns'.Pairwise (· ≤ ·) → Q ns'
/-- a choice between two values -/
def ifQ (c : Bool) (p q : Prop) (_ : Hd p := .mk) (_ : Hd q := .mk) : Prop := if c = true then p else q
theorem ifQ_t (p q : Prop) : ifQ true p q = p := rfl
theorem ifQ_f (p q : Prop) : ifQ false p q = q := by simp [ifQ]
theorem ifQ_i {c : Bool} {p q : Prop} (h1 : c = true → p) (h2 : c = false → q) : ifQ c p q := by
  cases c
  · rw [ifQ_f]; exact h2 rfl
  · rw [ifQ_t]; exact h1 rfl
def ifS (a b : WS) (N : AEnds) (ds : Sto) (c : Bool) (_ : Hd a := .mk) (_ : Hd b := .mk) (_ : Hd N := .mk) : Prop := if c = true then a N ds else b N ds
theorem wIf_s (wt : WT) (a b : WS) (N : AEnds) (ds : Sto) : wIf wt a b N ds = wt ds (fun ds1 c => ifS a b N ds1 c) := rfl
theorem ifS_t (a b : WS) (N : AEnds) (ds : Sto) : ifS a b N ds true = a N ds := rfl
theorem ifS_f (a b : WS) (N : AEnds) (ds : Sto) : ifS a b N ds false = b N ds := rfl
theorem ifS_i {a b : WS} {N : AEnds} {ds : Sto} {c : Bool} (h1 : c = true → a N ds) (h2 : c = false → b N ds) : ifS a b N ds c := ifB_i h1 h2
def forS (wg : WG) (wb : WS) (N : AEnds) (ds : Sto) (l : List D) (_ : Hd wg := .mk) (_ : Hd wb := .mk) (_ : Hd N := .mk) : Prop := forB wg wb N ds l
theorem wFor_s (wi : WI) (wg : WG) (wb : WS) (N : AEnds) (ds : Sto) : wFor wi wg wb N ds = wi ds (fun ds1 l => forS wg wb N ds1 l) := rfl
def whileS (wt : WT) (wb : WS) (N : AEnds) (ds : Sto) (_ : Hd wt := .mk) (_ : Hd wb := .mk) (_ : Hd N := .mk) : Prop := wWhile wt wb N ds
theorem wWhile_s (wt : WT) (wb : WS) (N : AEnds) (ds : Sto) : wWhile wt wb N ds = whileS wt wb N ds := rfl
def lcS (wg : WG) (wt : WT) (we : WE) (own : List Nat) (ds1 : Sto) (l : List D) (Q : Sto → AV → Prop) (_ : Hd wg := .mk) (_ : Hd wt := .mk) (_ : Hd we := .mk) (_ : Hd Q := .mk) : Prop := lcB wg wt we own ds1 l Q
def dcS (wg : WG) (wt : WT) (wk wv : WE) (own : List Nat) (ds1 : Sto) (l : List D) (Q : Sto → AV → Prop) (_ : Hd wg := .mk) (_ : Hd wt := .mk) (_ : Hd wk := .mk) (_ : Hd wv := .mk) (_ : Hd Q := .mk) : Prop := dcB wg wt wk wv own ds1 l Q
/-! ### the equations -/
theorem wIC_s (C : Int → Int → Prop) (g : Int → Int → Int) (x y : AV) (ds : Sto) (Q : Sto → AV → Prop) : wIC C g x y ds Q = (match x, y with
  | .fz (.int i), .fz (.int j) => sdB (C i j) (Q ds (.fz (.int (g i j))))
  | _, _ => False) := rfl
theorem wEqD_s (neg : Bool) (x y : AV) (ds : Sto) (Q : Sto → AV → Prop) : wEqD neg x y ds Q = eqB (vl ds x) (vl ds y) (fun b => Q ds (.fz (.bool (if neg then !b else b)))) := rfl
theorem wAndV_s (wa wb : WE) (ds : Sto) (Q : Sto → AV → Prop) : wAndV wa wb ds Q = (wa ds fun ds1 x => match x with
  | .fz (.bool c) => ifQ c (wb ds1 Q) (Q ds1 (.fz (.bool false)))
  | _ => False) := rfl
theorem wOrV_s (wa wb : WE) (ds : Sto) (Q : Sto → AV → Prop) : wOrV wa wb ds Q = (wa ds fun ds1 x => match x with
  | .fz (.bool c) => ifQ c (Q ds1 (.fz (.bool true))) (wb ds1 Q)
  | _ => False) := rfl
theorem wAnd_s (wa wb : WT) (ds : Sto) (Q : Sto → Bool → Prop) : wAnd wa wb ds Q = (wa ds fun ds1 c => ifQ c (wb ds1 Q) (Q ds1 false)) := rfl
theorem wOr_s (wa wb : WT) (ds : Sto) (Q : Sto → Bool → Prop) : wOr wa wb ds Q = (wa ds fun ds1 c => ifQ c (Q ds1 true) (wb ds1 Q)) := rfl
theorem wIfE_s (wt : WT) (wa wb : WE) (ds : Sto) (Q : Sto → AV → Prop) : wIfE wt wa wb ds Q = (wt ds fun ds1 c => ifQ c (wa ds1 Q) (wb ds1 Q)) := rfl
theorem wTup_s (wa : WA) (ds : Sto) (Q : Sto → AV → Prop) : wTup wa ds Q = (wa ds fun ds1 xs => match fzs xs with
  | some l => sdB (l.length ≤ 1000) (Q ds1 (.fz (.tuple l)))
  | none => False) := rfl
theorem wLst_s (wa : WA) (ds : Sto) (Q : Sto → AV → Prop) : wLst wa ds Q = (wa ds fun ds1 xs => match fzs xs with
  | some l => sdB (l.length ≤ 1000) (Q ds1 (.ls l))
  | none => False) := rfl
theorem wCallP_s (pre : List D → Prop) (post : List D → AV → Prop) (n : Nat) (wa : WA) (ds : Sto) (Q : Sto → AV → Prop) : wCallP pre post n wa ds Q = (wa ds fun ds1 xs => callB pre post n (vls ds1 xs) ds1 Q) := rfl
theorem wCallM_s (pre : List D → List D → Prop) (post : List D → List D → List D → AV → Prop) (n : Nat) (wa : WA) (ds : Sto) (Q : Sto → AV → Prop) : wCallM pre post n wa ds Q = (wa ds fun ds1 xs => match xs with
  | .rf i :: r => callMB pre post n (oL (ds1.getD i .un)) (fzs r) ds1 i Q
  | _ => False) := rfl
theorem wAppend_s (o : AV) (xs : List AV) (ds : Sto) (Q : Sto → AV → Prop) : wAppend o xs ds Q = (match o, xs with
  | .rf i, [.fz d] => match oL (ds.getD i .un) with
    | some l => sdB (l.length ≤ 100000) (Q (ds.set i (upL (ds.getD i .un) (l ++ [d]))) (.fz .none))
    | none => False
  | _, _ => False) := rfl
theorem wExtend_s (o : AV) (xs : List AV) (ds : Sto) (Q : Sto → AV → Prop) : wExtend o xs ds Q = (match o, xs with
  | .rf i, [.ls l2] => match oL (ds.getD i .un) with
    | some l => sdB (l.length + l2.length ≤ 100000) (Q (ds.set i (upL (ds.getD i .un) (l ++ l2))) (.fz .none))
    | none => False
  | _, _ => False) := rfl
theorem wPop_s (o : AV) (xs : List AV) (ds : Sto) (Q : Sto → AV → Prop) : wPop o xs ds Q = (match o, xs with
  | .rf i, [] => match oL (ds.getD i .un) with
    | some l => gtB l.getLast? fun d => Q (ds.set i (upL (ds.getD i .un) l.dropLast)) (.fz d)
    | none => False
  | _, _ => False) := rfl
theorem wIxL_s (x y : AV) (ds : Sto) (Q : Sto → AV → Prop) : wIxL x y ds Q = (match lsOf ds x, y with
  | some l, .fz (.int i) => gtB (atI l i) fun d => Q ds (.fz d)
  | _, _ => False) := rfl
theorem wIxT_s (x y : AV) (ds : Sto) (Q : Sto → AV → Prop) : wIxT x y ds Q = (match x, y with
  | .fz (.tuple l), .fz (.int i) => gtB (atI l i) fun d => Q ds (.fz d)
  | _, _ => False) := rfl
theorem wIxA_s (x y : AV) (ds : Sto) (Q : Sto → AV → Prop) : wIxA x y ds Q = (match its ds x, y with
  | some l, .fz (.int i) => gtB (atI l i) fun d => Q ds (.fz d)
  | _, _ => False) := rfl
theorem wCatT_s (x y : AV) (ds : Sto) (Q : Sto → AV → Prop) : wCatT x y ds Q = (match x, y with
  | .fz (.tuple a), .fz (.tuple b) => sdB (a.length + b.length ≤ 100000) (Q ds (.fz (.tuple (a ++ b))))
  | _, _ => False) := rfl
theorem wCat_s (x y : AV) (ds : Sto) (Q : Sto → AV → Prop) : wCat x y ds Q = (match oLs ds x, oLs ds y with
  | some a, some b => sdB (a.length + b.length ≤ 100000) (Q ds (.ls (a ++ b)))
  | _, _ => False) := rfl
theorem wAddD_s (x y : AV) (ds : Sto) (Q : Sto → AV → Prop) : wAddD x y ds Q = (match x, y with
  | .fz (.int i), .fz (.int j) => Q ds (.fz (.int (i + j)))
  | .fz (.str a), .fz (.str b) => sdB (a.length + b.length ≤ 100000) (Q ds (.fz (.str (a ++ b))))
  | .fz (.tuple a), .fz (.tuple b) => sdB (a.length + b.length ≤ 100000) (Q ds (.fz (.tuple (a ++ b))))
  | _, _ => match oLs ds x, oLs ds y with
    | some a, some b => sdB (a.length + b.length ≤ 100000) (Q ds (.ls (a ++ b)))
    | _, _ => False) := rfl
def repB (n : Int) (k : Nat) (Q : Prop) (_ : Hd Q := .mk) : Prop := 0 ≤ n ∧ n ≤ 100000 ∧ k * n.toNat ≤ 100000 ∧ Q
theorem wRep_s (x y : AV) (ds : Sto) (Q : Sto → AV → Prop) : wRep x y ds Q = (match oLs ds x, y with
  | some a, .fz (.int n) => repB n a.length (Q ds (.ls (List.replicate n.toNat a).flatten))
  | _, _ => False) := rfl
theorem repB_1 {n : Int} {Q : Prop} (h : 0 ≤ n) (h2 : n ≤ 100000) : repB n 1 Q = Q := propext ⟨fun q => q.2.2.2, fun q => ⟨h, h2, by omega, q⟩⟩
theorem rep_one (x : D) (n : Nat) : (List.replicate n [x]).flatten = List.replicate n x := by
  induction n with
  | zero => rfl
  | succ n ih => rw [List.replicate_succ, List.flatten_cons, ih, List.replicate_succ]; rfl
theorem rep_nts (x n : Nat) : List.replicate n (PyData.int (x : Int)) = nts (List.replicate n x) := by
  unfold nts
  rw [List.map_replicate]
  rfl
theorem rep_nts0 (n : Nat) : List.replicate n (PyData.int 0) = nts (List.replicate n 0) := rep_nts 0 n
theorem at_mod {l : List Nat} {e : Int} (h : 0 < l.length) : atI (nts l) (e % (l.length : Int)) = some (.int (st l (e % (l.length : Int)).toNat : Nat)) := by
  have h0 : 0 ≤ e % (l.length : Int) := Int.emod_nonneg _ (by omega)
  have h1 : e % (l.length : Int) < (l.length : Int) := Int.emod_lt_of_pos _ (by omega)
  have := nts_atD (l := l) (i := (e % (l.length : Int)).toNat) (by omega)
  rw [Int.toNat_of_nonneg h0] at this
  exact this
theorem IsC.st_ring {c : List Nat} {s : Nat} (hc : IsC c) (hs : s < c.length) (e : Int) : st (ringOf c s) (e % ((ringOf c s).length : Int)).toNat = ik c s e := by
  have hp := (hc.per hs).1
  rw [ringOf_len]
  exact getD_of (ringOf_at (by have := Int.emod_lt_of_pos e (show (0 : Int) < (SX.per c s : Int) by omega); have := Int.emod_nonneg e (show (SX.per c s : Int) ≠ 0 by omega); omega))
theorem IsC.ring_pos {c : List Nat} {s : Nat} (hc : IsC c) (hs : s < c.length) : 0 < (ringOf c s).length := by
  rw [ringOf_len]
  exact (hc.per hs).1
theorem okT_nts (n : Nat) {l : List Nat} (h : l.length ≤ 1000) : okA (n + 2) (.tuple (nts l)) = true := by
  show (decide ((nts l).length ≤ 1000) && (nts l).all (okA (n + 1))) = true
  rw [okA_nts, nts_len, decide_eq_true h]
  rfl
theorem okL_nts (n : Nat) {l : List Nat} (h : l.length ≤ 1000) : okA (n + 2) (.list (nts l)) = true := by
  show (decide ((nts l).length ≤ 1000) && (nts l).all (okA (n + 1))) = true
  rw [okA_nts, nts_len, decide_eq_true h]
  rfl
theorem modN (k n : Nat) : ((k : Int) + 1) % (n : Int) = (((k + 1) % n : Nat) : Int) := by rw [Int.natCast_emod]; rfl
theorem modN2 (k j n : Nat) : ((k : Int) + (j : Int)) % (n : Int) = (((k + j) % n : Nat) : Int) := by rw [Int.natCast_emod]; rfl
def inB (o : Option (List D)) (Q : List Int → Prop) (_ : Hd Q := .mk) : Prop := ∃ ns : List Int, o = some (ns.map PyData.int) ∧ Q ns
theorem inB_s (l : List D) (Q : List Int → Prop) : inB (some l) Q = intsB l Q := by
  unfold inB intsB
  simp only [Option.some.injEq]
theorem wInI_s (neg : Bool) (x y : AV) (ds : Sto) (Q : Sto → AV → Prop) : wInI neg x y ds Q = (match x with
  | .fz (.int i) => inB (its ds y) fun ns => Q ds (.fz (.bool (if neg then !decide (i ∈ ns) else decide (i ∈ ns))))
  | _ => False) := rfl
def rg1Ok (j : Int) : Prop := -1000000 ≤ j ∧ j ≤ 1000000
theorem wRng1_s (wa : WA) (ds : Sto) (Q : Sto → List D → Prop) : wRng1 wa ds Q = (wa ds fun ds1 xs => match xs with
  | [.fz (.int j)] => sdB (rg1Ok j) (Q ds1 (rng 0 j.toNat))
  | _ => False) := rfl
theorem wRng2_s (wa : WA) (ds : Sto) (Q : Sto → List D → Prop) : wRng2 wa ds Q = (wa ds fun ds1 xs => match xs with
  | [.fz (.int i), .fz (.int j)] => sdB (rgOk i j) (Q ds1 (rng i (j - i).toNat))
  | _ => False) := rfl
def rg3B (i j c : Int) (Q : Nat → Prop) (_ : Hd Q := .mk) : Prop := ∃ n : Nat, RgC i j c n ∧ Q n
theorem wRng3_s (wa : WA) (ds : Sto) (Q : Sto → List D → Prop) : wRng3 wa ds Q = (wa ds fun ds1 xs => match xs with
  | [.fz (.int i), .fz (.int j), .fz (.int c)] => rg3B i j c fun n => Q ds1 (rngC i c n)
  | _ => False) := rfl
theorem wgTup_s (n : Nat) (ws : WGs) (x : AV) (ds : Sto) (Q : Sto → Prop) : wgTup n ws x ds Q = (match x with
  | .fz (.tuple l) => sdB (l.length = n) (ws l ds Q)
  | _ => False) := rfl
theorem wgLst_s (n : Nat) (ws : WGs) (x : AV) (ds : Sto) (Q : Sto → Prop) : wgLst n ws x ds Q = (match lsOf ds x with
  | some l => sdB (l.length = n) (ws l ds Q)
  | none => False) := rfl
theorem wgSub_s (wo wi : WE) (x : AV) (ds : Sto) (Q : Sto → Prop) : wgSub wo wi x ds Q = (match x with
  | .fz d => wo ds fun ds1 o => wi ds1 fun ds2 i => match o, i with
    | .rf j, .fz (.int z) => match oL (ds2.getD j .un) with
      | some l => gtB (ixN l.length z) fun n => Q (ds2.set j (upL (ds2.getD j .un) (l.set n d)))
      | none => False
    | _, _ => False
  | _ => False) := rfl
theorem wDGet_s (wd wk : WE) (ds : Sto) (Q : Sto → AV → Prop) : wDGet wd wk ds Q = (wd ds fun ds1 x => wk ds1 fun ds2 y => match dkOf ds2 x, keyOf y with
  | some l, some k => gtB (valD l k) fun d => Q ds2 (.fz d)
  | _, _ => False) := rfl
theorem wDPut_s (wd wk wv : WE) (N : AEnds) (ds : Sto) : wDPut wd wk wv N ds = (wv ds fun ds1 z => wd ds1 fun ds2 x => wk ds2 fun ds3 y => match z, x, keyOf y with
  | .fz d, .rf i, some k => match ds3.getD i .un with
    | .dk l => sdB (l.length ≤ 100000) (N.nx (ds3.set i (.dk (putD l k d))))
    | _ => False
  | _, _, _ => False) := rfl
theorem wDUpd_s (wo wa : WE) (ds : Sto) (Q : Sto → AV → Prop) : wDUpd wo wa ds Q = (wo ds fun ds1 o => match dkOf ds1 o with
  | some _ => wa ds1 fun ds2 y => match o, y with
    | .rf i, .dk more => match ds2.getD i .un with
      | .dk l => sdB (l.length + more.length ≤ 100000) (Q (ds2.set i (.dk (mergeD l more))) (.fz .none))
      | _ => False
    | _, _ => False
  | none => False) := rfl
theorem wLstRg_s (w : WRg) (ds : Sto) (Q : Sto → AV → Prop) : wLstRg w ds Q = (w ds fun ds1 a b => sdB (rgOk a b) (Q ds1 (.ls (rng a (b - a).toNat)))) := rfl
theorem wTupRg_s (w : WRg) (ds : Sto) (Q : Sto → AV → Prop) : wTupRg w ds Q = (w ds fun ds1 a b => sdB (rgOk a b) (Q ds1 (.fz (.tuple (rng a (b - a).toNat))))) := rfl
theorem wTIdx_s (wo wa : WE) (ds : Sto) (Q : Sto → AV → Prop) : wTIdx wo wa ds Q = (wo ds fun ds1 o => match o with
  | .fz (.tuple l) => wa ds1 fun ds2 y => match y with
    | .fz (.int k) => intsB l fun ns => sdB (k ∈ ns) (Q ds2 (.fz (.int (ns.idxOf k : Nat))))
    | _ => False
  | _ => False) := rfl
theorem wLIdx_s (o : AV) (xs : List AV) (ds : Sto) (Q : Sto → AV → Prop) : wLIdx o xs ds Q = (match xs with
  | [.fz (.int k)] => inB (lsOf ds o) fun ns => sdB (k ∈ ns) (Q ds (.fz (.int (ns.idxOf k : Nat))))
  | _ => False) := rfl
def popB (l : List D) (j : Int) (Q : D → Prop) (_ : Hd Q := .mk) : Prop := 0 ≤ j ∧ j < (l.length : Int) ∧ l.length ≤ 1000000 ∧ ∃ d, l[j.toNat]? = some d ∧ Q d
theorem wPopAt_s (o : AV) (xs : List AV) (ds : Sto) (Q : Sto → AV → Prop) : wPopAt o xs ds Q = (match o, xs with
  | .rf i, [.fz (.int j)] => match oL (ds.getD i .un) with
    | some l => popB l j fun d => Q (ds.set i (upL (ds.getD i .un) (l.eraseIdx j.toNat))) (.fz d)
    | none => False
  | _, _ => False) := rfl
theorem wChainF_s (wr wr' : WR) (wa wb wc : WE) (ds : Sto) (Q : Sto → AV → Prop) : wChainF wr wr' wa wb wc ds Q = (wa ds fun ds1 x => wb ds1 fun ds2 y => match x, y with
  | .fz d, .fz e => wr (.fz d) (.fz e) ds2 fun ds3 z => match z with
    | .fz (.bool k) => ifQ k (wc ds3 fun ds4 w => wr' (.fz e) w ds4 Q) (Q ds3 (.fz (.bool false)))
    | _ => False
  | _, _ => False) := rfl
def lcQ (own : List Nat) (ds : Sto) (P : Prop) : Prop := ownFree own ds = true ∧ P
theorem wLc_s (wi : WI) (wg : WG) (wt : WT) (we : WE) (own : List Nat) (ds : Sto) (Q : Sto → AV → Prop) : wLc wi wg wt we own ds Q = wi ds (fun ds1 l => sdB (ownFree own ds1 = true) (lcS wg wt we own (wipeS ds1 own) l Q)) := rfl
theorem wDc_s (wi : WI) (wg : WG) (wt : WT) (wk wv : WE) (own : List Nat) (ds : Sto) (Q : Sto → AV → Prop) : wDc wi wg wt wk wv own ds Q = wi ds (fun ds1 l => sdB (ownFree own ds1 = true) (dcS wg wt wk wv own (wipeS ds1 own) l Q)) := rfl
theorem wInts_s (F : List Int → Sto → (Sto → AV → Prop) → Prop) (xs : List AV) (ds : Sto) (Q : Sto → AV → Prop) : wInts F xs ds Q = (match xs with
  | [x] => inB (lsOf ds x) fun ns => F ns ds Q
  | _ => False) := rfl
def blB (o : Option (List D)) (Q : List Bool → Prop) (_ : Hd Q := .mk) : Prop := ∃ bs : List Bool, o = some (bs.map PyData.bool) ∧ Q bs
theorem blB_s (bs : List Bool) (Q : List Bool → Prop) : blB (some (bs.map PyData.bool)) Q = Q bs := by
  refine propext ⟨fun ⟨ms, e, q⟩ => ?_, fun q => ⟨bs, rfl, q⟩⟩
  have : bs = ms := by
    have := congrArg (List.map fun d : D => match d with | .bool i => i | _ => false) (Option.some.inj e)
    simpa [List.map_map, Function.comp_def] using this
  rw [this]; exact q
theorem blB_nil (Q : List Bool → Prop) : blB (some []) Q = Q [] := blB_s [] Q
theorem wBls_s (F : List Bool → Sto → (Sto → AV → Prop) → Prop) (xs : List AV) (ds : Sto) (Q : Sto → AV → Prop) : wBls F xs ds Q = (match xs with
  | [x] => blB (lsOf ds x) fun bs => F bs ds Q
  | _ => False) := rfl
theorem wMaxF_s (ns : List Int) (ds : Sto) (Q : Sto → AV → Prop) : fMax ns ds Q = exB ns (fun y m => y ≤ m) (fun m => Q ds (.fz (.int m))) := rfl
theorem wMinF_s (ns : List Int) (ds : Sto) (Q : Sto → AV → Prop) : fMin ns ds Q = exB ns (fun y m => m ≤ y) (fun m => Q ds (.fz (.int m))) := rfl
theorem wSortedF_s (ns : List Int) (ds : Sto) (Q : Sto → AV → Prop) : fSorted ns ds Q = soB ns (fun ns' => Q ds (.ls (ns'.map PyData.int))) := rfl
theorem blB_2 (Q : List Bool → Prop) (a b : Bool) : blB (some [.bool a, .bool b]) Q = Q [a, b] := blB_s [a, b] Q
theorem blB_1 (Q : List Bool → Prop) (a : Bool) : blB (some [.bool a]) Q = Q [a] := blB_s [a] Q
theorem blB_3 (Q : List Bool → Prop) (a b c : Bool) : blB (some [.bool a, .bool b, .bool c]) Q = Q [a, b, c] := blB_s [a, b, c] Q
theorem cl_0 : ((0 : Nat) : Int) = 0 := rfl
theorem cl_1 : ((1 : Nat) : Int) = 1 := rfl
theorem cl_2 : ((2 : Nat) : Int) = 2 := rfl
theorem cl_3 : ((3 : Nat) : Int) = 3 := rfl
theorem cl_4 : ((4 : Nat) : Int) = 4 := rfl
theorem cl_5 : ((5 : Nat) : Int) = 5 := rfl
theorem cl_6 : ((6 : Nat) : Int) = 6 := rfl
theorem cl_7 : ((7 : Nat) : Int) = 7 := rfl
theorem cl_8 : ((8 : Nat) : Int) = 8 := rfl
theorem cl_9 : ((9 : Nat) : Int) = 9 := rfl
theorem cl_10 : ((10 : Nat) : Int) = 10 := rfl
theorem cl_11 : ((11 : Nat) : Int) = 11 := rfl
theorem cl_12 : ((12 : Nat) : Int) = 12 := rfl
theorem cl_13 : ((13 : Nat) : Int) = 13 := rfl
/-! ### conditions that are met by the way -/
theorem sd_true {Q : Prop} : sdB True Q = Q := sdB_t trivial
theorem sd_refl {α : Type} {a : α} {Q : Prop} : sdB (a = a) Q = Q := sdB_t rfl
theorem sd_le {a b : Nat} {Q : Prop} (h : a ≤ b) : sdB (a ≤ b) Q = Q := sdB_t h
theorem sd_lt {a b : Int} {Q : Prop} (h : a < b) : sdB (a < b) Q = Q := sdB_t h
theorem sd_eqn {a b : Nat} {Q : Prop} (h : a = b) : sdB (a = b) Q = Q := sdB_t h
theorem sd_div {a b : Int} {Q : Prop} (h : 0 < b) (h2 : b < 1073741824) : sdB (CDiv a b) Q = Q := sdB_t ⟨h, h2⟩
theorem sd_mulL {a b : Int} {Q : Prop} (h : -1000000000000000000 ≤ a) (h2 : a ≤ 1000000000000000000) : sdB (CMul a b) Q = Q := sdB_t (cmulL h h2)
theorem sd_mulR {a b : Int} {Q : Prop} (h : -1000000000000000000 ≤ b) (h2 : b ≤ 1000000000000000000) : sdB (CMul a b) Q = Q := sdB_t (cmulR h h2)
theorem sd_pow {a b : Int} {Q : Prop} (h : 0 ≤ b) (h2 : b ≤ 1000000) (h3 : -1000000000000000000 ≤ a) (h4 : a ≤ 1000000000000000000) : sdB (CPow a b) Q = Q := sdB_t ⟨h, h2, by omega⟩
theorem sd_rg {a b : Int} {Q : Prop} (h : -1000000 ≤ a) (h2 : a ≤ 1000000) (h3 : -1000000 ≤ b) (h4 : b ≤ 1000000) : sdB (rgOk a b) Q = Q := sdB_t ⟨h, h2, h3, h4⟩
theorem sd_rg1 {a : Int} {Q : Prop} (h : -1000000 ≤ a) (h2 : a ≤ 1000000) : sdB (rg1Ok a) Q = Q := sdB_t ⟨h, h2⟩
theorem sd_mem {a : Nat} {l : List Nat} {Q : Prop} (h : a ∈ l) : sdB ((a : Int) ∈ castL l) Q = Q := sdB_t (mem_cast h)
theorem at_nts {l : List Nat} {i : Nat} (h : i < l.length) : atI (nts l) (i : Int) = some (.int (st l i : Nat)) := nts_atD h
theorem ix_nts {l : List Nat} {i : Nat} (h : i < l.length) : ixN (nts l).length (i : Int) = some i := ixN_nat (by rw [nts_len]; exact h)
theorem ix_len {n i : Nat} (h : i < n) : ixN n (i : Int) = some i := ixN_nat h
theorem set_nts (l : List Nat) (i n : Nat) : (nts l).set i (.int (n : Int)) = nts (l.set i n) := nts_set l i n
theorem app2_nts (l m : List Nat) : nts l ++ nts m = nts (l ++ m) := (nts_app l m).symm
theorem rg_snoc (l : List (List Nat)) (r : List Nat) : rgD l ++ [.tuple (nts r)] = rgD (l ++ [r]) := by rw [rgD_app]; rfl
theorem app_nts (l : List Nat) (n : Nat) : nts l ++ [.int (n : Int)] = nts (l ++ [n]) := by rw [nts_app]; rfl
theorem idx_cast (x : Nat) (l : List Nat) : (castL l).idxOf (x : Int) = l.idxOf x := idxOf_cast x l
theorem cut_fromN (l : List Nat) (i : Nat) : cutD (nts l) (some (i : Int)) none = nts (l.drop i) := by rw [cut_from, nts_drop]
theorem cut_two (l : List Nat) : cutD (nts l) none (some 2) = nts (l.take 2) := by rw [show (2 : Int) = ((2 : Nat) : Int) from rfl, cut_to, nts_cut_to]
theorem cut_toN (l : List Nat) (i : Nat) : cutD (nts l) none (some (i : Int)) = nts (l.take i) := by rw [cut_to, nts_cut_to]
theorem mem_castD (x : Nat) (l : List Nat) : decide ((x : Int) ∈ castL l) = decide (x ∈ l) := by
  refine decide_eq_decide.mpr ⟨fun h => ?_, mem_cast⟩
  obtain ⟨n, hn, e⟩ := List.mem_map.mp h
  have : n = x := by omega
  rw [← this]; exact hn
theorem cast_ltD (a b : Nat) : decide ((a : Int) < (b : Int)) = decide (a < b) := decide_eq_decide.mpr (by omega)
theorem cast_leD (a b : Nat) : decide ((a : Int) ≤ (b : Int)) = decide (a ≤ b) := decide_eq_decide.mpr (by omega)
theorem cast_eqD (a b : Nat) : decide ((a : Int) = (b : Int)) = decide (a = b) := decide_eq_decide.mpr (by omega)
theorem rng_0 (n : Nat) : rng 0 n = nts (List.range n) := rng_nts n
theorem rng_1 (n : Int) : rng 0 n.toNat = nts (List.range n.toNat) := rng_nts _
/-! ### loops and comprehensions whose next turn is told later -/
theorem forB_j {wg : WG} {wb : WS} {N : AEnds} {ds : Sto} {l : List D} (I : Nat → Sto → Prop) (h0 : I 0 ds)
    (h1 : ∀ (i : Nat) (d : D) (ds : Sto) (J : Sto → Prop), l[i]? = some d → I i ds → (∀ ds', I (i + 1) ds' → J ds') → wg (.fz d) ds fun ds' => wb ⟨J, N.rt, N.nx, J⟩ ds')
    (h2 : ∀ ds, I l.length ds → N.nx ds) : forS wg wb N ds l := forB_i I h0 (fun i d ds hd hi => h1 i d ds _ hd hi fun _ h => h) h2
/-- a walk over numbers -/
theorem forB_n {wg : WG} {wb : WS} {N : AEnds} {ds : Sto} {l : List Nat} (I : Nat → Sto → Prop) (h0 : I 0 ds)
    (h1 : ∀ (i n : Nat) (ds : Sto) (J : Sto → Prop), l[i]? = some n → I i ds → (∀ ds', I (i + 1) ds' → J ds') → wg (.fz (.int (n : Int))) ds fun ds' => wb ⟨J, N.rt, N.nx, J⟩ ds')
    (h2 : ∀ ds, I l.length ds → N.nx ds) : forS wg wb N ds (nts l) := forB_j I h0 (fun i d ds J hd hi hJ => by
  obtain ⟨n, rfl, hn⟩ := nts_at hd
  exact h1 i n ds J hn hi hJ) (by rw [nts_len]; exact h2)
/-- a walk over range(n) -/
theorem forB_r {wg : WG} {wb : WS} {N : AEnds} {ds : Sto} {n : Nat} (I : Nat → Sto → Prop) (h0 : I 0 ds)
    (h1 : ∀ (i : Nat) (ds : Sto) (J : Sto → Prop), i < n → I i ds → (∀ ds', I (i + 1) ds' → J ds') → wg (.fz (.int (i : Int))) ds fun ds' => wb ⟨J, N.rt, N.nx, J⟩ ds')
    (h2 : ∀ ds, I n ds → N.nx ds) : forS wg wb N ds (nts (List.range n)) := forB_n I h0 (fun i k ds J hk hi hJ => by
  have lt : i < n := by
    have := (List.getElem?_eq_some_iff.mp hk).1
    rwa [List.length_range] at this
  rw [List.getElem?_range lt] at hk
  cases hk
  exact h1 i ds J lt hi hJ) (by rw [List.length_range]; exact h2)
/-- a walk over rings -/
theorem forB_g {wg : WG} {wb : WS} {N : AEnds} {ds : Sto} {l : List (List Nat)} (I : Nat → Sto → Prop) (h0 : I 0 ds)
    (h1 : ∀ (i : Nat) (r : List Nat) (ds : Sto) (J : Sto → Prop), l[i]? = some r → I i ds → (∀ ds', I (i + 1) ds' → J ds') → wg (.fz (.tuple (nts r))) ds fun ds' => wb ⟨J, N.rt, N.nx, J⟩ ds')
    (h2 : ∀ ds, I l.length ds → N.nx ds) : forS wg wb N ds (rgD l) := forB_j I h0 (fun i d ds J hd hi hJ => by
  unfold rgD at hd
  rw [List.getElem?_map] at hd
  cases e : l[i]? with
  | none => rw [e] at hd; cases hd
  | some r =>
    rw [e] at hd
    cases hd
    exact h1 i r ds J e hi hJ) (by rw [rgD_len]; exact h2)
/-- a walk over numbers with their places -/
theorem forB_e {wg : WG} {wb : WS} {N : AEnds} {ds : Sto} {l : List Nat} (I : Nat → Sto → Prop) (h0 : I 0 ds)
    (h1 : ∀ (i n : Nat) (ds : Sto) (J : Sto → Prop), l[i]? = some n → I i ds → (∀ ds', I (i + 1) ds' → J ds') → wg (.fz (.tuple [.int (i : Int), .int (n : Int)])) ds fun ds' => wb ⟨J, N.rt, N.nx, J⟩ ds')
    (h2 : ∀ ds, I l.length ds → N.nx ds) : forS wg wb N ds (enu (nts l)) := forB_j I h0 (fun i d ds J hd hi hJ => by
  have lt : i < l.length := by
    have := (List.getElem?_eq_some_iff.mp hd).1
    rwa [enu_len, nts_len] at this
  rw [enu_get (nts_get (List.getElem?_eq_getElem lt))] at hd
  cases hd
  exact h1 i l[i] ds J (List.getElem?_eq_getElem lt) hi hJ) (by rw [enu_len, nts_len]; exact h2)
/-- a walk over things of a kind, with their places -/
theorem forB_a {α : Type} {g : α → D} {wg : WG} {wb : WS} {N : AEnds} {ds : Sto} {l : List α} (I : Nat → Sto → Prop) (h0 : I 0 ds)
    (h1 : ∀ (i : Nat) (a : α) (ds : Sto) (J : Sto → Prop), l[i]? = some a → I i ds → (∀ ds', I (i + 1) ds' → J ds') → wg (.fz (g a)) ds fun ds' => wb ⟨J, N.rt, N.nx, J⟩ ds')
    (h2 : ∀ ds, I l.length ds → N.nx ds) : forS wg wb N ds (l.map g) := forB_j I h0 (fun i d ds J hd hi hJ => by
  rw [List.getElem?_map] at hd
  cases e : l[i]? with
  | none => rw [e] at hd; cases hd
  | some a => rw [e] at hd; cases hd; exact h1 i a ds J e hi hJ) (by rw [List.length_map]; exact h2)
theorem forB_ea {α : Type} {g : α → D} {wg : WG} {wb : WS} {N : AEnds} {ds : Sto} {l : List α} (I : Nat → Sto → Prop) (h0 : I 0 ds)
    (h1 : ∀ (i : Nat) (a : α) (ds : Sto) (J : Sto → Prop), l[i]? = some a → I i ds → (∀ ds', I (i + 1) ds' → J ds') → wg (.fz (.tuple [.int (i : Int), g a])) ds fun ds' => wb ⟨J, N.rt, N.nx, J⟩ ds')
    (h2 : ∀ ds, I l.length ds → N.nx ds) : forS wg wb N ds (enu (l.map g)) := forB_j I h0 (fun i d ds J hd hi hJ => by
  have lt : i < l.length := by
    have := (List.getElem?_eq_some_iff.mp hd).1
    rwa [enu_len, List.length_map] at this
  have e := List.getElem?_eq_getElem lt
  rw [enu_get (l := l.map g) (i := i) (d := g l[i]) (by rw [List.getElem?_map, e]; rfl)] at hd
  cases hd
  exact h1 i l[i] ds J e hi hJ) (by rw [enu_len, List.length_map]; exact h2)
theorem whileB_j {wt : WT} {wb : WS} {N : AEnds} {ds : Sto} (I : Nat → Sto → Prop) (k : Nat) (h0 : I k ds)
    (h1 : ∀ (k : Nat) (ds : Sto) (J : Sto → Prop), I k ds → (∀ k' ds', k' < k → I k' ds' → J ds') → wt ds fun ds1 b => ifS wb (wThen N.nx) ⟨J, N.rt, N.nx, J⟩ ds1 b) : whileS wt wb N ds :=
  whileB_i I k h0 fun k ds hi => h1 k ds _ hi fun k' ds' a b => ⟨k', a, b⟩
def lcN (own : List Nat) (ds : Sto) (J : D → Prop) : Sto → AV → Prop := fun ds4 y => match y with
  | .fz e => sdB (ownFree own ds4 = true) (sdB (wipeS ds4 own = ds) (J e))
  | _ => False
theorem lcN_a (own : List Nat) (ds : Sto) (J : D → Prop) (ds4 : Sto) (e : D) : lcN own ds J ds4 (.fz e) = sdB (ownFree own ds4 = true) (sdB (wipeS ds4 own = ds) (J e)) := rfl
def lcO (own : List Nat) (ds : Sto) (J : Prop) (ds3 : Sto) : Prop := sdB (ownFree own ds3 = true) (sdB (wipeS ds3 own = ds) J)
theorem lcO_a (own : List Nat) (ds : Sto) (J : Prop) (ds3 : Sto) : lcO own ds J ds3 = sdB (ownFree own ds3 = true) (sdB (wipeS ds3 own = ds) J) := rfl
/-- a comprehension: item d gives f d, or nothing -/
theorem lcB_f {wg : WG} {wt : WT} {we : WE} {own : List Nat} {ds : Sto} {l : List D} {Q : Sto → AV → Prop} (f : D → Option D) (hl : l.length ≤ 100000)
    (h1 : ∀ (i : Nat) (d : D) (J : D → Prop) (K : Prop), l[i]? = some d → (∀ e, f d = some e → J e) → (f d = none → K) → wg (.fz d) ds fun ds2 => wt ds2 fun ds3 b => ifQ b (we ds3 (lcN own ds J)) (lcO own ds K ds3))
    (h2 : Q ds (.ls (l.filterMap f))) : lcS wg wt we own ds l Q := by
  refine ⟨fun i a ds' => ds' = ds ∧ a = (l.take i).filterMap f, ⟨rfl, rfl⟩, fun i d a ds' hd _ ⟨e1, e2⟩ => ?_, fun a ds' _ ⟨e1, e2⟩ => ?_⟩
  · subst e1 e2
    have q := h1 i d (fun e => ((l.take i).filterMap f).length ≤ 100000 ∧ (l.take i).filterMap f ++ [e] = (l.take (i + 1)).filterMap f) ((l.take i).filterMap f = (l.take (i + 1)).filterMap f) hd
      (fun e he => ⟨Nat.le_trans (take_fl _ _ _) hl, take_fm hd he⟩) (fun he => take_fn hd he)
    have e1 : lcN own ds' (fun e => ((l.take i).filterMap f).length ≤ 100000 ∧ (l.take i).filterMap f ++ [e] = (l.take (i + 1)).filterMap f) = (fun ds4 y => match y with
      | .fz e => ((l.take i).filterMap f).length ≤ 100000 ∧ ownFree own ds4 = true ∧ wipeS ds4 own = ds' ∧ (l.take i).filterMap f ++ [e] = (l.take (i + 1)).filterMap f
      | _ => False) := by
      funext ds4 y
      cases y <;> try rfl
      exact propext ⟨fun ⟨a, b, c, d⟩ => ⟨c, a, b, d⟩, fun ⟨a, b, c, d⟩ => ⟨b, c, a, d⟩⟩
    rw [e1] at q
    exact q
  · subst e1 e2
    rw [List.take_length]
    exact h2
/-- .. that keeps every item -/
theorem lcB_m {wg : WG} {wt : WT} {we : WE} {own : List Nat} {ds : Sto} {l : List D} {Q : Sto → AV → Prop} (f : D → D) (hl : l.length ≤ 100000)
    (h1 : ∀ (i : Nat) (d : D) (J : D → Prop) (K : Prop), l[i]? = some d → J (f d) → wg (.fz d) ds fun ds2 => wt ds2 fun ds3 b => ifQ b (we ds3 (lcN own ds J)) (lcO own ds K ds3))
    (h2 : Q ds (.ls (l.map f))) : lcS wg wt we own ds l Q := lcB_f (fun d => some (f d)) hl (fun i d J K hd a _ => h1 i d J K hd (a _ rfl)) (by rw [List.filterMap_eq_map']; exact h2)
/-- things of a kind -/
theorem lcB_a {α : Type} {g : α → D} {wg : WG} {wt : WT} {we : WE} {own : List Nat} {ds : Sto} {l : List α} {Q : Sto → AV → Prop} (f : α → D) (hl : l.length ≤ 100000)
    (h1 : ∀ (i : Nat) (a : α) (J : D → Prop) (K : Prop), l[i]? = some a → J (f a) → wg (.fz (g a)) ds fun ds2 => wt ds2 fun ds3 b => ifQ b (we ds3 (lcN own ds J)) (lcO own ds K ds3))
    (h2 : Q ds (.ls (l.map f))) : lcS wg wt we own ds (l.map g) Q := by
  refine ⟨fun i a ds' => ds' = ds ∧ a = (l.take i).map f, ⟨rfl, rfl⟩, fun i d a ds' hd _ ⟨e1, e2⟩ => ?_, fun a ds' _ ⟨e1, e2⟩ => ?_⟩
  · subst e1 e2
    rw [List.getElem?_map] at hd
    cases e : l[i]? with
    | none => rw [e] at hd; cases hd
    | some x =>
      rw [e] at hd
      cases hd
      have q := h1 i x (fun e => ((l.take i).map f).length ≤ 100000 ∧ (l.take i).map f ++ [e] = (l.take (i + 1)).map f) ((l.take i).map f = (l.take (i + 1)).map f) e
        ⟨by rw [List.length_map, List.length_take]; omega, by rw [List.take_add_one, e, Option.toList_some, List.map_append]; rfl⟩
      have e1 : lcN own ds' (fun e => ((l.take i).map f).length ≤ 100000 ∧ (l.take i).map f ++ [e] = (l.take (i + 1)).map f) = (fun ds4 y => match y with
        | .fz e => ((l.take i).map f).length ≤ 100000 ∧ ownFree own ds4 = true ∧ wipeS ds4 own = ds' ∧ (l.take i).map f ++ [e] = (l.take (i + 1)).map f
        | _ => False) := by
        funext ds4 y
        cases y <;> try rfl
        exact propext ⟨fun ⟨a, b, c, d⟩ => ⟨c, a, b, d⟩, fun ⟨a, b, c, d⟩ => ⟨b, c, a, d⟩⟩
      rw [e1] at q
      exact q
  · subst e1 e2
    rw [List.length_map, List.take_length]
    exact h2
/-- truth values -/
theorem lcB_b {α : Type} {g : α → D} {wg : WG} {wt : WT} {we : WE} {own : List Nat} {ds : Sto} {l : List α} {Q : Sto → AV → Prop} (f : α → Bool) (hl : l.length ≤ 100000)
    (h1 : ∀ (i : Nat) (a : α) (J : D → Prop) (K : Prop), l[i]? = some a → J (.bool (f a)) → wg (.fz (g a)) ds fun ds2 => wt ds2 fun ds3 b => ifQ b (we ds3 (lcN own ds J)) (lcO own ds K ds3))
    (h2 : Q ds (.ls ((l.map f).map PyData.bool))) : lcS wg wt we own ds (l.map g) Q := lcB_a (fun a => .bool (f a)) hl h1 (by rw [List.map_map] at h2; exact h2)
/-- two numbers, tested alike -/
theorem lcB_j2 {wg : WG} {wt : WT} {we : WE} {own : List Nat} {ds : Sto} {i j n : Nat} {Q : Sto → AV → Prop} (_h : True) (hi : i < n) (hj : j < n)
    (h1 : ∀ (z : Nat) (J : D → Prop) (K : Prop), z < n → J (.bool true) → wg (.fz (.int (z : Int))) ds fun ds2 => wt ds2 fun ds3 b => ifQ b (we ds3 (lcN own ds J)) (lcO own ds K ds3))
    (h2 : Q ds (.ls [.bool true, .bool true])) : lcS wg wt we own ds [.int (i : Int), .int (j : Int)] Q :=
  lcB_m (fun _ => .bool true) (Nat.le_of_ble_eq_true rfl) (fun k d J K hd hJ => by
    have := List.mem_of_getElem? hd
    simp only [List.mem_cons, List.not_mem_nil, or_false] at this
    rcases this with rfl | rfl
    · exact h1 i J K hi hJ
    · exact h1 j J K hj hJ) h2
/-- numbers to numbers -/
theorem lcB_n {wg : WG} {wt : WT} {we : WE} {own : List Nat} {ds : Sto} {l : List Nat} {Q : Sto → AV → Prop} (f : Nat → Nat) (hl : l.length ≤ 100000)
    (h1 : ∀ (i n : Nat) (J : D → Prop) (K : Prop), l[i]? = some n → J (.int (f n : Nat)) → wg (.fz (.int (n : Int))) ds fun ds2 => wt ds2 fun ds3 b => ifQ b (we ds3 (lcN own ds J)) (lcO own ds K ds3))
    (h2 : Q ds (.ls (nts (l.map f)))) : lcS wg wt we own ds (nts l) Q := by
  refine lcB_m (fun d => nt (f (unt d))) (by rw [nts_len]; exact hl) (fun i d J K hd a => ?_) ?_
  · obtain ⟨n, rfl, hn⟩ := nts_at hd
    exact h1 i n J K hn a
  · have : (nts l).map (fun d => nt (f (unt d))) = nts (l.map f) := by
      unfold nts
      rw [List.map_map, List.map_map]
      rfl
    rw [this]; exact h2
/-- numbers, some of which are kept -/
theorem lcB_k {wg : WG} {wt : WT} {we : WE} {own : List Nat} {ds : Sto} {l : List Nat} {Q : Sto → AV → Prop} (p : Nat → Bool) (f : Nat → Nat) (hl : l.length ≤ 100000)
    (h1 : ∀ (i n : Nat) (J : D → Prop) (K : Prop), l[i]? = some n → (p n = true → J (.int (f n : Nat))) → (p n = false → K) → wg (.fz (.int (n : Int))) ds fun ds2 => wt ds2 fun ds3 b => ifQ b (we ds3 (lcN own ds J)) (lcO own ds K ds3))
    (h2 : Q ds (.ls (nts ((l.filter p).map f)))) : lcS wg wt we own ds (nts l) Q := by
  refine lcB_f (fun d => if p (unt d) = true then some (nt (f (unt d))) else none) (by rw [nts_len]; exact hl) (fun i d J K hd a b => ?_) ?_
  · obtain ⟨n, rfl, hn⟩ := nts_at hd
    refine h1 i n J K hn (fun q => a _ (if_pos q)) (fun q => b (if_neg ?_))
    rw [unt_nt, q]; exact Bool.false_ne_true
  · have : ∀ l : List Nat, (nts l).filterMap (fun d => if p (unt d) = true then some (nt (f (unt d))) else none) = nts ((l.filter p).map f) := by
      intro l
      induction l with
      | nil => rfl
      | cons x l ih =>
        show List.filterMap _ (nt x :: nts l) = _
        rw [List.filterMap_cons, unt_nt, ih]
        by_cases q : p x = true
        · rw [if_pos q, List.filter_cons_of_pos q]; rfl
        · rw [if_neg q, List.filter_cons_of_neg q]
    rw [this]; exact h2
/-- one of the things that a list holds -/
theorem pk {l : List D} {i : Nat} {Q : D → Prop} (h : i < l.length) (q : ∀ d, d ∈ l → Q d) : gtB (atI l (i : Int)) Q := gtB_i (atI_get (List.getElem?_eq_getElem h)) (q _ (List.getElem_mem h))
def isNum (lo hi : Int) : D → Bool
  | .int i => decide (lo ≤ i) && decide (i ≤ hi)
  | _ => false
theorem isNum_t {i lo hi : Int} (h : lo ≤ i) (h2 : i ≤ hi) : isNum lo hi (.int i) = true := by
  unfold isNum
  rw [Bool.and_eq_true, decide_eq_true_eq, decide_eq_true_eq]
  exact ⟨h, h2⟩
theorem perm_map {α β : Type} {g : α → β} {m n : List β} (p : m.Perm n) : ∀ l : List α, n = l.map g → ∃ l' : List α, m = l'.map g ∧ l'.Perm l := by
  induction p with
  | nil =>
    intro l e
    have : l = [] := List.map_eq_nil_iff.mp e.symm
    subst this
    exact ⟨[], rfl, .nil⟩
  | cons x p ih =>
    intro l e
    cases l with
    | nil => cases e
    | cons a l =>
      simp only [List.map_cons, List.cons.injEq] at e
      obtain ⟨l', e1, p1⟩ := ih l e.2
      exact ⟨a :: l', by rw [List.map_cons, e1, e.1], p1.cons a⟩
  | swap x y l0 =>
    intro l e
    match l, e with
    | a :: b :: l, e =>
      simp only [List.map_cons, List.cons.injEq] at e
      exact ⟨b :: a :: l, by rw [List.map_cons, List.map_cons, e.1, e.2.1, e.2.2], List.Perm.swap _ _ _⟩
  | trans p1 p2 ih1 ih2 =>
    intro l e
    obtain ⟨l2, e2, q2⟩ := ih2 l e
    obtain ⟨l1, e1, q1⟩ := ih1 l2 e2
    exact ⟨l1, e1, q1.trans q2⟩
theorem rgD_perm {m : List D} {l : List (List Nat)} (p : m.Perm (rgD l)) : ∃ l' : List (List Nat), m = rgD l' ∧ l'.Perm l := perm_map p l rfl
/-- a comprehension whose store changes (dice are thrown in it) -/
def lcM (own : List Nat) (acc : List D) (J : D → Sto → Prop) : Sto → AV → Prop := fun ds4 y => match y with
  | .fz e => sdB (acc.length ≤ 100000) (sdB (ownFree own ds4 = true) (J e (wipeS ds4 own)))
  | _ => False
theorem lcM_a (own : List Nat) (acc : List D) (J : D → Sto → Prop) (ds4 : Sto) (e : D) : lcM own acc J ds4 (.fz e) = sdB (acc.length ≤ 100000) (sdB (ownFree own ds4 = true) (J e (wipeS ds4 own))) := rfl
def lcP (own : List Nat) (K : Sto → Prop) (ds3 : Sto) : Prop := sdB (ownFree own ds3 = true) (K (wipeS ds3 own))
theorem lcP_a (own : List Nat) (K : Sto → Prop) (ds3 : Sto) : lcP own K ds3 = sdB (ownFree own ds3 = true) (K (wipeS ds3 own)) := rfl
theorem lcB_I {wg : WG} {wt : WT} {we : WE} {own : List Nat} {ds : Sto} {l : List D} {Q : Sto → AV → Prop} (I : Nat → List D → Sto → Prop) (h0 : I 0 [] ds)
    (h1 : ∀ (i : Nat) (d : D) (acc : List D) (ds : Sto) (J : D → Sto → Prop) (K : Sto → Prop), l[i]? = some d → I i acc ds → (∀ e ds', I (i + 1) (acc ++ [e]) ds' → J e ds') → (∀ ds', I (i + 1) acc ds' → K ds') → wg (.fz d) ds fun ds2 => wt ds2 fun ds3 b => ifQ b (we ds3 (lcM own acc J)) (lcP own K ds3))
    (h2 : ∀ acc ds, I l.length acc ds → Q ds (.ls acc)) : lcS wg wt we own ds l Q := by
  refine ⟨I, h0, fun i d acc ds hd _ hI => ?_, fun acc ds _ hI => h2 acc ds hI⟩
  have q := h1 i d acc ds (fun e ds' => I (i + 1) (acc ++ [e]) ds') (fun ds' => I (i + 1) acc ds') hd hI (fun _ _ h => h) (fun _ h => h)
  have e1 : lcM own acc (fun e ds' => I (i + 1) (acc ++ [e]) ds') = (fun ds4 y => match y with
    | .fz e => acc.length ≤ 100000 ∧ ownFree own ds4 = true ∧ I (i + 1) (acc ++ [e]) (wipeS ds4 own)
    | _ => False) := by
    funext ds4 y
    cases y <;> rfl
  rw [e1] at q
  exact q
/-! two walks in one comprehension -/
def lc2I (wg1 : WG) (wt1 : WT) (we : WE) (own1 : List Nat) (ds4 : Sto) (l1 : List D) (acc0 : List D) (R : List D → Sto → Prop) (_ : Hd wg1 := .mk) (_ : Hd wt1 := .mk) (_ : Hd we := .mk) (_ : Hd R := .mk) : Prop := lc2In wg1 wt1 we own1 ds4 l1 acc0 R
def lc2S (wg : WG) (wt : WT) (wi1 : WI) (wg1 : WG) (wt1 : WT) (we : WE) (own own1 : List Nat) (ds1 : Sto) (l : List D) (Q : Sto → AV → Prop) (_ : Hd wg := .mk) (_ : Hd wt := .mk) (_ : Hd wi1 := .mk) (_ : Hd wg1 := .mk) (_ : Hd wt1 := .mk) (_ : Hd we := .mk) (_ : Hd Q := .mk) : Prop := ∃ I : Nat → List D → Sto → Prop, I 0 [] ds1 ∧
  (∀ i d acc ds, l[i]? = some d → (∀ j ∈ own, ds.getD j .un = .un) → I i acc ds → wg (.fz d) ds fun ds2 => wt ds2 fun ds3 b => if b = true then wi1 ds3 fun ds4 l1 => ownFree own1 ds4 = true ∧ lc2In wg1 wt1 we own1 ds4 l1 acc fun acc' ds' => ownFree own ds' = true ∧ I (i + 1) acc' (wipeS ds' own)
  else ownFree own ds3 = true ∧ I (i + 1) acc (wipeS ds3 own)) ∧ ∀ acc ds, (∀ j ∈ own, ds.getD j .un = .un) → I l.length acc ds → Q ds (.ls acc)
theorem wLc2_s (wi : WI) (wg : WG) (wt : WT) (wi1 : WI) (wg1 : WG) (wt1 : WT) (we : WE) (own own1 : List Nat) (ds : Sto) (Q : Sto → AV → Prop) : wLc2 wi wg wt wi1 wg1 wt1 we own own1 ds Q = wi ds (fun ds1 l => sdB (ownFree own ds1 = true) (lc2S wg wt wi1 wg1 wt1 we own own1 (wipeS ds1 own) l Q)) := rfl
/-- item a of the outer walk makes F a -/
theorem lc2_a {α : Type} {g : α → D} {wg : WG} {wt : WT} {wi1 : WI} {wg1 : WG} {wt1 : WT} {we : WE} {own own1 : List Nat} {ds : Sto} {l : List α} {Q : Sto → AV → Prop} (F : α → List D)
    (h1 : ∀ (i : Nat) (a : α) (A : List D) (R : List D → Sto → Prop) (K : Prop), l[i]? = some a → A.length ≤ (l.flatMap F).length → (∀ ds', ownFree own ds' = true → wipeS ds' own = ds → R (A ++ F a) ds') → (F a = [] → K) → wg (.fz (g a)) ds fun ds2 => wt ds2 fun ds3 b => ifQ b (wi1 ds3 fun ds4 l1 => sdB (ownFree own1 ds4 = true) (lc2I wg1 wt1 we own1 ds4 l1 A R)) (lcO own ds K ds3))
    (h2 : Q ds (.ls (l.flatMap F))) : lc2S wg wt wi1 wg1 wt1 we own own1 ds (l.map g) Q := by
  refine ⟨fun i a ds' => ds' = ds ∧ a = (l.take i).flatMap F, ⟨rfl, rfl⟩, fun i d a ds' hd _ ⟨e1, e2⟩ => ?_, fun a ds' _ ⟨e1, e2⟩ => ?_⟩
  · subst e1 e2
    rw [List.getElem?_map] at hd
    cases e : l[i]? with
    | none => rw [e] at hd; cases hd
    | some x =>
      rw [e] at hd
      cases hd
      have et : (l.take (i + 1)).flatMap F = (l.take i).flatMap F ++ F x := by
        rw [List.take_add_one, e, Option.toList_some, List.flatMap_append]
        simp
      refine h1 i x ((l.take i).flatMap F) (fun acc' ds'' => ownFree own ds'' = true ∧ (wipeS ds'' own = ds' ∧ acc' = (l.take (i + 1)).flatMap F)) ((l.take i).flatMap F = (l.take (i + 1)).flatMap F) e ?_ (fun ds'' h1 h2 => ⟨h1, h2, et.symm⟩) (fun h => by rw [et, h, List.append_nil])
      have : l.flatMap F = (l.take i).flatMap F ++ (l.drop i).flatMap F := by
        rw [← List.flatMap_append, List.take_append_drop]
      rw [this, List.length_append]
      omega
  · subst e1 e2
    rw [List.length_map, List.take_length]
    exact h2
theorem lc2I_f {wg1 : WG} {wt1 : WT} {we : WE} {own1 : List Nat} {ds4 : Sto} {l1 A : List D} {R : List D → Sto → Prop} (f : D → Option D) (hl : A.length + l1.length ≤ 100000)
    (h1 : ∀ (i : Nat) (d : D) (J : D → Prop) (K : Prop), l1[i]? = some d → (∀ e, f d = some e → J e) → (f d = none → K) → wg1 (.fz d) (wipeS ds4 own1) fun ds2 => wt1 ds2 fun ds3 b => ifQ b (we ds3 (lcN own1 (wipeS ds4 own1) J)) (lcO own1 (wipeS ds4 own1) K ds3))
    (h2 : R (A ++ l1.filterMap f) (wipeS ds4 own1)) : lc2I wg1 wt1 we own1 ds4 l1 A R := by
  refine ⟨fun i a ds' => ds' = wipeS ds4 own1 ∧ a = A ++ (l1.take i).filterMap f, ⟨rfl, by simp⟩, fun i d a ds' hd _ ⟨e1, e2⟩ => ?_, fun a ds' _ ⟨e1, e2⟩ => ?_⟩
  · have e1' := e1
    subst e1 e2
    have hb : (A ++ (l1.take i).filterMap f).length ≤ 100000 := by
      rw [List.length_append]
      have := take_fl f l1 i
      omega
    have q := h1 i d (fun e => (A ++ (l1.take i).filterMap f).length ≤ 100000 ∧ A ++ (l1.take i).filterMap f ++ [e] = A ++ (l1.take (i + 1)).filterMap f) (A ++ (l1.take i).filterMap f = A ++ (l1.take (i + 1)).filterMap f) hd
      (fun e he => ⟨hb, by rw [List.append_assoc, take_fm hd he]⟩) (fun he => by rw [take_fn hd he])
    have e1 : lcN own1 (wipeS ds4 own1) (fun e => (A ++ (l1.take i).filterMap f).length ≤ 100000 ∧ A ++ (l1.take i).filterMap f ++ [e] = A ++ (l1.take (i + 1)).filterMap f) = (fun ds5 y => match y with
      | .fz e => (A ++ (l1.take i).filterMap f).length ≤ 100000 ∧ ownFree own1 ds5 = true ∧ wipeS ds5 own1 = wipeS ds4 own1 ∧ A ++ (l1.take i).filterMap f ++ [e] = A ++ (l1.take (i + 1)).filterMap f
      | _ => False) := by
      funext ds5 y
      cases y <;> try rfl
      exact propext ⟨fun ⟨a, b, c, d⟩ => ⟨c, a, b, d⟩, fun ⟨a, b, c, d⟩ => ⟨b, c, a, d⟩⟩
    rw [e1] at q
    exact q
  · subst e1 e2
    rw [List.take_length]
    exact h2
/-- the inner walk over numbers, some of them kept -/
theorem lc2I_k {wg1 : WG} {wt1 : WT} {we : WE} {own1 : List Nat} {ds4 : Sto} {l1 : List Nat} {A : List D} {R : List D → Sto → Prop} (p : Nat → Bool) (f : Nat → D) (hl : A.length + l1.length ≤ 100000)
    (h1 : ∀ (i n : Nat) (J : D → Prop) (K : Prop), l1[i]? = some n → (p n = true → J (f n)) → (p n = false → K) → wg1 (.fz (.int (n : Int))) (wipeS ds4 own1) fun ds2 => wt1 ds2 fun ds3 b => ifQ b (we ds3 (lcN own1 (wipeS ds4 own1) J)) (lcO own1 (wipeS ds4 own1) K ds3))
    (h2 : R (A ++ (l1.filter p).map f) (wipeS ds4 own1)) : lc2I wg1 wt1 we own1 ds4 (nts l1) A R := by
  refine lc2I_f (fun d => if p (unt d) = true then some (f (unt d)) else none) (by rw [nts_len]; exact hl) (fun i d J K hd a b => ?_) ?_
  · obtain ⟨n, rfl, hn⟩ := nts_at hd
    refine h1 i n J K hn (fun q => a _ (if_pos q)) (fun q => b (if_neg ?_))
    rw [unt_nt, q]; exact Bool.false_ne_true
  · have : ∀ l : List Nat, (nts l).filterMap (fun d => if p (unt d) = true then some (f (unt d)) else none) = (l.filter p).map f := by
      intro l
      induction l with
      | nil => rfl
      | cons x l ih =>
        show List.filterMap _ (nt x :: nts l) = _
        rw [List.filterMap_cons, unt_nt, ih]
        by_cases q : p x = true
        · rw [if_pos q, List.filter_cons_of_pos q]; rfl
        · rw [if_neg q, List.filter_cons_of_neg q]
    rw [this]; exact h2
/-! ### what a def hands back -/
def retB (imp : Prop) (P : Prop) : Prop := imp ∧ P
theorem ret_fz (P : AV → Prop) (ds : Sto) (d : D) : RetOk P ds (.fz d) = retB (imm d = true) (P (.fz d)) := rfl
theorem ret_ls (P : AV → Prop) (ds : Sto) (l : List D) : RetOk P ds (.ls l) = retB (imms l = true) (P (.ls l)) := rfl
theorem ret_rf (P : AV → Prop) (ds : Sto) (i : Nat) : RetOk P ds (.rf i) = (match ds.getD i .un with
    | .ls l => retB (imms l = true) (P (.ls l))
    | _ => False) := rfl
theorem retB_t {imp P : Prop} (h : imp) : retB imp P = P := propext ⟨fun q => q.2, fun q => ⟨h, q⟩⟩
theorem ret_nts (l : List Nat) (P : Prop) : retB (imms (nts l) = true) P = P := retB_t (nts_imm l)
theorem ret_tnts (l : List Nat) (P : Prop) : retB (imm (.tuple (nts l)) = true) P = P := retB_t (nts_imm l)
theorem ret_int (i : Int) (P : Prop) : retB (imm (.int i) = true) P = P := retB_t rfl
theorem ret_bool (i : Bool) (P : Prop) : retB (imm (.bool i) = true) P = P := retB_t rfl
theorem ret_none (P : Prop) : retB (imm .none = true) P = P := retB_t rfl
theorem ret_str (s : Str) (P : Prop) : retB (imm (.str s) = true) P = P := retB_t rfl
theorem ret_rgD (l : List (List Nat)) (P : Prop) : retB (imms (rgD l) = true) P = P := retB_t (rgD_imm l)
theorem wSortSet_s (we : WE) (ds : Sto) (Q : Sto → AV → Prop) : wSortSet we ds Q = (we ds fun ds1 x => match x with
  | .fz (.tuple l) => intsB l fun ns => ns.length < 64 ∧ ∀ ns' : List Int, ns'.Pairwise (· < ·) → (∀ k, k ∈ ns' ↔ k ∈ ns) → Q ds1 (.ls (ns'.map PyData.int))
  | _ => False) := rfl
theorem wZip_s (wa : WA) (ds : Sto) (Q : Sto → List D → Prop) : wZip wa ds Q = (wa ds fun ds1 xs => match xs with
  | [.fz (.tuple l), .fz (.tuple m)] => Q ds1 (zips l m)
  | [.fz (.list l), .fz (.list m)] => Q ds1 (zips l m)
  | _ => False) := rfl
theorem zips_map {α β : Type} (f : α → D) (g : β → D) : ∀ (l : List α) (m : List β), zips (l.map f) (m.map g) = (l.zip m).map fun p => PyData.tuple [f p.1, g p.2]
  | [], _ => rfl
  | _ :: _, [] => rfl
  | a :: l, b :: m => by
    show PyData.tuple [f a, g b] :: zips (l.map f) (m.map g) = _
    rw [zips_map f g l m]
    rfl
theorem wRevL_s (we : WE) (ds : Sto) (Q : Sto → AV → Prop) : wRevL we ds Q = (we ds fun ds1 x => match lsOf ds1 x with
  | some l => Q ds1 (.ls l.reverse)
  | none => False) := rfl
/-! ### promises by an index: what the arguments are, what is asked, what comes -/
section
variable {ι : Type} {K : PySem.W.Frag}
def spI (n : Nat) (args : ι → List D) (pre : ι → Prop) (post : ι → AV → Prop) (K : PySem.W.Frag) : Sp := fun vs H Q E => ∃ i, spP n (fun dl => dl = args i ∧ pre i) (fun _ x => post i x) K vs H Q E
def callIB (n : Nat) (args : ι → List D) (pre : ι → Prop) (post : ι → AV → Prop) (o : Option (List D)) (ds : Sto) (Q : Sto → AV → Prop) (_ : Hd Q := .mk) : Prop := ∃ i, o = some (args i) ∧ (args i).length = n ∧ pre i ∧ ∀ x, post i x → Q ds x
theorem callIB_i {n : Nat} {args : ι → List D} {pre : ι → Prop} {post : ι → AV → Prop} {ds : Sto} {Q : Sto → AV → Prop} (i : ι) (hn : (args i).length = n) (hp : pre i) (q : ∀ x, post i x → Q ds x) : callIB n args pre post (some (args i)) ds Q := ⟨i, rfl, hn, hp, q⟩
def wCallI (n : Nat) (args : ι → List D) (pre : ι → Prop) (post : ι → AV → Prop) (wa : WA) : WE := fun ds Q => wa ds fun ds1 xs => callIB n args pre post (vls ds1 xs) ds1 Q
theorem wCallI_s (n : Nat) (args : ι → List D) (pre : ι → Prop) (post : ι → AV → Prop) (wa : WA) (ds : Sto) (Q : Sto → AV → Prop) : wCallI n args pre post wa ds Q = (wa ds fun ds1 xs => callIB n args pre post (vls ds1 xs) ds1 Q) := rfl
theorem wCallID_s (n : Nat) (args : ι → List D) (pre : ι → Prop) (post : ι → AV → Prop) (wa : WA) (ds : Sto) (Q : Sto → AV → Prop) : wCallID n args pre post wa ds Q = (wa ds fun ds1 xs => callIB n args pre post ((vls ds1 xs).map (· ++ [.tuple []])) ds1 Q) := rfl
theorem callIK_eq (n n0 : Nat) (args : ι → List D) (pre : ι → Prop) (post : ι → AV → Prop) (xs ys : List AV) (ds : Sto) (Q : Sto → AV → Prop) : (∃ i, xs.length = n0 ∧ ys.length = 1 ∧ vls ds (xs ++ ys) = some (args i) ∧ (args i).length = n ∧ pre i ∧ ∀ x, post i x → Q ds x) = sdB (xs.length = n0) (sdB (ys.length = 1) (callIB n args pre post (vls ds (xs ++ ys)) ds Q)) := propext ⟨fun ⟨i, a, b, c, d, e, f⟩ => ⟨a, b, i, c, d, e, f⟩, fun ⟨a, b, i, c, d, e, f⟩ => ⟨i, a, b, c, d, e, f⟩⟩
theorem wCallIK_s (n n0 : Nat) (args : ι → List D) (pre : ι → Prop) (post : ι → AV → Prop) (wa wk : WA) (ds : Sto) (Q : Sto → AV → Prop) : wCallIK n n0 args pre post wa wk ds Q = (wa ds fun ds1 xs => wk ds1 fun ds2 ys => sdB (xs.length = n0) (sdB (ys.length = 1) (callIB n args pre post (vls ds2 (xs ++ ys)) ds2 Q))) := by
  unfold wCallIK
  congr 1
  funext ds1 xs
  congr 1
  funext ds2 ys
  exact callIK_eq n n0 args pre post xs ys ds2 Q
theorem snd_callI {n : Nat} {args : ι → List D} {pre : ι → Prop} {post : ι → AV → Prop} {ta : TA} {wa : WA} {E : XK} (ha : SndA K ta wa) : SndE K (tCall (spI n args pre post K) [] E ta) (wCallI n args pre post wa) := fun B m H σ ds ts vs Q R S h k =>
  ha _ _ _ _ _ _ _ _ _ S h fun us H1 ds1 xs S1 hl ⟨i, e, hn, p, h1⟩ => by
    obtain ⟨f, g, c⟩ := S1
    obtain ⟨r, c⟩ := St0.argsV hl e c
    refine ⟨i, args i, by rw [List.append_nil]; exact r, hn, ⟨rfl, p⟩, fun v H' x hp hk nv => k v H' ds1 x (Stt.take c hk nv) (h1 x hp)⟩
def spJ (n : Nat) (args : ι → List D) (pre : ι → Prop) (post : ι → AV → Prop) (K : PySem.W.Frag) : Sp := fun vs H Q E => ∃ i, spM n (fun l dl => DiceL l ∧ dl = args i ∧ pre i) (fun _ _ l' x => DiceL l' ∧ post i x) K vs H Q E
def callJB (n : Nat) (args : ι → List D) (pre : ι → Prop) (post : ι → AV → Prop) (o o2 : Option (List D)) (ds : Sto) (j : Nat) (Q : Sto → AV → Prop) (_ : Hd Q := .mk) : Prop := ∃ i l, o = some l ∧ DiceL l ∧ o2 = some (args i) ∧ (args i).length = n ∧ pre i ∧ ∀ l' x, DiceL l' → post i x → Q (stL ds j l') x
theorem callJB_i {n : Nat} {args : ι → List D} {pre : ι → Prop} {post : ι → AV → Prop} {ds : Sto} {j : Nat} {Q : Sto → AV → Prop} {l : List D} (i : ι) (hn : (args i).length = n) (hd : DiceL l) (hp : pre i) (q : ∀ l' x, DiceL l' → post i x → Q (stL ds j l') x) : callJB n args pre post (some l) (some (args i)) ds j Q := ⟨i, l, rfl, hd, rfl, hn, hp, q⟩
def wCallJ (n : Nat) (args : ι → List D) (pre : ι → Prop) (post : ι → AV → Prop) (wa : WA) : WE := fun ds Q => wa ds fun ds1 xs => match xs with
  | .rf i :: r => callJB n args pre post (oL (ds1.getD i .un)) (fzs r) ds1 i Q
  | _ => False
theorem wCallJ_s (n : Nat) (args : ι → List D) (pre : ι → Prop) (post : ι → AV → Prop) (wa : WA) (ds : Sto) (Q : Sto → AV → Prop) : wCallJ n args pre post wa ds Q = (wa ds fun ds1 xs => match xs with
  | .rf i :: r => callJB n args pre post (oL (ds1.getD i .un)) (fzs r) ds1 i Q
  | _ => False) := rfl
theorem snd_callJ {n : Nat} {args : ι → List D} {pre : ι → Prop} {post : ι → AV → Prop} {ta : TA} {wa : WA} {E : XK} (ha : SndA K ta wa) : SndE K (tCall (spJ n args pre post K) [] E ta) (wCallJ n args pre post wa) := by
  intro B m H σ ds ts vs Q R S h k
  show ta σ H fun us H1 => ∃ i, spM n (fun l dl => DiceL l ∧ dl = args i ∧ pre i) (fun _ _ l' x => DiceL l' ∧ post i x) K (us ++ []) H1 R E
  refine ha _ _ _ _ _ _ _ _ _ S h fun us H1 ds1 xs S1 hl h1 => ?_
  split at h1
  · rename_i i r
    obtain ⟨ix, l, e1, hd, e2, hn, hp, h1⟩ := h1
    exact ⟨ix, callM_core S1 hl e1 e2 hn ⟨hd, rfl, hp⟩ (fun l' x q => h1 l' x q.1 q.2) k⟩
  · exact h1.elim
end
section
variable {X : Cx} {e : Expr} {es : List Expr} {t : TA} {w : WA} {p pos : Pos} {ι : Type} {args : ι → List D} {pre : ι → Prop} {post : ι → AV → Prop}
theorem ae_callI {x : Str} {k j n : Nat} (C : Cal X.prog X.w X.K X.mg X.base k x (spI n args pre post X.K)) (hr : Room j X.A) (ha : AA X (e :: es) t w) (hk : k ≤ j := by decide) (hg : Gl X x := by rfl) (hdb : (x == ("__debug__" : Str)) = false := by decide)
    (he : starEach (e :: es) X.env = (false, eval e X.env) :: starEach es X.env := by rfl) (hpl : (backTo pos (starEach es X.env)).any (·.1) = false := by rfl) : AE X (.Call (.Name x p) (e :: es) [] pos) (tCall (spI n args pre post X.K) [] E0 t) (wCallI n args pre post w) := by
  obtain ⟨f, fd, ps, F, g, kp, b⟩ := C.ex
  exact ⟨pe_call F (hr.mono hk) hg g kp b .nil pass0 ha.pa hdb he hpl, snd_callI ha.sd⟩
theorem ae_callJ {x : Str} {k j n : Nat} (C : Cal X.prog X.w X.K X.mg X.base k x (spJ n args pre post X.K)) (hr : Room j X.A) (ha : AA X (e :: es) t w) (hk : k ≤ j := by decide) (hg : Gl X x := by rfl) (hdb : (x == ("__debug__" : Str)) = false := by decide)
    (he : starEach (e :: es) X.env = (false, eval e X.env) :: starEach es X.env := by rfl) (hpl : (backTo pos (starEach es X.env)).any (·.1) = false := by rfl) : AE X (.Call (.Name x p) (e :: es) [] pos) (tCall (spJ n args pre post X.K) [] E0 t) (wCallJ n args pre post w) := by
  obtain ⟨f, fd, ps, F, g, kp, b⟩ := C.ex
  exact ⟨pe_call F (hr.mono hk) hg g kp b .nil pass0 ha.pa hdb he hpl, snd_callJ ha.sd⟩
end
section
variable {P : Program} {w : World} {K : PySem.W.Frag} {mg : Str → Option Value} {base : Heap} {ι : Type}
theorem fnI {CX : CXT} {k : Nat} {f : Addr} {fd : FuncData} {ps : List Str} {sp : ι → Sp} (h : ∀ i, FnOk P w K mg base CX k f fd ps (sp i)) : FnOk P w K mg base CX k f fd ps (fun vs H Q E => ∃ i, sp i vs H Q E) :=
  ⟨fun vs H Q E ⟨i, q⟩ => (h i).len vs H Q E q, fun A outer s H args us vs Q E hr he hb hv ⟨i, q⟩ => (h i).run A outer s H args us vs Q E hr he hb hv q⟩
theorem okI {x qual : Str} {st : Stmt} {f : Addr} {fd : FuncData} {N ps : List Str} {k n : Nat} {args : ι → List D} {pre : ι → Prop} {post : ι → AV → Prop} (F : Fun K x qual st f fd) (S : FnScope N ps (defScope st)) (hn : ps.length = n)
    (hbody : ∀ (cdv : Value) (A : Around) (outer : List Env) (s : Shared) (H : Hp) (E : XK), Room k (A.deeper (envOfC qual (defScope st) s.heap.objs.size f cdv)) →
      ∃ t w', ASs (cxOf CX0 P w K mg base N qual (defScope st) f cdv A outer s H E).nox (defBody st) t w' ∧ ∀ i, pre i → w' { nx := fun _ => post i (.fz .none), rt := fun ds x => RetOk (post i) ds x } ((args i).map AV.fz ++ List.replicate (N.length - n) AV.un)) :
    FnOk P w K mg base CX0 (k + 1) f fd ps (spI n args pre post K) := fnI fun i => okP F S hn fun cdv A outer s H E hr => by
  obtain ⟨t, w', hA, hw⟩ := hbody cdv A outer s H E hr
  refine ⟨t, w', hA, fun dl _ ⟨e, hp⟩ => ?_⟩
  subst e
  exact hw i hp
theorem okJ {x qual : Str} {st : Stmt} {f : Addr} {fd : FuncData} {N ps : List Str} {k n : Nat} {args : ι → List D} {pre : ι → Prop} {post : ι → AV → Prop} (F : Fun K x qual st f fd) (S : FnScope N ps (defScope st)) (hn : ps.length = n + 1)
    (hbody : ∀ (cdv : Value) (A : Around) (outer : List Env) (s : Shared) (H : Hp) (E : XK), Room k (A.deeper (envOfC qual (defScope st) s.heap.objs.size f cdv)) →
      ∃ t w', ASs (cxOf CX0 P w K mg base N qual (defScope st) f cdv A outer s H E).nox (defBody st) t w' ∧ ∀ i l, DiceL l → pre i →
        w' { nx := fun ds => ∃ l', ds.getD 0 .un = .lb l' ∧ imms l' = true ∧ DiceL l' ∧ post i (.fz .none), rt := fun ds x => ∃ l', ds.getD 0 .un = .lb l' ∧ imms l' = true ∧ RetOk (fun x => DiceL l' ∧ post i x) ds x } (.lb l :: ((args i).map AV.fz ++ List.replicate (N.length - (n + 1)) AV.un))) :
    FnOk P w K mg base CX0 (k + 1) f fd ps (spJ n args pre post K) := fnI fun i => okM F S hn fun cdv A outer s H E hr => by
  obtain ⟨t, w', hA, hw⟩ := hbody cdv A outer s H E hr
  refine ⟨t, w', hA, fun l dl _ ⟨hd, e, hp⟩ => ?_⟩
  subst e
  exact hw i l hd hp
end
/-- the dice are handed back -/
def retD (ds : Sto) (P : List D → Prop) : Prop := ∃ l', ds.getD 0 .un = .lb l' ∧ imms l' = true ∧ P l'
theorem lb_ex (l : List D) (P : List D → Prop) : (∃ l', AV.lb l = .lb l' ∧ imms l' = true ∧ P l') = (imms l = true ∧ P l) := propext ⟨fun ⟨l', e, q⟩ => by cases e; exact q, fun q => ⟨l, rfl, q⟩⟩
end SX

set_option linter.all false
set_option maxRecDepth 100000
namespace SX
open PySem PySem.Spec PyProof.Rows L2
/-! ### equality of data without truth values -/
mutual
def ply : D → Bool
  | .none => true
  | .bool _ => false
  | .int _ => true
  | .str _ => true
  | .list l => plys l
  | .tuple l => plys l
  | .dict _ => false
def plys : List D → Bool
  | [] => true
  | d :: l => ply d && plys l
end
mutual
theorem eqv_ply : ∀ d e : D, ply d = true → ply e = true → (PyData.eqv d e = true ↔ d = e)
  | .none, e, _, he => by cases e <;> simp [PyData.eqv, ply] at *
  | .bool _, _, h, _ => by simp [ply] at h
  | .int i, e, _, he => by cases e <;> simp [PyData.eqv, ply] at *
  | .str i, e, _, he => by cases e <;> simp [PyData.eqv, ply] at *
  | .dict _, _, h, _ => by simp [ply] at h
  | .list l, e, h, he => by
    cases e with
    | list m => simpa [PyData.eqv] using eqvAll_ply l m (by simpa [ply] using h) (by simpa [ply] using he)
    | _ => simp [PyData.eqv, ply] at *
  | .tuple l, e, h, he => by
    cases e with
    | tuple m => simpa [PyData.eqv] using eqvAll_ply l m (by simpa [ply] using h) (by simpa [ply] using he)
    | _ => simp [PyData.eqv, ply] at *
theorem eqvAll_ply : ∀ l m : List D, plys l = true → plys m = true → (PyData.eqvAll l m = true ↔ l = m)
  | [], [], _, _ => by simp [PyData.eqvAll]
  | [], _ :: _, _, _ => by simp [PyData.eqvAll]
  | _ :: _, [], _, _ => by simp [PyData.eqvAll]
  | x :: l, y :: m, h, h2 => by
    have h : ply x = true ∧ plys l = true := by simpa [plys] using h
    have h2 : ply y = true ∧ plys m = true := by simpa [plys] using h2
    rw [PyData.eqvAll, Bool.and_eq_true, eqv_ply x y h.1 h2.1, eqvAll_ply l m h.2 h2.2, List.cons.injEq]
end
/-- data that may be compared, equal exactly if they are the same -/
def fp (n : Nat) (d : D) : Bool := fit n d && ply d
def fps (n : Nat) (l : List D) : Bool := fits n l && plys l
theorem fps_nil (n : Nat) : fps n [] = true := rfl
theorem fps_cons (n : Nat) (d : D) (l : List D) : fps n (d :: l) = (fp n d && fps n l) := by
  unfold fps fp
  show ((fit n d && fits n l) && (ply d && plys l)) = _
  cases fit n d <;> cases fits n l <;> cases ply d <;> cases plys l <;> rfl
theorem fps_app (n : Nat) : ∀ (l m : List D), fps n (l ++ m) = (fps n l && fps n m)
  | [], m => by rw [fps_nil]; rfl
  | d :: l, m => by rw [List.cons_append, fps_cons, fps_cons, fps_app n l m, Bool.and_assoc]
theorem fp_int (n : Nat) (i : Int) : fp n (.int i) = true := by
  have := fits_ints n [i]
  unfold fp
  have h : fit n (.int i) = true := by simpa [fits] using this
  rw [h]; rfl
theorem fp_none (n : Nat) : fp n .none = true := by
  unfold fp fit
  simp [PyData.canLay0, PyData.depth, imm, ply]
theorem fp_tup (n : Nat) (l : List D) (h : fps n l = true) : fp (n + 1) (.tuple l) = true := by
  unfold fps at h
  rw [Bool.and_eq_true] at h
  unfold fp
  rw [fit_tup h.1, Bool.true_and]
  exact h.2
theorem fp_mono {n m : Nat} (h : n ≤ m) {d : D} (q : fp n d = true) : fp m d = true := by
  unfold fp fit at *
  simp only [Bool.and_eq_true, decide_eq_true_eq] at *
  obtain ⟨⟨⟨a, b⟩, c⟩, e⟩ := q
  exact ⟨⟨⟨a, by omega⟩, c⟩, e⟩
theorem fps_ints (n : Nat) (l : List Int) : fps n (l.map PyData.int) = true := by
  induction l with
  | nil => rfl
  | cons x l ih => rw [List.map_cons, fps_cons, fp_int, ih]; rfl
theorem fps_nts (n : Nat) (l : List Nat) : fps n (nts l) = true := by rw [nts_ints]; exact fps_ints n _
theorem fp_nts (n : Nat) (l : List Nat) : fp (n + 1) (.tuple (nts l)) = true := fp_tup n _ (fps_nts n l)
theorem fps_rgD (n : Nat) (l : List (List Nat)) : fps (n + 1) (rgD l) = true := by
  induction l with
  | nil => rfl
  | cons x l ih =>
    show fps (n + 1) (.tuple (nts x) :: rgD l) = true
    rw [fps_cons, fp_nts, ih]; rfl
theorem fp_shaped {n : Nat} {d : D} (h : fp n d = true) (hn : n ≤ 64) : SeqAt.shaped d = true := by
  unfold fp at h
  rw [Bool.and_eq_true] at h
  exact fit_shaped h.1 hn
theorem fp_ply {n : Nat} {d : D} (h : fp n d = true) : ply d = true := by
  unfold fp at h
  rw [Bool.and_eq_true] at h
  exact h.2
/-- .. or lists of such -/
def cmpl (d : D) : Prop := (∃ n, n ≤ 60 ∧ fp n d = true) ∨ ∃ n l, n ≤ 60 ∧ d = .list l ∧ fps n l = true
theorem cmpl.sh {d : D} (h : cmpl d) : SeqAt.shaped d = true ∧ ply d = true := by
  rcases h with ⟨n, hn, h⟩ | ⟨n, l, hn, rfl, h⟩
  · exact ⟨fp_shaped h (by omega), fp_ply h⟩
  · unfold fps at h
    rw [Bool.and_eq_true] at h
    exact ⟨shaped_list h.1 hn, h.2⟩
theorem cm_int (i : Int) : cmpl (.int i) := .inl ⟨0, by decide, fp_int 0 i⟩
theorem cm_none : cmpl .none := .inl ⟨0, by decide, fp_none 0⟩
theorem cm_nts (l : List Nat) : cmpl (.tuple (nts l)) := .inl ⟨1, by decide, fp_nts 0 l⟩
theorem cm_lnts (l : List Nat) : cmpl (.list (nts l)) := .inr ⟨0, _, by decide, rfl, fps_nts 0 l⟩
theorem cm_lrg (l : List (List Nat)) : cmpl (.list (rgD l)) := .inr ⟨1, _, by decide, rfl, fps_rgD 0 l⟩
theorem cm_lnil : cmpl (.list []) := .inr ⟨0, _, by decide, rfl, rfl⟩
theorem cm_tup {n : Nat} {l : List D} (hn : n ≤ 50) (h : fps n l = true) : cmpl (.tuple l) := .inl ⟨n + 1, by omega, fp_tup n l h⟩
theorem cm_lst {n : Nat} {l : List D} (hn : n ≤ 50) (h : fps n l = true) : cmpl (.list l) := .inr ⟨n, l, by omega, rfl, h⟩
theorem eqB_p {d e : D} {Q : Bool → Prop} (h : cmpl d) (h2 : cmpl e) (q : ∀ b : Bool, (b = true ↔ d = e) → Q b) : eqB (some d) (some e) Q :=
  eqB_i h.sh.1 h2.sh.1 (q _ (eqv_ply d e h.sh.2 h2.sh.2))
theorem eqB_t {d : D} {Q : Bool → Prop} (h : cmpl d) (q : Q true) : eqB (some d) (some d) Q := eqB_p h h fun b hb => by
  rw [hb.mpr rfl]; exact q
theorem eqB_f {d e : D} {Q : Bool → Prop} (h : cmpl d) (h2 : cmpl e) (hn : d ≠ e) (q : Q false) : eqB (some d) (some e) Q := eqB_p h h2 fun b hb => by
  cases b with
  | true => exact absurd (hb.mp rfl) hn
  | false => exact q
/-- tuples of numbers compared -/
theorem eqB_n {a b : List Nat} {Q : Bool → Prop} (q : Q (decide (a = b))) : eqB (some (.tuple (nts a))) (some (.tuple (nts b))) Q := eqB_p (cm_nts a) (cm_nts b) fun c hc => by
  have : c = decide (a = b) := by
    cases c with
    | true => rw [decide_eq_true]; exact nts_inj (by have := hc.mp rfl; simpa using this)
    | false =>
      rw [decide_eq_false]
      rintro rfl
      exact absurd (hc.mpr rfl) Bool.false_ne_true
  rw [this]; exact q
theorem eqB_ln {a b : List Nat} {Q : Bool → Prop} (q : Q (decide (a = b))) : eqB (some (.list (nts a))) (some (.list (nts b))) Q := eqB_p (cm_lnts a) (cm_lnts b) fun c hc => by
  have : c = decide (a = b) := by
    cases c with
    | true => rw [decide_eq_true]; exact nts_inj (by have := hc.mp rfl; simpa using this)
    | false =>
      rw [decide_eq_false]
      rintro rfl
      exact absurd (hc.mpr rfl) Bool.false_ne_true
  rw [this]; exact q
theorem eqB_bool (a b : Bool) (Q : Bool → Prop) : eqB (some (.bool a)) (some (.bool b)) Q = Q (a == b) := propext ⟨fun ⟨d, e, h1, h2, _, _, q⟩ => by
  cases h1
  cases h2
  rwa [eqv_bool] at q, fun q => eqB_i (shaped_bool a) (shaped_bool b) (by rw [eqv_bool]; exact q)⟩
theorem beq_dec (a b : Int) : (a == b) = decide (a = b) := by
  by_cases h : a = b
  · subst h; simp
  · rw [decide_eq_false h]; simpa using h
theorem eqB_int (a b : Int) (Q : Bool → Prop) : eqB (some (.int a)) (some (.int b)) Q = Q (decide (a = b)) := propext ⟨fun ⟨d, e, h1, h2, _, _, q⟩ => by
  cases h1
  cases h2
  rwa [eqv_int, beq_dec] at q, fun q => eqB_i (shaped_int a) (shaped_int b) (by rwa [eqv_int, beq_dec])⟩
theorem eqB_non (Q : Bool → Prop) : eqB (some .none) (some .none) Q = Q true := propext ⟨fun ⟨d, e, h1, h2, _, _, q⟩ => by
  cases h1
  cases h2
  exact q, fun q => eqB_i (by decide) (by decide) q⟩
end SX

set_option linter.all false
set_option maxRecDepth 100000
namespace SX
open PySem PySem.Spec PyProof.Rows L2
/-! ### lists of rings that describe cards -/
structure Desc (c : List Nat) (rs : List (List Nat)) : Prop where
  pos : ∀ r ∈ rs, r ≠ []
  nod : rs.flatten.Nodup
  cov : ∀ x, x ∈ rs.flatten ↔ x < c.length
  step : ∀ r ∈ rs, ∀ (k x : Nat), r[k]? = some x → c[x]? = some (r.getD ((k + 1) % r.length) 0)
theorem flat_mem {rs : List (List Nat)} {r : List Nat} {x : Nat} (h : r ∈ rs) (hx : x ∈ r) : x ∈ rs.flatten := List.mem_flatten.mpr ⟨r, h, hx⟩
theorem pigeon' : ∀ (n : Nat) (l : List Nat), (∀ x, x < n → x ∈ l) → n ≤ l.length
  | 0, _, _ => Nat.zero_le _
  | n + 1, l, h => by
    have hn := h n (Nat.lt_succ_self n)
    obtain ⟨i, hi⟩ := List.mem_iff_getElem?.mp hn
    have hp := eraseIdx_perm hi
    have := pigeon' n (l.eraseIdx i) fun x hx => by
      have : x ∈ n :: l.eraseIdx i := hp.mem_iff.mpr (h x (by omega))
      rcases List.mem_cons.mp this with q | q
      · omega
      · exact q
    have e := hp.length_eq
    rw [List.length_cons] at e
    omega
theorem nodup_len {l : List Nat} {n : Nat} (h : l.Nodup) (hc : ∀ x, x ∈ l ↔ x < n) : l.length = n :=
  Nat.le_antisymm (pigeon n l h fun x hx => (hc x).mp hx) (pigeon' n l fun x hx => (hc x).mpr hx)
theorem Desc.len {c : List Nat} {rs : List (List Nat)} (h : Desc c rs) : rs.flatten.length = c.length := nodup_len h.nod h.cov
theorem flat_len {rs : List (List Nat)} {i : Nat} {r : List Nat} (h : rs[i]? = some r) : (rs.take i).flatten.length + r.length ≤ rs.flatten.length := by
  have e : rs.take (i + 1) = rs.take i ++ [r] := by rw [List.take_add_one, h]; rfl
  have e2 := List.take_append_drop (i + 1) rs
  have : rs.flatten = (rs.take i).flatten ++ r ++ (rs.drop (i + 1)).flatten := by
    conv => lhs; rw [← e2]
    rw [e, List.flatten_append, List.flatten_append]
    simp
  rw [this, List.length_append, List.length_append]
  omega
theorem flat_take {rs : List (List Nat)} {i : Nat} {r : List Nat} (h : rs[i]? = some r) : (rs.take (i + 1)).flatten = (rs.take i).flatten ++ r := by
  rw [List.take_add_one, h]
  simp
/-- what comes later in a flat list without repeats is new -/
theorem flat_new {rs : List (List Nat)} (hn : rs.flatten.Nodup) {i k x : Nat} {r : List Nat} (h : rs[i]? = some r) (hk : r[k]? = some x) : x ∉ (rs.take i).flatten ++ r.take k := by
  have e2 := List.take_append_drop (i + 1) rs
  have e3 : rs.flatten = ((rs.take i).flatten ++ r.take k) ++ (x :: (r.drop (k + 1) ++ (rs.drop (i + 1)).flatten)) := by
    conv => lhs; rw [← e2]
    rw [List.flatten_append, flat_take h]
    have lk := (List.getElem?_eq_some_iff.mp hk)
    obtain ⟨l1, l2⟩ := lk
    have : r = r.take k ++ x :: r.drop (k + 1) := by
      conv => lhs; rw [← List.take_append_drop k r]
      rw [List.drop_eq_getElem_cons l1, l2]
    conv => lhs; rw [this]
    simp
  rw [e3, List.nodup_append] at hn
  intro q
  exact hn.2.2 x q x List.mem_cons_self rfl
/-- two cards with one description are the same -/
theorem Desc.uniq {c d : List Nat} {rs : List (List Nat)} (h : Desc c rs) (h2 : Desc d rs) : c = d := by
  have hl : c.length = d.length := by rw [← h.len, ← h2.len]
  refine List.ext_getElem? fun x => ?_
  rcases Nat.lt_or_ge x c.length with q | q
  · obtain ⟨r, hr, hx⟩ := List.mem_flatten.mp ((h.cov x).mpr q)
    obtain ⟨k, hk⟩ := List.mem_iff_getElem?.mp hx
    rw [h.step r hr k x hk, h2.step r hr k x hk]
  · rw [List.getElem?_eq_none q, List.getElem?_eq_none (by omega)]
theorem Desc.perm {c : List Nat} {rs ss : List (List Nat)} (h : Desc c rs) (p : ss.Perm rs) : Desc c ss :=
  ⟨fun r hr => h.pos r (p.mem_iff.mp hr), p.flatten.nodup_iff.mpr h.nod, fun x => p.flatten.mem_iff.trans (h.cov x), fun r hr => h.step r (p.mem_iff.mp hr)⟩
/-- one ring turned -/
def turnL (r : List Nat) (k : Nat) : List Nat := r.drop k ++ r.take k
theorem turnL_perm (r : List Nat) (k : Nat) : (turnL r k).Perm r := by
  unfold turnL
  refine List.perm_append_comm.trans ?_
  rw [List.take_append_drop]
theorem turnL_len (r : List Nat) (k : Nat) : (turnL r k).length = r.length := (turnL_perm r k).length_eq
theorem turnL_get {r : List Nat} {k j : Nat} (hk : k < r.length) (hj : j < r.length) : (turnL r k)[j]? = r[(k + j) % r.length]? := by
  unfold turnL
  rcases Nat.lt_or_ge (k + j) r.length with q | q
  · rw [List.getElem?_append_left (by rw [List.length_drop]; omega), List.getElem?_drop, Nat.mod_eq_of_lt q]
  · rw [List.getElem?_append_right (by rw [List.length_drop]; omega), List.length_drop, List.getElem?_take_of_lt (by omega)]
    have : (k + j) % r.length = j - (r.length - k) := by
      have e : k + j = (j - (r.length - k)) + r.length := by omega
      rw [e, Nat.add_mod_right, Nat.mod_eq_of_lt (by omega)]
    rw [this]
theorem turnL_step {c r : List Nat} {k : Nat} (hk : k < r.length) (h : ∀ (j x : Nat), r[j]? = some x → c[x]? = some (r.getD ((j + 1) % r.length) 0)) : ∀ (j x : Nat), (turnL r k)[j]? = some x → c[x]? = some ((turnL r k).getD ((j + 1) % (turnL r k).length) 0) := by
  intro j x hj
  have lj : j < r.length := by
    have := (List.getElem?_eq_some_iff.mp hj).1
    rwa [turnL_len] at this
  rw [turnL_get hk lj] at hj
  rw [h _ x hj, turnL_len]
  have hm : (j + 1) % r.length < r.length := Nat.mod_lt _ (by omega)
  congr 1
  refine (getD_of ?_).symm
  rw [turnL_get hk hm]
  have hm2 : ((k + j) % r.length + 1) % r.length < r.length := Nat.mod_lt _ (by omega)
  rw [← getElem_getD hm2]
  congr 1
  rw [Nat.add_mod_mod, Nat.mod_add_mod, Nat.add_assoc]
/-- rings turned one by one -/
def Turned (ss rs : List (List Nat)) : Prop := ss.length = rs.length ∧ ∀ (i : Nat) (r : List Nat), rs[i]? = some r → ∃ k, k < r.length ∧ ss[i]? = some (turnL r k)
theorem Turned.desc {c : List Nat} : ∀ {ss rs : List (List Nat)}, Turned ss rs → Desc c rs → Desc c ss := fun {ss rs} ht h => by
  have mem : ∀ s ∈ ss, ∃ r ∈ rs, ∃ k, k < r.length ∧ s = turnL r k := fun s hs => by
    obtain ⟨i, hi⟩ := List.mem_iff_getElem?.mp hs
    have li := (List.getElem?_eq_some_iff.mp hi).1
    rw [ht.1] at li
    obtain ⟨k, hk, e⟩ := ht.2 i _ (List.getElem?_eq_getElem li)
    rw [hi] at e
    exact ⟨_, List.getElem_mem li, k, hk, Option.some.inj e⟩
  have pf : ∀ {ss rs : List (List Nat)}, Turned ss rs → ss.flatten.Perm rs.flatten := by
    intro ss
    induction ss with
    | nil =>
      intro rs ht
      have : rs = [] := List.length_eq_zero_iff.mp ht.1.symm
      subst this; exact .nil
    | cons s ss ih =>
      intro rs ht
      cases rs with
      | nil => exact absurd ht.1 (by simp)
      | cons r rs =>
        obtain ⟨k, hk, e⟩ := ht.2 0 r rfl
        have e : s = turnL r k := by simpa using e
        rw [List.flatten_cons, List.flatten_cons, e]
        refine (turnL_perm r k).append (ih ⟨by have := ht.1; simp at this; exact this, fun i r' hi => ?_⟩)
        have := ht.2 (i + 1) r' (by simpa using hi)
        simpa using this
  have p := pf ht
  refine ⟨fun s hs e => ?_, p.nodup_iff.mpr h.nod, fun x => p.mem_iff.trans (h.cov x), fun s hs => ?_⟩
  · obtain ⟨r, hr, k, hk, e2⟩ := mem s hs
    have := turnL_len r k
    rw [← e2, e] at this
    simp at this
    omega
  · obtain ⟨r, hr, k, hk, rfl⟩ := mem s hs
    exact turnL_step hk (h.step r hr)
/-- the rings of cards describe them -/
theorem flat_nodup : ∀ {l : List (List Nat)}, (∀ r ∈ l, r.Nodup) → l.Pairwise (fun a b => ∀ x ∈ a, x ∉ b) → l.flatten.Nodup
  | [], _, _ => .nil
  | r :: l, h, p => by
    rw [List.flatten_cons, List.nodup_append]
    cases p with
    | cons p1 p2 =>
      refine ⟨h r List.mem_cons_self, flat_nodup (fun s hs => h s (List.mem_cons_of_mem _ hs)) p2, fun x hx y hy e => ?_⟩
      subst e
      obtain ⟨s, hs, hxs⟩ := List.mem_flatten.mp hy
      exact p1 s hs x hx hxs
theorem IsC.min_uniq {c : List Nat} (hc : IsC c) {a b x : Nat} (ha : a < c.length) (hb : b < c.length) (ma : isMin c a = true) (mb : isMin c b = true) (xa : x ∈ ringOf c a) (xb : x ∈ ringOf c b) : a = b := by
  have hx := hc.ring_lt ha xa
  have h1 : b ∈ ringOf c a := hc.ring_trans ha xa (hc.ring_symm hb xb)
  have h2 : a ∈ ringOf c b := hc.ring_symm ha h1
  have q1 := isMin_iff.mp ma b h1
  have q2 := isMin_iff.mp mb a h2
  omega
theorem IsC.desc {c : List Nat} (hc : IsC c) : Desc c (ringsOf c) := by
  refine ⟨fun r hr e => ?_, flat_nodup (fun r hr => ?_) ?_, fun x => ⟨fun hx => ?_, fun hx => ?_⟩, fun r hr k x hk => ?_⟩
  · obtain ⟨m, hm, rfl, _⟩ := ringsOf_mem hr
    have := hc.ring_pos hm
    rw [e] at this
    exact Nat.lt_irrefl 0 this
  · obtain ⟨m, hm, rfl, _⟩ := ringsOf_mem hr
    exact hc.ring_nodup hm
  · unfold ringsOf
    rw [List.pairwise_map]
    have : ((List.range c.length).filter (isMin c)).Pairwise (· < ·) := List.Pairwise.filter _ List.pairwise_lt_range
    refine this.imp_of_mem fun {a b} ha hb hab x xa xb => ?_
    obtain ⟨a1, a2⟩ := List.mem_filter.mp ha
    obtain ⟨b1, b2⟩ := List.mem_filter.mp hb
    have := hc.min_uniq (List.mem_range.mp a1) (List.mem_range.mp b1) a2 b2 xa xb
    omega
  · obtain ⟨r, hr, hx⟩ := List.mem_flatten.mp hx
    obtain ⟨m, hm, rfl, _⟩ := ringsOf_mem hr
    exact hc.ring_lt hm hx
  · obtain ⟨j, r, hj, hs⟩ := hc.covered hx
    exact List.mem_flatten.mpr ⟨r, List.mem_of_getElem? hj, hs⟩
  · obtain ⟨m, hm, rfl, _⟩ := ringsOf_mem hr
    have lk := (List.getElem?_eq_some_iff.mp hk).1
    rw [ringOf_len] at lk
    rw [ringOf_at lk] at hk
    cases hk
    rw [st_at (hc.orb_lt hm k), ringOf_len]
    congr 1
    have hp := (hc.per hm).1
    rw [getD_of (ringOf_at (Nat.mod_lt _ (by omega))), ← hc.orb_mod hm]
    rfl
end SX
namespace SX
open PySem PySem.Spec PyProof.Rows L2
/-! ### how long till all sit at their own seats -/
def ordOf (c : List Nat) : Nat := (ringsOf c).foldl (fun a r => Nat.lcm a r.length) 1
theorem lcm_pos : ∀ (l : List (List Nat)), (∀ r ∈ l, 0 < r.length) → ∀ {a : Nat}, 0 < a → 0 < l.foldl (fun a r => Nat.lcm a r.length) a
  | [], _, _, h => h
  | r :: l, hr, a, h => lcm_pos l (fun s hs => hr s (List.mem_cons_of_mem _ hs)) (Nat.lcm_pos h (hr r List.mem_cons_self))
theorem lcm_acc : ∀ (l : List (List Nat)) (a : Nat), a ∣ l.foldl (fun a r => Nat.lcm a r.length) a
  | [], _ => Nat.dvd_refl _
  | r :: l, a => Nat.dvd_trans (Nat.dvd_lcm_left a r.length) (lcm_acc l _)
theorem lcm_mem : ∀ (l : List (List Nat)) (a : Nat) (r : List Nat), r ∈ l → r.length ∣ l.foldl (fun a r => Nat.lcm a r.length) a
  | s :: l, a, r, h => by
    rcases List.mem_cons.mp h with e | e
    · subst e
      exact Nat.dvd_trans (Nat.dvd_lcm_right a r.length) (lcm_acc l _)
    · exact lcm_mem l _ r e
theorem lcm_least : ∀ (l : List (List Nat)) (a k : Nat), a ∣ k → (∀ r ∈ l, r.length ∣ k) → l.foldl (fun a r => Nat.lcm a r.length) a ∣ k
  | [], _, _, h, _ => h
  | r :: l, a, k, h, hr => lcm_least l _ k (Nat.lcm_dvd h (hr r List.mem_cons_self)) fun s hs => hr s (List.mem_cons_of_mem _ hs)
/-- the seats whose guests are at home -/
def homeL (c : List Nat) (e : Int) : List Nat := (List.range c.length).filter fun s => decide (ik c s e = s)
theorem filt_sub (p : List Nat → Bool) : ∀ l : List (List Nat), (l.filter p).flatten.Sublist l.flatten
  | [] => List.Sublist.refl _
  | r :: l => by
    by_cases q : p r = true
    · rw [List.filter_cons_of_pos q, List.flatten_cons, List.flatten_cons]
      exact (List.Sublist.refl _).append (filt_sub p l)
    · rw [List.filter_cons_of_neg q, List.flatten_cons]
      exact (filt_sub p l).trans (List.sublist_append_right _ _)
section
variable {c : List Nat}
theorem IsC.ord_pos (h : IsC c) : 0 < ordOf c := lcm_pos _ (fun r hr => List.length_pos_iff.mpr (h.desc.pos r hr)) Nat.one_pos
theorem IsC.per_ring (h : IsC c) {m s : Nat} (hm : m < c.length) (hs : s ∈ ringOf c m) : SX.per c s = SX.per c m := by
  obtain ⟨k, rfl⟩ := (h.mem_ring hm).mp hs
  exact h.per_orb hm k
theorem IsC.per_ord (h : IsC c) {s : Nat} (hs : s < c.length) : SX.per c s ∣ ordOf c := by
  obtain ⟨m, m1, m2, m3⟩ := h.min_of (s + 1) s (by omega) hs
  have : ringOf c m ∈ ringsOf c := List.mem_map.mpr ⟨m, List.mem_filter.mpr ⟨List.mem_range.mpr m1, m2⟩, rfl⟩
  have := lcm_mem (ringsOf c) 1 _ this
  rw [ringOf_len, ← h.per_ring m1 m3] at this
  exact this
theorem IsC.ord_least (h : IsC c) {k : Nat} (hk : ∀ s, s < c.length → SX.per c s ∣ k) : ordOf c ∣ k := lcm_least _ _ _ (Nat.one_dvd k) fun r hr => by
  obtain ⟨m, hm, rfl, _⟩ := ringsOf_mem hr
  rw [ringOf_len]
  exact hk m hm
theorem IsC.ik_fix (h : IsC c) {s : Nat} (hs : s < c.length) (e : Int) : ik c s e = s ↔ e % (SX.per c s : Int) = 0 := by
  obtain ⟨p1, p2, p3, p4⟩ := h.per hs
  have n0 := Int.emod_nonneg e (show ((SX.per c s : Nat) : Int) ≠ 0 by omega)
  have n1 := Int.emod_lt_of_pos e (show (0 : Int) < (SX.per c s : Int) by omega)
  unfold ik
  refine ⟨fun q => ?_, fun q => by rw [q]; rfl⟩
  rcases Nat.eq_zero_or_pos (e % (SX.per c s : Int)).toNat with z | z
  · omega
  · exact absurd q (p4 _ z (by omega))
theorem IsC.pw_home (h : IsC c) (e : Int) : (∀ s, s < c.length → ik c s e = s) ↔ ((ordOf c : Nat) : Int) ∣ e := by
  refine ⟨fun q => ?_, fun q s hs => ?_⟩
  · have : ordOf c ∣ e.natAbs := h.ord_least fun s hs => Int.ofNat_dvd_left.mp (Int.dvd_of_emod_eq_zero ((h.ik_fix hs e).mp (q s hs)))
    exact Int.ofNat_dvd_left.mpr this
  · rw [h.ik_fix hs]
    exact Int.emod_eq_zero_of_dvd (Int.dvd_trans (Int.natCast_dvd_natCast.mpr (h.per_ord hs)) q)
theorem IsC.ord_small (h : IsC c) (h12 : c.length ≤ 12) : ordOf c ∣ 27720 := h.ord_least fun s hs => by
  obtain ⟨p1, p2, _⟩ := h.per hs
  generalize SX.per c s = p at p1 p2
  have : p ≤ 12 := by omega
  have h13 : p = 1 ∨ p = 2 ∨ p = 3 ∨ p = 4 ∨ p = 5 ∨ p = 6 ∨ p = 7 ∨ p = 8 ∨ p = 9 ∨ p = 10 ∨ p = 11 ∨ p = 12 := by omega
  rcases h13 with rfl | rfl | rfl | rfl | rfl | rfl | rfl | rfl | rfl | rfl | rfl | rfl <;> decide
theorem IsC.ord_le (h : IsC c) (h12 : c.length ≤ 12) : ordOf c ≤ 27720 := Nat.le_of_dvd (by decide) (h.ord_small h12)
/-- the rings whose sizes divide e hold the guests at home -/
theorem IsC.home_flat (h : IsC c) (e : Int) : ((ringsOf c).flatMap fun r => if e % (r.length : Int) = 0 then r else []).Perm (homeL c e) := by
  have hsub : ((ringsOf c).flatMap fun r => if e % (r.length : Int) = 0 then r else []) = ((ringsOf c).filter fun r => decide (e % (r.length : Int) = 0)).flatten := by
    generalize ringsOf c = l
    induction l with
    | nil => rfl
    | cons r l ih =>
      rw [List.flatMap_cons, ih]
      by_cases q : e % (r.length : Int) = 0
      · rw [if_pos q, List.filter_cons_of_pos (by rw [decide_eq_true q]), List.flatten_cons]
      · rw [if_neg q, List.filter_cons_of_neg (by rw [decide_eq_false q]; exact Bool.false_ne_true), List.nil_append]
  have nd : ((ringsOf c).filter fun r => decide (e % (r.length : Int) = 0)).flatten.Nodup := (filt_sub _ _).nodup h.desc.nod
  rw [hsub]
  refine (List.perm_ext_iff_of_nodup nd (List.Pairwise.filter _ List.nodup_range)).mpr fun s => ?_
  rw [List.mem_flatten, List.mem_filter, List.mem_range, decide_eq_true_eq]
  constructor
  · rintro ⟨r, hr, hs⟩
    obtain ⟨h1, h2⟩ := List.mem_filter.mp hr
    obtain ⟨m, hm, rfl, _⟩ := ringsOf_mem h1
    have h2 := of_decide_eq_true h2
    rw [ringOf_len] at h2
    have hsl := h.ring_lt hm hs
    exact ⟨hsl, (h.ik_fix hsl e).mpr (by rw [h.per_ring hm hs]; exact h2)⟩
  · rintro ⟨hs, q⟩
    obtain ⟨j, r, hj, hsr⟩ := h.covered hs
    have hr := List.mem_of_getElem? hj
    refine ⟨r, List.mem_filter.mpr ⟨hr, decide_eq_true ?_⟩, hsr⟩
    obtain ⟨m, hm, rfl, _⟩ := ringsOf_mem hr
    rw [ringOf_len, ← h.per_ring hm hsr]
    exact (h.ik_fix hs e).mp q
end
theorem hom_len (l : List (List Nat)) (e : Int) : (l.flatMap fun r => if e % (r.length : Int) = 0 then r else []).length ≤ l.flatten.length := by
  induction l with
  | nil => exact Nat.le_refl _
  | cons r l ih =>
    rw [List.flatMap_cons, List.flatten_cons, List.length_append, List.length_append]
    by_cases q : e % (r.length : Int) = 0
    · rw [if_pos q]; omega
    · rw [if_neg q, List.length_nil]; omega
theorem nts_flat {α : Type} (f : α → List Nat) (l : List α) : nts (l.flatMap f) = l.flatMap fun a => nts (f a) := by
  induction l with
  | nil => rfl
  | cons x l ih => rw [List.flatMap_cons, List.flatMap_cons, nts_app, ih]
/-- sorted numbers -/
theorem sort_nts {ns : List Int} {l m : List Nat} (p : ns.Perm (castL l)) (s : ns.Pairwise (· ≤ ·)) (p2 : l.Perm m) (s2 : m.Pairwise (· ≤ ·)) : ns = castL m := by
  refine List.Perm.eq_of_pairwise (fun _ _ _ _ a b => Int.le_antisymm a b) s ?_ (p.trans (p2.map _))
  unfold castL
  rw [List.pairwise_map]
  exact s2.imp fun h => by omega
theorem soB_n {l m : List Nat} {Q : List Int → Prop} (hl : l.length < 64) (p : l.Perm m) (s : m.Pairwise (· ≤ ·)) (q : Q (castL m)) : soB (castL l) Q := ⟨by unfold castL; rw [List.length_map]; exact hl, fun ns' hp hs => by
  rw [sort_nts hp hs p s]; exact q⟩
theorem castL_map (l : List Nat) : (castL l).map PyData.int = nts l := (nts_ints l).symm
end SX
namespace SX
open PySem PySem.Spec PyProof.Rows L2
section
variable {c : List Nat}
theorem IsC.ik_ord (h : IsC c) {s : Nat} (hs : s < c.length) (e : Int) : ik c s (e + (ordOf c : Nat)) = ik c s e := by
  rw [← h.ik_add hs]
  refine (h.pw_home _).mpr (Int.dvd_refl _) _ (h.ik_lt hs e)
theorem IsC.pw_ord (h : IsC c) (e : Int) : pw c (e + (ordOf c : Nat)) = pw c e := by
  unfold pw
  exact List.map_congr_left fun s hs => h.ik_ord (List.mem_range.mp hs) e
theorem IsC.home_all (h : IsC c) (e : Int) (hd : ((ordOf c : Nat) : Int) ∣ e) : homeL c e = List.range c.length := by
  unfold homeL
  refine List.filter_eq_self.mpr fun s hs => decide_eq_true ((h.pw_home e).mpr hd s (List.mem_range.mp hs))
theorem IsC.home_len (h : IsC c) (e : Int) : (homeL c e).length = c.length ↔ ((ordOf c : Nat) : Int) ∣ e := by
  refine ⟨fun q => (h.pw_home e).mp fun s hs => ?_, fun q => by rw [h.home_all e q, List.length_range]⟩
  have : (homeL c e).length = (List.range c.length).length := by rw [q, List.length_range]
  have := List.length_filter_eq_length_iff.mp this s (List.mem_range.mpr hs)
  exact of_decide_eq_true this
end
theorem rng_int {lo : Int} {n i : Nat} {d : D} (h : (rng lo n)[i]? = some d) : i < n ∧ d = .int (lo + (i : Int)) := by
  have lt : i < n := by
    have := (List.getElem?_eq_some_iff.mp h).1
    rwa [rng_len] at this
  rw [rng_get lt] at h
  exact ⟨lt, (Option.some.inj h).symm⟩
theorem fm_none (l : List D) : l.filterMap (fun _ => (none : Option D)) = [] := by
  induction l with
  | nil => rfl
  | cons x l ih => rw [List.filterMap_cons]; exact ih
end SX
namespace SX
open PySem PySem.Spec PyProof.Rows L2
/-! ### twelve seats: sixty evenings at most -/
def lanC : Nat → Nat → Nat → Bool
  | 0, _, a => decide (a ≤ 60)
  | f + 1, k, a => decide (a ≤ 60) && (List.range k).all fun s => lanC f (k - (s + 1)) (Nat.lcm a (s + 1))
theorem lan_ok : ∀ (f k a : Nat) (l : List Nat), lanC f k a = true → l.length ≤ f → (∀ s ∈ l, 1 ≤ s) → l.sum ≤ k → l.foldl Nat.lcm a ≤ 60
  | 0, k, a, l, h, hl, _, _ => by
    have : l = [] := List.length_eq_zero_iff.mp (by omega)
    subst this
    exact of_decide_eq_true h
  | f + 1, k, a, [], h, _, _, _ => by
    have h : (decide (a ≤ 60) && (List.range k).all fun s => lanC f (k - (s + 1)) (Nat.lcm a (s + 1))) = true := h
    rw [Bool.and_eq_true] at h
    exact of_decide_eq_true h.1
  | f + 1, k, a, s :: l, h, hl, h1, hs => by
    have h : (decide (a ≤ 60) && (List.range k).all fun s => lanC f (k - (s + 1)) (Nat.lcm a (s + 1))) = true := h
    rw [Bool.and_eq_true, List.all_eq_true] at h
    rw [List.sum_cons] at hs
    have s1 := h1 s List.mem_cons_self
    have q := h.2 (s - 1) (List.mem_range.mpr (by omega))
    rw [show s - 1 + 1 = s by omega] at q
    exact lan_ok f (k - s) _ l q (by simp at hl; omega) (fun x hx => h1 x (List.mem_cons_of_mem _ hx)) (by omega)
theorem IsC.ord_60 {c : List Nat} (h : IsC c) (h12 : c.length ≤ 12) : ordOf c ≤ 60 := by
  have e : ordOf c = ((ringsOf c).map List.length).foldl Nat.lcm 1 := by
    unfold ordOf
    rw [List.foldl_map]
  have hs : ((ringsOf c).map List.length).sum = c.length := by
    rw [← List.length_flatten]
    exact h.desc.len
  rw [e]
  refine lan_ok 12 12 1 _ (by decide +kernel) (by rw [List.length_map]; exact Nat.le_trans h.ringsOf_len h12) (fun s hs => ?_) (by omega)
  obtain ⟨r, hr, rfl⟩ := List.mem_map.mp hs
  exact List.length_pos_iff.mpr (h.desc.pos r hr)
end SX
namespace SX
open PySem PySem.Spec PyProof.Rows L2
/-! ### exchanges -/
def swp (c : List Nat) (i j : Nat) : List Nat := (c.set i (st c j)).set j (st c i)
theorem swp_eq (c : List Nat) (i j : Nat) : (c.set i (st c j)).set j (st c i) = swp c i j := rfl
theorem swp_len (c : List Nat) (i j : Nat) : (swp c i j).length = c.length := by unfold swp; rw [List.length_set, List.length_set]
theorem swp_at {c : List Nat} {i j : Nat} (hi : i < c.length) (hj : j < c.length) (x : Nat) : (swp c i j)[x]? = if x = j then c[i]? else if x = i then c[j]? else c[x]? := by
  unfold swp
  rw [List.getElem?_set]
  by_cases h : x = j
  · subst h
    rw [if_pos rfl, if_pos (by rw [List.length_set]; exact hj), if_pos rfl, st_at hi]
  · rw [if_neg (fun e => h e.symm), if_neg h, List.getElem?_set]
    by_cases h2 : x = i
    · subst h2
      rw [if_pos rfl, if_pos hi, if_pos rfl, st_at hj]
    · rw [if_neg (fun e => h2 e.symm), if_neg h2]
theorem swp_perm {c : List Nat} {i j : Nat} (hi : i < c.length) (hj : j < c.length) : (swp c i j).Perm c := by
  by_cases h : i = j
  · subst h
    unfold swp
    rw [List.set_set]
    have : c.set i (st c i) = c := by
      refine List.ext_getElem? fun x => ?_
      rw [List.getElem?_set]
      split
      · rename_i e
        subst e
        first | exact (st_at hi).symm | rw [if_pos hi, st_at hi]
      · rfl
    rw [this]
  · have e1 := st_at hi
    have e2 := st_at hj
    have := List.perm_iff_count.mpr fun a => (?_ : (swp c i j).count a = c.count a)
    · exact this
    unfold swp
    have hj2 : j < (c.set i (st c j)).length := by rw [List.length_set]; exact hj
    have g1 : (c.set i (st c j))[j] = st c j := by
      rw [List.getElem_set_ne h]
      have := e2
      rw [List.getElem?_eq_getElem hj] at this
      exact Option.some.inj this
    have g2 : c[i] = st c i := by
      rw [List.getElem?_eq_getElem hi] at e1
      exact Option.some.inj e1
    rw [List.count_set hj2, List.count_set hi, g1, g2]
    have : (if (st c i == a) = true then 1 else 0) ≤ c.count a := by
      split
      · rename_i q
        have q := eq_of_beq q
        rw [← q]
        exact List.count_pos_iff.mpr (List.mem_of_getElem? (st_at hi))
      · exact Nat.zero_le _
    split <;> split <;> simp_all
theorem IsC.swp {c : List Nat} (h : IsC c) {i j : Nat} (hi : i < c.length) (hj : j < c.length) : IsC (SX.swp c i j) := by
  have p := swp_perm hi hj
  refine ⟨by rw [swp_len]; exact h.two, by rw [swp_len]; exact h.thousand, p.nodup_iff.mpr h.2.2.1, fun x hx => ?_⟩
  rw [swp_len]
  exact h.2.2.2 x (p.mem_iff.mp hx)
theorem swp_back {c : List Nat} {i j : Nat} (hi : i < c.length) (hj : j < c.length) : swp (swp c i j) i j = c := by
  refine List.ext_getElem? fun x => ?_
  rw [swp_at (by rw [swp_len]; exact hi) (by rw [swp_len]; exact hj), swp_at hi hj, swp_at hi hj, swp_at hi hj]
  by_cases h : x = j
  · subst h
    rw [if_pos rfl]
    by_cases h2 : i = x
    · subst h2; rw [if_pos rfl]
    · rw [if_neg h2, if_pos rfl]
  · rw [if_neg h]
    by_cases h2 : x = i
    · subst h2
      rw [if_pos rfl, if_pos rfl]
    · rw [if_neg h2, if_neg h, if_neg h2]
theorem swp_comm {c : List Nat} {i j : Nat} (hi : i < c.length) (hj : j < c.length) : swp c i j = swp c j i := by
  refine List.ext_getElem? fun x => ?_
  rw [swp_at hi hj, swp_at hj hi]
  by_cases h : x = j
  · subst h
    rw [if_pos rfl]
    by_cases h2 : x = i
    · subst h2; rw [if_pos rfl]
    · rw [if_neg h2, if_pos rfl]
  · rw [if_neg h]
    by_cases h2 : x = i
    · rw [if_pos h2, if_pos h2]
    · rw [if_neg h2, if_neg h2, if_neg h]
/-- pairs as data -/
def prD (l : List (Nat × Nat)) : List D := l.map fun p => PyData.tuple [.int (p.1 : Int), .int (p.2 : Int)]
theorem pr_snoc (l : List (Nat × Nat)) (i j : Nat) : prD l ++ [.tuple [.int (i : Int), .int (j : Int)]] = prD (l ++ [(i, j)]) := by unfold prD; rw [List.map_append]; rfl
theorem pr_len (l : List (Nat × Nat)) : (prD l).length = l.length := by unfold prD; rw [List.length_map]
theorem prD_nts (l : List (Nat × Nat)) : prD l = rgD (l.map fun p => [p.1, p.2]) := by
  unfold prD rgD
  rw [List.map_map]
  rfl
/-- exchanges that may be made -/
def OkX (n : Nat) (ps : List Nat) (l : List (Nat × Nat)) : Prop := ∀ p ∈ l, p.1 < n ∧ p.2 < n ∧ p.1 ≠ p.2 ∧ p.1 ∉ ps ∧ p.2 ∉ ps
def doneL (c : List Nat) (l : List (Nat × Nat)) : List Nat := l.foldl (fun c p => swp c p.1 p.2) c
theorem doneL_len (l : List (Nat × Nat)) : ∀ c : List Nat, (doneL c l).length = c.length := by
  induction l with
  | nil => exact fun _ => rfl
  | cons p l ih => intro c; show (doneL (swp c p.1 p.2) l).length = _; rw [ih, swp_len]
theorem doneL_isC {n : Nat} {ps : List Nat} : ∀ {l : List (Nat × Nat)} {c : List Nat}, IsC c → c.length = n → OkX n ps l → IsC (doneL c l)
  | [], _, h, _, _ => h
  | p :: l, c, h, hn, ho => by
    obtain ⟨a, b, _⟩ := ho p List.mem_cons_self
    show IsC (doneL (SX.swp c p.1 p.2) l)
    exact doneL_isC (h.swp (by omega) (by omega)) (by rw [swp_len]; exact hn) fun q hq => ho q (List.mem_cons_of_mem _ hq)
theorem doneL_app (c : List Nat) (l m : List (Nat × Nat)) : doneL c (l ++ m) = doneL (doneL c l) m := by unfold doneL; rw [List.foldl_append]
theorem doneL_snoc (c : List Nat) (l : List (Nat × Nat)) (i j : Nat) : doneL c (l ++ [(i, j)]) = swp (doneL c l) i j := by rw [doneL_app]; rfl
theorem doneL_rev {n : Nat} {ps : List Nat} : ∀ {l : List (Nat × Nat)} {c : List Nat}, c.length = n → OkX n ps l → doneL (doneL c l) l.reverse = c
  | [], _, _, _ => rfl
  | p :: l, c, hn, ho => by
    obtain ⟨a, b, _⟩ := ho p List.mem_cons_self
    rw [List.reverse_cons, doneL_snoc]
    show swp (doneL (doneL (swp c p.1 p.2) l) l.reverse) p.1 p.2 = c
    rw [doneL_rev (by rw [swp_len]; exact hn) fun q hq => ho q (List.mem_cons_of_mem _ hq)]
    exact swp_back (by omega) (by omega)
/-- pins -/
def PinOk (n : Nat) (ps : List Nat) : Prop := ps.Pairwise (· < ·) ∧ ∀ p ∈ ps, p < n
theorem PinOk.len {n : Nat} {ps : List Nat} (h : PinOk n ps) : ps.length ≤ n := pigeon n ps (h.1.imp fun q => Nat.ne_of_lt q) h.2
theorem pin_nil (n : Nat) : PinOk n [] := ⟨.nil, fun _ h => absurd h (by simp)⟩
end SX
namespace SX
open PySem PySem.Spec PyProof.Rows L2
theorem zips_nts (l m : List Nat) : zips (nts l) (nts m) = prD (l.zip m) := by
  unfold nts prD
  rw [zips_map]
  rfl
/-! ### one set of cards behind another -/
theorem join_len (a b : List Nat) : (joinL a b).length = a.length := by unfold joinL; rw [List.length_map]
theorem join_at {a b : List Nat} {s : Nat} (h : s < a.length) : (joinL a b)[s]? = some (st b (st a s)) := by
  unfold joinL
  rw [List.getElem?_map, st_at h]
  rfl
theorem st_join {a b : List Nat} {s : Nat} (h : s < a.length) : st (joinL a b) s = st b (st a s) := getD_of (join_at h)
theorem IsC.join {a b : List Nat} (ha : IsC a) (hb : IsC b) (e : a.length = b.length) : IsC (joinL a b) := by
  refine ⟨by rw [join_len]; exact ha.two, by rw [join_len]; exact ha.thousand, ?_, fun x hx => ?_⟩
  · unfold joinL
    rw [List.nodup_iff_pairwise_ne, List.pairwise_map]
    refine ha.2.2.1.imp_of_mem fun {x y} hx hy n q => n ?_
    exact hb.st_inj (by rw [← e]; exact ha.2.2.2 x hx) (by rw [← e]; exact ha.2.2.2 y hy) q
  · rw [join_len]
    unfold joinL at hx
    obtain ⟨y, hy, rfl⟩ := List.mem_map.mp hx
    rw [e]
    exact hb.st_lt (by rw [← e]; exact ha.2.2.2 y hy)
/-- the cards that tell which seat has the card that a seat needs -/
def apL (c d : List Nat) : List Nat := joinL d (pw c (-1))
theorem IsC.ap {c d : List Nat} (hc : IsC c) (hd : IsC d) (e : c.length = d.length) : IsC (apL c d) := hd.join (hc.pw_isC (-1)) (by rw [pw_len, e])
theorem ap_len (c d : List Nat) : (apL c d).length = d.length := join_len _ _
theorem IsC.ap_st {c d : List Nat} (hc : IsC c) (hd : IsC d) (e : c.length = d.length) {s : Nat} (hs : s < d.length) : st c (st (apL c d) s) = st d s := by
  have hds : st d s < c.length := by rw [e]; exact hd.st_lt hs
  unfold apL
  rw [st_join hs, st_pw (-1) hds, ← hc.ik_one (hc.ik_lt hds _), hc.ik_add hds, show (-1 : Int) + 1 = 0 from rfl, hc.ik_zero hds]
/-! ### what one exchange after another along a ring does -/
def chainX (r : List Nat) : List (Nat × Nat) := r.zip (r.drop 1)
theorem chainX_cons (a b : Nat) (r : List Nat) : chainX (a :: b :: r) = (a, b) :: chainX (b :: r) := rfl
theorem chainX_one (a : Nat) : chainX [a] = [] := rfl
theorem chainX_len (r : List Nat) : (chainX r).length = r.length - 1 := by unfold chainX; rw [List.length_zip, List.length_drop]; omega
theorem chainX_mem {r : List Nat} {p : Nat × Nat} (hn : r.Nodup) (h : p ∈ chainX r) : p.1 ∈ r ∧ p.2 ∈ r ∧ p.1 ≠ p.2 := by
  obtain ⟨i, hi⟩ := List.mem_iff_getElem?.mp h
  unfold chainX at hi
  rw [List.getElem?_zip_eq_some] at hi
  obtain ⟨h1, h2⟩ := hi
  rw [List.getElem?_drop] at h2
  refine ⟨List.mem_of_getElem? h1, List.mem_of_getElem? h2, fun e => ?_⟩
  rw [e] at h1
  have := nodup_at hn h1 h2
  omega
theorem chain_done : ∀ (r : List Nat) (a : Nat) (c : List Nat), (a :: r).Nodup → (∀ x ∈ a :: r, x < c.length) →
    (∀ x, x ∉ a :: r → (doneL c (chainX (a :: r)))[x]? = c[x]?) ∧ ∀ (k x : Nat), (a :: r)[k]? = some x → (doneL c (chainX (a :: r)))[x]? = c[(a :: r).getD ((k + 1) % (r.length + 1)) 0]?
  | [], a, c, _, _ => by
    refine ⟨fun x _ => rfl, fun k x hk => ?_⟩
    have : k = 0 := by
      have := (List.getElem?_eq_some_iff.mp hk).1
      simpa using this
    subst this
    obtain rfl : a = x := by simpa using hk
    rfl
  | b :: r, a, c, hn, hb => by
    have ha := hb a List.mem_cons_self
    have hb' := hb b (List.mem_cons_of_mem _ List.mem_cons_self)
    obtain ⟨n1, n2⟩ := List.nodup_cons.mp hn
    have hab : a ≠ b := fun e => n1 (by rw [e]; exact List.mem_cons_self)
    obtain ⟨i1, i2⟩ := chain_done r b (swp c a b) n2 fun x hx => by rw [swp_len]; exact hb x (List.mem_cons_of_mem _ hx)
    have e : doneL c (chainX (a :: b :: r)) = doneL (swp c a b) (chainX (b :: r)) := rfl
    rw [e]
    refine ⟨fun x hx => ?_, fun k x hk => ?_⟩
    · rw [i1 x fun q => hx (List.mem_cons_of_mem _ q), swp_at ha hb', if_neg fun q => hx (by rw [q]; exact List.mem_cons_of_mem _ List.mem_cons_self), if_neg fun q => hx (by rw [q]; exact List.mem_cons_self)]
    · cases k with
      | zero =>
        obtain rfl : a = x := by simpa using hk
        rw [i1 a n1, swp_at ha hb', if_neg hab, if_pos rfl, List.length_cons, Nat.mod_eq_of_lt (by omega)]
        rfl
      | succ k =>
        have hk' : (b :: r)[k]? = some x := by simpa using hk
        have lk := (List.getElem?_eq_some_iff.mp hk').1
        rw [List.length_cons] at lk
        rw [i2 k x hk', List.length_cons]
        rcases Nat.lt_or_ge (k + 1) (r.length + 1) with q | q
        · rw [Nat.mod_eq_of_lt q, Nat.mod_eq_of_lt (show k + 1 + 1 < r.length + 1 + 1 by omega)]
          have e1 : (a :: b :: r).getD (k + 1 + 1) 0 = (b :: r).getD (k + 1) 0 := rfl
          rw [e1]
          have l1 : k + 1 < (b :: r).length := by rw [List.length_cons]; omega
          have g := getElem_getD l1
          have ne1 : (b :: r).getD (k + 1) 0 ≠ b := fun z => by
            rw [z] at g
            have := nodup_at n2 g (show (b :: r)[0]? = some b from rfl)
            omega
          have ne2 : (b :: r).getD (k + 1) 0 ≠ a := fun z => by
            rw [z] at g
            exact n1 (List.mem_of_getElem? g)
          rw [swp_at ha hb', if_neg ne1, if_neg ne2]
        · have : k = r.length := by omega
          subst this
          rw [Nat.mod_self, show r.length + 1 + 1 = r.length + 1 + 1 from rfl, Nat.mod_self]
          show (swp c a b)[b]? = c[a]?
          rw [swp_at ha hb', if_pos rfl]
/-- all rings' chains -/
def ledL (rs : List (List Nat)) : List (Nat × Nat) := rs.flatMap chainX
theorem led_done {n : Nat} : ∀ (rs : List (List Nat)) (c : List Nat), c.length = n → (∀ r ∈ rs, r ≠ []) → rs.flatten.Nodup → (∀ x ∈ rs.flatten, x < n) →
    (∀ x, x ∉ rs.flatten → (doneL c (ledL rs))[x]? = c[x]?) ∧ ∀ r ∈ rs, ∀ (k x : Nat), r[k]? = some x → (doneL c (ledL rs))[x]? = c[r.getD ((k + 1) % r.length) 0]?
  | [], c, _, _, _, _ => ⟨fun _ _ => rfl, fun r hr => absurd hr (by simp)⟩
  | r :: rs, c, hc, hp, hn, hb => by
    rw [List.flatten_cons, List.nodup_append] at hn
    obtain ⟨n1, n2, n3⟩ := hn
    have hr0 := hp r List.mem_cons_self
    have e : doneL c (ledL (r :: rs)) = doneL (doneL c (chainX r)) (ledL rs) := by
      unfold ledL
      rw [List.flatMap_cons, doneL_app]
    have hbr : ∀ x ∈ r, x < c.length := fun x hx => by
      rw [hc]
      exact hb x (by rw [List.flatten_cons]; exact List.mem_append_left _ hx)
    obtain ⟨a, r', rfl⟩ : ∃ a r', r = a :: r' := by
      cases r with
      | nil => exact absurd rfl hr0
      | cons a r' => exact ⟨a, r', rfl⟩
    obtain ⟨c1, c2⟩ := chain_done r' a c n1 hbr
    obtain ⟨i1, i2⟩ := led_done rs (doneL c (chainX (a :: r'))) (by rw [doneL_len]; exact hc) (fun s hs => hp s (List.mem_cons_of_mem _ hs)) n2 (fun x hx => hb x (by rw [List.flatten_cons]; exact List.mem_append_right _ hx))
    rw [e]
    refine ⟨fun x hx => ?_, fun s hs k x hk => ?_⟩
    · rw [List.flatten_cons, List.mem_append, not_or] at hx
      rw [i1 x hx.2, c1 x hx.1]
    · rcases List.mem_cons.mp hs with q | q
      · subst q
        have hx := List.mem_of_getElem? hk
        rw [i1 x fun z => n3 x hx x z rfl, c2 k x hk]
        rfl
      · rw [i2 s q k x hk]
        have hl : 0 < s.length := by
          have := (List.getElem?_eq_some_iff.mp hk).1
          omega
        have hm : s.getD ((k + 1) % s.length) 0 ∈ s := List.mem_of_getElem? (getElem_getD (Nat.mod_lt _ hl))
        exact c1 _ fun z => n3 _ z _ (flat_mem q hm) rfl
theorem IsC.led {c d : List Nat} (hc : IsC c) (hd : IsC d) (e : c.length = d.length) : doneL c (ledL (ringsOf (apL c d))) = d := by
  have ha := hc.ap hd e
  have D := ha.desc
  have hl := ap_len c d
  obtain ⟨_, h2⟩ := led_done (ringsOf (apL c d)) c rfl D.pos D.nod fun x hx => by
    have := (D.cov x).mp hx
    omega
  refine List.ext_getElem? fun x => ?_
  rcases Nat.lt_or_ge x d.length with q | q
  · obtain ⟨r, hr, hx⟩ := List.mem_flatten.mp ((D.cov x).mpr (by omega))
    obtain ⟨k, hk⟩ := List.mem_iff_getElem?.mp hx
    rw [h2 r hr k x hk]
    have s1 := D.step r hr k x hk
    have s2 : st (apL c d) x = r.getD ((k + 1) % r.length) 0 := getD_of s1
    rw [← s2, st_at (by rw [e, ← hl]; exact ha.st_lt (by omega)), hc.ap_st hd e q, st_at q]
  · rw [List.getElem?_eq_none (by rw [doneL_len]; omega), List.getElem?_eq_none q]
theorem led_len (rs : List (List Nat)) (h : ∀ r ∈ rs, r ≠ []) : (ledL rs).length + rs.length = rs.flatten.length := by
  unfold ledL
  induction rs with
  | nil => rfl
  | cons r rs ih =>
    have := List.length_pos_iff.mpr (h r List.mem_cons_self)
    rw [List.flatMap_cons, List.length_append, List.length_cons, List.flatten_cons, List.length_append, chainX_len, ← ih fun s hs => h s (List.mem_cons_of_mem _ hs)]
    omega
/-- no pinned seat is touched where its card is the right one -/
theorem led_ok {c d ps : List Nat} (hc : IsC c) (hd : IsC d) (e : c.length = d.length) (hp : ∀ p ∈ ps, p < c.length ∧ st c p = st d p) : OkX c.length ps (ledL (ringsOf (apL c d))) := fun p hp' => by
  obtain ⟨r, hr, h⟩ := List.mem_flatMap.mp hp'
  have ha := hc.ap hd e
  have hl := ap_len c d
  obtain ⟨m, hm, rfl, _⟩ := ringsOf_mem hr
  obtain ⟨h1, h2, h3⟩ := chainX_mem (ha.ring_nodup hm) h
  have l1 := ha.ring_lt hm h1
  have l2 := ha.ring_lt hm h2
  have alone : ∀ x ∈ ringOf (apL c d) m, x ∈ ps → per (apL c d) m = 1 := fun x hx hxp => by
    have lx := ha.ring_lt hm hx
    obtain ⟨q1, q2⟩ := hp x hxp
    have : st (apL c d) x = x := by
      refine hc.st_inj (by rw [e, ← hl]; exact ha.st_lt lx) q1 ?_
      rw [hc.ap_st hd e (by omega), q2]
    rw [← ha.per_ring hm hx]
    obtain ⟨p1, p2, p3, p4⟩ := ha.per lx
    refine Nat.le_antisymm (Nat.le_of_not_lt fun z => p4 1 (Nat.le_refl _) z this) p1
  have two : 2 ≤ per (apL c d) m := by
    obtain ⟨i, hi⟩ := List.mem_iff_getElem?.mp h
    have := (List.getElem?_eq_some_iff.mp hi).1
    rw [chainX_len, ringOf_len] at this
    omega
  refine ⟨by omega, by omega, h3, fun z => ?_, fun z => ?_⟩
  · have := alone _ h1 z; omega
  · have := alone _ h2 z; omega
end SX
namespace SX
open PySem PySem.Spec PyProof.Rows L2
/-! ### why cards cannot become others -/
def barD (c d ps : List Nat) : D := if c.length = d.length then (match ps.find? fun p => !decide (st c p = st d p) with
  | some p => .tuple [.str "pinned", .int (p : Int)]
  | none => .none) else .tuple [.str "seats", .int (c.length : Int), .int (d.length : Int)]
theorem find_at {α : Type} {p : α → Bool} : ∀ {l : List α} {k : Nat} {x : α}, l[k]? = some x → p x = true → (∀ y ∈ l.take k, p y = false) → l.find? p = some x
  | [], _, _, h, _, _ => by simp at h
  | a :: l, 0, x, h, hx, _ => by
    obtain rfl : a = x := by simpa using h
    rw [List.find?_cons_of_pos hx]
  | a :: l, k + 1, x, h, hx, hy => by
    have ha := hy a (by simp)
    rw [List.find?_cons_of_neg (by rw [ha]; exact Bool.false_ne_true)]
    exact find_at (by simpa using h) hx fun y q => hy y (by rw [List.take_succ_cons]; exact List.mem_cons_of_mem _ q)
theorem bar_none {c d ps : List Nat} (e : c.length = d.length) (h : ∀ p ∈ ps, st c p = st d p) : barD c d ps = .none := by
  unfold barD
  rw [if_pos e, List.find?_eq_none.mpr (fun p hp => by simpa using h p hp)]
theorem cut_one (r : List Nat) : cutD (nts r) (some 1) none = nts (r.drop 1) := cut_fromN r 1
end SX
namespace SX
open PySem PySem.Spec PyProof.Rows L2
theorem IsC.perm {c d : List Nat} (h : IsC c) (p : d.Perm c) : IsC d := by
  have e := p.length_eq
  refine ⟨by rw [e]; exact h.two, by rw [e]; exact h.thousand, p.nodup_iff.mpr h.2.2.1, fun x hx => ?_⟩
  rw [e]
  exact h.2.2.2 x (p.mem_iff.mp hx)
end SX
namespace SX
open PySem PySem.Spec PyProof.Rows L2
theorem prD_rev (l : List (Nat × Nat)) : (prD l).reverse = prD l.reverse := by unfold prD; rw [List.map_reverse]
theorem cm_lpr (l : List (Nat × Nat)) : cmpl (.list (prD l)) := by rw [prD_nts]; exact cm_lrg _
theorem OkX.snoc {n : Nat} {ps : List Nat} {l : List (Nat × Nat)} {i j : Nat} (h : OkX n ps l) (hi : i < n) (hj : j < n) (hij : i ≠ j) (pi : i ∉ ps) (pj : j ∉ ps) : OkX n ps (l ++ [(i, j)]) := fun p hp => by
  rcases List.mem_append.mp hp with q | q
  · exact h p q
  · obtain rfl := List.mem_singleton.mp q
    exact ⟨hi, hj, hij, pi, pj⟩
theorem OkX.rev {n : Nat} {ps : List Nat} {l : List (Nat × Nat)} (h : OkX n ps l) : OkX n ps l.reverse := fun p hp => h p (List.mem_reverse.mp hp)
theorem OkX.free {n : Nat} {ps : List Nat} {l : List (Nat × Nat)} (h : OkX n ps l) : OkX n [] l := fun p hp => by
  obtain ⟨a, b, c, _⟩ := h p hp
  exact ⟨a, b, c, by simp, by simp⟩
end SX
namespace SX
open PySem PySem.Spec PyProof.Rows L2
theorem doneL_pin {n : Nat} {ps : List Nat} : ∀ {l : List (Nat × Nat)} {c : List Nat}, c.length = n → OkX n ps l → ∀ p ∈ ps, st (doneL c l) p = st c p
  | [], _, _, _, _, _ => rfl
  | q :: l, c, hn, ho, p, hp => by
    obtain ⟨a, b, _, h1, h2⟩ := ho q List.mem_cons_self
    show st (doneL (swp c q.1 q.2) l) p = _
    rw [doneL_pin (by rw [swp_len]; exact hn) (fun x hx => ho x (List.mem_cons_of_mem _ hx)) p hp]
    have e := swp_at (c := c) (i := q.1) (j := q.2) (by omega) (by omega) p
    rw [if_neg (fun z => h2 (by rw [← z]; exact hp)), if_neg (fun z => h1 (by rw [← z]; exact hp))] at e
    unfold st
    rw [List.getD_eq_getElem?_getD, e, List.getD_eq_getElem?_getD]
section
variable {c : List Nat}
theorem IsC.per_one (h : IsC c) {s : Nat} (hs : s < c.length) (e : st c s = s) : SX.per c s = 1 := by
  obtain ⟨p1, p2, p3, p4⟩ := h.per hs
  exact Nat.le_antisymm (Nat.le_of_not_lt fun z => p4 1 (Nat.le_refl _) z e) p1
theorem IsC.ap_self (h : IsC c) {s : Nat} (hs : s < c.length) : st (apL c c) s = s := by
  have ha := h.ap h rfl
  have hl := ap_len c c
  exact h.st_inj (by have := ha.st_lt (x := s) (by omega); omega) hs (h.ap_st h rfl hs)
theorem IsC.led_self (h : IsC c) : ledL (ringsOf (apL c c)) = [] := by
  have ha := h.ap h rfl
  have hl := ap_len c c
  unfold ledL
  rw [List.flatMap_eq_nil_iff]
  intro r hr
  obtain ⟨m, hm, rfl, _⟩ := ringsOf_mem hr
  have := ha.per_one hm (h.ap_self (by omega))
  refine List.length_eq_zero_iff.mp ?_
  rw [chainX_len, ringOf_len, this]
end
end SX

set_option linter.all false
set_option maxRecDepth 100000
namespace SX
open PySem PySem.Spec PyProof.Rows L2
/-! ### how many rings an exchange leaves -/
theorem Desc.orbit {c : List Nat} {rs : List (List Nat)} (h : Desc c rs) {r : List Nat} (hr : r ∈ rs) {k x : Nat} (hk : r[k]? = some x) : ∀ t, r[(k + t) % r.length]? = some (orb c x t)
  | 0 => by
    have := (List.getElem?_eq_some_iff.mp hk).1
    rw [Nat.add_zero, Nat.mod_eq_of_lt this]
    exact hk
  | t + 1 => by
    have ih := Desc.orbit h hr hk t
    have hl : 0 < r.length := by
      have := (List.getElem?_eq_some_iff.mp hk).1
      omega
    have s := h.step r hr _ _ ih
    have e : orb c x (t + 1) = st c (orb c x t) := rfl
    rw [e]
    have e2 : st c (orb c x t) = r.getD (((k + t) % r.length + 1) % r.length) 0 := getD_of s
    rw [e2, Nat.mod_add_mod, ← Nat.add_assoc]
    exact getElem_getD (Nat.mod_lt _ hl)
theorem Desc.ring {c : List Nat} {rs : List (List Nat)} (h : Desc c rs) (hc : IsC c) {r : List Nat} (hr : r ∈ rs) {x : Nat} (hx : x ∈ r) (y : Nat) : y ∈ r ↔ y ∈ ringOf c x := by
  have hxl := (h.cov x).mp (flat_mem hr hx)
  obtain ⟨k, hk⟩ := List.mem_iff_getElem?.mp hx
  have lk := (List.getElem?_eq_some_iff.mp hk).1
  rw [hc.mem_ring hxl]
  constructor
  · intro hy
    obtain ⟨m, hm⟩ := List.mem_iff_getElem?.mp hy
    have lm := (List.getElem?_eq_some_iff.mp hm).1
    refine ⟨m + r.length - k, ?_⟩
    have := h.orbit hr hk (m + r.length - k)
    rw [show k + (m + r.length - k) = m + r.length by omega, Nat.add_mod_right, Nat.mod_eq_of_lt lm, hm] at this
    exact Option.some.inj this
  · rintro ⟨t, rfl⟩
    exact List.mem_of_getElem? (h.orbit hr hk t)
def leadOf (r : List Nat) : Nat := r.min?.getD 0
theorem lead_min {r : List Nat} (h : r ≠ []) : leadOf r ∈ r ∧ ∀ y ∈ r, leadOf r ≤ y := by
  cases e : r.min? with
  | none => exact absurd (List.min?_eq_none_iff.mp e) h
  | some a =>
    have := List.min?_eq_some_iff.mp e
    unfold leadOf
    rw [e]
    exact this
theorem Desc.count {c : List Nat} {rs : List (List Nat)} (h : Desc c rs) (hc : IsC c) : rs.length = (ringsOf c).length := by
  have nd : (rs.map leadOf).Nodup := by
    have : ∀ l : List (List Nat), (∀ r ∈ l, r ≠ []) → l.flatten.Nodup → (l.map leadOf).Nodup := fun l => by
      induction l with
      | nil => exact fun _ _ => .nil
      | cons r l ih =>
        intro hp hn
        rw [List.flatten_cons, List.nodup_append] at hn
        obtain ⟨n1, n2, n3⟩ := hn
        rw [List.map_cons, List.nodup_cons]
        refine ⟨fun q => ?_, ih (fun s hs => hp s (List.mem_cons_of_mem _ hs)) n2⟩
        obtain ⟨s, hs, e⟩ := List.mem_map.mp q
        have a := (lead_min (hp r List.mem_cons_self)).1
        have b := (lead_min (hp s (List.mem_cons_of_mem _ hs))).1
        rw [e] at b
        exact n3 _ a _ (flat_mem hs b) rfl
    exact this rs h.pos h.nod
  have p : (rs.map leadOf).Perm ((List.range c.length).filter (isMin c)) := by
    refine (List.perm_ext_iff_of_nodup nd (List.Pairwise.filter _ List.nodup_range)).mpr fun s => ?_
    rw [List.mem_map, List.mem_filter, List.mem_range]
    constructor
    · rintro ⟨r, hr, rfl⟩
      obtain ⟨a, b⟩ := lead_min (h.pos r hr)
      refine ⟨(h.cov _).mp (flat_mem hr a), isMin_iff.mpr fun y hy => b y ((h.ring hc hr a y).mpr hy)⟩
    · rintro ⟨hs, hm⟩
      obtain ⟨r, hr, hsr⟩ := List.mem_flatten.mp ((h.cov s).mpr hs)
      obtain ⟨a, b⟩ := lead_min (h.pos r hr)
      refine ⟨r, hr, ?_⟩
      have := isMin_iff.mp hm _ ((h.ring hc hr hsr _).mp a)
      have := b s hsr
      omega
  have := p.length_eq
  rw [List.length_map] at this
  unfold ringsOf
  rw [List.length_map]
  exact this
/-- the ring of i parts into i with what comes behind j, and what comes behind i up to j -/
theorem Desc.split {c : List Nat} {i j : Nat} {P S : List Nat} {rest : List (List Nat)} (h : Desc c ((i :: (P ++ j :: S)) :: rest)) : Desc (swp c i j) ((i :: S) :: (P ++ [j]) :: rest) := by
  have hr := List.mem_cons_self (a := i :: (P ++ j :: S)) (l := rest)
  have hnod := h.nod
  rw [List.flatten_cons, List.nodup_append] at hnod
  obtain ⟨n1, n2, n3⟩ := hnod
  have hil : i < c.length := (h.cov i).mp (flat_mem hr List.mem_cons_self)
  have hjr : j ∈ i :: (P ++ j :: S) := List.mem_cons_of_mem _ (List.mem_append_right _ List.mem_cons_self)
  have hjl : j < c.length := (h.cov j).mp (flat_mem hr hjr)
  obtain ⟨m1, m2⟩ := List.nodup_cons.mp n1
  rw [List.mem_append, List.mem_cons, not_or, not_or] at m1
  obtain ⟨mP, mj, mS⟩ := m1
  rw [List.nodup_append, List.nodup_cons] at m2
  obtain ⟨p1, ⟨p2, p3⟩, p4⟩ := m2
  have jP : j ∉ P := fun q => p4 j q j List.mem_cons_self rfl
  have hlen : (i :: (P ++ j :: S)).length = P.length + 2 + S.length := by
    rw [List.length_cons, List.length_append, List.length_cons]; omega
  have hperm : ((i :: S) :: (P ++ [j]) :: rest).flatten.Perm ((i :: (P ++ j :: S)) :: rest).flatten := by
    rw [List.flatten_cons, List.flatten_cons, List.flatten_cons, ← List.append_assoc]
    refine List.Perm.append_right _ ?_
    rw [List.cons_append]
    refine List.Perm.cons _ ?_
    refine List.perm_append_comm.trans ?_
    rw [List.append_assoc]
    exact List.Perm.refl _
  -- places in the whole ring
  have gP : ∀ t, t < P.length → (i :: (P ++ j :: S))[1 + t]? = P[t]? := fun t ht => by
    rw [Nat.add_comm, List.getElem?_cons_succ, List.getElem?_append_left ht]
  have gj : (i :: (P ++ j :: S))[P.length + 1]? = some j := by
    rw [List.getElem?_cons_succ, List.getElem?_append_right (Nat.le_refl _), Nat.sub_self]
    rfl
  have gS : ∀ t, (i :: (P ++ j :: S))[P.length + 2 + t]? = S[t]? := fun t => by
    rw [show P.length + 2 + t = (P.length + 1 + t) + 1 by omega, List.getElem?_cons_succ, List.getElem?_append_right (by omega), show P.length + 1 + t - P.length = t + 1 by omega, List.getElem?_cons_succ]
  have stp := h.step _ hr
  have ci := stp 0 i rfl
  have cj := stp _ j gj
  have ge : ∀ m, (i :: (P ++ j :: S)).getD m 0 = ((i :: (P ++ j :: S))[m]?).getD 0 := fun m => List.getD_eq_getElem?_getD
  refine ⟨fun r hr' => ?_, hperm.nodup_iff.mpr h.nod, fun x => by rw [swp_len, hperm.mem_iff]; exact h.cov x, fun r hr' k x hk => ?_⟩
  · rcases List.mem_cons.mp hr' with rfl | hr'
    · exact fun e => nomatch e
    · rcases List.mem_cons.mp hr' with rfl | hr'
      · exact fun e => by have := congrArg List.length e; simp at this
      · exact h.pos r (List.mem_cons_of_mem _ hr')
  · rw [swp_at hil hjl]
    rcases List.mem_cons.mp hr' with rfl | hr'
    · -- i with what comes behind j
      cases k with
      | zero =>
        obtain rfl : i = x := by simpa using hk
        rw [if_neg mj, if_pos rfl, cj, ge, hlen]
        congr 1
        rw [List.length_cons, Nat.zero_add]
        rcases Nat.eq_zero_or_pos S.length with z | z
        · rw [z, Nat.mod_one, show P.length + 1 + 1 = P.length + 2 + 0 by omega, Nat.mod_self]
          rfl
        · rw [Nat.mod_eq_of_lt (show P.length + 1 + 1 < P.length + 2 + S.length by omega), Nat.mod_eq_of_lt (show 1 < S.length + 1 by omega), show P.length + 1 + 1 = P.length + 2 + 0 by omega, gS]
          show (S[0]?).getD 0 = (i :: S).getD 1 0
          rw [List.getD_cons_succ, List.getD_eq_getElem?_getD]
      | succ t =>
        have hk : S[t]? = some x := by simpa using hk
        have lt := (List.getElem?_eq_some_iff.mp hk).1
        have hxS := List.mem_of_getElem? hk
        rw [if_neg (fun e => p2 (by rw [← e]; exact hxS)), if_neg (fun e => mS (by rw [← e]; exact hxS)), stp _ x (by rw [gS]; exact hk), ge, hlen]
        congr 1
        rw [List.length_cons]
        rcases Nat.lt_or_ge (t + 1) S.length with z | z
        · rw [Nat.mod_eq_of_lt (show P.length + 2 + t + 1 < P.length + 2 + S.length by omega), Nat.mod_eq_of_lt (show t + 1 + 1 < S.length + 1 by omega), show P.length + 2 + t + 1 = P.length + 2 + (t + 1) by omega, gS]
          show (S[t + 1]?).getD 0 = (i :: S).getD (t + 1 + 1) 0
          rw [List.getD_cons_succ, List.getD_eq_getElem?_getD]
        · rw [show P.length + 2 + t + 1 = P.length + 2 + S.length by omega, Nat.mod_self, show t + 1 + 1 = S.length + 1 by omega, Nat.mod_self]
          rfl
    · rcases List.mem_cons.mp hr' with rfl | hr'
      · -- what comes behind i, up to j
        have lk := (List.getElem?_eq_some_iff.mp hk).1
        rw [List.length_append, List.length_singleton] at lk
        rw [List.length_append, List.length_singleton]
        have gB : ∀ t, t ≤ P.length → (P ++ [j])[t]? = (i :: (P ++ j :: S))[1 + t]? := fun t ht => by
          rcases Nat.lt_or_ge t P.length with z | z
          · rw [gP t z, List.getElem?_append_left z]
          · have : t = P.length := by omega
            subst this
            rw [Nat.add_comm 1, gj, List.getElem?_append_right (Nat.le_refl _), Nat.sub_self]
            rfl
        rcases Nat.lt_or_ge k P.length with z | z
        · have hxP : x ∈ P := by
            rw [List.getElem?_append_left z] at hk
            exact List.mem_of_getElem? hk
          rw [if_neg (fun e => jP (by rw [← e]; exact hxP)), if_neg (fun e => mP (by rw [← e]; exact hxP)), stp (1 + k) x (by rw [← gB k (by omega)]; exact hk), ge, hlen]
          congr 1
          rw [Nat.mod_eq_of_lt (show 1 + k + 1 < P.length + 2 + S.length by omega), Nat.mod_eq_of_lt (show k + 1 < P.length + 1 by omega), List.getD_eq_getElem?_getD, gB (k + 1) (by omega), show 1 + k + 1 = 1 + (k + 1) by omega]
        · have : k = P.length := by omega
          subst this
          have ex : x = j := by
            rw [List.getElem?_append_right (Nat.le_refl _), Nat.sub_self] at hk
            exact (Option.some.inj hk).symm
          subst ex
          rw [if_pos rfl, ci, ge, hlen, Nat.mod_self]
          congr 1
          rw [Nat.mod_eq_of_lt (show 0 + 1 < P.length + 2 + S.length by omega), List.getD_eq_getElem?_getD, gB 0 (Nat.zero_le _)]
      · have hx := List.mem_of_getElem? hk
        have hxf := flat_mem hr' hx
        rw [if_neg (fun e => n3 j hjr x hxf e.symm), if_neg (fun e => n3 i List.mem_cons_self x hxf e.symm)]
        exact h.step r (List.mem_cons_of_mem _ hr') k x hk
section
variable {c : List Nat}
/-- a description that begins at a seat -/
theorem IsC.desc_at (hc : IsC c) {i : Nat} (hi : i < c.length) : ∃ r rest, Desc c ((i :: r) :: rest) ∧ ((i :: r) :: rest).length = (ringsOf c).length := by
  have hd := hc.desc
  obtain ⟨q, hq, hiq⟩ := List.mem_flatten.mp ((hd.cov i).mpr hi)
  obtain ⟨k, hk⟩ := List.mem_iff_getElem?.mp hiq
  have lk := (List.getElem?_eq_some_iff.mp hk).1
  have p := List.perm_cons_erase hq
  have hd1 := hd.perm p.symm
  have hT : Turned (turnL q k :: (ringsOf c).erase q) (q :: (ringsOf c).erase q) := ⟨rfl, fun n s hs => by
    cases n with
    | zero =>
      obtain rfl : q = s := by simpa using hs
      exact ⟨k, lk, rfl⟩
    | succ n =>
      have hs : ((ringsOf c).erase q)[n]? = some s := by simpa using hs
      have hne := hd1.pos s (List.mem_cons_of_mem _ (List.mem_of_getElem? hs))
      refine ⟨0, List.length_pos_iff.mpr hne, ?_⟩
      rw [List.getElem?_cons_succ, hs]
      unfold turnL
      simp⟩
  have hd2 := hT.desc hd1
  have e0 : (turnL q k)[0]? = some i := by rw [turnL_get lk (by omega), Nat.add_zero, Nat.mod_eq_of_lt lk, hk]
  cases ht : turnL q k with
  | nil => rw [ht] at e0; simp at e0
  | cons a r =>
    rw [ht] at e0 hd2
    obtain rfl : a = i := by simpa using e0
    exact ⟨r, _, hd2, hd2.count hc⟩
theorem IsC.rings_split (hc : IsC c) {i j : Nat} (hi : i < c.length) (hj : j < c.length) (hij : i ≠ j) (h : j ∈ ringOf c i) : (ringsOf (SX.swp c i j)).length = (ringsOf c).length + 1 := by
  obtain ⟨r, rest, hd, hl⟩ := hc.desc_at hi
  have hjr : j ∈ r := by
    have := (hd.ring hc List.mem_cons_self List.mem_cons_self j).mpr h
    rcases List.mem_cons.mp this with q | q
    · exact absurd q.symm hij
    · exact q
  obtain ⟨P, S, rfl⟩ := List.append_of_mem hjr
  have hs := hd.split
  have := hs.count (hc.swp hi hj)
  rw [← this, ← hl]
  rfl
theorem IsC.rings_meet (hc : IsC c) {i j : Nat} (hi : i < c.length) (hj : j < c.length) (hij : i ≠ j) (h : j ∉ ringOf c i) : j ∈ ringOf (SX.swp c i j) i := by
  have hd := hc.swp hi hj
  obtain ⟨p1, p2, p3, p4⟩ := hc.per hj
  have hn : ∀ t, orb c j t ≠ i := fun t e => h (hc.ring_symm hj ((hc.mem_ring hj).mpr ⟨t, e.symm⟩))
  have key : ∀ t, t + 1 ≤ SX.per c j → orb (SX.swp c i j) i (t + 1) = orb c j (t + 1) := fun t => by
    induction t with
    | zero =>
      intro _
      show st (SX.swp c i j) i = st c j
      refine getD_of ?_
      rw [swp_at hi hj, if_neg hij, if_pos rfl, st_at hj]
    | succ t ih =>
      intro ht
      show st (SX.swp c i j) (orb (SX.swp c i j) i (t + 1)) = st c (orb c j (t + 1))
      rw [ih (by omega)]
      refine getD_of ?_
      rw [swp_at hi hj, if_neg (p4 (t + 1) (by omega) (by omega)), if_neg (hn (t + 1)), st_at (hc.orb_lt hj _)]
  refine (hd.mem_ring (by rw [swp_len]; exact hi)).mpr ⟨SX.per c j, ?_⟩
  have := key (SX.per c j - 1) (by omega)
  rw [show SX.per c j - 1 + 1 = SX.per c j by omega] at this
  rw [this, p3]
theorem IsC.rings_join (hc : IsC c) {i j : Nat} (hi : i < c.length) (hj : j < c.length) (hij : i ≠ j) (h : j ∉ ringOf c i) : (ringsOf c).length = (ringsOf (SX.swp c i j)).length + 1 := by
  have := (hc.swp hi hj).rings_split (i := i) (j := j) (by rw [swp_len]; exact hi) (by rw [swp_len]; exact hj) hij (hc.rings_meet hi hj hij h)
  rw [swp_back hi hj] at this
  exact this
theorem IsC.parts_flip (hc : IsC c) {i j : Nat} (hi : i < c.length) (hj : j < c.length) (hij : i ≠ j) : j ∈ ringOf (SX.swp c i j) i ↔ j ∉ ringOf c i := by
  refine ⟨fun h q => ?_, hc.rings_meet hi hj hij⟩
  have h1 := hc.rings_split hi hj hij q
  have h2 := (hc.swp hi hj).rings_split (i := i) (j := j) (by rw [swp_len]; exact hi) (by rw [swp_len]; exact hj) hij h
  rw [swp_back hi hj] at h2
  omega
/-- one of the rings holds both -/
theorem IsC.both_in (hc : IsC c) {i j : Nat} (hi : i < c.length) : ((ringsOf c).any fun r => decide (i ∈ r) && decide (j ∈ r)) = decide (j ∈ ringOf c i) := by
  rw [Bool.eq_iff_iff, List.any_eq_true, decide_eq_true_eq]
  constructor
  · rintro ⟨r, hr, h⟩
    rw [Bool.and_eq_true, decide_eq_true_eq, decide_eq_true_eq] at h
    exact (hc.desc.ring hc hr h.1 j).mp h.2
  · intro h
    obtain ⟨k, r, hk, hir⟩ := hc.covered hi
    have hr := List.mem_of_getElem? hk
    refine ⟨r, hr, ?_⟩
    rw [Bool.and_eq_true, decide_eq_true_eq, decide_eq_true_eq]
    exact ⟨hir, (hc.desc.ring hc hr hir j).mpr h⟩
end
end SX

set_option Elab.async false
set_option linter.all false
set_option maxRecDepth 100000
set_option maxHeartbeats 4000000
namespace SX
open PySem PySem.Spec PyProof.Rows L2
def topS (i : Nat) : Stmt := PySem.Challenge.pw_seatcards_k16_whole_rings_parted_or_join.main.body.getD i (.Pass ⟨0, 0, 0, 0⟩)
structure Txt (mg : Str → Option Value) : Prop where
  z_abs : mg "abs" = none
  z_all : mg "all" = none
  z_any : mg "any" = none
  z_bool : mg "bool" = none
  z_enumerate : mg "enumerate" = none
  z_int : mg "int" = none
  z_isinstance : mg "isinstance" = none
  z_len : mg "len" = none
  z_list : mg "list" = none
  z_range : mg "range" = none
  z_set : mg "set" = none
  z_sorted : mg "sorted" = none
  z_str : mg "str" = none
  z_tuple : mg "tuple" = none
  c_LEAST_SEATS : ∃ t, mg "LEAST_SEATS" = some (.int 2 t)
  c_MOST_SEATS : ∃ t, mg "MOST_SEATS" = some (.int 12 t)
abbrev s_dice_L : Stmt := topS 20
abbrev N_dice_L : List Str := ["_law_script", "_law_k", "_law_found", "_law_cell"]
theorem sc_dice_L : FnScope N_dice_L ["_law_script", "_law_k"] (defScope s_dice_L) := ⟨rfl, rfl, rfl, by decide +kernel, rfl, by decide +kernel, by decide +kernel⟩
abbrev s_off_L : Stmt := topS 21
abbrev N_off_L : List Str := ["_law_d", "_law_upto", "_law_found"]
theorem sc_off_L : FnScope N_off_L ["_law_d", "_law_upto"] (defScope s_off_L) := ⟨rfl, rfl, rfl, by decide +kernel, rfl, by decide +kernel, by decide +kernel⟩
abbrev s_mixed_L : Stmt := topS 23
abbrev N_mixed_L : List Str := ["_law_d", "_law_row", "_law_left", "_law_found"]
theorem sc_mixed_L : FnScope N_mixed_L ["_law_d", "_law_row"] (defScope s_mixed_L) := ⟨rfl, rfl, rfl, by decide +kernel, rfl, by decide +kernel, by decide +kernel⟩
abbrev s_cards_L : Stmt := topS 24
abbrev N_cards_L : List Str := ["_law_d", "_law_size", "_law_many", "_law_order", "_law_kind", "_law_long", "_law_found", "_law_at", "_law_ring", "_law_k"]
theorem sc_cards_L : FnScope N_cards_L ["_law_d", "_law_size"] (defScope s_cards_L) := ⟨rfl, rfl, rfl, by decide +kernel, rfl, by decide +kernel, by decide +kernel⟩
abbrev s_is_number : Stmt := topS 8
abbrev N_is_number : List Str := ["thing", "low", "high"]
theorem sc_is_number : FnScope N_is_number ["thing", "low", "high"] (defScope s_is_number) := ⟨rfl, rfl, rfl, by decide +kernel, rfl, by decide +kernel, by decide +kernel⟩
abbrev s_need_cards : Stmt := topS 9
abbrev N_need_cards : List Str := ["cards", "place", "seat"]
theorem sc_need_cards : FnScope N_need_cards ["cards"] (defScope s_need_cards) := ⟨rfl, rfl, rfl, by decide +kernel, rfl, by decide +kernel, by decide +kernel⟩
abbrev s_need_pins : Stmt := topS 14
abbrev N_need_pins : List Str := ["pins", "many", "seat"]
theorem sc_need_pins : FnScope N_need_pins ["pins", "many"] (defScope s_need_pins) := ⟨rfl, rfl, rfl, by decide +kernel, rfl, by decide +kernel, by decide +kernel⟩
abbrev s_why_not : Stmt := topS 15
abbrev N_why_not : List Str := ["cards", "pins", "two", "seat"]
theorem sc_why_not : FnScope N_why_not ["cards", "pins", "two"] (defScope s_why_not) := ⟨rfl, rfl, rfl, by decide +kernel, rfl, by decide +kernel, by decide +kernel⟩
abbrev s_exchanged : Stmt := topS 16
abbrev N_exchanged : List Str := ["cards", "two", "found"]
theorem sc_exchanged : FnScope N_exchanged ["cards", "two"] (defScope s_exchanged) := ⟨rfl, rfl, rfl, by decide +kernel, rfl, by decide +kernel, by decide +kernel⟩
abbrev s_done : Stmt := topS 17
abbrev N_done : List Str := ["cards", "some", "pins", "number", "two", "why"]
theorem sc_done : FnScope N_done ["cards", "some", "pins"] (defScope s_done) := ⟨rfl, rfl, rfl, by decide +kernel, rfl, by decide +kernel, by decide +kernel⟩
abbrev s_ring_from : Stmt := topS 10
abbrev N_ring_from : List Str := ["cards", "seat", "found"]
theorem sc_ring_from : FnScope N_ring_from ["cards", "seat"] (defScope s_ring_from) := ⟨rfl, rfl, rfl, by decide +kernel, rfl, by decide +kernel, by decide +kernel⟩
abbrev s_rings_of : Stmt := topS 11
abbrev N_rings_of : List Str := ["cards", "found", "met", "seat", "ring", "one"]
theorem sc_rings_of : FnScope N_rings_of ["cards"] (defScope s_rings_of) := ⟨rfl, rfl, rfl, by decide +kernel, rfl, by decide +kernel, by decide +kernel⟩
abbrev s_rings : Stmt := topS 12
abbrev N_rings : List Str := ["cards"]
theorem sc_rings : FnScope N_rings ["cards"] (defScope s_rings) := ⟨rfl, rfl, rfl, by decide +kernel, rfl, by decide +kernel, by decide +kernel⟩
abbrev s_alike_L : Stmt := topS 22
abbrev N_alike_L : List Str := ["_law_found", "_law_due", "_law_k"]
theorem sc_alike_L : FnScope N_alike_L ["_law_found", "_law_due"] (defScope s_alike_L) := ⟨rfl, rfl, rfl, by decide +kernel, rfl, by decide +kernel, by decide +kernel⟩
abbrev s_parts : Stmt := topS 18
abbrev N_parts : List Str := ["cards", "one", "other", "why", "ring"]
theorem sc_parts : FnScope N_parts ["cards", "one", "other"] (defScope s_parts) := ⟨rfl, rfl, rfl, by decide +kernel, rfl, by decide +kernel, by decide +kernel⟩
abbrev s_law : Stmt := topS 25
abbrev N_law : List Str := ["_law_script", "_law_d", "_law_cards_here", "_law_one", "_law_other", "_law_next_one", "_law_more"]
theorem sc_law : FnScope N_law ["_law_script"] (defScope s_law) := ⟨rfl, rfl, rfl, by decide +kernel, rfl, by decide +kernel, by decide +kernel⟩
section
variable {P : Program} {w : World} {K : PySem.W.Frag} {mg : Str → Option Value} {base : Heap}
def pre_dice_L (dl : List D) : Prop := ∃ (ns : List Int) (k : Int), dl = [.list (ns.map PyData.int), .int k] ∧ ns.length ≤ 63 ∧ 0 ≤ k ∧ k ≤ 1000
def post_dice_L (dl : List D) (x : AV) : Prop := ∃ l, x = .ls l ∧ DiceL l
theorem ci_dice_L {ns : List Int} {k : Int} {ds : Sto} {Q : Sto → AV → Prop} (hn : ns.length ≤ 63) (k0 : 0 ≤ k) (k1 : k ≤ 1000) (q : ∀ l, DiceL l → Q ds (.ls l)) : callB pre_dice_L post_dice_L 2 (some [.list (ns.map PyData.int), .int k]) ds Q := callB_i rfl ⟨ns, k, rfl, hn, k0, k1⟩ fun x ⟨l, e, h⟩ => by
  subst e
  exact q l h
theorem ok_dice_L {f : Addr} {fd : FuncData} (F : Fun K "_law_dice" "_law_dice" s_dice_L f fd) (T : Txt mg)  : FnOk P w K mg base CX0 (0 + 1) f fd ["_law_script", "_law_k"] (spP 2 pre_dice_L post_dice_L K) := by
  exact okP F sc_dice_L rfl fun cdv A outer s H E hr => ⟨_, _, (ass_cons (as_set 2 sc_dice_L.nd (av 1)) (ass_cons ((as_for (ai_list (av 0)) (ag_name 3 sc_dice_L.nd) (ass_one (as_set 2 sc_dice_L.nd (ae_op o_mod (ae_op o_add (ae_op o_mul (av 2) ae_int) (ae_callB k_abs T.z_abs (by decide +kernel) (aa_cons (av 3) aa_nil))) ae_int)))).frzV 0) (ass_one ((as_ret (ae_op o_cat (ae_lst (aa_cons (av 2) (aa_cons ae_int aa_nil))) (ae_lc [("_law_cell", 3)] sc_dice_L.nd (blkOk_by (N := N_dice_L) (sc := defScope s_dice_L) (by decide +kernel)) (ai_list (av 0)) (fun _ _ _ _ _ => (ag_name 3 sc_dice_L.nd)) (fun _ _ _ _ _ => (ats_one (at_cmp c_ge (av 3) (ae_op o_pow ae_int ae_int)))) (fun _ _ _ _ _ => (av 3))))).frzV 0)))), fun dl hl hp => by
    obtain ⟨ns, k, rfl, hn, k0, k1⟩ := hp
    show (_ : WS) _ [AV.fz (.list (ns.map PyData.int)), AV.fz (.int k), .un, .un]
    simp -implicitDefEqProofs only [↓wVar_ap, ↓wC_ap, ↓wOp_ap, ↓wUn_ap, ↓wII_ap, ↓wIC_ap, ↓wIB_ap, ↓wNeg_ap, ↓wEqI_ap, ↓wEqD_ap, ↓wIsN_ap, ↓wAndV_ap, ↓wOrV_ap, ↓wNotV_ap, ↓wTest_ap, ↓wAnd_ap, ↓wOr_ap, ↓wNot_ap, ↓wIfE_ap, ↓wNil_ap, ↓wCons_ap, ↓wCB_ap, ↓wTup_ap, ↓wLst_ap, ↓wFrz_ap, ↓wCallP_ap, ↓wCallM_ap, ↓wBM_ap, ↓wBM0_ap, ↓wAppend_ap, ↓wExtend_ap, ↓wPopAt_ap, ↓wPop_ap, ↓wReverse_ap, ↓wIxL_ap, ↓wIxT_ap, ↓wNoPart_ap, ↓wPart_ap, ↓wSl_ap, ↓wSlL_ap, ↓wSlT_ap, ↓wLen_ap, ↓wListOf_ap, ↓wTupleOf_ap, ↓wAbs_ap, ↓wCatT_ap, ↓wCat_ap, ↓wRep_ap, ↓wInI_ap, ↓wRng1_ap, ↓wRng2_ap, ↓wRng3_ap, ↓wIList_ap, ↓wITup_ap, ↓wName_ap, ↓wgNil_ap, ↓wgCons_ap, ↓wgTup_ap, ↓wgLst_ap, ↓wgSub_ap, ↓wNext_ap, ↓wSeq_ap, ↓wAsg_ap, ↓wDrop_ap, ↓wRet_ap, ↓wRetN_ap, ↓wNever_ap, ↓wBreak_ap, ↓wCont_ap, ↓wPar_ap, ↓wAug_ap, ↓wIsT_ap, ↓wEnumT_ap, ↓wEnum_ap, ↓wChainF_ap, ↓wDNew_ap, ↓wDIn_ap, ↓wDGet_ap, ↓wDGet2_ap, ↓wDPut_ap, ↓wDUpd_ap, ↓wRg1_ap, ↓wRg2_ap, ↓wLstRg_ap, ↓wTupRg_ap, ↓wFrzV_ap, ↓wIxA_ap, ↓wTIdx_ap, ↓wLIdx_ap, ↓wAddD_ap, fMax, fMin, fSorted, ↓wIf_ap, ↓wThen_ap, ↓wFor_ap, ↓wWhile_ap, ↓wLc_ap, ↓wDc_ap, RetOk_fz, RetOk_ls, RetOk_rf, imm_int, imm_bool, imm_str, imm_none, ↓ifB_t, ↓ifB_f, ↓sto, ↓frz, stL, isNum_t, Int.reducePow, Int.reduceSub, Int.reduceAdd, Int.reduceMul, wInts, wBls, vl, vls, its, lsOf, oLs, oL, upL, fzs, keyOf, dkOf, isN, wipeS, ownFree, own_fz, own_un, own_rf, own_ls, own_lb, own_dk, List.map_cons, List.map_nil, List.all_cons, List.all_nil, List.set, List.getD_cons_zero, List.getD_cons_succ, List.getD_nil, List.getElem?_cons_zero, List.getElem?_cons_succ, Option.getD_some, List.getElem?_nil, Option.getD_none, Option.map_some, Option.map_none, Bool.false_eq_true, if_true, if_false, Bool.not_true, Bool.not_false, Bool.and_true, Bool.true_and, reduceCtorEq, and_true, true_and, and_false, false_and, Option.some.injEq, AV.fz.injEq, AV.ls.injEq, AV.lb.injEq, AV.dk.injEq, List.cons.injEq, PyData.int.injEq, PyData.list.injEq, PyData.tuple.injEq, exists_eq_left', exists_eq_left, List.length_cons, List.length_nil, Nat.reduceAdd, Int.reduceToNat, List.eraseIdx, isi_int_none, isi_int_bool, isi_int_int, isi_int_str, isi_int_list, isi_int_tuple, isi_bool_none, isi_bool_bool, isi_bool_int, isi_bool_str, isi_bool_list, isi_bool_tuple, isi_str_none, isi_str_bool, isi_str_int, isi_str_str, isi_str_list, isi_str_tuple, isi_tuple_none, isi_tuple_bool, isi_tuple_int, isi_tuple_str, isi_tuple_list, isi_tuple_tuple, isi_list_none, isi_list_bool, isi_list_int, isi_list_str, isi_list_list, isi_list_tuple, atI_0, atI_1, atI_2, ixN_0, ixN_1]
    refine forB_i (fun i ds => ∃ (a : Int) (y : AV), ds = [AV.fz (.list (ns.map PyData.int)), .fz (.int k), .fz (.int a), y] ∧ 0 ≤ a ∧ a < 2147483647 ∧ y.own = false) ⟨k, _, rfl, by omega, by omega, rfl⟩ (fun i d ds hd hi => ?_) (fun ds hi => ?_)
    · obtain ⟨a, y, rfl, a0, a1, hy⟩ := hi
      obtain ⟨c, rfl, hc⟩ := int_at hd
      simp -implicitDefEqProofs only [↓wVar_ap, ↓wC_ap, ↓wOp_ap, ↓wUn_ap, ↓wII_ap, ↓wIC_ap, ↓wIB_ap, ↓wNeg_ap, ↓wEqI_ap, ↓wEqD_ap, ↓wIsN_ap, ↓wAndV_ap, ↓wOrV_ap, ↓wNotV_ap, ↓wTest_ap, ↓wAnd_ap, ↓wOr_ap, ↓wNot_ap, ↓wIfE_ap, ↓wNil_ap, ↓wCons_ap, ↓wCB_ap, ↓wTup_ap, ↓wLst_ap, ↓wFrz_ap, ↓wCallP_ap, ↓wCallM_ap, ↓wBM_ap, ↓wBM0_ap, ↓wAppend_ap, ↓wExtend_ap, ↓wPopAt_ap, ↓wPop_ap, ↓wReverse_ap, ↓wIxL_ap, ↓wIxT_ap, ↓wNoPart_ap, ↓wPart_ap, ↓wSl_ap, ↓wSlL_ap, ↓wSlT_ap, ↓wLen_ap, ↓wListOf_ap, ↓wTupleOf_ap, ↓wAbs_ap, ↓wCatT_ap, ↓wCat_ap, ↓wRep_ap, ↓wInI_ap, ↓wRng1_ap, ↓wRng2_ap, ↓wRng3_ap, ↓wIList_ap, ↓wITup_ap, ↓wName_ap, ↓wgNil_ap, ↓wgCons_ap, ↓wgTup_ap, ↓wgLst_ap, ↓wgSub_ap, ↓wNext_ap, ↓wSeq_ap, ↓wAsg_ap, ↓wDrop_ap, ↓wRet_ap, ↓wRetN_ap, ↓wNever_ap, ↓wBreak_ap, ↓wCont_ap, ↓wPar_ap, ↓wAug_ap, ↓wIsT_ap, ↓wEnumT_ap, ↓wEnum_ap, ↓wChainF_ap, ↓wDNew_ap, ↓wDIn_ap, ↓wDGet_ap, ↓wDGet2_ap, ↓wDPut_ap, ↓wDUpd_ap, ↓wRg1_ap, ↓wRg2_ap, ↓wLstRg_ap, ↓wTupRg_ap, ↓wFrzV_ap, ↓wIxA_ap, ↓wTIdx_ap, ↓wLIdx_ap, ↓wAddD_ap, fMax, fMin, fSorted, ↓wIf_ap, ↓wThen_ap, ↓wFor_ap, ↓wWhile_ap, ↓wLc_ap, ↓wDc_ap, RetOk_fz, RetOk_ls, RetOk_rf, imm_int, imm_bool, imm_str, imm_none, ↓ifB_t, ↓ifB_f, ↓sto, ↓frz, stL, isNum_t, Int.reducePow, Int.reduceSub, Int.reduceAdd, Int.reduceMul, wInts, wBls, vl, vls, its, lsOf, oLs, oL, upL, fzs, keyOf, dkOf, isN, wipeS, ownFree, own_fz, own_un, own_rf, own_ls, own_lb, own_dk, List.map_cons, List.map_nil, List.all_cons, List.all_nil, List.set, List.getD_cons_zero, List.getD_cons_succ, List.getD_nil, List.getElem?_cons_zero, List.getElem?_cons_succ, Option.getD_some, List.getElem?_nil, Option.getD_none, Option.map_some, Option.map_none, Bool.false_eq_true, if_true, if_false, Bool.not_true, Bool.not_false, Bool.and_true, Bool.true_and, reduceCtorEq, and_true, true_and, and_false, false_and, Option.some.injEq, AV.fz.injEq, AV.ls.injEq, AV.lb.injEq, AV.dk.injEq, List.cons.injEq, PyData.int.injEq, PyData.list.injEq, PyData.tuple.injEq, exists_eq_left', exists_eq_left, List.length_cons, List.length_nil, Nat.reduceAdd, Int.reduceToNat, List.eraseIdx, isi_int_none, isi_int_bool, isi_int_int, isi_int_str, isi_int_list, isi_int_tuple, isi_bool_none, isi_bool_bool, isi_bool_int, isi_bool_str, isi_bool_list, isi_bool_tuple, isi_str_none, isi_str_bool, isi_str_int, isi_str_str, isi_str_list, isi_str_tuple, isi_tuple_none, isi_tuple_bool, isi_tuple_int, isi_tuple_str, isi_tuple_list, isi_tuple_tuple, isi_list_none, isi_list_bool, isi_list_int, isi_list_str, isi_list_list, isi_list_tuple, atI_0, atI_1, atI_2, ixN_0, ixN_1]
      exact ⟨cmulL (by omega) (by omega), by decide, _, _, ⟨rfl, rfl⟩, Int.emod_nonneg _ (by decide), Int.emod_lt_of_pos _ (by decide), own_fz _⟩
    · obtain ⟨a, y, rfl, a0, a1, hy⟩ := hi
      simp -implicitDefEqProofs only [↓wVar_ap, ↓wC_ap, ↓wOp_ap, ↓wUn_ap, ↓wII_ap, ↓wIC_ap, ↓wIB_ap, ↓wNeg_ap, ↓wEqI_ap, ↓wEqD_ap, ↓wIsN_ap, ↓wAndV_ap, ↓wOrV_ap, ↓wNotV_ap, ↓wTest_ap, ↓wAnd_ap, ↓wOr_ap, ↓wNot_ap, ↓wIfE_ap, ↓wNil_ap, ↓wCons_ap, ↓wCB_ap, ↓wTup_ap, ↓wLst_ap, ↓wFrz_ap, ↓wCallP_ap, ↓wCallM_ap, ↓wBM_ap, ↓wBM0_ap, ↓wAppend_ap, ↓wExtend_ap, ↓wPopAt_ap, ↓wPop_ap, ↓wReverse_ap, ↓wIxL_ap, ↓wIxT_ap, ↓wNoPart_ap, ↓wPart_ap, ↓wSl_ap, ↓wSlL_ap, ↓wSlT_ap, ↓wLen_ap, ↓wListOf_ap, ↓wTupleOf_ap, ↓wAbs_ap, ↓wCatT_ap, ↓wCat_ap, ↓wRep_ap, ↓wInI_ap, ↓wRng1_ap, ↓wRng2_ap, ↓wRng3_ap, ↓wIList_ap, ↓wITup_ap, ↓wName_ap, ↓wgNil_ap, ↓wgCons_ap, ↓wgTup_ap, ↓wgLst_ap, ↓wgSub_ap, ↓wNext_ap, ↓wSeq_ap, ↓wAsg_ap, ↓wDrop_ap, ↓wRet_ap, ↓wRetN_ap, ↓wNever_ap, ↓wBreak_ap, ↓wCont_ap, ↓wPar_ap, ↓wAug_ap, ↓wIsT_ap, ↓wEnumT_ap, ↓wEnum_ap, ↓wChainF_ap, ↓wDNew_ap, ↓wDIn_ap, ↓wDGet_ap, ↓wDGet2_ap, ↓wDPut_ap, ↓wDUpd_ap, ↓wRg1_ap, ↓wRg2_ap, ↓wLstRg_ap, ↓wTupRg_ap, ↓wFrzV_ap, ↓wIxA_ap, ↓wTIdx_ap, ↓wLIdx_ap, ↓wAddD_ap, fMax, fMin, fSorted, ↓wIf_ap, ↓wThen_ap, ↓wFor_ap, ↓wWhile_ap, ↓wLc_ap, ↓wDc_ap, RetOk_fz, RetOk_ls, RetOk_rf, imm_int, imm_bool, imm_str, imm_none, ↓ifB_t, ↓ifB_f, ↓sto, ↓frz, stL, isNum_t, Int.reducePow, Int.reduceSub, Int.reduceAdd, Int.reduceMul, wInts, wBls, vl, vls, its, lsOf, oLs, oL, upL, fzs, keyOf, dkOf, isN, wipeS, ownFree, own_fz, own_un, own_rf, own_ls, own_lb, own_dk, List.map_cons, List.map_nil, List.all_cons, List.all_nil, List.set, List.getD_cons_zero, List.getD_cons_succ, List.getD_nil, List.getElem?_cons_zero, List.getElem?_cons_succ, Option.getD_some, List.getElem?_nil, Option.getD_none, Option.map_some, Option.map_none, Bool.false_eq_true, if_true, if_false, Bool.not_true, Bool.not_false, Bool.and_true, Bool.true_and, reduceCtorEq, and_true, true_and, and_false, false_and, Option.some.injEq, AV.fz.injEq, AV.ls.injEq, AV.lb.injEq, AV.dk.injEq, List.cons.injEq, PyData.int.injEq, PyData.list.injEq, PyData.tuple.injEq, exists_eq_left', exists_eq_left, List.length_cons, List.length_nil, Nat.reduceAdd, Int.reduceToNat, List.eraseIdx, isi_int_none, isi_int_bool, isi_int_int, isi_int_str, isi_int_list, isi_int_tuple, isi_bool_none, isi_bool_bool, isi_bool_int, isi_bool_str, isi_bool_list, isi_bool_tuple, isi_str_none, isi_str_bool, isi_str_int, isi_str_str, isi_str_list, isi_str_tuple, isi_tuple_none, isi_tuple_bool, isi_tuple_int, isi_tuple_str, isi_tuple_list, isi_tuple_tuple, isi_list_none, isi_list_bool, isi_list_int, isi_list_str, isi_list_list, isi_list_tuple, atI_0, atI_1, atI_2, ixN_0, ixN_1, hy]
      refine ⟨by decide, lcB_i (fun i => ((ns.map PyData.int).take i).filterMap dFil) rfl (fun i d hd => ?_) ?_⟩
      · obtain ⟨c, rfl, hc⟩ := int_at hd
        simp -implicitDefEqProofs only [↓wVar_ap, ↓wC_ap, ↓wOp_ap, ↓wUn_ap, ↓wII_ap, ↓wIC_ap, ↓wIB_ap, ↓wNeg_ap, ↓wEqI_ap, ↓wEqD_ap, ↓wIsN_ap, ↓wAndV_ap, ↓wOrV_ap, ↓wNotV_ap, ↓wTest_ap, ↓wAnd_ap, ↓wOr_ap, ↓wNot_ap, ↓wIfE_ap, ↓wNil_ap, ↓wCons_ap, ↓wCB_ap, ↓wTup_ap, ↓wLst_ap, ↓wFrz_ap, ↓wCallP_ap, ↓wCallM_ap, ↓wBM_ap, ↓wBM0_ap, ↓wAppend_ap, ↓wExtend_ap, ↓wPopAt_ap, ↓wPop_ap, ↓wReverse_ap, ↓wIxL_ap, ↓wIxT_ap, ↓wNoPart_ap, ↓wPart_ap, ↓wSl_ap, ↓wSlL_ap, ↓wSlT_ap, ↓wLen_ap, ↓wListOf_ap, ↓wTupleOf_ap, ↓wAbs_ap, ↓wCatT_ap, ↓wCat_ap, ↓wRep_ap, ↓wInI_ap, ↓wRng1_ap, ↓wRng2_ap, ↓wRng3_ap, ↓wIList_ap, ↓wITup_ap, ↓wName_ap, ↓wgNil_ap, ↓wgCons_ap, ↓wgTup_ap, ↓wgLst_ap, ↓wgSub_ap, ↓wNext_ap, ↓wSeq_ap, ↓wAsg_ap, ↓wDrop_ap, ↓wRet_ap, ↓wRetN_ap, ↓wNever_ap, ↓wBreak_ap, ↓wCont_ap, ↓wPar_ap, ↓wAug_ap, ↓wIsT_ap, ↓wEnumT_ap, ↓wEnum_ap, ↓wChainF_ap, ↓wDNew_ap, ↓wDIn_ap, ↓wDGet_ap, ↓wDGet2_ap, ↓wDPut_ap, ↓wDUpd_ap, ↓wRg1_ap, ↓wRg2_ap, ↓wLstRg_ap, ↓wTupRg_ap, ↓wFrzV_ap, ↓wIxA_ap, ↓wTIdx_ap, ↓wLIdx_ap, ↓wAddD_ap, fMax, fMin, fSorted, ↓wIf_ap, ↓wThen_ap, ↓wFor_ap, ↓wWhile_ap, ↓wLc_ap, ↓wDc_ap, RetOk_fz, RetOk_ls, RetOk_rf, imm_int, imm_bool, imm_str, imm_none, ↓ifB_t, ↓ifB_f, ↓sto, ↓frz, stL, isNum_t, Int.reducePow, Int.reduceSub, Int.reduceAdd, Int.reduceMul, wInts, wBls, vl, vls, its, lsOf, oLs, oL, upL, fzs, keyOf, dkOf, isN, wipeS, ownFree, own_fz, own_un, own_rf, own_ls, own_lb, own_dk, List.map_cons, List.map_nil, List.all_cons, List.all_nil, List.set, List.getD_cons_zero, List.getD_cons_succ, List.getD_nil, List.getElem?_cons_zero, List.getElem?_cons_succ, Option.getD_some, List.getElem?_nil, Option.getD_none, Option.map_some, Option.map_none, Bool.false_eq_true, if_true, if_false, Bool.not_true, Bool.not_false, Bool.and_true, Bool.true_and, reduceCtorEq, and_true, true_and, and_false, false_and, Option.some.injEq, AV.fz.injEq, AV.ls.injEq, AV.lb.injEq, AV.dk.injEq, List.cons.injEq, PyData.int.injEq, PyData.list.injEq, PyData.tuple.injEq, exists_eq_left', exists_eq_left, List.length_cons, List.length_nil, Nat.reduceAdd, Int.reduceToNat, List.eraseIdx, isi_int_none, isi_int_bool, isi_int_int, isi_int_str, isi_int_list, isi_int_tuple, isi_bool_none, isi_bool_bool, isi_bool_int, isi_bool_str, isi_bool_list, isi_bool_tuple, isi_str_none, isi_str_bool, isi_str_int, isi_str_str, isi_str_list, isi_str_tuple, isi_tuple_none, isi_tuple_bool, isi_tuple_int, isi_tuple_str, isi_tuple_list, isi_tuple_tuple, isi_list_none, isi_list_bool, isi_list_int, isi_list_str, isi_list_list, isi_list_tuple, atI_0, atI_1, atI_2, ixN_0, ixN_1]
        refine ⟨⟨by decide, by decide, by decide⟩, ?_⟩
        split
        · rename_i h
          refine ⟨Nat.le_trans (take_fl _ _ _) (by rw [List.length_map]; omega), take_fm hd (if_pos (of_decide_eq_true h))⟩
        · rename_i h
          exact take_fn hd (if_neg fun z => h (decide_eq_true z))
      · obtain ⟨r, e, hl2, h0⟩ := dFil_all ns
        rw [List.take_length, e]
        simp -implicitDefEqProofs only [↓wVar_ap, ↓wC_ap, ↓wOp_ap, ↓wUn_ap, ↓wII_ap, ↓wIC_ap, ↓wIB_ap, ↓wNeg_ap, ↓wEqI_ap, ↓wEqD_ap, ↓wIsN_ap, ↓wAndV_ap, ↓wOrV_ap, ↓wNotV_ap, ↓wTest_ap, ↓wAnd_ap, ↓wOr_ap, ↓wNot_ap, ↓wIfE_ap, ↓wNil_ap, ↓wCons_ap, ↓wCB_ap, ↓wTup_ap, ↓wLst_ap, ↓wFrz_ap, ↓wCallP_ap, ↓wCallM_ap, ↓wBM_ap, ↓wBM0_ap, ↓wAppend_ap, ↓wExtend_ap, ↓wPopAt_ap, ↓wPop_ap, ↓wReverse_ap, ↓wIxL_ap, ↓wIxT_ap, ↓wNoPart_ap, ↓wPart_ap, ↓wSl_ap, ↓wSlL_ap, ↓wSlT_ap, ↓wLen_ap, ↓wListOf_ap, ↓wTupleOf_ap, ↓wAbs_ap, ↓wCatT_ap, ↓wCat_ap, ↓wRep_ap, ↓wInI_ap, ↓wRng1_ap, ↓wRng2_ap, ↓wRng3_ap, ↓wIList_ap, ↓wITup_ap, ↓wName_ap, ↓wgNil_ap, ↓wgCons_ap, ↓wgTup_ap, ↓wgLst_ap, ↓wgSub_ap, ↓wNext_ap, ↓wSeq_ap, ↓wAsg_ap, ↓wDrop_ap, ↓wRet_ap, ↓wRetN_ap, ↓wNever_ap, ↓wBreak_ap, ↓wCont_ap, ↓wPar_ap, ↓wAug_ap, ↓wIsT_ap, ↓wEnumT_ap, ↓wEnum_ap, ↓wChainF_ap, ↓wDNew_ap, ↓wDIn_ap, ↓wDGet_ap, ↓wDGet2_ap, ↓wDPut_ap, ↓wDUpd_ap, ↓wRg1_ap, ↓wRg2_ap, ↓wLstRg_ap, ↓wTupRg_ap, ↓wFrzV_ap, ↓wIxA_ap, ↓wTIdx_ap, ↓wLIdx_ap, ↓wAddD_ap, fMax, fMin, fSorted, ↓wIf_ap, ↓wThen_ap, ↓wFor_ap, ↓wWhile_ap, ↓wLc_ap, ↓wDc_ap, RetOk_fz, RetOk_ls, RetOk_rf, imm_int, imm_bool, imm_str, imm_none, ↓ifB_t, ↓ifB_f, ↓sto, ↓frz, stL, isNum_t, Int.reducePow, Int.reduceSub, Int.reduceAdd, Int.reduceMul, wInts, wBls, vl, vls, its, lsOf, oLs, oL, upL, fzs, keyOf, dkOf, isN, wipeS, ownFree, own_fz, own_un, own_rf, own_ls, own_lb, own_dk, List.map_cons, List.map_nil, List.all_cons, List.all_nil, List.set, List.getD_cons_zero, List.getD_cons_succ, List.getD_nil, List.getElem?_cons_zero, List.getElem?_cons_succ, Option.getD_some, List.getElem?_nil, Option.getD_none, Option.map_some, Option.map_none, Bool.false_eq_true, if_true, if_false, Bool.not_true, Bool.not_false, Bool.and_true, Bool.true_and, reduceCtorEq, and_true, true_and, and_false, false_and, Option.some.injEq, AV.fz.injEq, AV.ls.injEq, AV.lb.injEq, AV.dk.injEq, List.cons.injEq, PyData.int.injEq, PyData.list.injEq, PyData.tuple.injEq, exists_eq_left', exists_eq_left, List.length_cons, List.length_nil, Nat.reduceAdd, Int.reduceToNat, List.eraseIdx, isi_int_none, isi_int_bool, isi_int_int, isi_int_str, isi_int_list, isi_int_tuple, isi_bool_none, isi_bool_bool, isi_bool_int, isi_bool_str, isi_bool_list, isi_bool_tuple, isi_str_none, isi_str_bool, isi_str_int, isi_str_str, isi_str_list, isi_str_tuple, isi_tuple_none, isi_tuple_bool, isi_tuple_int, isi_tuple_str, isi_tuple_list, isi_tuple_tuple, isi_list_none, isi_list_bool, isi_list_int, isi_list_str, isi_list_list, isi_list_tuple, atI_0, atI_1, atI_2, ixN_0, ixN_1]
        have im : imms (.int a :: .int 0 :: r.map PyData.int) = true := imms_ints (a :: 0 :: r)
        refine ⟨by rw [List.length_map]; omega, im, _, rfl, a, 0, r, rfl, a0, a1, by decide, h0, by omega⟩⟩
def pre_off_L : List D → List D → Prop := preD fun dl => ∃ u : Int, dl = [.int u] ∧ 0 < u ∧ u < 1073741824
def post_off_L : List D → List D → List D → AV → Prop := postD fun dl x => ∃ r u : Int, dl = [.int u] ∧ x = .fz (.int r) ∧ 0 ≤ r ∧ r < u
theorem off_end {a b u z : Int} {r : List Int} {l0 : List D} (a0 : 0 ≤ a) (a1 : a < 2147483647) (b0 : 0 ≤ b) (h0 : ∀ c ∈ r, 0 ≤ c) (hl : r.length ≤ 63) (u0 : 0 < u) : imms (.int a :: .int b :: r.map PyData.int) = true ∧ post_off_L l0 [.int u] (.int a :: .int b :: r.map PyData.int) (.fz (.int (z % u))) :=
  ⟨imms_ints (a :: b :: r), ⟨a, b, r, rfl, a0, a1, b0, h0, hl⟩, _, u, rfl, rfl, Int.emod_nonneg _ (by omega), Int.emod_lt_of_pos _ u0⟩
theorem ci_off_L (u : Nat) {l : List D} {ds : Sto} {j : Nat} {Q : Sto → AV → Prop} (hD : DiceL l) (u0 : 0 < u) (u1 : u < 1073741824) (q : ∀ l' (r : Nat), DiceL l' → r < u → Q (stL ds j l') (.fz (.int r))) : callMB pre_off_L post_off_L 1 (some l) (some [.int (u : Int)]) ds j Q := callMB_i rfl ⟨hD, _, rfl, by omega, by omega⟩ fun l' x ⟨h1, r, v, e, e2, r0, r1⟩ => by
  have e : (u : Int) = v := by simpa using e
  obtain ⟨n, rfl⟩ : ∃ n : Nat, r = (n : Int) := ⟨r.toNat, by omega⟩
  subst e2
  exact q l' n h1 (by omega)
theorem ok_off_L {f : Addr} {fd : FuncData} (F : Fun K "_law_off" "_law_off" s_off_L f fd) (T : Txt mg)  : FnOk P w K mg base CX0 (0 + 1) f fd ["_law_d", "_law_upto"] (spM 1 pre_off_L post_off_L K) := by
  exact okM F sc_off_L rfl fun cdv A outer s H E hr => ⟨_, _, (ass_cons (as_if (aw_and (at_cmp c_eq (ae_ixL (av 0) ae_int) ae_int) (aw_and1 (at_cmp c_gt (ae_callB k_len T.z_len (by decide +kernel) (aa_cons (av 0) aa_nil)) ae_int))).pT (ass_one (as_asg (ae_bm PySem.F.slot_list_pop PySem.F.type_list_pop m_popAt (av 0) (aa_cons ae_int aa_nil)) (ag_sub (av 0) ae_int))) ass_nil) (ass_cons (as_if (at_cmp c_gt (ae_ixL (av 0) ae_int) ae_int) (ass_cons (as_set 2 sc_off_L.nd (ae_op o_mod (ae_ixL (av 0) ae_int) (av 1))) (ass_cons (as_asg (ae_op o_fdiv (ae_ixL (av 0) ae_int) (av 1)) (ag_sub (av 0) ae_int)) (ass_one (as_ret (av 2))))) ass_nil) (ass_cons (as_asg (ae_op o_mod (ae_op o_add (ae_op o_mul (ae_ixL (av 0) ae_int) ae_int) ae_int) ae_int) (ag_sub (av 0) ae_int)) (ass_one (as_ret (ae_op o_mod (ae_op o_fdiv (ae_ixL (av 0) ae_int) ae_int) (av 1))))))), fun l dl hl hp => by
    obtain ⟨⟨a, b, r, rfl, a0, a1, b0, hr0, hrl⟩, u, rfl, u0, u1⟩ := hp
    show (_ : WS) _ [AV.lb (.int a :: .int b :: r.map PyData.int), AV.fz (.int u), .un]
    have m0 : 0 ≤ (a * 48271 + 11) % 2147483647 := Int.emod_nonneg _ (by decide)
    have m1 : (a * 48271 + 11) % 2147483647 < 2147483647 := Int.emod_lt_of_pos _ (by decide)
    have d0 : 0 ≤ b / u := Int.ediv_nonneg b0 (by omega)
    simp -implicitDefEqProofs only [↓wVar_ap, ↓wC_ap, ↓wOp_ap, ↓wUn_ap, ↓wII_ap, ↓wIC_ap, ↓wIB_ap, ↓wNeg_ap, ↓wEqI_ap, ↓wEqD_ap, ↓wIsN_ap, ↓wAndV_ap, ↓wOrV_ap, ↓wNotV_ap, ↓wTest_ap, ↓wAnd_ap, ↓wOr_ap, ↓wNot_ap, ↓wIfE_ap, ↓wNil_ap, ↓wCons_ap, ↓wCB_ap, ↓wTup_ap, ↓wLst_ap, ↓wFrz_ap, ↓wCallP_ap, ↓wCallM_ap, ↓wBM_ap, ↓wBM0_ap, ↓wAppend_ap, ↓wExtend_ap, ↓wPopAt_ap, ↓wPop_ap, ↓wReverse_ap, ↓wIxL_ap, ↓wIxT_ap, ↓wNoPart_ap, ↓wPart_ap, ↓wSl_ap, ↓wSlL_ap, ↓wSlT_ap, ↓wLen_ap, ↓wListOf_ap, ↓wTupleOf_ap, ↓wAbs_ap, ↓wCatT_ap, ↓wCat_ap, ↓wRep_ap, ↓wInI_ap, ↓wRng1_ap, ↓wRng2_ap, ↓wRng3_ap, ↓wIList_ap, ↓wITup_ap, ↓wName_ap, ↓wgNil_ap, ↓wgCons_ap, ↓wgTup_ap, ↓wgLst_ap, ↓wgSub_ap, ↓wNext_ap, ↓wSeq_ap, ↓wAsg_ap, ↓wDrop_ap, ↓wRet_ap, ↓wRetN_ap, ↓wNever_ap, ↓wBreak_ap, ↓wCont_ap, ↓wPar_ap, ↓wAug_ap, ↓wIsT_ap, ↓wEnumT_ap, ↓wEnum_ap, ↓wChainF_ap, ↓wDNew_ap, ↓wDIn_ap, ↓wDGet_ap, ↓wDGet2_ap, ↓wDPut_ap, ↓wDUpd_ap, ↓wRg1_ap, ↓wRg2_ap, ↓wLstRg_ap, ↓wTupRg_ap, ↓wFrzV_ap, ↓wIxA_ap, ↓wTIdx_ap, ↓wLIdx_ap, ↓wAddD_ap, fMax, fMin, fSorted, ↓wIf_ap, ↓wThen_ap, ↓wFor_ap, ↓wWhile_ap, ↓wLc_ap, ↓wDc_ap, RetOk_fz, RetOk_ls, RetOk_rf, imm_int, imm_bool, imm_str, imm_none, ↓ifB_t, ↓ifB_f, ↓sto, ↓frz, stL, isNum_t, Int.reducePow, Int.reduceSub, Int.reduceAdd, Int.reduceMul, wInts, wBls, vl, vls, its, lsOf, oLs, oL, upL, fzs, keyOf, dkOf, isN, wipeS, ownFree, own_fz, own_un, own_rf, own_ls, own_lb, own_dk, List.map_cons, List.map_nil, List.all_cons, List.all_nil, List.set, List.getD_cons_zero, List.getD_cons_succ, List.getD_nil, List.getElem?_cons_zero, List.getElem?_cons_succ, Option.getD_some, List.getElem?_nil, Option.getD_none, Option.map_some, Option.map_none, Bool.false_eq_true, if_true, if_false, Bool.not_true, Bool.not_false, Bool.and_true, Bool.true_and, reduceCtorEq, and_true, true_and, and_false, false_and, Option.some.injEq, AV.fz.injEq, AV.ls.injEq, AV.lb.injEq, AV.dk.injEq, List.cons.injEq, PyData.int.injEq, PyData.list.injEq, PyData.tuple.injEq, exists_eq_left', exists_eq_left, List.length_cons, List.length_nil, Nat.reduceAdd, Int.reduceToNat, List.eraseIdx, isi_int_none, isi_int_bool, isi_int_int, isi_int_str, isi_int_list, isi_int_tuple, isi_bool_none, isi_bool_bool, isi_bool_int, isi_bool_str, isi_bool_list, isi_bool_tuple, isi_str_none, isi_str_bool, isi_str_int, isi_str_str, isi_str_list, isi_str_tuple, isi_tuple_none, isi_tuple_bool, isi_tuple_int, isi_tuple_str, isi_tuple_list, isi_tuple_tuple, isi_list_none, isi_list_bool, isi_list_int, isi_list_str, isi_list_list, isi_list_tuple, atI_0, atI_1, atI_2, ixN_0, ixN_1]
    split
    · refine ifB_i (fun h2 => ?_) (fun h2 => ?_)
      · cases r with
        | nil => simp at h2
        | cons c r =>
          have c0 : 0 ≤ c / u := Int.ediv_nonneg (hr0 c List.mem_cons_self) (by omega)
          have hr1 : ∀ c ∈ r, 0 ≤ c := fun x hx => hr0 x (List.mem_cons_of_mem _ hx)
          have hl2 : r.length ≤ 63 := by simp at hrl; omega
          simp -implicitDefEqProofs only [↓wVar_ap, ↓wC_ap, ↓wOp_ap, ↓wUn_ap, ↓wII_ap, ↓wIC_ap, ↓wIB_ap, ↓wNeg_ap, ↓wEqI_ap, ↓wEqD_ap, ↓wIsN_ap, ↓wAndV_ap, ↓wOrV_ap, ↓wNotV_ap, ↓wTest_ap, ↓wAnd_ap, ↓wOr_ap, ↓wNot_ap, ↓wIfE_ap, ↓wNil_ap, ↓wCons_ap, ↓wCB_ap, ↓wTup_ap, ↓wLst_ap, ↓wFrz_ap, ↓wCallP_ap, ↓wCallM_ap, ↓wBM_ap, ↓wBM0_ap, ↓wAppend_ap, ↓wExtend_ap, ↓wPopAt_ap, ↓wPop_ap, ↓wReverse_ap, ↓wIxL_ap, ↓wIxT_ap, ↓wNoPart_ap, ↓wPart_ap, ↓wSl_ap, ↓wSlL_ap, ↓wSlT_ap, ↓wLen_ap, ↓wListOf_ap, ↓wTupleOf_ap, ↓wAbs_ap, ↓wCatT_ap, ↓wCat_ap, ↓wRep_ap, ↓wInI_ap, ↓wRng1_ap, ↓wRng2_ap, ↓wRng3_ap, ↓wIList_ap, ↓wITup_ap, ↓wName_ap, ↓wgNil_ap, ↓wgCons_ap, ↓wgTup_ap, ↓wgLst_ap, ↓wgSub_ap, ↓wNext_ap, ↓wSeq_ap, ↓wAsg_ap, ↓wDrop_ap, ↓wRet_ap, ↓wRetN_ap, ↓wNever_ap, ↓wBreak_ap, ↓wCont_ap, ↓wPar_ap, ↓wAug_ap, ↓wIsT_ap, ↓wEnumT_ap, ↓wEnum_ap, ↓wChainF_ap, ↓wDNew_ap, ↓wDIn_ap, ↓wDGet_ap, ↓wDGet2_ap, ↓wDPut_ap, ↓wDUpd_ap, ↓wRg1_ap, ↓wRg2_ap, ↓wLstRg_ap, ↓wTupRg_ap, ↓wFrzV_ap, ↓wIxA_ap, ↓wTIdx_ap, ↓wLIdx_ap, ↓wAddD_ap, fMax, fMin, fSorted, ↓wIf_ap, ↓wThen_ap, ↓wFor_ap, ↓wWhile_ap, ↓wLc_ap, ↓wDc_ap, RetOk_fz, RetOk_ls, RetOk_rf, imm_int, imm_bool, imm_str, imm_none, ↓ifB_t, ↓ifB_f, ↓sto, ↓frz, stL, isNum_t, Int.reducePow, Int.reduceSub, Int.reduceAdd, Int.reduceMul, wInts, wBls, vl, vls, its, lsOf, oLs, oL, upL, fzs, keyOf, dkOf, isN, wipeS, ownFree, own_fz, own_un, own_rf, own_ls, own_lb, own_dk, List.map_cons, List.map_nil, List.all_cons, List.all_nil, List.set, List.getD_cons_zero, List.getD_cons_succ, List.getD_nil, List.getElem?_cons_zero, List.getElem?_cons_succ, Option.getD_some, List.getElem?_nil, Option.getD_none, Option.map_some, Option.map_none, Bool.false_eq_true, if_true, if_false, Bool.not_true, Bool.not_false, Bool.and_true, Bool.true_and, reduceCtorEq, and_true, true_and, and_false, false_and, Option.some.injEq, AV.fz.injEq, AV.ls.injEq, AV.lb.injEq, AV.dk.injEq, List.cons.injEq, PyData.int.injEq, PyData.list.injEq, PyData.tuple.injEq, exists_eq_left', exists_eq_left, List.length_cons, List.length_nil, Nat.reduceAdd, Int.reduceToNat, List.eraseIdx, isi_int_none, isi_int_bool, isi_int_int, isi_int_str, isi_int_list, isi_int_tuple, isi_bool_none, isi_bool_bool, isi_bool_int, isi_bool_str, isi_bool_list, isi_bool_tuple, isi_str_none, isi_str_bool, isi_str_int, isi_str_str, isi_str_list, isi_str_tuple, isi_tuple_none, isi_tuple_bool, isi_tuple_int, isi_tuple_str, isi_tuple_list, isi_tuple_tuple, isi_list_none, isi_list_bool, isi_list_int, isi_list_str, isi_list_list, isi_list_tuple, atI_0, atI_1, atI_2, ixN_0, ixN_1]
          refine ⟨by decide, by omega, by rw [List.length_map]; omega, ifB_i (fun h3 => ?_) (fun h3 => ?_)⟩
          · simp -implicitDefEqProofs only [↓wVar_ap, ↓wC_ap, ↓wOp_ap, ↓wUn_ap, ↓wII_ap, ↓wIC_ap, ↓wIB_ap, ↓wNeg_ap, ↓wEqI_ap, ↓wEqD_ap, ↓wIsN_ap, ↓wAndV_ap, ↓wOrV_ap, ↓wNotV_ap, ↓wTest_ap, ↓wAnd_ap, ↓wOr_ap, ↓wNot_ap, ↓wIfE_ap, ↓wNil_ap, ↓wCons_ap, ↓wCB_ap, ↓wTup_ap, ↓wLst_ap, ↓wFrz_ap, ↓wCallP_ap, ↓wCallM_ap, ↓wBM_ap, ↓wBM0_ap, ↓wAppend_ap, ↓wExtend_ap, ↓wPopAt_ap, ↓wPop_ap, ↓wReverse_ap, ↓wIxL_ap, ↓wIxT_ap, ↓wNoPart_ap, ↓wPart_ap, ↓wSl_ap, ↓wSlL_ap, ↓wSlT_ap, ↓wLen_ap, ↓wListOf_ap, ↓wTupleOf_ap, ↓wAbs_ap, ↓wCatT_ap, ↓wCat_ap, ↓wRep_ap, ↓wInI_ap, ↓wRng1_ap, ↓wRng2_ap, ↓wRng3_ap, ↓wIList_ap, ↓wITup_ap, ↓wName_ap, ↓wgNil_ap, ↓wgCons_ap, ↓wgTup_ap, ↓wgLst_ap, ↓wgSub_ap, ↓wNext_ap, ↓wSeq_ap, ↓wAsg_ap, ↓wDrop_ap, ↓wRet_ap, ↓wRetN_ap, ↓wNever_ap, ↓wBreak_ap, ↓wCont_ap, ↓wPar_ap, ↓wAug_ap, ↓wIsT_ap, ↓wEnumT_ap, ↓wEnum_ap, ↓wChainF_ap, ↓wDNew_ap, ↓wDIn_ap, ↓wDGet_ap, ↓wDGet2_ap, ↓wDPut_ap, ↓wDUpd_ap, ↓wRg1_ap, ↓wRg2_ap, ↓wLstRg_ap, ↓wTupRg_ap, ↓wFrzV_ap, ↓wIxA_ap, ↓wTIdx_ap, ↓wLIdx_ap, ↓wAddD_ap, fMax, fMin, fSorted, ↓wIf_ap, ↓wThen_ap, ↓wFor_ap, ↓wWhile_ap, ↓wLc_ap, ↓wDc_ap, RetOk_fz, RetOk_ls, RetOk_rf, imm_int, imm_bool, imm_str, imm_none, ↓ifB_t, ↓ifB_f, ↓sto, ↓frz, stL, isNum_t, Int.reducePow, Int.reduceSub, Int.reduceAdd, Int.reduceMul, wInts, wBls, vl, vls, its, lsOf, oLs, oL, upL, fzs, keyOf, dkOf, isN, wipeS, ownFree, own_fz, own_un, own_rf, own_ls, own_lb, own_dk, List.map_cons, List.map_nil, List.all_cons, List.all_nil, List.set, List.getD_cons_zero, List.getD_cons_succ, List.getD_nil, List.getElem?_cons_zero, List.getElem?_cons_succ, Option.getD_some, List.getElem?_nil, Option.getD_none, Option.map_some, Option.map_none, Bool.false_eq_true, if_true, if_false, Bool.not_true, Bool.not_false, Bool.and_true, Bool.true_and, reduceCtorEq, and_true, true_and, and_false, false_and, Option.some.injEq, AV.fz.injEq, AV.ls.injEq, AV.lb.injEq, AV.dk.injEq, List.cons.injEq, PyData.int.injEq, PyData.list.injEq, PyData.tuple.injEq, exists_eq_left', exists_eq_left, List.length_cons, List.length_nil, Nat.reduceAdd, Int.reduceToNat, List.eraseIdx, isi_int_none, isi_int_bool, isi_int_int, isi_int_str, isi_int_list, isi_int_tuple, isi_bool_none, isi_bool_bool, isi_bool_int, isi_bool_str, isi_bool_list, isi_bool_tuple, isi_str_none, isi_str_bool, isi_str_int, isi_str_str, isi_str_list, isi_str_tuple, isi_tuple_none, isi_tuple_bool, isi_tuple_int, isi_tuple_str, isi_tuple_list, isi_tuple_tuple, isi_list_none, isi_list_bool, isi_list_int, isi_list_str, isi_list_list, isi_list_tuple, atI_0, atI_1, atI_2, ixN_0, ixN_1]
            exact ⟨u0, cdiv u0 u1, off_end a0 a1 c0 hr1 hl2 u0⟩
          · simp -implicitDefEqProofs only [↓wVar_ap, ↓wC_ap, ↓wOp_ap, ↓wUn_ap, ↓wII_ap, ↓wIC_ap, ↓wIB_ap, ↓wNeg_ap, ↓wEqI_ap, ↓wEqD_ap, ↓wIsN_ap, ↓wAndV_ap, ↓wOrV_ap, ↓wNotV_ap, ↓wTest_ap, ↓wAnd_ap, ↓wOr_ap, ↓wNot_ap, ↓wIfE_ap, ↓wNil_ap, ↓wCons_ap, ↓wCB_ap, ↓wTup_ap, ↓wLst_ap, ↓wFrz_ap, ↓wCallP_ap, ↓wCallM_ap, ↓wBM_ap, ↓wBM0_ap, ↓wAppend_ap, ↓wExtend_ap, ↓wPopAt_ap, ↓wPop_ap, ↓wReverse_ap, ↓wIxL_ap, ↓wIxT_ap, ↓wNoPart_ap, ↓wPart_ap, ↓wSl_ap, ↓wSlL_ap, ↓wSlT_ap, ↓wLen_ap, ↓wListOf_ap, ↓wTupleOf_ap, ↓wAbs_ap, ↓wCatT_ap, ↓wCat_ap, ↓wRep_ap, ↓wInI_ap, ↓wRng1_ap, ↓wRng2_ap, ↓wRng3_ap, ↓wIList_ap, ↓wITup_ap, ↓wName_ap, ↓wgNil_ap, ↓wgCons_ap, ↓wgTup_ap, ↓wgLst_ap, ↓wgSub_ap, ↓wNext_ap, ↓wSeq_ap, ↓wAsg_ap, ↓wDrop_ap, ↓wRet_ap, ↓wRetN_ap, ↓wNever_ap, ↓wBreak_ap, ↓wCont_ap, ↓wPar_ap, ↓wAug_ap, ↓wIsT_ap, ↓wEnumT_ap, ↓wEnum_ap, ↓wChainF_ap, ↓wDNew_ap, ↓wDIn_ap, ↓wDGet_ap, ↓wDGet2_ap, ↓wDPut_ap, ↓wDUpd_ap, ↓wRg1_ap, ↓wRg2_ap, ↓wLstRg_ap, ↓wTupRg_ap, ↓wFrzV_ap, ↓wIxA_ap, ↓wTIdx_ap, ↓wLIdx_ap, ↓wAddD_ap, fMax, fMin, fSorted, ↓wIf_ap, ↓wThen_ap, ↓wFor_ap, ↓wWhile_ap, ↓wLc_ap, ↓wDc_ap, RetOk_fz, RetOk_ls, RetOk_rf, imm_int, imm_bool, imm_str, imm_none, ↓ifB_t, ↓ifB_f, ↓sto, ↓frz, stL, isNum_t, Int.reducePow, Int.reduceSub, Int.reduceAdd, Int.reduceMul, wInts, wBls, vl, vls, its, lsOf, oLs, oL, upL, fzs, keyOf, dkOf, isN, wipeS, ownFree, own_fz, own_un, own_rf, own_ls, own_lb, own_dk, List.map_cons, List.map_nil, List.all_cons, List.all_nil, List.set, List.getD_cons_zero, List.getD_cons_succ, List.getD_nil, List.getElem?_cons_zero, List.getElem?_cons_succ, Option.getD_some, List.getElem?_nil, Option.getD_none, Option.map_some, Option.map_none, Bool.false_eq_true, if_true, if_false, Bool.not_true, Bool.not_false, Bool.and_true, Bool.true_and, reduceCtorEq, and_true, true_and, and_false, false_and, Option.some.injEq, AV.fz.injEq, AV.ls.injEq, AV.lb.injEq, AV.dk.injEq, List.cons.injEq, PyData.int.injEq, PyData.list.injEq, PyData.tuple.injEq, exists_eq_left', exists_eq_left, List.length_cons, List.length_nil, Nat.reduceAdd, Int.reduceToNat, List.eraseIdx, isi_int_none, isi_int_bool, isi_int_int, isi_int_str, isi_int_list, isi_int_tuple, isi_bool_none, isi_bool_bool, isi_bool_int, isi_bool_str, isi_bool_list, isi_bool_tuple, isi_str_none, isi_str_bool, isi_str_int, isi_str_str, isi_str_list, isi_str_tuple, isi_tuple_none, isi_tuple_bool, isi_tuple_int, isi_tuple_str, isi_tuple_list, isi_tuple_tuple, isi_list_none, isi_list_bool, isi_list_int, isi_list_str, isi_list_list, isi_list_tuple, atI_0, atI_1, atI_2, ixN_0, ixN_1]
            exact ⟨cmulL (by omega) (by omega), by decide, cdiv (by decide) (by decide), u0, off_end m0 m1 (hr0 c List.mem_cons_self) hr1 hl2 u0⟩
      · simp -implicitDefEqProofs only [↓wVar_ap, ↓wC_ap, ↓wOp_ap, ↓wUn_ap, ↓wII_ap, ↓wIC_ap, ↓wIB_ap, ↓wNeg_ap, ↓wEqI_ap, ↓wEqD_ap, ↓wIsN_ap, ↓wAndV_ap, ↓wOrV_ap, ↓wNotV_ap, ↓wTest_ap, ↓wAnd_ap, ↓wOr_ap, ↓wNot_ap, ↓wIfE_ap, ↓wNil_ap, ↓wCons_ap, ↓wCB_ap, ↓wTup_ap, ↓wLst_ap, ↓wFrz_ap, ↓wCallP_ap, ↓wCallM_ap, ↓wBM_ap, ↓wBM0_ap, ↓wAppend_ap, ↓wExtend_ap, ↓wPopAt_ap, ↓wPop_ap, ↓wReverse_ap, ↓wIxL_ap, ↓wIxT_ap, ↓wNoPart_ap, ↓wPart_ap, ↓wSl_ap, ↓wSlL_ap, ↓wSlT_ap, ↓wLen_ap, ↓wListOf_ap, ↓wTupleOf_ap, ↓wAbs_ap, ↓wCatT_ap, ↓wCat_ap, ↓wRep_ap, ↓wInI_ap, ↓wRng1_ap, ↓wRng2_ap, ↓wRng3_ap, ↓wIList_ap, ↓wITup_ap, ↓wName_ap, ↓wgNil_ap, ↓wgCons_ap, ↓wgTup_ap, ↓wgLst_ap, ↓wgSub_ap, ↓wNext_ap, ↓wSeq_ap, ↓wAsg_ap, ↓wDrop_ap, ↓wRet_ap, ↓wRetN_ap, ↓wNever_ap, ↓wBreak_ap, ↓wCont_ap, ↓wPar_ap, ↓wAug_ap, ↓wIsT_ap, ↓wEnumT_ap, ↓wEnum_ap, ↓wChainF_ap, ↓wDNew_ap, ↓wDIn_ap, ↓wDGet_ap, ↓wDGet2_ap, ↓wDPut_ap, ↓wDUpd_ap, ↓wRg1_ap, ↓wRg2_ap, ↓wLstRg_ap, ↓wTupRg_ap, ↓wFrzV_ap, ↓wIxA_ap, ↓wTIdx_ap, ↓wLIdx_ap, ↓wAddD_ap, fMax, fMin, fSorted, ↓wIf_ap, ↓wThen_ap, ↓wFor_ap, ↓wWhile_ap, ↓wLc_ap, ↓wDc_ap, RetOk_fz, RetOk_ls, RetOk_rf, imm_int, imm_bool, imm_str, imm_none, ↓ifB_t, ↓ifB_f, ↓sto, ↓frz, stL, isNum_t, Int.reducePow, Int.reduceSub, Int.reduceAdd, Int.reduceMul, wInts, wBls, vl, vls, its, lsOf, oLs, oL, upL, fzs, keyOf, dkOf, isN, wipeS, ownFree, own_fz, own_un, own_rf, own_ls, own_lb, own_dk, List.map_cons, List.map_nil, List.all_cons, List.all_nil, List.set, List.getD_cons_zero, List.getD_cons_succ, List.getD_nil, List.getElem?_cons_zero, List.getElem?_cons_succ, Option.getD_some, List.getElem?_nil, Option.getD_none, Option.map_some, Option.map_none, Bool.false_eq_true, if_true, if_false, Bool.not_true, Bool.not_false, Bool.and_true, Bool.true_and, reduceCtorEq, and_true, true_and, and_false, false_and, Option.some.injEq, AV.fz.injEq, AV.ls.injEq, AV.lb.injEq, AV.dk.injEq, List.cons.injEq, PyData.int.injEq, PyData.list.injEq, PyData.tuple.injEq, exists_eq_left', exists_eq_left, List.length_cons, List.length_nil, Nat.reduceAdd, Int.reduceToNat, List.eraseIdx, isi_int_none, isi_int_bool, isi_int_int, isi_int_str, isi_int_list, isi_int_tuple, isi_bool_none, isi_bool_bool, isi_bool_int, isi_bool_str, isi_bool_list, isi_bool_tuple, isi_str_none, isi_str_bool, isi_str_int, isi_str_str, isi_str_list, isi_str_tuple, isi_tuple_none, isi_tuple_bool, isi_tuple_int, isi_tuple_str, isi_tuple_list, isi_tuple_tuple, isi_list_none, isi_list_bool, isi_list_int, isi_list_str, isi_list_list, isi_list_tuple, atI_0, atI_1, atI_2, ixN_0, ixN_1]
        refine ifB_i (fun h3 => ?_) (fun h3 => ?_)
        · simp -implicitDefEqProofs only [↓wVar_ap, ↓wC_ap, ↓wOp_ap, ↓wUn_ap, ↓wII_ap, ↓wIC_ap, ↓wIB_ap, ↓wNeg_ap, ↓wEqI_ap, ↓wEqD_ap, ↓wIsN_ap, ↓wAndV_ap, ↓wOrV_ap, ↓wNotV_ap, ↓wTest_ap, ↓wAnd_ap, ↓wOr_ap, ↓wNot_ap, ↓wIfE_ap, ↓wNil_ap, ↓wCons_ap, ↓wCB_ap, ↓wTup_ap, ↓wLst_ap, ↓wFrz_ap, ↓wCallP_ap, ↓wCallM_ap, ↓wBM_ap, ↓wBM0_ap, ↓wAppend_ap, ↓wExtend_ap, ↓wPopAt_ap, ↓wPop_ap, ↓wReverse_ap, ↓wIxL_ap, ↓wIxT_ap, ↓wNoPart_ap, ↓wPart_ap, ↓wSl_ap, ↓wSlL_ap, ↓wSlT_ap, ↓wLen_ap, ↓wListOf_ap, ↓wTupleOf_ap, ↓wAbs_ap, ↓wCatT_ap, ↓wCat_ap, ↓wRep_ap, ↓wInI_ap, ↓wRng1_ap, ↓wRng2_ap, ↓wRng3_ap, ↓wIList_ap, ↓wITup_ap, ↓wName_ap, ↓wgNil_ap, ↓wgCons_ap, ↓wgTup_ap, ↓wgLst_ap, ↓wgSub_ap, ↓wNext_ap, ↓wSeq_ap, ↓wAsg_ap, ↓wDrop_ap, ↓wRet_ap, ↓wRetN_ap, ↓wNever_ap, ↓wBreak_ap, ↓wCont_ap, ↓wPar_ap, ↓wAug_ap, ↓wIsT_ap, ↓wEnumT_ap, ↓wEnum_ap, ↓wChainF_ap, ↓wDNew_ap, ↓wDIn_ap, ↓wDGet_ap, ↓wDGet2_ap, ↓wDPut_ap, ↓wDUpd_ap, ↓wRg1_ap, ↓wRg2_ap, ↓wLstRg_ap, ↓wTupRg_ap, ↓wFrzV_ap, ↓wIxA_ap, ↓wTIdx_ap, ↓wLIdx_ap, ↓wAddD_ap, fMax, fMin, fSorted, ↓wIf_ap, ↓wThen_ap, ↓wFor_ap, ↓wWhile_ap, ↓wLc_ap, ↓wDc_ap, RetOk_fz, RetOk_ls, RetOk_rf, imm_int, imm_bool, imm_str, imm_none, ↓ifB_t, ↓ifB_f, ↓sto, ↓frz, stL, isNum_t, Int.reducePow, Int.reduceSub, Int.reduceAdd, Int.reduceMul, wInts, wBls, vl, vls, its, lsOf, oLs, oL, upL, fzs, keyOf, dkOf, isN, wipeS, ownFree, own_fz, own_un, own_rf, own_ls, own_lb, own_dk, List.map_cons, List.map_nil, List.all_cons, List.all_nil, List.set, List.getD_cons_zero, List.getD_cons_succ, List.getD_nil, List.getElem?_cons_zero, List.getElem?_cons_succ, Option.getD_some, List.getElem?_nil, Option.getD_none, Option.map_some, Option.map_none, Bool.false_eq_true, if_true, if_false, Bool.not_true, Bool.not_false, Bool.and_true, Bool.true_and, reduceCtorEq, and_true, true_and, and_false, false_and, Option.some.injEq, AV.fz.injEq, AV.ls.injEq, AV.lb.injEq, AV.dk.injEq, List.cons.injEq, PyData.int.injEq, PyData.list.injEq, PyData.tuple.injEq, exists_eq_left', exists_eq_left, List.length_cons, List.length_nil, Nat.reduceAdd, Int.reduceToNat, List.eraseIdx, isi_int_none, isi_int_bool, isi_int_int, isi_int_str, isi_int_list, isi_int_tuple, isi_bool_none, isi_bool_bool, isi_bool_int, isi_bool_str, isi_bool_list, isi_bool_tuple, isi_str_none, isi_str_bool, isi_str_int, isi_str_str, isi_str_list, isi_str_tuple, isi_tuple_none, isi_tuple_bool, isi_tuple_int, isi_tuple_str, isi_tuple_list, isi_tuple_tuple, isi_list_none, isi_list_bool, isi_list_int, isi_list_str, isi_list_list, isi_list_tuple, atI_0, atI_1, atI_2, ixN_0, ixN_1]
          exact ⟨u0, cdiv u0 u1, off_end a0 a1 d0 hr0 hrl u0⟩
        · simp -implicitDefEqProofs only [↓wVar_ap, ↓wC_ap, ↓wOp_ap, ↓wUn_ap, ↓wII_ap, ↓wIC_ap, ↓wIB_ap, ↓wNeg_ap, ↓wEqI_ap, ↓wEqD_ap, ↓wIsN_ap, ↓wAndV_ap, ↓wOrV_ap, ↓wNotV_ap, ↓wTest_ap, ↓wAnd_ap, ↓wOr_ap, ↓wNot_ap, ↓wIfE_ap, ↓wNil_ap, ↓wCons_ap, ↓wCB_ap, ↓wTup_ap, ↓wLst_ap, ↓wFrz_ap, ↓wCallP_ap, ↓wCallM_ap, ↓wBM_ap, ↓wBM0_ap, ↓wAppend_ap, ↓wExtend_ap, ↓wPopAt_ap, ↓wPop_ap, ↓wReverse_ap, ↓wIxL_ap, ↓wIxT_ap, ↓wNoPart_ap, ↓wPart_ap, ↓wSl_ap, ↓wSlL_ap, ↓wSlT_ap, ↓wLen_ap, ↓wListOf_ap, ↓wTupleOf_ap, ↓wAbs_ap, ↓wCatT_ap, ↓wCat_ap, ↓wRep_ap, ↓wInI_ap, ↓wRng1_ap, ↓wRng2_ap, ↓wRng3_ap, ↓wIList_ap, ↓wITup_ap, ↓wName_ap, ↓wgNil_ap, ↓wgCons_ap, ↓wgTup_ap, ↓wgLst_ap, ↓wgSub_ap, ↓wNext_ap, ↓wSeq_ap, ↓wAsg_ap, ↓wDrop_ap, ↓wRet_ap, ↓wRetN_ap, ↓wNever_ap, ↓wBreak_ap, ↓wCont_ap, ↓wPar_ap, ↓wAug_ap, ↓wIsT_ap, ↓wEnumT_ap, ↓wEnum_ap, ↓wChainF_ap, ↓wDNew_ap, ↓wDIn_ap, ↓wDGet_ap, ↓wDGet2_ap, ↓wDPut_ap, ↓wDUpd_ap, ↓wRg1_ap, ↓wRg2_ap, ↓wLstRg_ap, ↓wTupRg_ap, ↓wFrzV_ap, ↓wIxA_ap, ↓wTIdx_ap, ↓wLIdx_ap, ↓wAddD_ap, fMax, fMin, fSorted, ↓wIf_ap, ↓wThen_ap, ↓wFor_ap, ↓wWhile_ap, ↓wLc_ap, ↓wDc_ap, RetOk_fz, RetOk_ls, RetOk_rf, imm_int, imm_bool, imm_str, imm_none, ↓ifB_t, ↓ifB_f, ↓sto, ↓frz, stL, isNum_t, Int.reducePow, Int.reduceSub, Int.reduceAdd, Int.reduceMul, wInts, wBls, vl, vls, its, lsOf, oLs, oL, upL, fzs, keyOf, dkOf, isN, wipeS, ownFree, own_fz, own_un, own_rf, own_ls, own_lb, own_dk, List.map_cons, List.map_nil, List.all_cons, List.all_nil, List.set, List.getD_cons_zero, List.getD_cons_succ, List.getD_nil, List.getElem?_cons_zero, List.getElem?_cons_succ, Option.getD_some, List.getElem?_nil, Option.getD_none, Option.map_some, Option.map_none, Bool.false_eq_true, if_true, if_false, Bool.not_true, Bool.not_false, Bool.and_true, Bool.true_and, reduceCtorEq, and_true, true_and, and_false, false_and, Option.some.injEq, AV.fz.injEq, AV.ls.injEq, AV.lb.injEq, AV.dk.injEq, List.cons.injEq, PyData.int.injEq, PyData.list.injEq, PyData.tuple.injEq, exists_eq_left', exists_eq_left, List.length_cons, List.length_nil, Nat.reduceAdd, Int.reduceToNat, List.eraseIdx, isi_int_none, isi_int_bool, isi_int_int, isi_int_str, isi_int_list, isi_int_tuple, isi_bool_none, isi_bool_bool, isi_bool_int, isi_bool_str, isi_bool_list, isi_bool_tuple, isi_str_none, isi_str_bool, isi_str_int, isi_str_str, isi_str_list, isi_str_tuple, isi_tuple_none, isi_tuple_bool, isi_tuple_int, isi_tuple_str, isi_tuple_list, isi_tuple_tuple, isi_list_none, isi_list_bool, isi_list_int, isi_list_str, isi_list_list, isi_list_tuple, atI_0, atI_1, atI_2, ixN_0, ixN_1]
          exact ⟨cmulL (by omega) (by omega), by decide, cdiv (by decide) (by decide), u0, off_end m0 m1 b0 hr0 hrl u0⟩
    · refine ifB_i (fun h2 => ?_) (fun h2 => ?_)
      · simp -implicitDefEqProofs only [↓wVar_ap, ↓wC_ap, ↓wOp_ap, ↓wUn_ap, ↓wII_ap, ↓wIC_ap, ↓wIB_ap, ↓wNeg_ap, ↓wEqI_ap, ↓wEqD_ap, ↓wIsN_ap, ↓wAndV_ap, ↓wOrV_ap, ↓wNotV_ap, ↓wTest_ap, ↓wAnd_ap, ↓wOr_ap, ↓wNot_ap, ↓wIfE_ap, ↓wNil_ap, ↓wCons_ap, ↓wCB_ap, ↓wTup_ap, ↓wLst_ap, ↓wFrz_ap, ↓wCallP_ap, ↓wCallM_ap, ↓wBM_ap, ↓wBM0_ap, ↓wAppend_ap, ↓wExtend_ap, ↓wPopAt_ap, ↓wPop_ap, ↓wReverse_ap, ↓wIxL_ap, ↓wIxT_ap, ↓wNoPart_ap, ↓wPart_ap, ↓wSl_ap, ↓wSlL_ap, ↓wSlT_ap, ↓wLen_ap, ↓wListOf_ap, ↓wTupleOf_ap, ↓wAbs_ap, ↓wCatT_ap, ↓wCat_ap, ↓wRep_ap, ↓wInI_ap, ↓wRng1_ap, ↓wRng2_ap, ↓wRng3_ap, ↓wIList_ap, ↓wITup_ap, ↓wName_ap, ↓wgNil_ap, ↓wgCons_ap, ↓wgTup_ap, ↓wgLst_ap, ↓wgSub_ap, ↓wNext_ap, ↓wSeq_ap, ↓wAsg_ap, ↓wDrop_ap, ↓wRet_ap, ↓wRetN_ap, ↓wNever_ap, ↓wBreak_ap, ↓wCont_ap, ↓wPar_ap, ↓wAug_ap, ↓wIsT_ap, ↓wEnumT_ap, ↓wEnum_ap, ↓wChainF_ap, ↓wDNew_ap, ↓wDIn_ap, ↓wDGet_ap, ↓wDGet2_ap, ↓wDPut_ap, ↓wDUpd_ap, ↓wRg1_ap, ↓wRg2_ap, ↓wLstRg_ap, ↓wTupRg_ap, ↓wFrzV_ap, ↓wIxA_ap, ↓wTIdx_ap, ↓wLIdx_ap, ↓wAddD_ap, fMax, fMin, fSorted, ↓wIf_ap, ↓wThen_ap, ↓wFor_ap, ↓wWhile_ap, ↓wLc_ap, ↓wDc_ap, RetOk_fz, RetOk_ls, RetOk_rf, imm_int, imm_bool, imm_str, imm_none, ↓ifB_t, ↓ifB_f, ↓sto, ↓frz, stL, isNum_t, Int.reducePow, Int.reduceSub, Int.reduceAdd, Int.reduceMul, wInts, wBls, vl, vls, its, lsOf, oLs, oL, upL, fzs, keyOf, dkOf, isN, wipeS, ownFree, own_fz, own_un, own_rf, own_ls, own_lb, own_dk, List.map_cons, List.map_nil, List.all_cons, List.all_nil, List.set, List.getD_cons_zero, List.getD_cons_succ, List.getD_nil, List.getElem?_cons_zero, List.getElem?_cons_succ, Option.getD_some, List.getElem?_nil, Option.getD_none, Option.map_some, Option.map_none, Bool.false_eq_true, if_true, if_false, Bool.not_true, Bool.not_false, Bool.and_true, Bool.true_and, reduceCtorEq, and_true, true_and, and_false, false_and, Option.some.injEq, AV.fz.injEq, AV.ls.injEq, AV.lb.injEq, AV.dk.injEq, List.cons.injEq, PyData.int.injEq, PyData.list.injEq, PyData.tuple.injEq, exists_eq_left', exists_eq_left, List.length_cons, List.length_nil, Nat.reduceAdd, Int.reduceToNat, List.eraseIdx, isi_int_none, isi_int_bool, isi_int_int, isi_int_str, isi_int_list, isi_int_tuple, isi_bool_none, isi_bool_bool, isi_bool_int, isi_bool_str, isi_bool_list, isi_bool_tuple, isi_str_none, isi_str_bool, isi_str_int, isi_str_str, isi_str_list, isi_str_tuple, isi_tuple_none, isi_tuple_bool, isi_tuple_int, isi_tuple_str, isi_tuple_list, isi_tuple_tuple, isi_list_none, isi_list_bool, isi_list_int, isi_list_str, isi_list_list, isi_list_tuple, atI_0, atI_1, atI_2, ixN_0, ixN_1]
        exact ⟨u0, cdiv u0 u1, off_end a0 a1 d0 hr0 hrl u0⟩
      · simp -implicitDefEqProofs only [↓wVar_ap, ↓wC_ap, ↓wOp_ap, ↓wUn_ap, ↓wII_ap, ↓wIC_ap, ↓wIB_ap, ↓wNeg_ap, ↓wEqI_ap, ↓wEqD_ap, ↓wIsN_ap, ↓wAndV_ap, ↓wOrV_ap, ↓wNotV_ap, ↓wTest_ap, ↓wAnd_ap, ↓wOr_ap, ↓wNot_ap, ↓wIfE_ap, ↓wNil_ap, ↓wCons_ap, ↓wCB_ap, ↓wTup_ap, ↓wLst_ap, ↓wFrz_ap, ↓wCallP_ap, ↓wCallM_ap, ↓wBM_ap, ↓wBM0_ap, ↓wAppend_ap, ↓wExtend_ap, ↓wPopAt_ap, ↓wPop_ap, ↓wReverse_ap, ↓wIxL_ap, ↓wIxT_ap, ↓wNoPart_ap, ↓wPart_ap, ↓wSl_ap, ↓wSlL_ap, ↓wSlT_ap, ↓wLen_ap, ↓wListOf_ap, ↓wTupleOf_ap, ↓wAbs_ap, ↓wCatT_ap, ↓wCat_ap, ↓wRep_ap, ↓wInI_ap, ↓wRng1_ap, ↓wRng2_ap, ↓wRng3_ap, ↓wIList_ap, ↓wITup_ap, ↓wName_ap, ↓wgNil_ap, ↓wgCons_ap, ↓wgTup_ap, ↓wgLst_ap, ↓wgSub_ap, ↓wNext_ap, ↓wSeq_ap, ↓wAsg_ap, ↓wDrop_ap, ↓wRet_ap, ↓wRetN_ap, ↓wNever_ap, ↓wBreak_ap, ↓wCont_ap, ↓wPar_ap, ↓wAug_ap, ↓wIsT_ap, ↓wEnumT_ap, ↓wEnum_ap, ↓wChainF_ap, ↓wDNew_ap, ↓wDIn_ap, ↓wDGet_ap, ↓wDGet2_ap, ↓wDPut_ap, ↓wDUpd_ap, ↓wRg1_ap, ↓wRg2_ap, ↓wLstRg_ap, ↓wTupRg_ap, ↓wFrzV_ap, ↓wIxA_ap, ↓wTIdx_ap, ↓wLIdx_ap, ↓wAddD_ap, fMax, fMin, fSorted, ↓wIf_ap, ↓wThen_ap, ↓wFor_ap, ↓wWhile_ap, ↓wLc_ap, ↓wDc_ap, RetOk_fz, RetOk_ls, RetOk_rf, imm_int, imm_bool, imm_str, imm_none, ↓ifB_t, ↓ifB_f, ↓sto, ↓frz, stL, isNum_t, Int.reducePow, Int.reduceSub, Int.reduceAdd, Int.reduceMul, wInts, wBls, vl, vls, its, lsOf, oLs, oL, upL, fzs, keyOf, dkOf, isN, wipeS, ownFree, own_fz, own_un, own_rf, own_ls, own_lb, own_dk, List.map_cons, List.map_nil, List.all_cons, List.all_nil, List.set, List.getD_cons_zero, List.getD_cons_succ, List.getD_nil, List.getElem?_cons_zero, List.getElem?_cons_succ, Option.getD_some, List.getElem?_nil, Option.getD_none, Option.map_some, Option.map_none, Bool.false_eq_true, if_true, if_false, Bool.not_true, Bool.not_false, Bool.and_true, Bool.true_and, reduceCtorEq, and_true, true_and, and_false, false_and, Option.some.injEq, AV.fz.injEq, AV.ls.injEq, AV.lb.injEq, AV.dk.injEq, List.cons.injEq, PyData.int.injEq, PyData.list.injEq, PyData.tuple.injEq, exists_eq_left', exists_eq_left, List.length_cons, List.length_nil, Nat.reduceAdd, Int.reduceToNat, List.eraseIdx, isi_int_none, isi_int_bool, isi_int_int, isi_int_str, isi_int_list, isi_int_tuple, isi_bool_none, isi_bool_bool, isi_bool_int, isi_bool_str, isi_bool_list, isi_bool_tuple, isi_str_none, isi_str_bool, isi_str_int, isi_str_str, isi_str_list, isi_str_tuple, isi_tuple_none, isi_tuple_bool, isi_tuple_int, isi_tuple_str, isi_tuple_list, isi_tuple_tuple, isi_list_none, isi_list_bool, isi_list_int, isi_list_str, isi_list_list, isi_list_tuple, atI_0, atI_1, atI_2, ixN_0, ixN_1]
        exact ⟨cmulL (by omega) (by omega), by decide, cdiv (by decide) (by decide), u0, off_end m0 m1 b0 hr0 hrl u0⟩⟩
def pre_mixed_L : List D → List D → Prop := preD fun dl => ∃ l : List D, (dl = [.list l] ∨ dl = [.tuple l]) ∧ l.length ≤ 1000 ∧ fits 20 l = true
def post_mixed_L : List D → List D → List D → AV → Prop := postD fun dl x => ∃ l l' : List D, (dl = [.list l] ∨ dl = [.tuple l]) ∧ x = .ls l' ∧ l'.Perm l
theorem ci_mixed_L (m : List D) {l : List D} {ds : Sto} {j : Nat} {Q : Sto → AV → Prop} (hD : DiceL l) (h1 : m.length ≤ 1000) (h2 : fits 20 m = true) (q : ∀ l' m', DiceL l' → m'.Perm m → Q (stL ds j l') (.ls m')) : callMB pre_mixed_L post_mixed_L 1 (some l) (some [.list m]) ds j Q := callMB_i rfl ⟨hD, m, .inl rfl, h1, h2⟩ fun l' x ⟨h3, a, b, e, e2, p⟩ => by
  rcases e with e | e
  · cases e
    subst e2
    exact q l' b h3 p
  · cases e
theorem ci_mixed_LT (m : List D) {l : List D} {ds : Sto} {j : Nat} {Q : Sto → AV → Prop} (hD : DiceL l) (h1 : m.length ≤ 1000) (h2 : fits 20 m = true) (q : ∀ l' m', DiceL l' → m'.Perm m → Q (stL ds j l') (.ls m')) : callMB pre_mixed_L post_mixed_L 1 (some l) (some [.tuple m]) ds j Q := callMB_i rfl ⟨hD, m, .inr rfl, h1, h2⟩ fun l' x ⟨h3, a, b, e, e2, p⟩ => by
  rcases e with e | e
  · cases e
  · cases e
    subst e2
    exact q l' b h3 p
theorem ok_mixed_L {f : Addr} {fd : FuncData} (F : Fun K "_law_mixed" "_law_mixed" s_mixed_L f fd) (T : Txt mg) (C_off_L : Cal P w K mg base 1 "_law_off" (spM 1 pre_off_L post_off_L K)) : FnOk P w K mg base CX0 (1 + 1) f fd ["_law_d", "_law_row"] (spM 1 pre_mixed_L post_mixed_L K) := by
  exact okM F sc_mixed_L rfl fun cdv A outer s H E hr => ⟨_, _, (ass_cons (as_set 2 sc_mixed_L.nd (ae_callTy k_list T.z_list rfl (aa_cons (av 1) aa_nil))) (ass_cons (as_set 3 sc_mixed_L.nd (ae_lst aa_nil)) (ass_cons (as_while (at_cmp (c_neD hr) (av 2) (ae_lst aa_nil)) (ass_one (as_expr (ae_bm PySem.F.slot_list_append PySem.F.type_list_append m_append (av 3) (aa_cons (ae_bm PySem.F.slot_list_pop PySem.F.type_list_pop m_popAt (av 2) (aa_cons (ae_callM C_off_L hr (aa_cons (av 0) (aa_cons (ae_callB k_len T.z_len (by decide +kernel) (aa_cons (av 2) aa_nil)) aa_nil))) aa_nil)) aa_nil))))) (ass_one (as_ret (av 3)))))), fun l dl hl hp => by
    obtain ⟨hD, l0, hl0, hl1, hs⟩ := hp
    rcases hl0 with rfl | rfl
    all_goals
      show (_ : WS) _ [AV.lb l, AV.fz _, .un, .un]
      simp -implicitDefEqProofs only [↓wVar_ap, ↓wC_ap, ↓wOp_ap, ↓wUn_ap, ↓wII_ap, ↓wIC_ap, ↓wIB_ap, ↓wNeg_ap, ↓wEqI_ap, ↓wEqD_ap, ↓wIsN_ap, ↓wAndV_ap, ↓wOrV_ap, ↓wNotV_ap, ↓wTest_ap, ↓wAnd_ap, ↓wOr_ap, ↓wNot_ap, ↓wIfE_ap, ↓wNil_ap, ↓wCons_ap, ↓wCB_ap, ↓wTup_ap, ↓wLst_ap, ↓wFrz_ap, ↓wCallP_ap, ↓wCallM_ap, ↓wBM_ap, ↓wBM0_ap, ↓wAppend_ap, ↓wExtend_ap, ↓wPopAt_ap, ↓wPop_ap, ↓wReverse_ap, ↓wIxL_ap, ↓wIxT_ap, ↓wNoPart_ap, ↓wPart_ap, ↓wSl_ap, ↓wSlL_ap, ↓wSlT_ap, ↓wLen_ap, ↓wListOf_ap, ↓wTupleOf_ap, ↓wAbs_ap, ↓wCatT_ap, ↓wCat_ap, ↓wRep_ap, ↓wInI_ap, ↓wRng1_ap, ↓wRng2_ap, ↓wRng3_ap, ↓wIList_ap, ↓wITup_ap, ↓wName_ap, ↓wgNil_ap, ↓wgCons_ap, ↓wgTup_ap, ↓wgLst_ap, ↓wgSub_ap, ↓wNext_ap, ↓wSeq_ap, ↓wAsg_ap, ↓wDrop_ap, ↓wRet_ap, ↓wRetN_ap, ↓wNever_ap, ↓wBreak_ap, ↓wCont_ap, ↓wPar_ap, ↓wAug_ap, ↓wIsT_ap, ↓wEnumT_ap, ↓wEnum_ap, ↓wChainF_ap, ↓wDNew_ap, ↓wDIn_ap, ↓wDGet_ap, ↓wDGet2_ap, ↓wDPut_ap, ↓wDUpd_ap, ↓wRg1_ap, ↓wRg2_ap, ↓wLstRg_ap, ↓wTupRg_ap, ↓wFrzV_ap, ↓wIxA_ap, ↓wTIdx_ap, ↓wLIdx_ap, ↓wAddD_ap, fMax, fMin, fSorted, ↓wIf_ap, ↓wThen_ap, ↓wFor_ap, ↓wWhile_ap, ↓wLc_ap, ↓wDc_ap, RetOk_fz, RetOk_ls, RetOk_rf, imm_int, imm_bool, imm_str, imm_none, ↓ifB_t, ↓ifB_f, ↓sto, ↓frz, stL, isNum_t, Int.reducePow, Int.reduceSub, Int.reduceAdd, Int.reduceMul, wInts, wBls, vl, vls, its, lsOf, oLs, oL, upL, fzs, keyOf, dkOf, isN, wipeS, ownFree, own_fz, own_un, own_rf, own_ls, own_lb, own_dk, List.map_cons, List.map_nil, List.all_cons, List.all_nil, List.set, List.getD_cons_zero, List.getD_cons_succ, List.getD_nil, List.getElem?_cons_zero, List.getElem?_cons_succ, Option.getD_some, List.getElem?_nil, Option.getD_none, Option.map_some, Option.map_none, Bool.false_eq_true, if_true, if_false, Bool.not_true, Bool.not_false, Bool.and_true, Bool.true_and, reduceCtorEq, and_true, true_and, and_false, false_and, Option.some.injEq, AV.fz.injEq, AV.ls.injEq, AV.lb.injEq, AV.dk.injEq, List.cons.injEq, PyData.int.injEq, PyData.list.injEq, PyData.tuple.injEq, exists_eq_left', exists_eq_left, List.length_cons, List.length_nil, Nat.reduceAdd, Int.reduceToNat, List.eraseIdx, isi_int_none, isi_int_bool, isi_int_int, isi_int_str, isi_int_list, isi_int_tuple, isi_bool_none, isi_bool_bool, isi_bool_int, isi_bool_str, isi_bool_list, isi_bool_tuple, isi_str_none, isi_str_bool, isi_str_int, isi_str_str, isi_str_list, isi_str_tuple, isi_tuple_none, isi_tuple_bool, isi_tuple_int, isi_tuple_str, isi_tuple_list, isi_tuple_tuple, isi_list_none, isi_list_bool, isi_list_int, isi_list_str, isi_list_list, isi_list_tuple, atI_0, atI_1, atI_2, ixN_0, ixN_1]
      refine ⟨Nat.zero_le _, ?_⟩
      refine whileB_i (fun k ds => ∃ (dc A B : List D), ds = [AV.lb dc, _, .ls A, .ls B] ∧ DiceL dc ∧ A.length = k ∧ (B ++ A).Perm l0) l0.length ⟨l, l0, [], rfl, hD, rfl, List.Perm.refl _⟩ (fun k ds hi => ?_)
      obtain ⟨dc, A, B, rfl, hd, rfl, pm⟩ := hi
      have hf := fits_app (fits_perm pm hs)
      have hlen := pm.length_eq
      rw [List.length_append] at hlen
      simp -implicitDefEqProofs only [↓wVar_ap, ↓wC_ap, ↓wOp_ap, ↓wUn_ap, ↓wII_ap, ↓wIC_ap, ↓wIB_ap, ↓wNeg_ap, ↓wEqI_ap, ↓wEqD_ap, ↓wIsN_ap, ↓wAndV_ap, ↓wOrV_ap, ↓wNotV_ap, ↓wTest_ap, ↓wAnd_ap, ↓wOr_ap, ↓wNot_ap, ↓wIfE_ap, ↓wNil_ap, ↓wCons_ap, ↓wCB_ap, ↓wTup_ap, ↓wLst_ap, ↓wFrz_ap, ↓wCallP_ap, ↓wCallM_ap, ↓wBM_ap, ↓wBM0_ap, ↓wAppend_ap, ↓wExtend_ap, ↓wPopAt_ap, ↓wPop_ap, ↓wReverse_ap, ↓wIxL_ap, ↓wIxT_ap, ↓wNoPart_ap, ↓wPart_ap, ↓wSl_ap, ↓wSlL_ap, ↓wSlT_ap, ↓wLen_ap, ↓wListOf_ap, ↓wTupleOf_ap, ↓wAbs_ap, ↓wCatT_ap, ↓wCat_ap, ↓wRep_ap, ↓wInI_ap, ↓wRng1_ap, ↓wRng2_ap, ↓wRng3_ap, ↓wIList_ap, ↓wITup_ap, ↓wName_ap, ↓wgNil_ap, ↓wgCons_ap, ↓wgTup_ap, ↓wgLst_ap, ↓wgSub_ap, ↓wNext_ap, ↓wSeq_ap, ↓wAsg_ap, ↓wDrop_ap, ↓wRet_ap, ↓wRetN_ap, ↓wNever_ap, ↓wBreak_ap, ↓wCont_ap, ↓wPar_ap, ↓wAug_ap, ↓wIsT_ap, ↓wEnumT_ap, ↓wEnum_ap, ↓wChainF_ap, ↓wDNew_ap, ↓wDIn_ap, ↓wDGet_ap, ↓wDGet2_ap, ↓wDPut_ap, ↓wDUpd_ap, ↓wRg1_ap, ↓wRg2_ap, ↓wLstRg_ap, ↓wTupRg_ap, ↓wFrzV_ap, ↓wIxA_ap, ↓wTIdx_ap, ↓wLIdx_ap, ↓wAddD_ap, fMax, fMin, fSorted, ↓wIf_ap, ↓wThen_ap, ↓wFor_ap, ↓wWhile_ap, ↓wLc_ap, ↓wDc_ap, RetOk_fz, RetOk_ls, RetOk_rf, imm_int, imm_bool, imm_str, imm_none, ↓ifB_t, ↓ifB_f, ↓sto, ↓frz, stL, isNum_t, Int.reducePow, Int.reduceSub, Int.reduceAdd, Int.reduceMul, wInts, wBls, vl, vls, its, lsOf, oLs, oL, upL, fzs, keyOf, dkOf, isN, wipeS, ownFree, own_fz, own_un, own_rf, own_ls, own_lb, own_dk, List.map_cons, List.map_nil, List.all_cons, List.all_nil, List.set, List.getD_cons_zero, List.getD_cons_succ, List.getD_nil, List.getElem?_cons_zero, List.getElem?_cons_succ, Option.getD_some, List.getElem?_nil, Option.getD_none, Option.map_some, Option.map_none, Bool.false_eq_true, if_true, if_false, Bool.not_true, Bool.not_false, Bool.and_true, Bool.true_and, reduceCtorEq, and_true, true_and, and_false, false_and, Option.some.injEq, AV.fz.injEq, AV.ls.injEq, AV.lb.injEq, AV.dk.injEq, List.cons.injEq, PyData.int.injEq, PyData.list.injEq, PyData.tuple.injEq, exists_eq_left', exists_eq_left, List.length_cons, List.length_nil, Nat.reduceAdd, Int.reduceToNat, List.eraseIdx, isi_int_none, isi_int_bool, isi_int_int, isi_int_str, isi_int_list, isi_int_tuple, isi_bool_none, isi_bool_bool, isi_bool_int, isi_bool_str, isi_bool_list, isi_bool_tuple, isi_str_none, isi_str_bool, isi_str_int, isi_str_str, isi_str_list, isi_str_tuple, isi_tuple_none, isi_tuple_bool, isi_tuple_int, isi_tuple_str, isi_tuple_list, isi_tuple_tuple, isi_list_none, isi_list_bool, isi_list_int, isi_list_str, isi_list_list, isi_list_tuple, atI_0, atI_1, atI_2, ixN_0, ixN_1]
      refine ⟨Nat.zero_le _, _, _, rfl, rfl, shaped_list hf.2 (by decide), shaped_nil, ?_⟩
      rw [eqv_nil]
      cases A with
      | nil =>
        simp -implicitDefEqProofs only [↓wVar_ap, ↓wC_ap, ↓wOp_ap, ↓wUn_ap, ↓wII_ap, ↓wIC_ap, ↓wIB_ap, ↓wNeg_ap, ↓wEqI_ap, ↓wEqD_ap, ↓wIsN_ap, ↓wAndV_ap, ↓wOrV_ap, ↓wNotV_ap, ↓wTest_ap, ↓wAnd_ap, ↓wOr_ap, ↓wNot_ap, ↓wIfE_ap, ↓wNil_ap, ↓wCons_ap, ↓wCB_ap, ↓wTup_ap, ↓wLst_ap, ↓wFrz_ap, ↓wCallP_ap, ↓wCallM_ap, ↓wBM_ap, ↓wBM0_ap, ↓wAppend_ap, ↓wExtend_ap, ↓wPopAt_ap, ↓wPop_ap, ↓wReverse_ap, ↓wIxL_ap, ↓wIxT_ap, ↓wNoPart_ap, ↓wPart_ap, ↓wSl_ap, ↓wSlL_ap, ↓wSlT_ap, ↓wLen_ap, ↓wListOf_ap, ↓wTupleOf_ap, ↓wAbs_ap, ↓wCatT_ap, ↓wCat_ap, ↓wRep_ap, ↓wInI_ap, ↓wRng1_ap, ↓wRng2_ap, ↓wRng3_ap, ↓wIList_ap, ↓wITup_ap, ↓wName_ap, ↓wgNil_ap, ↓wgCons_ap, ↓wgTup_ap, ↓wgLst_ap, ↓wgSub_ap, ↓wNext_ap, ↓wSeq_ap, ↓wAsg_ap, ↓wDrop_ap, ↓wRet_ap, ↓wRetN_ap, ↓wNever_ap, ↓wBreak_ap, ↓wCont_ap, ↓wPar_ap, ↓wAug_ap, ↓wIsT_ap, ↓wEnumT_ap, ↓wEnum_ap, ↓wChainF_ap, ↓wDNew_ap, ↓wDIn_ap, ↓wDGet_ap, ↓wDGet2_ap, ↓wDPut_ap, ↓wDUpd_ap, ↓wRg1_ap, ↓wRg2_ap, ↓wLstRg_ap, ↓wTupRg_ap, ↓wFrzV_ap, ↓wIxA_ap, ↓wTIdx_ap, ↓wLIdx_ap, ↓wAddD_ap, fMax, fMin, fSorted, ↓wIf_ap, ↓wThen_ap, ↓wFor_ap, ↓wWhile_ap, ↓wLc_ap, ↓wDc_ap, RetOk_fz, RetOk_ls, RetOk_rf, imm_int, imm_bool, imm_str, imm_none, ↓ifB_t, ↓ifB_f, ↓sto, ↓frz, stL, isNum_t, Int.reducePow, Int.reduceSub, Int.reduceAdd, Int.reduceMul, wInts, wBls, vl, vls, its, lsOf, oLs, oL, upL, fzs, keyOf, dkOf, isN, wipeS, ownFree, own_fz, own_un, own_rf, own_ls, own_lb, own_dk, List.map_cons, List.map_nil, List.all_cons, List.all_nil, List.set, List.getD_cons_zero, List.getD_cons_succ, List.getD_nil, List.getElem?_cons_zero, List.getElem?_cons_succ, Option.getD_some, List.getElem?_nil, Option.getD_none, Option.map_some, Option.map_none, Bool.false_eq_true, if_true, if_false, Bool.not_true, Bool.not_false, Bool.and_true, Bool.true_and, reduceCtorEq, and_true, true_and, and_false, false_and, Option.some.injEq, AV.fz.injEq, AV.ls.injEq, AV.lb.injEq, AV.dk.injEq, List.cons.injEq, PyData.int.injEq, PyData.list.injEq, PyData.tuple.injEq, exists_eq_left', exists_eq_left, List.length_cons, List.length_nil, Nat.reduceAdd, Int.reduceToNat, List.eraseIdx, isi_int_none, isi_int_bool, isi_int_int, isi_int_str, isi_int_list, isi_int_tuple, isi_bool_none, isi_bool_bool, isi_bool_int, isi_bool_str, isi_bool_list, isi_bool_tuple, isi_str_none, isi_str_bool, isi_str_int, isi_str_str, isi_str_list, isi_str_tuple, isi_tuple_none, isi_tuple_bool, isi_tuple_int, isi_tuple_str, isi_tuple_list, isi_tuple_tuple, isi_list_none, isi_list_bool, isi_list_int, isi_list_str, isi_list_list, isi_list_tuple, atI_0, atI_1, atI_2, ixN_0, ixN_1, List.isEmpty_nil]
        rw [List.append_nil] at pm
        exact ⟨hd.imm, fits_imm hf.1, hd, _, _, (by first | exact .inl rfl | exact .inr rfl), rfl, pm⟩
      | cons x A =>
        simp -implicitDefEqProofs only [↓wVar_ap, ↓wC_ap, ↓wOp_ap, ↓wUn_ap, ↓wII_ap, ↓wIC_ap, ↓wIB_ap, ↓wNeg_ap, ↓wEqI_ap, ↓wEqD_ap, ↓wIsN_ap, ↓wAndV_ap, ↓wOrV_ap, ↓wNotV_ap, ↓wTest_ap, ↓wAnd_ap, ↓wOr_ap, ↓wNot_ap, ↓wIfE_ap, ↓wNil_ap, ↓wCons_ap, ↓wCB_ap, ↓wTup_ap, ↓wLst_ap, ↓wFrz_ap, ↓wCallP_ap, ↓wCallM_ap, ↓wBM_ap, ↓wBM0_ap, ↓wAppend_ap, ↓wExtend_ap, ↓wPopAt_ap, ↓wPop_ap, ↓wReverse_ap, ↓wIxL_ap, ↓wIxT_ap, ↓wNoPart_ap, ↓wPart_ap, ↓wSl_ap, ↓wSlL_ap, ↓wSlT_ap, ↓wLen_ap, ↓wListOf_ap, ↓wTupleOf_ap, ↓wAbs_ap, ↓wCatT_ap, ↓wCat_ap, ↓wRep_ap, ↓wInI_ap, ↓wRng1_ap, ↓wRng2_ap, ↓wRng3_ap, ↓wIList_ap, ↓wITup_ap, ↓wName_ap, ↓wgNil_ap, ↓wgCons_ap, ↓wgTup_ap, ↓wgLst_ap, ↓wgSub_ap, ↓wNext_ap, ↓wSeq_ap, ↓wAsg_ap, ↓wDrop_ap, ↓wRet_ap, ↓wRetN_ap, ↓wNever_ap, ↓wBreak_ap, ↓wCont_ap, ↓wPar_ap, ↓wAug_ap, ↓wIsT_ap, ↓wEnumT_ap, ↓wEnum_ap, ↓wChainF_ap, ↓wDNew_ap, ↓wDIn_ap, ↓wDGet_ap, ↓wDGet2_ap, ↓wDPut_ap, ↓wDUpd_ap, ↓wRg1_ap, ↓wRg2_ap, ↓wLstRg_ap, ↓wTupRg_ap, ↓wFrzV_ap, ↓wIxA_ap, ↓wTIdx_ap, ↓wLIdx_ap, ↓wAddD_ap, fMax, fMin, fSorted, ↓wIf_ap, ↓wThen_ap, ↓wFor_ap, ↓wWhile_ap, ↓wLc_ap, ↓wDc_ap, RetOk_fz, RetOk_ls, RetOk_rf, imm_int, imm_bool, imm_str, imm_none, ↓ifB_t, ↓ifB_f, ↓sto, ↓frz, stL, isNum_t, Int.reducePow, Int.reduceSub, Int.reduceAdd, Int.reduceMul, wInts, wBls, vl, vls, its, lsOf, oLs, oL, upL, fzs, keyOf, dkOf, isN, wipeS, ownFree, own_fz, own_un, own_rf, own_ls, own_lb, own_dk, List.map_cons, List.map_nil, List.all_cons, List.all_nil, List.set, List.getD_cons_zero, List.getD_cons_succ, List.getD_nil, List.getElem?_cons_zero, List.getElem?_cons_succ, Option.getD_some, List.getElem?_nil, Option.getD_none, Option.map_some, Option.map_none, Bool.false_eq_true, if_true, if_false, Bool.not_true, Bool.not_false, Bool.and_true, Bool.true_and, reduceCtorEq, and_true, true_and, and_false, false_and, Option.some.injEq, AV.fz.injEq, AV.ls.injEq, AV.lb.injEq, AV.dk.injEq, List.cons.injEq, PyData.int.injEq, PyData.list.injEq, PyData.tuple.injEq, exists_eq_left', exists_eq_left, List.length_cons, List.length_nil, Nat.reduceAdd, Int.reduceToNat, List.eraseIdx, isi_int_none, isi_int_bool, isi_int_int, isi_int_str, isi_int_list, isi_int_tuple, isi_bool_none, isi_bool_bool, isi_bool_int, isi_bool_str, isi_bool_list, isi_bool_tuple, isi_str_none, isi_str_bool, isi_str_int, isi_str_str, isi_str_list, isi_str_tuple, isi_tuple_none, isi_tuple_bool, isi_tuple_int, isi_tuple_str, isi_tuple_list, isi_tuple_tuple, isi_list_none, isi_list_bool, isi_list_int, isi_list_str, isi_list_list, isi_list_tuple, atI_0, atI_1, atI_2, ixN_0, ixN_1, List.isEmpty_cons]
        rw [List.length_cons] at hlen
        refine ⟨_, _, rfl, rfl, rfl, ⟨hd, _, rfl, by omega, by omega⟩, fun l' y hy => ?_⟩
        obtain ⟨hd', r, u, e, rfl, r0, r1⟩ := hy
        have e : (A.length : Int) + 1 = u := by simpa using e
        simp -implicitDefEqProofs only [↓wVar_ap, ↓wC_ap, ↓wOp_ap, ↓wUn_ap, ↓wII_ap, ↓wIC_ap, ↓wIB_ap, ↓wNeg_ap, ↓wEqI_ap, ↓wEqD_ap, ↓wIsN_ap, ↓wAndV_ap, ↓wOrV_ap, ↓wNotV_ap, ↓wTest_ap, ↓wAnd_ap, ↓wOr_ap, ↓wNot_ap, ↓wIfE_ap, ↓wNil_ap, ↓wCons_ap, ↓wCB_ap, ↓wTup_ap, ↓wLst_ap, ↓wFrz_ap, ↓wCallP_ap, ↓wCallM_ap, ↓wBM_ap, ↓wBM0_ap, ↓wAppend_ap, ↓wExtend_ap, ↓wPopAt_ap, ↓wPop_ap, ↓wReverse_ap, ↓wIxL_ap, ↓wIxT_ap, ↓wNoPart_ap, ↓wPart_ap, ↓wSl_ap, ↓wSlL_ap, ↓wSlT_ap, ↓wLen_ap, ↓wListOf_ap, ↓wTupleOf_ap, ↓wAbs_ap, ↓wCatT_ap, ↓wCat_ap, ↓wRep_ap, ↓wInI_ap, ↓wRng1_ap, ↓wRng2_ap, ↓wRng3_ap, ↓wIList_ap, ↓wITup_ap, ↓wName_ap, ↓wgNil_ap, ↓wgCons_ap, ↓wgTup_ap, ↓wgLst_ap, ↓wgSub_ap, ↓wNext_ap, ↓wSeq_ap, ↓wAsg_ap, ↓wDrop_ap, ↓wRet_ap, ↓wRetN_ap, ↓wNever_ap, ↓wBreak_ap, ↓wCont_ap, ↓wPar_ap, ↓wAug_ap, ↓wIsT_ap, ↓wEnumT_ap, ↓wEnum_ap, ↓wChainF_ap, ↓wDNew_ap, ↓wDIn_ap, ↓wDGet_ap, ↓wDGet2_ap, ↓wDPut_ap, ↓wDUpd_ap, ↓wRg1_ap, ↓wRg2_ap, ↓wLstRg_ap, ↓wTupRg_ap, ↓wFrzV_ap, ↓wIxA_ap, ↓wTIdx_ap, ↓wLIdx_ap, ↓wAddD_ap, fMax, fMin, fSorted, ↓wIf_ap, ↓wThen_ap, ↓wFor_ap, ↓wWhile_ap, ↓wLc_ap, ↓wDc_ap, RetOk_fz, RetOk_ls, RetOk_rf, imm_int, imm_bool, imm_str, imm_none, ↓ifB_t, ↓ifB_f, ↓sto, ↓frz, stL, isNum_t, Int.reducePow, Int.reduceSub, Int.reduceAdd, Int.reduceMul, wInts, wBls, vl, vls, its, lsOf, oLs, oL, upL, fzs, keyOf, dkOf, isN, wipeS, ownFree, own_fz, own_un, own_rf, own_ls, own_lb, own_dk, List.map_cons, List.map_nil, List.all_cons, List.all_nil, List.set, List.getD_cons_zero, List.getD_cons_succ, List.getD_nil, List.getElem?_cons_zero, List.getElem?_cons_succ, Option.getD_some, List.getElem?_nil, Option.getD_none, Option.map_some, Option.map_none, Bool.false_eq_true, if_true, if_false, Bool.not_true, Bool.not_false, Bool.and_true, Bool.true_and, reduceCtorEq, and_true, true_and, and_false, false_and, Option.some.injEq, AV.fz.injEq, AV.ls.injEq, AV.lb.injEq, AV.dk.injEq, List.cons.injEq, PyData.int.injEq, PyData.list.injEq, PyData.tuple.injEq, exists_eq_left', exists_eq_left, List.length_cons, List.length_nil, Nat.reduceAdd, Int.reduceToNat, List.eraseIdx, isi_int_none, isi_int_bool, isi_int_int, isi_int_str, isi_int_list, isi_int_tuple, isi_bool_none, isi_bool_bool, isi_bool_int, isi_bool_str, isi_bool_list, isi_bool_tuple, isi_str_none, isi_str_bool, isi_str_int, isi_str_str, isi_str_list, isi_str_tuple, isi_tuple_none, isi_tuple_bool, isi_tuple_int, isi_tuple_str, isi_tuple_list, isi_tuple_tuple, isi_list_none, isi_list_bool, isi_list_int, isi_list_str, isi_list_list, isi_list_tuple, atI_0, atI_1, atI_2, ixN_0, ixN_1]
        have hr : r.toNat < (x :: A).length := by rw [List.length_cons]; omega
        refine ⟨r0, by omega, by omega, _, List.getElem?_eq_getElem hr, by omega, A.length, by omega, l', _, _, ⟨rfl, rfl, rfl⟩, hd', ?_, ?_⟩
        · rw [List.length_eraseIdx_of_lt hr, List.length_cons]; omega
        · rw [List.append_assoc]
          exact ((eraseIdx_perm (List.getElem?_eq_getElem hr)).append_left B).trans pm⟩
def pre_cards_L : List D → List D → Prop := preD fun dl => ∃ n : Int, dl = [.int n] ∧ 2 ≤ n ∧ n ≤ 100
def post_cards_L : List D → List D → List D → AV → Prop := postD fun dl x => ∃ (c : List Nat) (n : Int), dl = [.int n] ∧ x = .fz (.tuple (nts c)) ∧ (c.length : Int) ≤ n ∧ IsC c
theorem pick3 {kd i1 i2 : Int} {a b : Nat} (k0 : 0 ≤ kd) (k1 : kd < 4) (hk : decide (kd = 0) = false) (e1 : i1 = (a : Int)) (e2 : i2 = (b : Int)) (ha : 0 < a ∧ a ≤ 1000) (hb : 0 < b ∧ b ≤ 1000) : ∃ n : Nat, atI [PyData.int i1, .int 2, .int i2] (kd - 1) = some (.int (n : Int)) ∧ 0 < n ∧ n ≤ 1000 := by
  have hk : kd ≠ 0 := of_decide_eq_false hk
  subst e1 e2
  rcases (show kd = 1 ∨ kd = 2 ∨ kd = 3 by omega) with rfl | rfl | rfl
  · exact ⟨a, atI_0 _ _, ha.1, ha.2⟩
  · exact ⟨2, atI_1 _ _ _, by omega, by omega⟩
  · exact ⟨b, atI_2 _ _ _ _, hb.1, hb.2⟩
theorem cards_inner {N : AEnds} {z0 z1 z2 z3 z4 z5 z7 y9 : AV} {ring fo : List Nat} {n : Nat} (hl : fo.length = n) (hb : ∀ x ∈ ring, x < n) (hr : ring.length ≤ 1000) (h : ∀ y9, N.nx [z0, z1, z2, z3, z4, z5, .ls (nts (cyc ring fo ring.length)), z7, .ls (nts ring), y9]) :
    forB (wName 9) (wAsg (wOp wIxL (wVar 8) (wOp (wIC (fun x j => 0 < j) fun i j => i % j) (wOp (wII fun i j => i + j) (wVar 9) (wC (PyData.int 1))) (wCB wLen (wCons (wVar 8) wNil)))) (wgSub (wVar 6) (wOp wIxL (wVar 8) (wVar 9)))) N
      [z0, z1, z2, z3, z4, z5, .ls (nts fo), z7, .ls (nts ring), y9] (rng 0 (ring.length : Int).toNat) := by
  rw [Int.toNat_natCast, rng_nts]
  refine forB_i (fun k ds => ∃ y9, ds = [z0, z1, z2, z3, z4, z5, .ls (nts (cyc ring fo k)), z7, .ls (nts ring), y9]) ⟨y9, rfl⟩ (fun k d ds hd hi => ?_) (fun ds hi => ?_)
  · obtain ⟨y9, rfl⟩ := hi
    obtain ⟨k', rfl, hk⟩ := nts_at hd
    have hk1 : k < ring.length := by
      have := (List.getElem?_eq_some_iff.mp hk).1
      rwa [List.length_range] at this
    rw [List.getElem?_range hk1] at hk
    cases hk
    have hm : (k + 1) % ring.length < ring.length := Nat.mod_lt _ (by omega)
    have e1 : ((k : Int) + 1) % (ring.length : Int) = (((k + 1) % ring.length : Nat) : Int) := by
      rw [Int.natCast_emod]
      rfl
    simp -implicitDefEqProofs only [↓wVar_ap, ↓wC_ap, ↓wOp_ap, ↓wUn_ap, ↓wII_ap, ↓wIC_ap, ↓wIB_ap, ↓wNeg_ap, ↓wEqI_ap, ↓wEqD_ap, ↓wIsN_ap, ↓wAndV_ap, ↓wOrV_ap, ↓wNotV_ap, ↓wTest_ap, ↓wAnd_ap, ↓wOr_ap, ↓wNot_ap, ↓wIfE_ap, ↓wNil_ap, ↓wCons_ap, ↓wCB_ap, ↓wTup_ap, ↓wLst_ap, ↓wFrz_ap, ↓wCallP_ap, ↓wCallM_ap, ↓wBM_ap, ↓wBM0_ap, ↓wAppend_ap, ↓wExtend_ap, ↓wPopAt_ap, ↓wPop_ap, ↓wReverse_ap, ↓wIxL_ap, ↓wIxT_ap, ↓wNoPart_ap, ↓wPart_ap, ↓wSl_ap, ↓wSlL_ap, ↓wSlT_ap, ↓wLen_ap, ↓wListOf_ap, ↓wTupleOf_ap, ↓wAbs_ap, ↓wCatT_ap, ↓wCat_ap, ↓wRep_ap, ↓wInI_ap, ↓wRng1_ap, ↓wRng2_ap, ↓wRng3_ap, ↓wIList_ap, ↓wITup_ap, ↓wName_ap, ↓wgNil_ap, ↓wgCons_ap, ↓wgTup_ap, ↓wgLst_ap, ↓wgSub_ap, ↓wNext_ap, ↓wSeq_ap, ↓wAsg_ap, ↓wDrop_ap, ↓wRet_ap, ↓wRetN_ap, ↓wNever_ap, ↓wBreak_ap, ↓wCont_ap, ↓wPar_ap, ↓wAug_ap, ↓wIsT_ap, ↓wEnumT_ap, ↓wEnum_ap, ↓wChainF_ap, ↓wDNew_ap, ↓wDIn_ap, ↓wDGet_ap, ↓wDGet2_ap, ↓wDPut_ap, ↓wDUpd_ap, ↓wRg1_ap, ↓wRg2_ap, ↓wLstRg_ap, ↓wTupRg_ap, ↓wFrzV_ap, ↓wIxA_ap, ↓wTIdx_ap, ↓wLIdx_ap, ↓wAddD_ap, fMax, fMin, fSorted, ↓wIf_ap, ↓wThen_ap, ↓wFor_ap, ↓wWhile_ap, ↓wLc_ap, ↓wDc_ap, RetOk_fz, RetOk_ls, RetOk_rf, imm_int, imm_bool, imm_str, imm_none, ↓ifB_t, ↓ifB_f, ↓sto, ↓frz, stL, isNum_t, Int.reducePow, Int.reduceSub, Int.reduceAdd, Int.reduceMul, wInts, wBls, vl, vls, its, lsOf, oLs, oL, upL, fzs, keyOf, dkOf, isN, wipeS, ownFree, own_fz, own_un, own_rf, own_ls, own_lb, own_dk, List.map_cons, List.map_nil, List.all_cons, List.all_nil, List.set, List.getD_cons_zero, List.getD_cons_succ, List.getD_nil, List.getElem?_cons_zero, List.getElem?_cons_succ, Option.getD_some, List.getElem?_nil, Option.getD_none, Option.map_some, Option.map_none, Bool.false_eq_true, if_true, if_false, Bool.not_true, Bool.not_false, Bool.and_true, Bool.true_and, reduceCtorEq, and_true, true_and, and_false, false_and, Option.some.injEq, AV.fz.injEq, AV.ls.injEq, AV.lb.injEq, AV.dk.injEq, List.cons.injEq, PyData.int.injEq, PyData.list.injEq, PyData.tuple.injEq, exists_eq_left', exists_eq_left, List.length_cons, List.length_nil, Nat.reduceAdd, Int.reduceToNat, List.eraseIdx, isi_int_none, isi_int_bool, isi_int_int, isi_int_str, isi_int_list, isi_int_tuple, isi_bool_none, isi_bool_bool, isi_bool_int, isi_bool_str, isi_bool_list, isi_bool_tuple, isi_str_none, isi_str_bool, isi_str_int, isi_str_str, isi_str_list, isi_str_tuple, isi_tuple_none, isi_tuple_bool, isi_tuple_int, isi_tuple_str, isi_tuple_list, isi_tuple_tuple, isi_list_none, isi_list_bool, isi_list_int, isi_list_str, isi_list_list, isi_list_tuple, atI_0, atI_1, atI_2, ixN_0, ixN_1, nt_def, nts_len, e1]
    have hg : ring.getD k 0 < (cyc ring fo k).length := by
      rw [cyc_len, hl]
      exact hb _ (List.mem_of_getElem? (getElem_getD hk1))
    refine ⟨by omega, _, nts_atD hm, ?_⟩
    simp -implicitDefEqProofs only [↓wVar_ap, ↓wC_ap, ↓wOp_ap, ↓wUn_ap, ↓wII_ap, ↓wIC_ap, ↓wIB_ap, ↓wNeg_ap, ↓wEqI_ap, ↓wEqD_ap, ↓wIsN_ap, ↓wAndV_ap, ↓wOrV_ap, ↓wNotV_ap, ↓wTest_ap, ↓wAnd_ap, ↓wOr_ap, ↓wNot_ap, ↓wIfE_ap, ↓wNil_ap, ↓wCons_ap, ↓wCB_ap, ↓wTup_ap, ↓wLst_ap, ↓wFrz_ap, ↓wCallP_ap, ↓wCallM_ap, ↓wBM_ap, ↓wBM0_ap, ↓wAppend_ap, ↓wExtend_ap, ↓wPopAt_ap, ↓wPop_ap, ↓wReverse_ap, ↓wIxL_ap, ↓wIxT_ap, ↓wNoPart_ap, ↓wPart_ap, ↓wSl_ap, ↓wSlL_ap, ↓wSlT_ap, ↓wLen_ap, ↓wListOf_ap, ↓wTupleOf_ap, ↓wAbs_ap, ↓wCatT_ap, ↓wCat_ap, ↓wRep_ap, ↓wInI_ap, ↓wRng1_ap, ↓wRng2_ap, ↓wRng3_ap, ↓wIList_ap, ↓wITup_ap, ↓wName_ap, ↓wgNil_ap, ↓wgCons_ap, ↓wgTup_ap, ↓wgLst_ap, ↓wgSub_ap, ↓wNext_ap, ↓wSeq_ap, ↓wAsg_ap, ↓wDrop_ap, ↓wRet_ap, ↓wRetN_ap, ↓wNever_ap, ↓wBreak_ap, ↓wCont_ap, ↓wPar_ap, ↓wAug_ap, ↓wIsT_ap, ↓wEnumT_ap, ↓wEnum_ap, ↓wChainF_ap, ↓wDNew_ap, ↓wDIn_ap, ↓wDGet_ap, ↓wDGet2_ap, ↓wDPut_ap, ↓wDUpd_ap, ↓wRg1_ap, ↓wRg2_ap, ↓wLstRg_ap, ↓wTupRg_ap, ↓wFrzV_ap, ↓wIxA_ap, ↓wTIdx_ap, ↓wLIdx_ap, ↓wAddD_ap, fMax, fMin, fSorted, ↓wIf_ap, ↓wThen_ap, ↓wFor_ap, ↓wWhile_ap, ↓wLc_ap, ↓wDc_ap, RetOk_fz, RetOk_ls, RetOk_rf, imm_int, imm_bool, imm_str, imm_none, ↓ifB_t, ↓ifB_f, ↓sto, ↓frz, stL, isNum_t, Int.reducePow, Int.reduceSub, Int.reduceAdd, Int.reduceMul, wInts, wBls, vl, vls, its, lsOf, oLs, oL, upL, fzs, keyOf, dkOf, isN, wipeS, ownFree, own_fz, own_un, own_rf, own_ls, own_lb, own_dk, List.map_cons, List.map_nil, List.all_cons, List.all_nil, List.set, List.getD_cons_zero, List.getD_cons_succ, List.getD_nil, List.getElem?_cons_zero, List.getElem?_cons_succ, Option.getD_some, List.getElem?_nil, Option.getD_none, Option.map_some, Option.map_none, Bool.false_eq_true, if_true, if_false, Bool.not_true, Bool.not_false, Bool.and_true, Bool.true_and, reduceCtorEq, and_true, true_and, and_false, false_and, Option.some.injEq, AV.fz.injEq, AV.ls.injEq, AV.lb.injEq, AV.dk.injEq, List.cons.injEq, PyData.int.injEq, PyData.list.injEq, PyData.tuple.injEq, exists_eq_left', exists_eq_left, List.length_cons, List.length_nil, Nat.reduceAdd, Int.reduceToNat, List.eraseIdx, isi_int_none, isi_int_bool, isi_int_int, isi_int_str, isi_int_list, isi_int_tuple, isi_bool_none, isi_bool_bool, isi_bool_int, isi_bool_str, isi_bool_list, isi_bool_tuple, isi_str_none, isi_str_bool, isi_str_int, isi_str_str, isi_str_list, isi_str_tuple, isi_tuple_none, isi_tuple_bool, isi_tuple_int, isi_tuple_str, isi_tuple_list, isi_tuple_tuple, isi_list_none, isi_list_bool, isi_list_int, isi_list_str, isi_list_list, isi_list_tuple, atI_0, atI_1, atI_2, ixN_0, ixN_1, nt_def, nts_len]
    refine ⟨_, nts_atD hk1, ?_⟩
    simp -implicitDefEqProofs only [↓wVar_ap, ↓wC_ap, ↓wOp_ap, ↓wUn_ap, ↓wII_ap, ↓wIC_ap, ↓wIB_ap, ↓wNeg_ap, ↓wEqI_ap, ↓wEqD_ap, ↓wIsN_ap, ↓wAndV_ap, ↓wOrV_ap, ↓wNotV_ap, ↓wTest_ap, ↓wAnd_ap, ↓wOr_ap, ↓wNot_ap, ↓wIfE_ap, ↓wNil_ap, ↓wCons_ap, ↓wCB_ap, ↓wTup_ap, ↓wLst_ap, ↓wFrz_ap, ↓wCallP_ap, ↓wCallM_ap, ↓wBM_ap, ↓wBM0_ap, ↓wAppend_ap, ↓wExtend_ap, ↓wPopAt_ap, ↓wPop_ap, ↓wReverse_ap, ↓wIxL_ap, ↓wIxT_ap, ↓wNoPart_ap, ↓wPart_ap, ↓wSl_ap, ↓wSlL_ap, ↓wSlT_ap, ↓wLen_ap, ↓wListOf_ap, ↓wTupleOf_ap, ↓wAbs_ap, ↓wCatT_ap, ↓wCat_ap, ↓wRep_ap, ↓wInI_ap, ↓wRng1_ap, ↓wRng2_ap, ↓wRng3_ap, ↓wIList_ap, ↓wITup_ap, ↓wName_ap, ↓wgNil_ap, ↓wgCons_ap, ↓wgTup_ap, ↓wgLst_ap, ↓wgSub_ap, ↓wNext_ap, ↓wSeq_ap, ↓wAsg_ap, ↓wDrop_ap, ↓wRet_ap, ↓wRetN_ap, ↓wNever_ap, ↓wBreak_ap, ↓wCont_ap, ↓wPar_ap, ↓wAug_ap, ↓wIsT_ap, ↓wEnumT_ap, ↓wEnum_ap, ↓wChainF_ap, ↓wDNew_ap, ↓wDIn_ap, ↓wDGet_ap, ↓wDGet2_ap, ↓wDPut_ap, ↓wDUpd_ap, ↓wRg1_ap, ↓wRg2_ap, ↓wLstRg_ap, ↓wTupRg_ap, ↓wFrzV_ap, ↓wIxA_ap, ↓wTIdx_ap, ↓wLIdx_ap, ↓wAddD_ap, fMax, fMin, fSorted, ↓wIf_ap, ↓wThen_ap, ↓wFor_ap, ↓wWhile_ap, ↓wLc_ap, ↓wDc_ap, RetOk_fz, RetOk_ls, RetOk_rf, imm_int, imm_bool, imm_str, imm_none, ↓ifB_t, ↓ifB_f, ↓sto, ↓frz, stL, isNum_t, Int.reducePow, Int.reduceSub, Int.reduceAdd, Int.reduceMul, wInts, wBls, vl, vls, its, lsOf, oLs, oL, upL, fzs, keyOf, dkOf, isN, wipeS, ownFree, own_fz, own_un, own_rf, own_ls, own_lb, own_dk, List.map_cons, List.map_nil, List.all_cons, List.all_nil, List.set, List.getD_cons_zero, List.getD_cons_succ, List.getD_nil, List.getElem?_cons_zero, List.getElem?_cons_succ, Option.getD_some, List.getElem?_nil, Option.getD_none, Option.map_some, Option.map_none, Bool.false_eq_true, if_true, if_false, Bool.not_true, Bool.not_false, Bool.and_true, Bool.true_and, reduceCtorEq, and_true, true_and, and_false, false_and, Option.some.injEq, AV.fz.injEq, AV.ls.injEq, AV.lb.injEq, AV.dk.injEq, List.cons.injEq, PyData.int.injEq, PyData.list.injEq, PyData.tuple.injEq, exists_eq_left', exists_eq_left, List.length_cons, List.length_nil, Nat.reduceAdd, Int.reduceToNat, List.eraseIdx, isi_int_none, isi_int_bool, isi_int_int, isi_int_str, isi_int_list, isi_int_tuple, isi_bool_none, isi_bool_bool, isi_bool_int, isi_bool_str, isi_bool_list, isi_bool_tuple, isi_str_none, isi_str_bool, isi_str_int, isi_str_str, isi_str_list, isi_str_tuple, isi_tuple_none, isi_tuple_bool, isi_tuple_int, isi_tuple_str, isi_tuple_list, isi_tuple_tuple, isi_list_none, isi_list_bool, isi_list_int, isi_list_str, isi_list_list, isi_list_tuple, atI_0, atI_1, atI_2, ixN_0, ixN_1, nt_def, nts_len, ixN_nat hg]
    refine ⟨_, ?_, rfl⟩
    show (nts (cyc ring fo k)).set _ (nt _) = _
    rw [nts_set]
    rfl
  · obtain ⟨y9, rfl⟩ := hi
    rw [nts_len, List.length_range]
    exact h y9
theorem ci_cards_L (n : Nat) {l : List D} {ds : Sto} {j : Nat} {Q : Sto → AV → Prop} (hD : DiceL l) (h1 : 2 ≤ n) (h2 : n ≤ 100) (q : ∀ l' c, DiceL l' → IsC c → c.length ≤ n → Q (stL ds j l') (.fz (.tuple (nts c)))) : callMB pre_cards_L post_cards_L 1 (some l) (some [.int (n : Int)]) ds j Q := callMB_i rfl ⟨hD, _, rfl, by omega, by omega⟩ fun l' x ⟨h3, c, m, e, e2, h4, h5⟩ => by
  have e : (n : Int) = m := by simpa using e
  subst e2
  exact q l' c h3 h5 (by omega)
theorem ok_cards_L {f : Addr} {fd : FuncData} (F : Fun K "_law_cards" "_law_cards" s_cards_L f fd) (T : Txt mg) (C_off_L : Cal P w K mg base 1 "_law_off" (spM 1 pre_off_L post_off_L K)) (C_mixed_L : Cal P w K mg base 2 "_law_mixed" (spM 1 pre_mixed_L post_mixed_L K)) : FnOk P w K mg base CX0 (2 + 1) f fd ["_law_d", "_law_size"] (spM 1 pre_cards_L post_cards_L K) := by
  exact okM F sc_cards_L rfl fun cdv A outer s H E hr => ⟨_, _, (ass_cons (as_set 2 sc_cards_L.nd (ae_op o_add ae_int (ae_callM C_off_L hr (aa_cons (av 0) (aa_cons (ae_op o_sub (av 1) ae_int) aa_nil))))) (ass_cons (as_set 3 sc_cards_L.nd (ae_callM C_mixed_L hr (aa_cons (av 0) (aa_cons ((ae_lstRg T.z_list (arg_1 T.z_range (av 2)))).frz aa_nil)))) (ass_cons (as_set 4 sc_cards_L.nd (ae_callM C_off_L hr (aa_cons (av 0) (aa_cons ae_int aa_nil)))) (ass_cons (as_if (at_cmp c_eq (av 4) ae_int) (ass_one (as_ret (ae_callTy k_tuple T.z_tuple rfl (aa_cons (av 3) aa_nil)))) ass_nil) (ass_cons (as_set 5 sc_cards_L.nd (ae_ixL (ae_lst (aa_cons (ae_op o_add ae_int (ae_callM C_off_L hr (aa_cons (av 0) (aa_cons ae_int aa_nil)))) (aa_cons ae_int (aa_cons (ae_op o_add ae_int (ae_callM C_off_L hr (aa_cons (av 0) (aa_cons (av 2) aa_nil)))) aa_nil)))) (ae_op o_sub (av 4) ae_int))) (ass_cons (as_set 6 sc_cards_L.nd (ae_lstRg T.z_list (arg_1 T.z_range (av 2)))) (ass_cons (as_for (ai_range3 T.z_range (aa_cons ae_int (aa_cons (av 2) (aa_cons (av 5) aa_nil)))) (ag_name 7 sc_cards_L.nd) (ass_cons (as_set 8 sc_cards_L.nd (ae_slL (av 3) (ao_some (av 7)) (ao_some (ae_op o_add (av 7) (av 5))))) (ass_one (as_if (aw_or (at_cmp c_eq (ae_callB k_len T.z_len (by decide +kernel) (aa_cons (av 8) aa_nil)) (av 5)) (aw_or1 (at_cmp c_eq (av 4) ae_int))).pT (ass_one (as_for (ai_range1 T.z_range (aa_cons (ae_callB k_len T.z_len (by decide +kernel) (aa_cons (av 8) aa_nil)) aa_nil)) (ag_name 9 sc_cards_L.nd) (ass_one (as_asg (ae_ixL (av 8) (ae_op o_mod (ae_op o_add (av 9) ae_int) (ae_callB k_len T.z_len (by decide +kernel) (aa_cons (av 8) aa_nil)))) (ag_sub (av 6) (ae_ixL (av 8) (av 9))))))) ass_nil)))) (ass_one (as_ret (ae_callTy k_tuple T.z_tuple rfl (aa_cons (av 6) aa_nil))))))))))), fun l dl hl hp => by
    obtain ⟨hD, n, rfl, n0, n1⟩ := hp
    show (_ : WS) _ [AV.lb l, AV.fz (.int n), .un, .un, .un, .un, .un, .un, .un, .un]
    simp -implicitDefEqProofs only [↓wVar_ap, ↓wC_ap, ↓wOp_ap, ↓wUn_ap, ↓wII_ap, ↓wIC_ap, ↓wIB_ap, ↓wNeg_ap, ↓wEqI_ap, ↓wEqD_ap, ↓wIsN_ap, ↓wAndV_ap, ↓wOrV_ap, ↓wNotV_ap, ↓wTest_ap, ↓wAnd_ap, ↓wOr_ap, ↓wNot_ap, ↓wIfE_ap, ↓wNil_ap, ↓wCons_ap, ↓wCB_ap, ↓wTup_ap, ↓wLst_ap, ↓wFrz_ap, ↓wCallP_ap, ↓wCallM_ap, ↓wBM_ap, ↓wBM0_ap, ↓wAppend_ap, ↓wExtend_ap, ↓wPopAt_ap, ↓wPop_ap, ↓wReverse_ap, ↓wIxL_ap, ↓wIxT_ap, ↓wNoPart_ap, ↓wPart_ap, ↓wSl_ap, ↓wSlL_ap, ↓wSlT_ap, ↓wLen_ap, ↓wListOf_ap, ↓wTupleOf_ap, ↓wAbs_ap, ↓wCatT_ap, ↓wCat_ap, ↓wRep_ap, ↓wInI_ap, ↓wRng1_ap, ↓wRng2_ap, ↓wRng3_ap, ↓wIList_ap, ↓wITup_ap, ↓wName_ap, ↓wgNil_ap, ↓wgCons_ap, ↓wgTup_ap, ↓wgLst_ap, ↓wgSub_ap, ↓wNext_ap, ↓wSeq_ap, ↓wAsg_ap, ↓wDrop_ap, ↓wRet_ap, ↓wRetN_ap, ↓wNever_ap, ↓wBreak_ap, ↓wCont_ap, ↓wPar_ap, ↓wAug_ap, ↓wIsT_ap, ↓wEnumT_ap, ↓wEnum_ap, ↓wChainF_ap, ↓wDNew_ap, ↓wDIn_ap, ↓wDGet_ap, ↓wDGet2_ap, ↓wDPut_ap, ↓wDUpd_ap, ↓wRg1_ap, ↓wRg2_ap, ↓wLstRg_ap, ↓wTupRg_ap, ↓wFrzV_ap, ↓wIxA_ap, ↓wTIdx_ap, ↓wLIdx_ap, ↓wAddD_ap, fMax, fMin, fSorted, ↓wIf_ap, ↓wThen_ap, ↓wFor_ap, ↓wWhile_ap, ↓wLc_ap, ↓wDc_ap, RetOk_fz, RetOk_ls, RetOk_rf, imm_int, imm_bool, imm_str, imm_none, ↓ifB_t, ↓ifB_f, ↓sto, ↓frz, stL, isNum_t, Int.reducePow, Int.reduceSub, Int.reduceAdd, Int.reduceMul, wInts, wBls, vl, vls, its, lsOf, oLs, oL, upL, fzs, keyOf, dkOf, isN, wipeS, ownFree, own_fz, own_un, own_rf, own_ls, own_lb, own_dk, List.map_cons, List.map_nil, List.all_cons, List.all_nil, List.set, List.getD_cons_zero, List.getD_cons_succ, List.getD_nil, List.getElem?_cons_zero, List.getElem?_cons_succ, Option.getD_some, List.getElem?_nil, Option.getD_none, Option.map_some, Option.map_none, Bool.false_eq_true, if_true, if_false, Bool.not_true, Bool.not_false, Bool.and_true, Bool.true_and, reduceCtorEq, and_true, true_and, and_false, false_and, Option.some.injEq, AV.fz.injEq, AV.ls.injEq, AV.lb.injEq, AV.dk.injEq, List.cons.injEq, PyData.int.injEq, PyData.list.injEq, PyData.tuple.injEq, exists_eq_left', exists_eq_left, List.length_cons, List.length_nil, Nat.reduceAdd, Int.reduceToNat, List.eraseIdx, isi_int_none, isi_int_bool, isi_int_int, isi_int_str, isi_int_list, isi_int_tuple, isi_bool_none, isi_bool_bool, isi_bool_int, isi_bool_str, isi_bool_list, isi_bool_tuple, isi_str_none, isi_str_bool, isi_str_int, isi_str_str, isi_str_list, isi_str_tuple, isi_tuple_none, isi_tuple_bool, isi_tuple_int, isi_tuple_str, isi_tuple_list, isi_tuple_tuple, isi_list_none, isi_list_bool, isi_list_int, isi_list_str, isi_list_list, isi_list_tuple, atI_0, atI_1, atI_2, ixN_0, ixN_1]
    refine ⟨_, _, rfl, rfl, rfl, ⟨hD, _, rfl, by omega, by omega⟩, fun l1 x hx => ?_⟩
    obtain ⟨hD1, r, u, e, rfl, r0, r1⟩ := hx
    have e : n - 1 = u := by simpa using e
    obtain ⟨m, rfl⟩ : ∃ m : Nat, r = (m : Int) := ⟨r.toNat, by omega⟩
    have hm : 2 + (m : Int) = ((m + 2 : Nat) : Int) := by omega
    simp -implicitDefEqProofs only [↓wVar_ap, ↓wC_ap, ↓wOp_ap, ↓wUn_ap, ↓wII_ap, ↓wIC_ap, ↓wIB_ap, ↓wNeg_ap, ↓wEqI_ap, ↓wEqD_ap, ↓wIsN_ap, ↓wAndV_ap, ↓wOrV_ap, ↓wNotV_ap, ↓wTest_ap, ↓wAnd_ap, ↓wOr_ap, ↓wNot_ap, ↓wIfE_ap, ↓wNil_ap, ↓wCons_ap, ↓wCB_ap, ↓wTup_ap, ↓wLst_ap, ↓wFrz_ap, ↓wCallP_ap, ↓wCallM_ap, ↓wBM_ap, ↓wBM0_ap, ↓wAppend_ap, ↓wExtend_ap, ↓wPopAt_ap, ↓wPop_ap, ↓wReverse_ap, ↓wIxL_ap, ↓wIxT_ap, ↓wNoPart_ap, ↓wPart_ap, ↓wSl_ap, ↓wSlL_ap, ↓wSlT_ap, ↓wLen_ap, ↓wListOf_ap, ↓wTupleOf_ap, ↓wAbs_ap, ↓wCatT_ap, ↓wCat_ap, ↓wRep_ap, ↓wInI_ap, ↓wRng1_ap, ↓wRng2_ap, ↓wRng3_ap, ↓wIList_ap, ↓wITup_ap, ↓wName_ap, ↓wgNil_ap, ↓wgCons_ap, ↓wgTup_ap, ↓wgLst_ap, ↓wgSub_ap, ↓wNext_ap, ↓wSeq_ap, ↓wAsg_ap, ↓wDrop_ap, ↓wRet_ap, ↓wRetN_ap, ↓wNever_ap, ↓wBreak_ap, ↓wCont_ap, ↓wPar_ap, ↓wAug_ap, ↓wIsT_ap, ↓wEnumT_ap, ↓wEnum_ap, ↓wChainF_ap, ↓wDNew_ap, ↓wDIn_ap, ↓wDGet_ap, ↓wDGet2_ap, ↓wDPut_ap, ↓wDUpd_ap, ↓wRg1_ap, ↓wRg2_ap, ↓wLstRg_ap, ↓wTupRg_ap, ↓wFrzV_ap, ↓wIxA_ap, ↓wTIdx_ap, ↓wLIdx_ap, ↓wAddD_ap, fMax, fMin, fSorted, ↓wIf_ap, ↓wThen_ap, ↓wFor_ap, ↓wWhile_ap, ↓wLc_ap, ↓wDc_ap, RetOk_fz, RetOk_ls, RetOk_rf, imm_int, imm_bool, imm_str, imm_none, ↓ifB_t, ↓ifB_f, ↓sto, ↓frz, stL, isNum_t, Int.reducePow, Int.reduceSub, Int.reduceAdd, Int.reduceMul, wInts, wBls, vl, vls, its, lsOf, oLs, oL, upL, fzs, keyOf, dkOf, isN, wipeS, ownFree, own_fz, own_un, own_rf, own_ls, own_lb, own_dk, List.map_cons, List.map_nil, List.all_cons, List.all_nil, List.set, List.getD_cons_zero, List.getD_cons_succ, List.getD_nil, List.getElem?_cons_zero, List.getElem?_cons_succ, Option.getD_some, List.getElem?_nil, Option.getD_none, Option.map_some, Option.map_none, Bool.false_eq_true, if_true, if_false, Bool.not_true, Bool.not_false, Bool.and_true, Bool.true_and, reduceCtorEq, and_true, true_and, and_false, false_and, Option.some.injEq, AV.fz.injEq, AV.ls.injEq, AV.lb.injEq, AV.dk.injEq, List.cons.injEq, PyData.int.injEq, PyData.list.injEq, PyData.tuple.injEq, exists_eq_left', exists_eq_left, List.length_cons, List.length_nil, Nat.reduceAdd, Int.reduceToNat, List.eraseIdx, isi_int_none, isi_int_bool, isi_int_int, isi_int_str, isi_int_list, isi_int_tuple, isi_bool_none, isi_bool_bool, isi_bool_int, isi_bool_str, isi_bool_list, isi_bool_tuple, isi_str_none, isi_str_bool, isi_str_int, isi_str_str, isi_str_list, isi_str_tuple, isi_tuple_none, isi_tuple_bool, isi_tuple_int, isi_tuple_str, isi_tuple_list, isi_tuple_tuple, isi_list_none, isi_list_bool, isi_list_int, isi_list_str, isi_list_list, isi_list_tuple, atI_0, atI_1, atI_2, ixN_0, ixN_1, hm, Int.sub_zero, Int.toNat_natCast, rng_nts]
    refine ⟨⟨by omega, by omega, by omega, by omega⟩, _, _, rfl, rfl, rfl, ⟨hD1, _, .inl rfl, by rw [nts_len, List.length_range]; omega, nts_fit _ _⟩, fun l2 y hy => ?_⟩
    obtain ⟨hD2, q, q', e2, rfl, pq⟩ := hy
    have e2 : nts (List.range (m + 2)) = q := by simpa using e2
    subst e2
    obtain ⟨ord, rfl, po⟩ := nts_perm pq
    simp -implicitDefEqProofs only [↓wVar_ap, ↓wC_ap, ↓wOp_ap, ↓wUn_ap, ↓wII_ap, ↓wIC_ap, ↓wIB_ap, ↓wNeg_ap, ↓wEqI_ap, ↓wEqD_ap, ↓wIsN_ap, ↓wAndV_ap, ↓wOrV_ap, ↓wNotV_ap, ↓wTest_ap, ↓wAnd_ap, ↓wOr_ap, ↓wNot_ap, ↓wIfE_ap, ↓wNil_ap, ↓wCons_ap, ↓wCB_ap, ↓wTup_ap, ↓wLst_ap, ↓wFrz_ap, ↓wCallP_ap, ↓wCallM_ap, ↓wBM_ap, ↓wBM0_ap, ↓wAppend_ap, ↓wExtend_ap, ↓wPopAt_ap, ↓wPop_ap, ↓wReverse_ap, ↓wIxL_ap, ↓wIxT_ap, ↓wNoPart_ap, ↓wPart_ap, ↓wSl_ap, ↓wSlL_ap, ↓wSlT_ap, ↓wLen_ap, ↓wListOf_ap, ↓wTupleOf_ap, ↓wAbs_ap, ↓wCatT_ap, ↓wCat_ap, ↓wRep_ap, ↓wInI_ap, ↓wRng1_ap, ↓wRng2_ap, ↓wRng3_ap, ↓wIList_ap, ↓wITup_ap, ↓wName_ap, ↓wgNil_ap, ↓wgCons_ap, ↓wgTup_ap, ↓wgLst_ap, ↓wgSub_ap, ↓wNext_ap, ↓wSeq_ap, ↓wAsg_ap, ↓wDrop_ap, ↓wRet_ap, ↓wRetN_ap, ↓wNever_ap, ↓wBreak_ap, ↓wCont_ap, ↓wPar_ap, ↓wAug_ap, ↓wIsT_ap, ↓wEnumT_ap, ↓wEnum_ap, ↓wChainF_ap, ↓wDNew_ap, ↓wDIn_ap, ↓wDGet_ap, ↓wDGet2_ap, ↓wDPut_ap, ↓wDUpd_ap, ↓wRg1_ap, ↓wRg2_ap, ↓wLstRg_ap, ↓wTupRg_ap, ↓wFrzV_ap, ↓wIxA_ap, ↓wTIdx_ap, ↓wLIdx_ap, ↓wAddD_ap, fMax, fMin, fSorted, ↓wIf_ap, ↓wThen_ap, ↓wFor_ap, ↓wWhile_ap, ↓wLc_ap, ↓wDc_ap, RetOk_fz, RetOk_ls, RetOk_rf, imm_int, imm_bool, imm_str, imm_none, ↓ifB_t, ↓ifB_f, ↓sto, ↓frz, stL, isNum_t, Int.reducePow, Int.reduceSub, Int.reduceAdd, Int.reduceMul, wInts, wBls, vl, vls, its, lsOf, oLs, oL, upL, fzs, keyOf, dkOf, isN, wipeS, ownFree, own_fz, own_un, own_rf, own_ls, own_lb, own_dk, List.map_cons, List.map_nil, List.all_cons, List.all_nil, List.set, List.getD_cons_zero, List.getD_cons_succ, List.getD_nil, List.getElem?_cons_zero, List.getElem?_cons_succ, Option.getD_some, List.getElem?_nil, Option.getD_none, Option.map_some, Option.map_none, Bool.false_eq_true, if_true, if_false, Bool.not_true, Bool.not_false, Bool.and_true, Bool.true_and, reduceCtorEq, and_true, true_and, and_false, false_and, Option.some.injEq, AV.fz.injEq, AV.ls.injEq, AV.lb.injEq, AV.dk.injEq, List.cons.injEq, PyData.int.injEq, PyData.list.injEq, PyData.tuple.injEq, exists_eq_left', exists_eq_left, List.length_cons, List.length_nil, Nat.reduceAdd, Int.reduceToNat, List.eraseIdx, isi_int_none, isi_int_bool, isi_int_int, isi_int_str, isi_int_list, isi_int_tuple, isi_bool_none, isi_bool_bool, isi_bool_int, isi_bool_str, isi_bool_list, isi_bool_tuple, isi_str_none, isi_str_bool, isi_str_int, isi_str_str, isi_str_list, isi_str_tuple, isi_tuple_none, isi_tuple_bool, isi_tuple_int, isi_tuple_str, isi_tuple_list, isi_tuple_tuple, isi_list_none, isi_list_bool, isi_list_int, isi_list_str, isi_list_list, isi_list_tuple, atI_0, atI_1, atI_2, ixN_0, ixN_1]
    refine ⟨_, _, rfl, rfl, rfl, ⟨hD2, _, rfl, by omega, by omega⟩, fun l3 y hy => ?_⟩
    obtain ⟨hD3, kd, u, e3, rfl, k0, k1⟩ := hy
    have e3 : 4 = u := by simpa using e3
    simp -implicitDefEqProofs only [↓wVar_ap, ↓wC_ap, ↓wOp_ap, ↓wUn_ap, ↓wII_ap, ↓wIC_ap, ↓wIB_ap, ↓wNeg_ap, ↓wEqI_ap, ↓wEqD_ap, ↓wIsN_ap, ↓wAndV_ap, ↓wOrV_ap, ↓wNotV_ap, ↓wTest_ap, ↓wAnd_ap, ↓wOr_ap, ↓wNot_ap, ↓wIfE_ap, ↓wNil_ap, ↓wCons_ap, ↓wCB_ap, ↓wTup_ap, ↓wLst_ap, ↓wFrz_ap, ↓wCallP_ap, ↓wCallM_ap, ↓wBM_ap, ↓wBM0_ap, ↓wAppend_ap, ↓wExtend_ap, ↓wPopAt_ap, ↓wPop_ap, ↓wReverse_ap, ↓wIxL_ap, ↓wIxT_ap, ↓wNoPart_ap, ↓wPart_ap, ↓wSl_ap, ↓wSlL_ap, ↓wSlT_ap, ↓wLen_ap, ↓wListOf_ap, ↓wTupleOf_ap, ↓wAbs_ap, ↓wCatT_ap, ↓wCat_ap, ↓wRep_ap, ↓wInI_ap, ↓wRng1_ap, ↓wRng2_ap, ↓wRng3_ap, ↓wIList_ap, ↓wITup_ap, ↓wName_ap, ↓wgNil_ap, ↓wgCons_ap, ↓wgTup_ap, ↓wgLst_ap, ↓wgSub_ap, ↓wNext_ap, ↓wSeq_ap, ↓wAsg_ap, ↓wDrop_ap, ↓wRet_ap, ↓wRetN_ap, ↓wNever_ap, ↓wBreak_ap, ↓wCont_ap, ↓wPar_ap, ↓wAug_ap, ↓wIsT_ap, ↓wEnumT_ap, ↓wEnum_ap, ↓wChainF_ap, ↓wDNew_ap, ↓wDIn_ap, ↓wDGet_ap, ↓wDGet2_ap, ↓wDPut_ap, ↓wDUpd_ap, ↓wRg1_ap, ↓wRg2_ap, ↓wLstRg_ap, ↓wTupRg_ap, ↓wFrzV_ap, ↓wIxA_ap, ↓wTIdx_ap, ↓wLIdx_ap, ↓wAddD_ap, fMax, fMin, fSorted, ↓wIf_ap, ↓wThen_ap, ↓wFor_ap, ↓wWhile_ap, ↓wLc_ap, ↓wDc_ap, RetOk_fz, RetOk_ls, RetOk_rf, imm_int, imm_bool, imm_str, imm_none, ↓ifB_t, ↓ifB_f, ↓sto, ↓frz, stL, isNum_t, Int.reducePow, Int.reduceSub, Int.reduceAdd, Int.reduceMul, wInts, wBls, vl, vls, its, lsOf, oLs, oL, upL, fzs, keyOf, dkOf, isN, wipeS, ownFree, own_fz, own_un, own_rf, own_ls, own_lb, own_dk, List.map_cons, List.map_nil, List.all_cons, List.all_nil, List.set, List.getD_cons_zero, List.getD_cons_succ, List.getD_nil, List.getElem?_cons_zero, List.getElem?_cons_succ, Option.getD_some, List.getElem?_nil, Option.getD_none, Option.map_some, Option.map_none, Bool.false_eq_true, if_true, if_false, Bool.not_true, Bool.not_false, Bool.and_true, Bool.true_and, reduceCtorEq, and_true, true_and, and_false, false_and, Option.some.injEq, AV.fz.injEq, AV.ls.injEq, AV.lb.injEq, AV.dk.injEq, List.cons.injEq, PyData.int.injEq, PyData.list.injEq, PyData.tuple.injEq, exists_eq_left', exists_eq_left, List.length_cons, List.length_nil, Nat.reduceAdd, Int.reduceToNat, List.eraseIdx, isi_int_none, isi_int_bool, isi_int_int, isi_int_str, isi_int_list, isi_int_tuple, isi_bool_none, isi_bool_bool, isi_bool_int, isi_bool_str, isi_bool_list, isi_bool_tuple, isi_str_none, isi_str_bool, isi_str_int, isi_str_str, isi_str_list, isi_str_tuple, isi_tuple_none, isi_tuple_bool, isi_tuple_int, isi_tuple_str, isi_tuple_list, isi_tuple_tuple, isi_list_none, isi_list_bool, isi_list_int, isi_list_str, isi_list_list, isi_list_tuple, atI_0, atI_1, atI_2, ixN_0, ixN_1]
    have lo : ord.length = m + 2 := by rw [po.length_eq, List.length_range]
    refine ifB_i (fun hk => ?_) (fun hk => ?_)
    · simp -implicitDefEqProofs only [↓wVar_ap, ↓wC_ap, ↓wOp_ap, ↓wUn_ap, ↓wII_ap, ↓wIC_ap, ↓wIB_ap, ↓wNeg_ap, ↓wEqI_ap, ↓wEqD_ap, ↓wIsN_ap, ↓wAndV_ap, ↓wOrV_ap, ↓wNotV_ap, ↓wTest_ap, ↓wAnd_ap, ↓wOr_ap, ↓wNot_ap, ↓wIfE_ap, ↓wNil_ap, ↓wCons_ap, ↓wCB_ap, ↓wTup_ap, ↓wLst_ap, ↓wFrz_ap, ↓wCallP_ap, ↓wCallM_ap, ↓wBM_ap, ↓wBM0_ap, ↓wAppend_ap, ↓wExtend_ap, ↓wPopAt_ap, ↓wPop_ap, ↓wReverse_ap, ↓wIxL_ap, ↓wIxT_ap, ↓wNoPart_ap, ↓wPart_ap, ↓wSl_ap, ↓wSlL_ap, ↓wSlT_ap, ↓wLen_ap, ↓wListOf_ap, ↓wTupleOf_ap, ↓wAbs_ap, ↓wCatT_ap, ↓wCat_ap, ↓wRep_ap, ↓wInI_ap, ↓wRng1_ap, ↓wRng2_ap, ↓wRng3_ap, ↓wIList_ap, ↓wITup_ap, ↓wName_ap, ↓wgNil_ap, ↓wgCons_ap, ↓wgTup_ap, ↓wgLst_ap, ↓wgSub_ap, ↓wNext_ap, ↓wSeq_ap, ↓wAsg_ap, ↓wDrop_ap, ↓wRet_ap, ↓wRetN_ap, ↓wNever_ap, ↓wBreak_ap, ↓wCont_ap, ↓wPar_ap, ↓wAug_ap, ↓wIsT_ap, ↓wEnumT_ap, ↓wEnum_ap, ↓wChainF_ap, ↓wDNew_ap, ↓wDIn_ap, ↓wDGet_ap, ↓wDGet2_ap, ↓wDPut_ap, ↓wDUpd_ap, ↓wRg1_ap, ↓wRg2_ap, ↓wLstRg_ap, ↓wTupRg_ap, ↓wFrzV_ap, ↓wIxA_ap, ↓wTIdx_ap, ↓wLIdx_ap, ↓wAddD_ap, fMax, fMin, fSorted, ↓wIf_ap, ↓wThen_ap, ↓wFor_ap, ↓wWhile_ap, ↓wLc_ap, ↓wDc_ap, RetOk_fz, RetOk_ls, RetOk_rf, imm_int, imm_bool, imm_str, imm_none, ↓ifB_t, ↓ifB_f, ↓sto, ↓frz, stL, isNum_t, Int.reducePow, Int.reduceSub, Int.reduceAdd, Int.reduceMul, wInts, wBls, vl, vls, its, lsOf, oLs, oL, upL, fzs, keyOf, dkOf, isN, wipeS, ownFree, own_fz, own_un, own_rf, own_ls, own_lb, own_dk, List.map_cons, List.map_nil, List.all_cons, List.all_nil, List.set, List.getD_cons_zero, List.getD_cons_succ, List.getD_nil, List.getElem?_cons_zero, List.getElem?_cons_succ, Option.getD_some, List.getElem?_nil, Option.getD_none, Option.map_some, Option.map_none, Bool.false_eq_true, if_true, if_false, Bool.not_true, Bool.not_false, Bool.and_true, Bool.true_and, reduceCtorEq, and_true, true_and, and_false, false_and, Option.some.injEq, AV.fz.injEq, AV.ls.injEq, AV.lb.injEq, AV.dk.injEq, List.cons.injEq, PyData.int.injEq, PyData.list.injEq, PyData.tuple.injEq, exists_eq_left', exists_eq_left, List.length_cons, List.length_nil, Nat.reduceAdd, Int.reduceToNat, List.eraseIdx, isi_int_none, isi_int_bool, isi_int_int, isi_int_str, isi_int_list, isi_int_tuple, isi_bool_none, isi_bool_bool, isi_bool_int, isi_bool_str, isi_bool_list, isi_bool_tuple, isi_str_none, isi_str_bool, isi_str_int, isi_str_str, isi_str_list, isi_str_tuple, isi_tuple_none, isi_tuple_bool, isi_tuple_int, isi_tuple_str, isi_tuple_list, isi_tuple_tuple, isi_list_none, isi_list_bool, isi_list_int, isi_list_str, isi_list_list, isi_list_tuple, atI_0, atI_1, atI_2, ixN_0, ixN_1]
      have ic := IsC.of_perm po (by omega) (by omega)
      exact ⟨hD3.imm, by simpa [imm] using nts_imm ord, hD3, ord, n, rfl, rfl, by omega, ic⟩
    · simp -implicitDefEqProofs only [↓wVar_ap, ↓wC_ap, ↓wOp_ap, ↓wUn_ap, ↓wII_ap, ↓wIC_ap, ↓wIB_ap, ↓wNeg_ap, ↓wEqI_ap, ↓wEqD_ap, ↓wIsN_ap, ↓wAndV_ap, ↓wOrV_ap, ↓wNotV_ap, ↓wTest_ap, ↓wAnd_ap, ↓wOr_ap, ↓wNot_ap, ↓wIfE_ap, ↓wNil_ap, ↓wCons_ap, ↓wCB_ap, ↓wTup_ap, ↓wLst_ap, ↓wFrz_ap, ↓wCallP_ap, ↓wCallM_ap, ↓wBM_ap, ↓wBM0_ap, ↓wAppend_ap, ↓wExtend_ap, ↓wPopAt_ap, ↓wPop_ap, ↓wReverse_ap, ↓wIxL_ap, ↓wIxT_ap, ↓wNoPart_ap, ↓wPart_ap, ↓wSl_ap, ↓wSlL_ap, ↓wSlT_ap, ↓wLen_ap, ↓wListOf_ap, ↓wTupleOf_ap, ↓wAbs_ap, ↓wCatT_ap, ↓wCat_ap, ↓wRep_ap, ↓wInI_ap, ↓wRng1_ap, ↓wRng2_ap, ↓wRng3_ap, ↓wIList_ap, ↓wITup_ap, ↓wName_ap, ↓wgNil_ap, ↓wgCons_ap, ↓wgTup_ap, ↓wgLst_ap, ↓wgSub_ap, ↓wNext_ap, ↓wSeq_ap, ↓wAsg_ap, ↓wDrop_ap, ↓wRet_ap, ↓wRetN_ap, ↓wNever_ap, ↓wBreak_ap, ↓wCont_ap, ↓wPar_ap, ↓wAug_ap, ↓wIsT_ap, ↓wEnumT_ap, ↓wEnum_ap, ↓wChainF_ap, ↓wDNew_ap, ↓wDIn_ap, ↓wDGet_ap, ↓wDGet2_ap, ↓wDPut_ap, ↓wDUpd_ap, ↓wRg1_ap, ↓wRg2_ap, ↓wLstRg_ap, ↓wTupRg_ap, ↓wFrzV_ap, ↓wIxA_ap, ↓wTIdx_ap, ↓wLIdx_ap, ↓wAddD_ap, fMax, fMin, fSorted, ↓wIf_ap, ↓wThen_ap, ↓wFor_ap, ↓wWhile_ap, ↓wLc_ap, ↓wDc_ap, RetOk_fz, RetOk_ls, RetOk_rf, imm_int, imm_bool, imm_str, imm_none, ↓ifB_t, ↓ifB_f, ↓sto, ↓frz, stL, isNum_t, Int.reducePow, Int.reduceSub, Int.reduceAdd, Int.reduceMul, wInts, wBls, vl, vls, its, lsOf, oLs, oL, upL, fzs, keyOf, dkOf, isN, wipeS, ownFree, own_fz, own_un, own_rf, own_ls, own_lb, own_dk, List.map_cons, List.map_nil, List.all_cons, List.all_nil, List.set, List.getD_cons_zero, List.getD_cons_succ, List.getD_nil, List.getElem?_cons_zero, List.getElem?_cons_succ, Option.getD_some, List.getElem?_nil, Option.getD_none, Option.map_some, Option.map_none, Bool.false_eq_true, if_true, if_false, Bool.not_true, Bool.not_false, Bool.and_true, Bool.true_and, reduceCtorEq, and_true, true_and, and_false, false_and, Option.some.injEq, AV.fz.injEq, AV.ls.injEq, AV.lb.injEq, AV.dk.injEq, List.cons.injEq, PyData.int.injEq, PyData.list.injEq, PyData.tuple.injEq, exists_eq_left', exists_eq_left, List.length_cons, List.length_nil, Nat.reduceAdd, Int.reduceToNat, List.eraseIdx, isi_int_none, isi_int_bool, isi_int_int, isi_int_str, isi_int_list, isi_int_tuple, isi_bool_none, isi_bool_bool, isi_bool_int, isi_bool_str, isi_bool_list, isi_bool_tuple, isi_str_none, isi_str_bool, isi_str_int, isi_str_str, isi_str_list, isi_str_tuple, isi_tuple_none, isi_tuple_bool, isi_tuple_int, isi_tuple_str, isi_tuple_list, isi_tuple_tuple, isi_list_none, isi_list_bool, isi_list_int, isi_list_str, isi_list_list, isi_list_tuple, atI_0, atI_1, atI_2, ixN_0, ixN_1]
      refine ⟨_, _, rfl, rfl, rfl, ⟨hD3, _, rfl, by omega, by omega⟩, fun l4 y hy => ?_⟩
      obtain ⟨hD4, r2, u, e4, rfl, r20, r21⟩ := hy
      have e4 : 4 = u := by simpa using e4
      simp -implicitDefEqProofs only [↓wVar_ap, ↓wC_ap, ↓wOp_ap, ↓wUn_ap, ↓wII_ap, ↓wIC_ap, ↓wIB_ap, ↓wNeg_ap, ↓wEqI_ap, ↓wEqD_ap, ↓wIsN_ap, ↓wAndV_ap, ↓wOrV_ap, ↓wNotV_ap, ↓wTest_ap, ↓wAnd_ap, ↓wOr_ap, ↓wNot_ap, ↓wIfE_ap, ↓wNil_ap, ↓wCons_ap, ↓wCB_ap, ↓wTup_ap, ↓wLst_ap, ↓wFrz_ap, ↓wCallP_ap, ↓wCallM_ap, ↓wBM_ap, ↓wBM0_ap, ↓wAppend_ap, ↓wExtend_ap, ↓wPopAt_ap, ↓wPop_ap, ↓wReverse_ap, ↓wIxL_ap, ↓wIxT_ap, ↓wNoPart_ap, ↓wPart_ap, ↓wSl_ap, ↓wSlL_ap, ↓wSlT_ap, ↓wLen_ap, ↓wListOf_ap, ↓wTupleOf_ap, ↓wAbs_ap, ↓wCatT_ap, ↓wCat_ap, ↓wRep_ap, ↓wInI_ap, ↓wRng1_ap, ↓wRng2_ap, ↓wRng3_ap, ↓wIList_ap, ↓wITup_ap, ↓wName_ap, ↓wgNil_ap, ↓wgCons_ap, ↓wgTup_ap, ↓wgLst_ap, ↓wgSub_ap, ↓wNext_ap, ↓wSeq_ap, ↓wAsg_ap, ↓wDrop_ap, ↓wRet_ap, ↓wRetN_ap, ↓wNever_ap, ↓wBreak_ap, ↓wCont_ap, ↓wPar_ap, ↓wAug_ap, ↓wIsT_ap, ↓wEnumT_ap, ↓wEnum_ap, ↓wChainF_ap, ↓wDNew_ap, ↓wDIn_ap, ↓wDGet_ap, ↓wDGet2_ap, ↓wDPut_ap, ↓wDUpd_ap, ↓wRg1_ap, ↓wRg2_ap, ↓wLstRg_ap, ↓wTupRg_ap, ↓wFrzV_ap, ↓wIxA_ap, ↓wTIdx_ap, ↓wLIdx_ap, ↓wAddD_ap, fMax, fMin, fSorted, ↓wIf_ap, ↓wThen_ap, ↓wFor_ap, ↓wWhile_ap, ↓wLc_ap, ↓wDc_ap, RetOk_fz, RetOk_ls, RetOk_rf, imm_int, imm_bool, imm_str, imm_none, ↓ifB_t, ↓ifB_f, ↓sto, ↓frz, stL, isNum_t, Int.reducePow, Int.reduceSub, Int.reduceAdd, Int.reduceMul, wInts, wBls, vl, vls, its, lsOf, oLs, oL, upL, fzs, keyOf, dkOf, isN, wipeS, ownFree, own_fz, own_un, own_rf, own_ls, own_lb, own_dk, List.map_cons, List.map_nil, List.all_cons, List.all_nil, List.set, List.getD_cons_zero, List.getD_cons_succ, List.getD_nil, List.getElem?_cons_zero, List.getElem?_cons_succ, Option.getD_some, List.getElem?_nil, Option.getD_none, Option.map_some, Option.map_none, Bool.false_eq_true, if_true, if_false, Bool.not_true, Bool.not_false, Bool.and_true, Bool.true_and, reduceCtorEq, and_true, true_and, and_false, false_and, Option.some.injEq, AV.fz.injEq, AV.ls.injEq, AV.lb.injEq, AV.dk.injEq, List.cons.injEq, PyData.int.injEq, PyData.list.injEq, PyData.tuple.injEq, exists_eq_left', exists_eq_left, List.length_cons, List.length_nil, Nat.reduceAdd, Int.reduceToNat, List.eraseIdx, isi_int_none, isi_int_bool, isi_int_int, isi_int_str, isi_int_list, isi_int_tuple, isi_bool_none, isi_bool_bool, isi_bool_int, isi_bool_str, isi_bool_list, isi_bool_tuple, isi_str_none, isi_str_bool, isi_str_int, isi_str_str, isi_str_list, isi_str_tuple, isi_tuple_none, isi_tuple_bool, isi_tuple_int, isi_tuple_str, isi_tuple_list, isi_tuple_tuple, isi_list_none, isi_list_bool, isi_list_int, isi_list_str, isi_list_list, isi_list_tuple, atI_0, atI_1, atI_2, ixN_0, ixN_1]
      refine ⟨_, _, rfl, rfl, rfl, ⟨hD4, _, rfl, by omega, by omega⟩, fun l5 y hy => ?_⟩
      obtain ⟨hD5, r3, u, e5, rfl, r30, r31⟩ := hy
      have e5 : ((m + 2 : Nat) : Int) = u := by simpa using e5
      obtain ⟨lg, hlg, g0, g1⟩ := pick3 (a := (1 + r2).toNat) (b := (1 + r3).toNat) (i1 := 1 + r2) (i2 := 1 + r3) k0 (by omega) hk (by omega) (by omega) ⟨by omega, by omega⟩ ⟨by omega, by omega⟩
      obtain ⟨q1, q2, q3⟩ := rgC_up (b := ((m + 2 : Nat) : Int)) (c := (lg : Int)) (by omega) (by omega) (by omega) (by omega)
      simp -implicitDefEqProofs only [↓wVar_ap, ↓wC_ap, ↓wOp_ap, ↓wUn_ap, ↓wII_ap, ↓wIC_ap, ↓wIB_ap, ↓wNeg_ap, ↓wEqI_ap, ↓wEqD_ap, ↓wIsN_ap, ↓wAndV_ap, ↓wOrV_ap, ↓wNotV_ap, ↓wTest_ap, ↓wAnd_ap, ↓wOr_ap, ↓wNot_ap, ↓wIfE_ap, ↓wNil_ap, ↓wCons_ap, ↓wCB_ap, ↓wTup_ap, ↓wLst_ap, ↓wFrz_ap, ↓wCallP_ap, ↓wCallM_ap, ↓wBM_ap, ↓wBM0_ap, ↓wAppend_ap, ↓wExtend_ap, ↓wPopAt_ap, ↓wPop_ap, ↓wReverse_ap, ↓wIxL_ap, ↓wIxT_ap, ↓wNoPart_ap, ↓wPart_ap, ↓wSl_ap, ↓wSlL_ap, ↓wSlT_ap, ↓wLen_ap, ↓wListOf_ap, ↓wTupleOf_ap, ↓wAbs_ap, ↓wCatT_ap, ↓wCat_ap, ↓wRep_ap, ↓wInI_ap, ↓wRng1_ap, ↓wRng2_ap, ↓wRng3_ap, ↓wIList_ap, ↓wITup_ap, ↓wName_ap, ↓wgNil_ap, ↓wgCons_ap, ↓wgTup_ap, ↓wgLst_ap, ↓wgSub_ap, ↓wNext_ap, ↓wSeq_ap, ↓wAsg_ap, ↓wDrop_ap, ↓wRet_ap, ↓wRetN_ap, ↓wNever_ap, ↓wBreak_ap, ↓wCont_ap, ↓wPar_ap, ↓wAug_ap, ↓wIsT_ap, ↓wEnumT_ap, ↓wEnum_ap, ↓wChainF_ap, ↓wDNew_ap, ↓wDIn_ap, ↓wDGet_ap, ↓wDGet2_ap, ↓wDPut_ap, ↓wDUpd_ap, ↓wRg1_ap, ↓wRg2_ap, ↓wLstRg_ap, ↓wTupRg_ap, ↓wFrzV_ap, ↓wIxA_ap, ↓wTIdx_ap, ↓wLIdx_ap, ↓wAddD_ap, fMax, fMin, fSorted, ↓wIf_ap, ↓wThen_ap, ↓wFor_ap, ↓wWhile_ap, ↓wLc_ap, ↓wDc_ap, RetOk_fz, RetOk_ls, RetOk_rf, imm_int, imm_bool, imm_str, imm_none, ↓ifB_t, ↓ifB_f, ↓sto, ↓frz, stL, isNum_t, Int.reducePow, Int.reduceSub, Int.reduceAdd, Int.reduceMul, wInts, wBls, vl, vls, its, lsOf, oLs, oL, upL, fzs, keyOf, dkOf, isN, wipeS, ownFree, own_fz, own_un, own_rf, own_ls, own_lb, own_dk, List.map_cons, List.map_nil, List.all_cons, List.all_nil, List.set, List.getD_cons_zero, List.getD_cons_succ, List.getD_nil, List.getElem?_cons_zero, List.getElem?_cons_succ, Option.getD_some, List.getElem?_nil, Option.getD_none, Option.map_some, Option.map_none, Bool.false_eq_true, if_true, if_false, Bool.not_true, Bool.not_false, Bool.and_true, Bool.true_and, reduceCtorEq, and_true, true_and, and_false, false_and, Option.some.injEq, AV.fz.injEq, AV.ls.injEq, AV.lb.injEq, AV.dk.injEq, List.cons.injEq, PyData.int.injEq, PyData.list.injEq, PyData.tuple.injEq, exists_eq_left', exists_eq_left, List.length_cons, List.length_nil, Nat.reduceAdd, Int.reduceToNat, List.eraseIdx, isi_int_none, isi_int_bool, isi_int_int, isi_int_str, isi_int_list, isi_int_tuple, isi_bool_none, isi_bool_bool, isi_bool_int, isi_bool_str, isi_bool_list, isi_bool_tuple, isi_str_none, isi_str_bool, isi_str_int, isi_str_str, isi_str_list, isi_str_tuple, isi_tuple_none, isi_tuple_bool, isi_tuple_int, isi_tuple_str, isi_tuple_list, isi_tuple_tuple, isi_list_none, isi_list_bool, isi_list_int, isi_list_str, isi_list_list, isi_list_tuple, atI_0, atI_1, atI_2, ixN_0, ixN_1]
      refine ⟨by decide, _, hlg, ⟨by omega, by omega, by omega, by omega⟩, ?_⟩
      simp -implicitDefEqProofs only [↓wVar_ap, ↓wC_ap, ↓wOp_ap, ↓wUn_ap, ↓wII_ap, ↓wIC_ap, ↓wIB_ap, ↓wNeg_ap, ↓wEqI_ap, ↓wEqD_ap, ↓wIsN_ap, ↓wAndV_ap, ↓wOrV_ap, ↓wNotV_ap, ↓wTest_ap, ↓wAnd_ap, ↓wOr_ap, ↓wNot_ap, ↓wIfE_ap, ↓wNil_ap, ↓wCons_ap, ↓wCB_ap, ↓wTup_ap, ↓wLst_ap, ↓wFrz_ap, ↓wCallP_ap, ↓wCallM_ap, ↓wBM_ap, ↓wBM0_ap, ↓wAppend_ap, ↓wExtend_ap, ↓wPopAt_ap, ↓wPop_ap, ↓wReverse_ap, ↓wIxL_ap, ↓wIxT_ap, ↓wNoPart_ap, ↓wPart_ap, ↓wSl_ap, ↓wSlL_ap, ↓wSlT_ap, ↓wLen_ap, ↓wListOf_ap, ↓wTupleOf_ap, ↓wAbs_ap, ↓wCatT_ap, ↓wCat_ap, ↓wRep_ap, ↓wInI_ap, ↓wRng1_ap, ↓wRng2_ap, ↓wRng3_ap, ↓wIList_ap, ↓wITup_ap, ↓wName_ap, ↓wgNil_ap, ↓wgCons_ap, ↓wgTup_ap, ↓wgLst_ap, ↓wgSub_ap, ↓wNext_ap, ↓wSeq_ap, ↓wAsg_ap, ↓wDrop_ap, ↓wRet_ap, ↓wRetN_ap, ↓wNever_ap, ↓wBreak_ap, ↓wCont_ap, ↓wPar_ap, ↓wAug_ap, ↓wIsT_ap, ↓wEnumT_ap, ↓wEnum_ap, ↓wChainF_ap, ↓wDNew_ap, ↓wDIn_ap, ↓wDGet_ap, ↓wDGet2_ap, ↓wDPut_ap, ↓wDUpd_ap, ↓wRg1_ap, ↓wRg2_ap, ↓wLstRg_ap, ↓wTupRg_ap, ↓wFrzV_ap, ↓wIxA_ap, ↓wTIdx_ap, ↓wLIdx_ap, ↓wAddD_ap, fMax, fMin, fSorted, ↓wIf_ap, ↓wThen_ap, ↓wFor_ap, ↓wWhile_ap, ↓wLc_ap, ↓wDc_ap, RetOk_fz, RetOk_ls, RetOk_rf, imm_int, imm_bool, imm_str, imm_none, ↓ifB_t, ↓ifB_f, ↓sto, ↓frz, stL, isNum_t, Int.reducePow, Int.reduceSub, Int.reduceAdd, Int.reduceMul, wInts, wBls, vl, vls, its, lsOf, oLs, oL, upL, fzs, keyOf, dkOf, isN, wipeS, ownFree, own_fz, own_un, own_rf, own_ls, own_lb, own_dk, List.map_cons, List.map_nil, List.all_cons, List.all_nil, List.set, List.getD_cons_zero, List.getD_cons_succ, List.getD_nil, List.getElem?_cons_zero, List.getElem?_cons_succ, Option.getD_some, List.getElem?_nil, Option.getD_none, Option.map_some, Option.map_none, Bool.false_eq_true, if_true, if_false, Bool.not_true, Bool.not_false, Bool.and_true, Bool.true_and, reduceCtorEq, and_true, true_and, and_false, false_and, Option.some.injEq, AV.fz.injEq, AV.ls.injEq, AV.lb.injEq, AV.dk.injEq, List.cons.injEq, PyData.int.injEq, PyData.list.injEq, PyData.tuple.injEq, exists_eq_left', exists_eq_left, List.length_cons, List.length_nil, Nat.reduceAdd, Int.reduceToNat, List.eraseIdx, isi_int_none, isi_int_bool, isi_int_int, isi_int_str, isi_int_list, isi_int_tuple, isi_bool_none, isi_bool_bool, isi_bool_int, isi_bool_str, isi_bool_list, isi_bool_tuple, isi_str_none, isi_str_bool, isi_str_int, isi_str_str, isi_str_list, isi_str_tuple, isi_tuple_none, isi_tuple_bool, isi_tuple_int, isi_tuple_str, isi_tuple_list, isi_tuple_tuple, isi_list_none, isi_list_bool, isi_list_int, isi_list_str, isi_list_list, isi_list_tuple, atI_0, atI_1, atI_2, ixN_0, ixN_1, Int.sub_zero, Int.toNat_natCast, rng_nts]
      refine ⟨_, q1, forB_i (fun i ds => ∃ (fo : List Nat) (y7 y8 y9 : AV), ds = [AV.lb l5, AV.fz (.int n), AV.fz (.int ((m + 2 : Nat) : Int)), AV.ls (nts ord), AV.fz (.int kd), AV.fz (.int (lg : Int)), AV.ls (nts fo), y7, y8, y9] ∧ Laid (m + 2) ord (i * lg) fo) ⟨_, _, _, _, rfl, by rw [Nat.zero_mul]; exact Laid.start _ _⟩ (fun i d ds hd hi => ?_) (fun ds hi => ?_)⟩
      · obtain ⟨fo, y7, y8, y9, rfl, hL⟩ := hi
        obtain ⟨rfl, hi⟩ := rngC_nt hd
        have ha : ((i * lg : Nat) : Int) + (lg : Int) = (((i + 1) * lg : Nat) : Int) := by rw [Nat.succ_mul]; omega
        have hle : i * lg ≤ (i + 1) * lg := by rw [Nat.succ_mul]; omega
        simp -implicitDefEqProofs only [↓wVar_ap, ↓wC_ap, ↓wOp_ap, ↓wUn_ap, ↓wII_ap, ↓wIC_ap, ↓wIB_ap, ↓wNeg_ap, ↓wEqI_ap, ↓wEqD_ap, ↓wIsN_ap, ↓wAndV_ap, ↓wOrV_ap, ↓wNotV_ap, ↓wTest_ap, ↓wAnd_ap, ↓wOr_ap, ↓wNot_ap, ↓wIfE_ap, ↓wNil_ap, ↓wCons_ap, ↓wCB_ap, ↓wTup_ap, ↓wLst_ap, ↓wFrz_ap, ↓wCallP_ap, ↓wCallM_ap, ↓wBM_ap, ↓wBM0_ap, ↓wAppend_ap, ↓wExtend_ap, ↓wPopAt_ap, ↓wPop_ap, ↓wReverse_ap, ↓wIxL_ap, ↓wIxT_ap, ↓wNoPart_ap, ↓wPart_ap, ↓wSl_ap, ↓wSlL_ap, ↓wSlT_ap, ↓wLen_ap, ↓wListOf_ap, ↓wTupleOf_ap, ↓wAbs_ap, ↓wCatT_ap, ↓wCat_ap, ↓wRep_ap, ↓wInI_ap, ↓wRng1_ap, ↓wRng2_ap, ↓wRng3_ap, ↓wIList_ap, ↓wITup_ap, ↓wName_ap, ↓wgNil_ap, ↓wgCons_ap, ↓wgTup_ap, ↓wgLst_ap, ↓wgSub_ap, ↓wNext_ap, ↓wSeq_ap, ↓wAsg_ap, ↓wDrop_ap, ↓wRet_ap, ↓wRetN_ap, ↓wNever_ap, ↓wBreak_ap, ↓wCont_ap, ↓wPar_ap, ↓wAug_ap, ↓wIsT_ap, ↓wEnumT_ap, ↓wEnum_ap, ↓wChainF_ap, ↓wDNew_ap, ↓wDIn_ap, ↓wDGet_ap, ↓wDGet2_ap, ↓wDPut_ap, ↓wDUpd_ap, ↓wRg1_ap, ↓wRg2_ap, ↓wLstRg_ap, ↓wTupRg_ap, ↓wFrzV_ap, ↓wIxA_ap, ↓wTIdx_ap, ↓wLIdx_ap, ↓wAddD_ap, fMax, fMin, fSorted, ↓wIf_ap, ↓wThen_ap, ↓wFor_ap, ↓wWhile_ap, ↓wLc_ap, ↓wDc_ap, RetOk_fz, RetOk_ls, RetOk_rf, imm_int, imm_bool, imm_str, imm_none, ↓ifB_t, ↓ifB_f, ↓sto, ↓frz, stL, isNum_t, Int.reducePow, Int.reduceSub, Int.reduceAdd, Int.reduceMul, wInts, wBls, vl, vls, its, lsOf, oLs, oL, upL, fzs, keyOf, dkOf, isN, wipeS, ownFree, own_fz, own_un, own_rf, own_ls, own_lb, own_dk, List.map_cons, List.map_nil, List.all_cons, List.all_nil, List.set, List.getD_cons_zero, List.getD_cons_succ, List.getD_nil, List.getElem?_cons_zero, List.getElem?_cons_succ, Option.getD_some, List.getElem?_nil, Option.getD_none, Option.map_some, Option.map_none, Bool.false_eq_true, if_true, if_false, Bool.not_true, Bool.not_false, Bool.and_true, Bool.true_and, reduceCtorEq, and_true, true_and, and_false, false_and, Option.some.injEq, AV.fz.injEq, AV.ls.injEq, AV.lb.injEq, AV.dk.injEq, List.cons.injEq, PyData.int.injEq, PyData.list.injEq, PyData.tuple.injEq, exists_eq_left', exists_eq_left, List.length_cons, List.length_nil, Nat.reduceAdd, Int.reduceToNat, List.eraseIdx, isi_int_none, isi_int_bool, isi_int_int, isi_int_str, isi_int_list, isi_int_tuple, isi_bool_none, isi_bool_bool, isi_bool_int, isi_bool_str, isi_bool_list, isi_bool_tuple, isi_str_none, isi_str_bool, isi_str_int, isi_str_str, isi_str_list, isi_str_tuple, isi_tuple_none, isi_tuple_bool, isi_tuple_int, isi_tuple_str, isi_tuple_list, isi_tuple_tuple, isi_list_none, isi_list_bool, isi_list_int, isi_list_str, isi_list_list, isi_list_tuple, atI_0, atI_1, atI_2, ixN_0, ixN_1, nt_def, ha, cut_mid_nts, nts_len]
        generalize hring : (ord.take ((i + 1) * lg)).drop (i * lg) = ring
        have hsub : ∀ x ∈ ring, x < m + 2 := fun x hx => by
          rw [← hring] at hx
          exact List.mem_range.mp (po.mem_iff.mp (List.mem_of_mem_take (List.mem_of_mem_drop hx)))
        have hrl : ring.length ≤ 1000 := by
          rw [← hring, List.length_drop, List.length_take]
          omega
        have hring' : (ord.take ((i + 1) * lg)).drop (i * lg) = ring := hring
        have fin : ∀ y9 : AV, ∃ fo' y7 y8 y9', [AV.lb l5, AV.fz (.int n), AV.fz (.int ((m + 2 : Nat) : Int)), AV.ls (nts ord), AV.fz (.int kd), AV.fz (.int (lg : Int)), AV.ls (nts (cyc ring fo ring.length)), AV.fz (.int ((i * lg : Nat) : Int)), AV.ls (nts ring), y9] = [AV.lb l5, AV.fz (.int n), AV.fz (.int ((m + 2 : Nat) : Int)), AV.ls (nts ord), AV.fz (.int kd), AV.fz (.int (lg : Int)), AV.ls (nts fo'), y7, y8, y9'] ∧ Laid (m + 2) ord ((i + 1) * lg) fo' := fun y9 => ⟨_, _, _, _, rfl, hring' ▸ hL.ring po hle⟩
        split
        · exact ⟨⟨by omega, by omega⟩, cards_inner hL.1 hsub hrl fin⟩
        · refine ifB_i (fun _ => ?_) (fun _ => ?_)
          · simp -implicitDefEqProofs only [↓wVar_ap, ↓wC_ap, ↓wOp_ap, ↓wUn_ap, ↓wII_ap, ↓wIC_ap, ↓wIB_ap, ↓wNeg_ap, ↓wEqI_ap, ↓wEqD_ap, ↓wIsN_ap, ↓wAndV_ap, ↓wOrV_ap, ↓wNotV_ap, ↓wTest_ap, ↓wAnd_ap, ↓wOr_ap, ↓wNot_ap, ↓wIfE_ap, ↓wNil_ap, ↓wCons_ap, ↓wCB_ap, ↓wTup_ap, ↓wLst_ap, ↓wFrz_ap, ↓wCallP_ap, ↓wCallM_ap, ↓wBM_ap, ↓wBM0_ap, ↓wAppend_ap, ↓wExtend_ap, ↓wPopAt_ap, ↓wPop_ap, ↓wReverse_ap, ↓wIxL_ap, ↓wIxT_ap, ↓wNoPart_ap, ↓wPart_ap, ↓wSl_ap, ↓wSlL_ap, ↓wSlT_ap, ↓wLen_ap, ↓wListOf_ap, ↓wTupleOf_ap, ↓wAbs_ap, ↓wCatT_ap, ↓wCat_ap, ↓wRep_ap, ↓wInI_ap, ↓wRng1_ap, ↓wRng2_ap, ↓wRng3_ap, ↓wIList_ap, ↓wITup_ap, ↓wName_ap, ↓wgNil_ap, ↓wgCons_ap, ↓wgTup_ap, ↓wgLst_ap, ↓wgSub_ap, ↓wNext_ap, ↓wSeq_ap, ↓wAsg_ap, ↓wDrop_ap, ↓wRet_ap, ↓wRetN_ap, ↓wNever_ap, ↓wBreak_ap, ↓wCont_ap, ↓wPar_ap, ↓wAug_ap, ↓wIsT_ap, ↓wEnumT_ap, ↓wEnum_ap, ↓wChainF_ap, ↓wDNew_ap, ↓wDIn_ap, ↓wDGet_ap, ↓wDGet2_ap, ↓wDPut_ap, ↓wDUpd_ap, ↓wRg1_ap, ↓wRg2_ap, ↓wLstRg_ap, ↓wTupRg_ap, ↓wFrzV_ap, ↓wIxA_ap, ↓wTIdx_ap, ↓wLIdx_ap, ↓wAddD_ap, fMax, fMin, fSorted, ↓wIf_ap, ↓wThen_ap, ↓wFor_ap, ↓wWhile_ap, ↓wLc_ap, ↓wDc_ap, RetOk_fz, RetOk_ls, RetOk_rf, imm_int, imm_bool, imm_str, imm_none, ↓ifB_t, ↓ifB_f, ↓sto, ↓frz, stL, isNum_t, Int.reducePow, Int.reduceSub, Int.reduceAdd, Int.reduceMul, wInts, wBls, vl, vls, its, lsOf, oLs, oL, upL, fzs, keyOf, dkOf, isN, wipeS, ownFree, own_fz, own_un, own_rf, own_ls, own_lb, own_dk, List.map_cons, List.map_nil, List.all_cons, List.all_nil, List.set, List.getD_cons_zero, List.getD_cons_succ, List.getD_nil, List.getElem?_cons_zero, List.getElem?_cons_succ, Option.getD_some, List.getElem?_nil, Option.getD_none, Option.map_some, Option.map_none, Bool.false_eq_true, if_true, if_false, Bool.not_true, Bool.not_false, Bool.and_true, Bool.true_and, reduceCtorEq, and_true, true_and, and_false, false_and, Option.some.injEq, AV.fz.injEq, AV.ls.injEq, AV.lb.injEq, AV.dk.injEq, List.cons.injEq, PyData.int.injEq, PyData.list.injEq, PyData.tuple.injEq, exists_eq_left', exists_eq_left, List.length_cons, List.length_nil, Nat.reduceAdd, Int.reduceToNat, List.eraseIdx, isi_int_none, isi_int_bool, isi_int_int, isi_int_str, isi_int_list, isi_int_tuple, isi_bool_none, isi_bool_bool, isi_bool_int, isi_bool_str, isi_bool_list, isi_bool_tuple, isi_str_none, isi_str_bool, isi_str_int, isi_str_str, isi_str_list, isi_str_tuple, isi_tuple_none, isi_tuple_bool, isi_tuple_int, isi_tuple_str, isi_tuple_list, isi_tuple_tuple, isi_list_none, isi_list_bool, isi_list_int, isi_list_str, isi_list_list, isi_list_tuple, atI_0, atI_1, atI_2, ixN_0, ixN_1, nts_len]
            exact ⟨⟨by omega, by omega⟩, cards_inner hL.1 hsub hrl fin⟩
          · simp -implicitDefEqProofs only [↓wVar_ap, ↓wC_ap, ↓wOp_ap, ↓wUn_ap, ↓wII_ap, ↓wIC_ap, ↓wIB_ap, ↓wNeg_ap, ↓wEqI_ap, ↓wEqD_ap, ↓wIsN_ap, ↓wAndV_ap, ↓wOrV_ap, ↓wNotV_ap, ↓wTest_ap, ↓wAnd_ap, ↓wOr_ap, ↓wNot_ap, ↓wIfE_ap, ↓wNil_ap, ↓wCons_ap, ↓wCB_ap, ↓wTup_ap, ↓wLst_ap, ↓wFrz_ap, ↓wCallP_ap, ↓wCallM_ap, ↓wBM_ap, ↓wBM0_ap, ↓wAppend_ap, ↓wExtend_ap, ↓wPopAt_ap, ↓wPop_ap, ↓wReverse_ap, ↓wIxL_ap, ↓wIxT_ap, ↓wNoPart_ap, ↓wPart_ap, ↓wSl_ap, ↓wSlL_ap, ↓wSlT_ap, ↓wLen_ap, ↓wListOf_ap, ↓wTupleOf_ap, ↓wAbs_ap, ↓wCatT_ap, ↓wCat_ap, ↓wRep_ap, ↓wInI_ap, ↓wRng1_ap, ↓wRng2_ap, ↓wRng3_ap, ↓wIList_ap, ↓wITup_ap, ↓wName_ap, ↓wgNil_ap, ↓wgCons_ap, ↓wgTup_ap, ↓wgLst_ap, ↓wgSub_ap, ↓wNext_ap, ↓wSeq_ap, ↓wAsg_ap, ↓wDrop_ap, ↓wRet_ap, ↓wRetN_ap, ↓wNever_ap, ↓wBreak_ap, ↓wCont_ap, ↓wPar_ap, ↓wAug_ap, ↓wIsT_ap, ↓wEnumT_ap, ↓wEnum_ap, ↓wChainF_ap, ↓wDNew_ap, ↓wDIn_ap, ↓wDGet_ap, ↓wDGet2_ap, ↓wDPut_ap, ↓wDUpd_ap, ↓wRg1_ap, ↓wRg2_ap, ↓wLstRg_ap, ↓wTupRg_ap, ↓wFrzV_ap, ↓wIxA_ap, ↓wTIdx_ap, ↓wLIdx_ap, ↓wAddD_ap, fMax, fMin, fSorted, ↓wIf_ap, ↓wThen_ap, ↓wFor_ap, ↓wWhile_ap, ↓wLc_ap, ↓wDc_ap, RetOk_fz, RetOk_ls, RetOk_rf, imm_int, imm_bool, imm_str, imm_none, ↓ifB_t, ↓ifB_f, ↓sto, ↓frz, stL, isNum_t, Int.reducePow, Int.reduceSub, Int.reduceAdd, Int.reduceMul, wInts, wBls, vl, vls, its, lsOf, oLs, oL, upL, fzs, keyOf, dkOf, isN, wipeS, ownFree, own_fz, own_un, own_rf, own_ls, own_lb, own_dk, List.map_cons, List.map_nil, List.all_cons, List.all_nil, List.set, List.getD_cons_zero, List.getD_cons_succ, List.getD_nil, List.getElem?_cons_zero, List.getElem?_cons_succ, Option.getD_some, List.getElem?_nil, Option.getD_none, Option.map_some, Option.map_none, Bool.false_eq_true, if_true, if_false, Bool.not_true, Bool.not_false, Bool.and_true, Bool.true_and, reduceCtorEq, and_true, true_and, and_false, false_and, Option.some.injEq, AV.fz.injEq, AV.ls.injEq, AV.lb.injEq, AV.dk.injEq, List.cons.injEq, PyData.int.injEq, PyData.list.injEq, PyData.tuple.injEq, exists_eq_left', exists_eq_left, List.length_cons, List.length_nil, Nat.reduceAdd, Int.reduceToNat, List.eraseIdx, isi_int_none, isi_int_bool, isi_int_int, isi_int_str, isi_int_list, isi_int_tuple, isi_bool_none, isi_bool_bool, isi_bool_int, isi_bool_str, isi_bool_list, isi_bool_tuple, isi_str_none, isi_str_bool, isi_str_int, isi_str_str, isi_str_list, isi_str_tuple, isi_tuple_none, isi_tuple_bool, isi_tuple_int, isi_tuple_str, isi_tuple_list, isi_tuple_tuple, isi_list_none, isi_list_bool, isi_list_int, isi_list_str, isi_list_list, isi_list_tuple, atI_0, atI_1, atI_2, ixN_0, ixN_1]
            exact ⟨_, _, _, _, ⟨rfl, rfl, rfl, rfl⟩, hL.skip hle⟩
      · obtain ⟨fo, y7, y8, y9, rfl, hL⟩ := hi
        have ic := hL.isC po (by omega) (by omega)
        have hfl := hL.1
        simp -implicitDefEqProofs only [↓wVar_ap, ↓wC_ap, ↓wOp_ap, ↓wUn_ap, ↓wII_ap, ↓wIC_ap, ↓wIB_ap, ↓wNeg_ap, ↓wEqI_ap, ↓wEqD_ap, ↓wIsN_ap, ↓wAndV_ap, ↓wOrV_ap, ↓wNotV_ap, ↓wTest_ap, ↓wAnd_ap, ↓wOr_ap, ↓wNot_ap, ↓wIfE_ap, ↓wNil_ap, ↓wCons_ap, ↓wCB_ap, ↓wTup_ap, ↓wLst_ap, ↓wFrz_ap, ↓wCallP_ap, ↓wCallM_ap, ↓wBM_ap, ↓wBM0_ap, ↓wAppend_ap, ↓wExtend_ap, ↓wPopAt_ap, ↓wPop_ap, ↓wReverse_ap, ↓wIxL_ap, ↓wIxT_ap, ↓wNoPart_ap, ↓wPart_ap, ↓wSl_ap, ↓wSlL_ap, ↓wSlT_ap, ↓wLen_ap, ↓wListOf_ap, ↓wTupleOf_ap, ↓wAbs_ap, ↓wCatT_ap, ↓wCat_ap, ↓wRep_ap, ↓wInI_ap, ↓wRng1_ap, ↓wRng2_ap, ↓wRng3_ap, ↓wIList_ap, ↓wITup_ap, ↓wName_ap, ↓wgNil_ap, ↓wgCons_ap, ↓wgTup_ap, ↓wgLst_ap, ↓wgSub_ap, ↓wNext_ap, ↓wSeq_ap, ↓wAsg_ap, ↓wDrop_ap, ↓wRet_ap, ↓wRetN_ap, ↓wNever_ap, ↓wBreak_ap, ↓wCont_ap, ↓wPar_ap, ↓wAug_ap, ↓wIsT_ap, ↓wEnumT_ap, ↓wEnum_ap, ↓wChainF_ap, ↓wDNew_ap, ↓wDIn_ap, ↓wDGet_ap, ↓wDGet2_ap, ↓wDPut_ap, ↓wDUpd_ap, ↓wRg1_ap, ↓wRg2_ap, ↓wLstRg_ap, ↓wTupRg_ap, ↓wFrzV_ap, ↓wIxA_ap, ↓wTIdx_ap, ↓wLIdx_ap, ↓wAddD_ap, fMax, fMin, fSorted, ↓wIf_ap, ↓wThen_ap, ↓wFor_ap, ↓wWhile_ap, ↓wLc_ap, ↓wDc_ap, RetOk_fz, RetOk_ls, RetOk_rf, imm_int, imm_bool, imm_str, imm_none, ↓ifB_t, ↓ifB_f, ↓sto, ↓frz, stL, isNum_t, Int.reducePow, Int.reduceSub, Int.reduceAdd, Int.reduceMul, wInts, wBls, vl, vls, its, lsOf, oLs, oL, upL, fzs, keyOf, dkOf, isN, wipeS, ownFree, own_fz, own_un, own_rf, own_ls, own_lb, own_dk, List.map_cons, List.map_nil, List.all_cons, List.all_nil, List.set, List.getD_cons_zero, List.getD_cons_succ, List.getD_nil, List.getElem?_cons_zero, List.getElem?_cons_succ, Option.getD_some, List.getElem?_nil, Option.getD_none, Option.map_some, Option.map_none, Bool.false_eq_true, if_true, if_false, Bool.not_true, Bool.not_false, Bool.and_true, Bool.true_and, reduceCtorEq, and_true, true_and, and_false, false_and, Option.some.injEq, AV.fz.injEq, AV.ls.injEq, AV.lb.injEq, AV.dk.injEq, List.cons.injEq, PyData.int.injEq, PyData.list.injEq, PyData.tuple.injEq, exists_eq_left', exists_eq_left, List.length_cons, List.length_nil, Nat.reduceAdd, Int.reduceToNat, List.eraseIdx, isi_int_none, isi_int_bool, isi_int_int, isi_int_str, isi_int_list, isi_int_tuple, isi_bool_none, isi_bool_bool, isi_bool_int, isi_bool_str, isi_bool_list, isi_bool_tuple, isi_str_none, isi_str_bool, isi_str_int, isi_str_str, isi_str_list, isi_str_tuple, isi_tuple_none, isi_tuple_bool, isi_tuple_int, isi_tuple_str, isi_tuple_list, isi_tuple_tuple, isi_list_none, isi_list_bool, isi_list_int, isi_list_str, isi_list_list, isi_list_tuple, atI_0, atI_1, atI_2, ixN_0, ixN_1]
        exact ⟨hD5.imm, by simpa [imm] using nts_imm fo, hD5, fo, n, rfl, rfl, by omega, ic⟩⟩
def pre_is_number (dl : List D) : Prop := ∃ (d : D) (lo hi : Int), dl = [d, .int lo, .int hi]
def post_is_number (dl : List D) (x : AV) : Prop := ∃ (d : D) (lo hi : Int), dl = [d, .int lo, .int hi] ∧ x = .fz (.bool (isNum lo hi d))
theorem ci_is_number (d : D) (lo hi : Int) {ds : Sto} {Q : Sto → AV → Prop} (q : Q ds (.fz (.bool (isNum lo hi d)))) : callB pre_is_number post_is_number 3 (some [d, .int lo, .int hi]) ds Q := callB_i rfl ⟨d, lo, hi, rfl⟩ fun x ⟨d', a, b, e, e2⟩ => by
  cases e
  subst e2
  exact q
theorem ok_is_number {f : Addr} {fd : FuncData} (F : Fun K "is_number" "is_number" s_is_number f fd) (T : Txt mg)  : FnOk P w K mg base CX0 (0 + 1) f fd ["thing", "low", "high"] (spP 3 pre_is_number post_is_number K) := by
  exact okP F sc_is_number rfl fun cdv A outer s H E hr => ⟨_, _, (ass_one (as_ret (ae_and (ae_isi "int" T.z_isinstance T.z_int (av 0)) (ae_and (ae_not (ae_isi "bool" T.z_isinstance T.z_bool (av 0))) (ae_one (ae_chain c_le c_le (av 1) (av 0) (av 2))))))), fun dl hl hp => by
    obtain ⟨d, lo, hi, rfl⟩ := hp
    show (_ : WS) _ [AV.fz d, .fz (.int lo), .fz (.int hi)]
    cases d with
    | int i =>
      simp -implicitDefEqProofs only [↓wVar_ap, ↓wC_ap, ↓wOp_ap, ↓wUn_ap, ↓wII_ap, ↓wIC_ap, ↓wIB_ap, ↓wNeg_ap, ↓wEqI_ap, ↓wEqD_ap, ↓wIsN_ap, ↓wAndV_ap, ↓wOrV_ap, ↓wNotV_ap, ↓wTest_ap, ↓wAnd_ap, ↓wOr_ap, ↓wNot_ap, ↓wIfE_ap, ↓wNil_ap, ↓wCons_ap, ↓wCB_ap, ↓wTup_ap, ↓wLst_ap, ↓wFrz_ap, ↓wCallP_ap, ↓wCallM_ap, ↓wBM_ap, ↓wBM0_ap, ↓wAppend_ap, ↓wExtend_ap, ↓wPopAt_ap, ↓wPop_ap, ↓wReverse_ap, ↓wIxL_ap, ↓wIxT_ap, ↓wNoPart_ap, ↓wPart_ap, ↓wSl_ap, ↓wSlL_ap, ↓wSlT_ap, ↓wLen_ap, ↓wListOf_ap, ↓wTupleOf_ap, ↓wAbs_ap, ↓wCatT_ap, ↓wCat_ap, ↓wRep_ap, ↓wInI_ap, ↓wRng1_ap, ↓wRng2_ap, ↓wRng3_ap, ↓wIList_ap, ↓wITup_ap, ↓wName_ap, ↓wgNil_ap, ↓wgCons_ap, ↓wgTup_ap, ↓wgLst_ap, ↓wgSub_ap, ↓wNext_ap, ↓wSeq_ap, ↓wAsg_ap, ↓wDrop_ap, ↓wRet_ap, ↓wRetN_ap, ↓wNever_ap, ↓wBreak_ap, ↓wCont_ap, ↓wPar_ap, ↓wAug_ap, ↓wIsT_ap, ↓wEnumT_ap, ↓wEnum_ap, ↓wChainF_ap, ↓wDNew_ap, ↓wDIn_ap, ↓wDGet_ap, ↓wDGet2_ap, ↓wDPut_ap, ↓wDUpd_ap, ↓wRg1_ap, ↓wRg2_ap, ↓wLstRg_ap, ↓wTupRg_ap, ↓wFrzV_ap, ↓wIxA_ap, ↓wTIdx_ap, ↓wLIdx_ap, ↓wAddD_ap, fMax, fMin, fSorted, ↓wIf_ap, ↓wThen_ap, ↓wFor_ap, ↓wWhile_ap, ↓wLc_ap, ↓wDc_ap, RetOk_fz, RetOk_ls, RetOk_rf, imm_int, imm_bool, imm_str, imm_none, ↓ifB_t, ↓ifB_f, ↓sto, ↓frz, stL, isNum_t, Int.reducePow, Int.reduceSub, Int.reduceAdd, Int.reduceMul, wInts, wBls, vl, vls, its, lsOf, oLs, oL, upL, fzs, keyOf, dkOf, isN, wipeS, ownFree, own_fz, own_un, own_rf, own_ls, own_lb, own_dk, List.map_cons, List.map_nil, List.all_cons, List.all_nil, List.set, List.getD_cons_zero, List.getD_cons_succ, List.getD_nil, List.getElem?_cons_zero, List.getElem?_cons_succ, Option.getD_some, List.getElem?_nil, Option.getD_none, Option.map_some, Option.map_none, Bool.false_eq_true, if_true, if_false, Bool.not_true, Bool.not_false, Bool.and_true, Bool.true_and, reduceCtorEq, and_true, true_and, and_false, false_and, Option.some.injEq, AV.fz.injEq, AV.ls.injEq, AV.lb.injEq, AV.dk.injEq, List.cons.injEq, PyData.int.injEq, PyData.list.injEq, PyData.tuple.injEq, exists_eq_left', exists_eq_left, List.length_cons, List.length_nil, Nat.reduceAdd, Int.reduceToNat, List.eraseIdx, isi_int_none, isi_int_bool, isi_int_int, isi_int_str, isi_int_list, isi_int_tuple, isi_bool_none, isi_bool_bool, isi_bool_int, isi_bool_str, isi_bool_list, isi_bool_tuple, isi_str_none, isi_str_bool, isi_str_int, isi_str_str, isi_str_list, isi_str_tuple, isi_tuple_none, isi_tuple_bool, isi_tuple_int, isi_tuple_str, isi_tuple_list, isi_tuple_tuple, isi_list_none, isi_list_bool, isi_list_int, isi_list_str, isi_list_list, isi_list_tuple, atI_0, atI_1, atI_2, ixN_0, ixN_1]
      split
      · rename_i h
        exact ⟨.int i, lo, hi, rfl, by simp only [isNum, h, Bool.true_and]⟩
      · rename_i h
        exact ⟨.int i, lo, hi, rfl, by simp only [isNum, Bool.eq_false_iff.mpr h, Bool.false_and]⟩
    | _ =>
      simp -implicitDefEqProofs only [↓wVar_ap, ↓wC_ap, ↓wOp_ap, ↓wUn_ap, ↓wII_ap, ↓wIC_ap, ↓wIB_ap, ↓wNeg_ap, ↓wEqI_ap, ↓wEqD_ap, ↓wIsN_ap, ↓wAndV_ap, ↓wOrV_ap, ↓wNotV_ap, ↓wTest_ap, ↓wAnd_ap, ↓wOr_ap, ↓wNot_ap, ↓wIfE_ap, ↓wNil_ap, ↓wCons_ap, ↓wCB_ap, ↓wTup_ap, ↓wLst_ap, ↓wFrz_ap, ↓wCallP_ap, ↓wCallM_ap, ↓wBM_ap, ↓wBM0_ap, ↓wAppend_ap, ↓wExtend_ap, ↓wPopAt_ap, ↓wPop_ap, ↓wReverse_ap, ↓wIxL_ap, ↓wIxT_ap, ↓wNoPart_ap, ↓wPart_ap, ↓wSl_ap, ↓wSlL_ap, ↓wSlT_ap, ↓wLen_ap, ↓wListOf_ap, ↓wTupleOf_ap, ↓wAbs_ap, ↓wCatT_ap, ↓wCat_ap, ↓wRep_ap, ↓wInI_ap, ↓wRng1_ap, ↓wRng2_ap, ↓wRng3_ap, ↓wIList_ap, ↓wITup_ap, ↓wName_ap, ↓wgNil_ap, ↓wgCons_ap, ↓wgTup_ap, ↓wgLst_ap, ↓wgSub_ap, ↓wNext_ap, ↓wSeq_ap, ↓wAsg_ap, ↓wDrop_ap, ↓wRet_ap, ↓wRetN_ap, ↓wNever_ap, ↓wBreak_ap, ↓wCont_ap, ↓wPar_ap, ↓wAug_ap, ↓wIsT_ap, ↓wEnumT_ap, ↓wEnum_ap, ↓wChainF_ap, ↓wDNew_ap, ↓wDIn_ap, ↓wDGet_ap, ↓wDGet2_ap, ↓wDPut_ap, ↓wDUpd_ap, ↓wRg1_ap, ↓wRg2_ap, ↓wLstRg_ap, ↓wTupRg_ap, ↓wFrzV_ap, ↓wIxA_ap, ↓wTIdx_ap, ↓wLIdx_ap, ↓wAddD_ap, fMax, fMin, fSorted, ↓wIf_ap, ↓wThen_ap, ↓wFor_ap, ↓wWhile_ap, ↓wLc_ap, ↓wDc_ap, RetOk_fz, RetOk_ls, RetOk_rf, imm_int, imm_bool, imm_str, imm_none, ↓ifB_t, ↓ifB_f, ↓sto, ↓frz, stL, isNum_t, Int.reducePow, Int.reduceSub, Int.reduceAdd, Int.reduceMul, wInts, wBls, vl, vls, its, lsOf, oLs, oL, upL, fzs, keyOf, dkOf, isN, wipeS, ownFree, own_fz, own_un, own_rf, own_ls, own_lb, own_dk, List.map_cons, List.map_nil, List.all_cons, List.all_nil, List.set, List.getD_cons_zero, List.getD_cons_succ, List.getD_nil, List.getElem?_cons_zero, List.getElem?_cons_succ, Option.getD_some, List.getElem?_nil, Option.getD_none, Option.map_some, Option.map_none, Bool.false_eq_true, if_true, if_false, Bool.not_true, Bool.not_false, Bool.and_true, Bool.true_and, reduceCtorEq, and_true, true_and, and_false, false_and, Option.some.injEq, AV.fz.injEq, AV.ls.injEq, AV.lb.injEq, AV.dk.injEq, List.cons.injEq, PyData.int.injEq, PyData.list.injEq, PyData.tuple.injEq, exists_eq_left', exists_eq_left, List.length_cons, List.length_nil, Nat.reduceAdd, Int.reduceToNat, List.eraseIdx, isi_int_none, isi_int_bool, isi_int_int, isi_int_str, isi_int_list, isi_int_tuple, isi_bool_none, isi_bool_bool, isi_bool_int, isi_bool_str, isi_bool_list, isi_bool_tuple, isi_str_none, isi_str_bool, isi_str_int, isi_str_str, isi_str_list, isi_str_tuple, isi_tuple_none, isi_tuple_bool, isi_tuple_int, isi_tuple_str, isi_tuple_list, isi_tuple_tuple, isi_list_none, isi_list_bool, isi_list_int, isi_list_str, isi_list_list, isi_list_tuple, atI_0, atI_1, atI_2, ixN_0, ixN_1]
      exact ⟨_, lo, hi, rfl, rfl⟩⟩
def pre_need_cards (dl : List D) : Prop := ∃ c : List Nat, dl = [.tuple (nts c)] ∧ IsC c ∧ c.length ≤ 12
def post_need_cards (dl : List D) (x : AV) : Prop := x = .fz .none
theorem ci_need_cards {c : List Nat} {ds : Sto} {Q : Sto → AV → Prop} (hc : IsC c) (h12 : c.length ≤ 12) (q : Q ds (.fz .none)) : callB pre_need_cards post_need_cards 1 (some [.tuple (nts c)]) ds Q := callB_i rfl ⟨c, rfl, hc, h12⟩ fun x e => by
  obtain rfl : x = .fz .none := e
  exact q
theorem ok_need_cards {f : Addr} {fd : FuncData} (F : Fun K "need_cards" "need_cards" s_need_cards f fd) (T : Txt mg) (C_is_number : Cal P w K mg base 1 "is_number" (spP 3 pre_is_number post_is_number K)) : FnOk P w K mg base CX0 (1 + 1) f fd ["cards"] (spP 1 pre_need_cards post_need_cards K) := by
  obtain ⟨_, g_LEAST_SEATS⟩ := T.c_LEAST_SEATS
  obtain ⟨_, g_MOST_SEATS⟩ := T.c_MOST_SEATS
  exact okP F sc_need_cards rfl fun cdv A outer s H E hr => ⟨_, _, (ass_cons (as_if (at_not (at_val (ae_isi "tuple" T.z_isinstance T.z_tuple (av 0)))) ass_never ass_nil) (ass_cons (as_for (ai_enumT T.z_enumerate (aa_cons (av 0) aa_nil)) (ag_tup (n := 2) (ags_cons (ag_name 1 sc_need_cards.nd) (ags_cons (ag_name 2 sc_need_cards.nd) ags_nil))) (ass_one (as_if (aw_or (at_cmp c_eq (av 1) (ae_globI g_MOST_SEATS)) (aw_or (at_not (at_val (ae_callP C_is_number hr (aa_cons (av 2) (aa_cons ae_int (aa_cons (ae_op o_sub (ae_callB k_len T.z_len (by decide +kernel) (aa_cons (av 0) aa_nil)) ae_int) aa_nil)))))) (aw_or1 (at_cmp c_in (av 2) (ae_slT (av 0) ao_none (ao_some (av 1))))))).pT ass_never ass_nil))) (ass_one (as_if (at_cmp c_lt (ae_callB k_len T.z_len (by decide +kernel) (aa_cons (av 0) aa_nil)) (ae_globI g_LEAST_SEATS)) ass_never ass_nil)))), fun dl hl hp => by
    obtain ⟨c, rfl, hc, hl12⟩ := hp
    show (_ : WS) _ [AV.fz (.tuple (nts c)), .un, .un]
    have h2 := hc.two
    simp -implicitDefEqProofs only [↓wVar_ap, ↓wC_ap, ↓wOp_ap, ↓wUn_ap, ↓wII_ap, ↓wIC_ap, ↓wIB_ap, ↓wNeg_ap, ↓wEqI_ap, ↓wEqD_ap, ↓wIsN_ap, ↓wAndV_ap, ↓wOrV_ap, ↓wNotV_ap, ↓wTest_ap, ↓wAnd_ap, ↓wOr_ap, ↓wNot_ap, ↓wIfE_ap, ↓wNil_ap, ↓wCons_ap, ↓wCB_ap, ↓wTup_ap, ↓wLst_ap, ↓wFrz_ap, ↓wCallP_ap, ↓wCallM_ap, ↓wBM_ap, ↓wBM0_ap, ↓wAppend_ap, ↓wExtend_ap, ↓wPopAt_ap, ↓wPop_ap, ↓wReverse_ap, ↓wIxL_ap, ↓wIxT_ap, ↓wNoPart_ap, ↓wPart_ap, ↓wSl_ap, ↓wSlL_ap, ↓wSlT_ap, ↓wLen_ap, ↓wListOf_ap, ↓wTupleOf_ap, ↓wAbs_ap, ↓wCatT_ap, ↓wCat_ap, ↓wRep_ap, ↓wInI_ap, ↓wRng1_ap, ↓wRng2_ap, ↓wRng3_ap, ↓wIList_ap, ↓wITup_ap, ↓wName_ap, ↓wgNil_ap, ↓wgCons_ap, ↓wgTup_ap, ↓wgLst_ap, ↓wgSub_ap, ↓wNext_ap, ↓wSeq_ap, ↓wAsg_ap, ↓wDrop_ap, ↓wRet_ap, ↓wRetN_ap, ↓wNever_ap, ↓wBreak_ap, ↓wCont_ap, ↓wPar_ap, ↓wAug_ap, ↓wIsT_ap, ↓wEnumT_ap, ↓wEnum_ap, ↓wChainF_ap, ↓wDNew_ap, ↓wDIn_ap, ↓wDGet_ap, ↓wDGet2_ap, ↓wDPut_ap, ↓wDUpd_ap, ↓wRg1_ap, ↓wRg2_ap, ↓wLstRg_ap, ↓wTupRg_ap, ↓wFrzV_ap, ↓wIxA_ap, ↓wTIdx_ap, ↓wLIdx_ap, ↓wAddD_ap, fMax, fMin, fSorted, ↓wIf_ap, ↓wThen_ap, ↓wFor_ap, ↓wWhile_ap, ↓wLc_ap, ↓wDc_ap, RetOk_fz, RetOk_ls, RetOk_rf, imm_int, imm_bool, imm_str, imm_none, ↓ifB_t, ↓ifB_f, ↓sto, ↓frz, stL, isNum_t, Int.reducePow, Int.reduceSub, Int.reduceAdd, Int.reduceMul, wInts, wBls, vl, vls, its, lsOf, oLs, oL, upL, fzs, keyOf, dkOf, isN, wipeS, ownFree, own_fz, own_un, own_rf, own_ls, own_lb, own_dk, List.map_cons, List.map_nil, List.all_cons, List.all_nil, List.set, List.getD_cons_zero, List.getD_cons_succ, List.getD_nil, List.getElem?_cons_zero, List.getElem?_cons_succ, Option.getD_some, List.getElem?_nil, Option.getD_none, Option.map_some, Option.map_none, Bool.false_eq_true, if_true, if_false, Bool.not_true, Bool.not_false, Bool.and_true, Bool.true_and, reduceCtorEq, and_true, true_and, and_false, false_and, Option.some.injEq, AV.fz.injEq, AV.ls.injEq, AV.lb.injEq, AV.dk.injEq, List.cons.injEq, PyData.int.injEq, PyData.list.injEq, PyData.tuple.injEq, exists_eq_left', exists_eq_left, List.length_cons, List.length_nil, Nat.reduceAdd, Int.reduceToNat, List.eraseIdx, isi_int_none, isi_int_bool, isi_int_int, isi_int_str, isi_int_list, isi_int_tuple, isi_bool_none, isi_bool_bool, isi_bool_int, isi_bool_str, isi_bool_list, isi_bool_tuple, isi_str_none, isi_str_bool, isi_str_int, isi_str_str, isi_str_list, isi_str_tuple, isi_tuple_none, isi_tuple_bool, isi_tuple_int, isi_tuple_str, isi_tuple_list, isi_tuple_tuple, isi_list_none, isi_list_bool, isi_list_int, isi_list_str, isi_list_list, isi_list_tuple, atI_0, atI_1, atI_2, ixN_0, ixN_1]
    refine forB_i (fun i ds => ∃ y z, ds = [AV.fz (.tuple (nts c)), y, z]) ⟨_, _, rfl⟩ (fun i d ds hd hi => ?_) (fun ds hi => ?_)
    · obtain ⟨y, z, rfl⟩ := hi
      have hi : i < c.length := by
        have := (List.getElem?_eq_some_iff.mp hd).1
        rwa [enu_len, nts_len] at this
      rw [enu_get (nts_get (st_at hi))] at hd
      cases hd
      simp -implicitDefEqProofs only [↓wVar_ap, ↓wC_ap, ↓wOp_ap, ↓wUn_ap, ↓wII_ap, ↓wIC_ap, ↓wIB_ap, ↓wNeg_ap, ↓wEqI_ap, ↓wEqD_ap, ↓wIsN_ap, ↓wAndV_ap, ↓wOrV_ap, ↓wNotV_ap, ↓wTest_ap, ↓wAnd_ap, ↓wOr_ap, ↓wNot_ap, ↓wIfE_ap, ↓wNil_ap, ↓wCons_ap, ↓wCB_ap, ↓wTup_ap, ↓wLst_ap, ↓wFrz_ap, ↓wCallP_ap, ↓wCallM_ap, ↓wBM_ap, ↓wBM0_ap, ↓wAppend_ap, ↓wExtend_ap, ↓wPopAt_ap, ↓wPop_ap, ↓wReverse_ap, ↓wIxL_ap, ↓wIxT_ap, ↓wNoPart_ap, ↓wPart_ap, ↓wSl_ap, ↓wSlL_ap, ↓wSlT_ap, ↓wLen_ap, ↓wListOf_ap, ↓wTupleOf_ap, ↓wAbs_ap, ↓wCatT_ap, ↓wCat_ap, ↓wRep_ap, ↓wInI_ap, ↓wRng1_ap, ↓wRng2_ap, ↓wRng3_ap, ↓wIList_ap, ↓wITup_ap, ↓wName_ap, ↓wgNil_ap, ↓wgCons_ap, ↓wgTup_ap, ↓wgLst_ap, ↓wgSub_ap, ↓wNext_ap, ↓wSeq_ap, ↓wAsg_ap, ↓wDrop_ap, ↓wRet_ap, ↓wRetN_ap, ↓wNever_ap, ↓wBreak_ap, ↓wCont_ap, ↓wPar_ap, ↓wAug_ap, ↓wIsT_ap, ↓wEnumT_ap, ↓wEnum_ap, ↓wChainF_ap, ↓wDNew_ap, ↓wDIn_ap, ↓wDGet_ap, ↓wDGet2_ap, ↓wDPut_ap, ↓wDUpd_ap, ↓wRg1_ap, ↓wRg2_ap, ↓wLstRg_ap, ↓wTupRg_ap, ↓wFrzV_ap, ↓wIxA_ap, ↓wTIdx_ap, ↓wLIdx_ap, ↓wAddD_ap, fMax, fMin, fSorted, ↓wIf_ap, ↓wThen_ap, ↓wFor_ap, ↓wWhile_ap, ↓wLc_ap, ↓wDc_ap, RetOk_fz, RetOk_ls, RetOk_rf, imm_int, imm_bool, imm_str, imm_none, ↓ifB_t, ↓ifB_f, ↓sto, ↓frz, stL, isNum_t, Int.reducePow, Int.reduceSub, Int.reduceAdd, Int.reduceMul, wInts, wBls, vl, vls, its, lsOf, oLs, oL, upL, fzs, keyOf, dkOf, isN, wipeS, ownFree, own_fz, own_un, own_rf, own_ls, own_lb, own_dk, List.map_cons, List.map_nil, List.all_cons, List.all_nil, List.set, List.getD_cons_zero, List.getD_cons_succ, List.getD_nil, List.getElem?_cons_zero, List.getElem?_cons_succ, Option.getD_some, List.getElem?_nil, Option.getD_none, Option.map_some, Option.map_none, Bool.false_eq_true, if_true, if_false, Bool.not_true, Bool.not_false, Bool.and_true, Bool.true_and, reduceCtorEq, and_true, true_and, and_false, false_and, Option.some.injEq, AV.fz.injEq, AV.ls.injEq, AV.lb.injEq, AV.dk.injEq, List.cons.injEq, PyData.int.injEq, PyData.list.injEq, PyData.tuple.injEq, exists_eq_left', exists_eq_left, List.length_cons, List.length_nil, Nat.reduceAdd, Int.reduceToNat, List.eraseIdx, isi_int_none, isi_int_bool, isi_int_int, isi_int_str, isi_int_list, isi_int_tuple, isi_bool_none, isi_bool_bool, isi_bool_int, isi_bool_str, isi_bool_list, isi_bool_tuple, isi_str_none, isi_str_bool, isi_str_int, isi_str_str, isi_str_list, isi_str_tuple, isi_tuple_none, isi_tuple_bool, isi_tuple_int, isi_tuple_str, isi_tuple_list, isi_tuple_tuple, isi_list_none, isi_list_bool, isi_list_int, isi_list_str, isi_list_list, isi_list_tuple, atI_0, atI_1, atI_2, ixN_0, ixN_1, nt_def, cut_to, nts_cut_to, nts_len]
      have e1 : decide ((i : Int) = 12) = false := decide_eq_false (by omega)
      rw [e1]
      simp -implicitDefEqProofs only [↓wVar_ap, ↓wC_ap, ↓wOp_ap, ↓wUn_ap, ↓wII_ap, ↓wIC_ap, ↓wIB_ap, ↓wNeg_ap, ↓wEqI_ap, ↓wEqD_ap, ↓wIsN_ap, ↓wAndV_ap, ↓wOrV_ap, ↓wNotV_ap, ↓wTest_ap, ↓wAnd_ap, ↓wOr_ap, ↓wNot_ap, ↓wIfE_ap, ↓wNil_ap, ↓wCons_ap, ↓wCB_ap, ↓wTup_ap, ↓wLst_ap, ↓wFrz_ap, ↓wCallP_ap, ↓wCallM_ap, ↓wBM_ap, ↓wBM0_ap, ↓wAppend_ap, ↓wExtend_ap, ↓wPopAt_ap, ↓wPop_ap, ↓wReverse_ap, ↓wIxL_ap, ↓wIxT_ap, ↓wNoPart_ap, ↓wPart_ap, ↓wSl_ap, ↓wSlL_ap, ↓wSlT_ap, ↓wLen_ap, ↓wListOf_ap, ↓wTupleOf_ap, ↓wAbs_ap, ↓wCatT_ap, ↓wCat_ap, ↓wRep_ap, ↓wInI_ap, ↓wRng1_ap, ↓wRng2_ap, ↓wRng3_ap, ↓wIList_ap, ↓wITup_ap, ↓wName_ap, ↓wgNil_ap, ↓wgCons_ap, ↓wgTup_ap, ↓wgLst_ap, ↓wgSub_ap, ↓wNext_ap, ↓wSeq_ap, ↓wAsg_ap, ↓wDrop_ap, ↓wRet_ap, ↓wRetN_ap, ↓wNever_ap, ↓wBreak_ap, ↓wCont_ap, ↓wPar_ap, ↓wAug_ap, ↓wIsT_ap, ↓wEnumT_ap, ↓wEnum_ap, ↓wChainF_ap, ↓wDNew_ap, ↓wDIn_ap, ↓wDGet_ap, ↓wDGet2_ap, ↓wDPut_ap, ↓wDUpd_ap, ↓wRg1_ap, ↓wRg2_ap, ↓wLstRg_ap, ↓wTupRg_ap, ↓wFrzV_ap, ↓wIxA_ap, ↓wTIdx_ap, ↓wLIdx_ap, ↓wAddD_ap, fMax, fMin, fSorted, ↓wIf_ap, ↓wThen_ap, ↓wFor_ap, ↓wWhile_ap, ↓wLc_ap, ↓wDc_ap, RetOk_fz, RetOk_ls, RetOk_rf, imm_int, imm_bool, imm_str, imm_none, ↓ifB_t, ↓ifB_f, ↓sto, ↓frz, stL, isNum_t, Int.reducePow, Int.reduceSub, Int.reduceAdd, Int.reduceMul, wInts, wBls, vl, vls, its, lsOf, oLs, oL, upL, fzs, keyOf, dkOf, isN, wipeS, ownFree, own_fz, own_un, own_rf, own_ls, own_lb, own_dk, List.map_cons, List.map_nil, List.all_cons, List.all_nil, List.set, List.getD_cons_zero, List.getD_cons_succ, List.getD_nil, List.getElem?_cons_zero, List.getElem?_cons_succ, Option.getD_some, List.getElem?_nil, Option.getD_none, Option.map_some, Option.map_none, Bool.false_eq_true, if_true, if_false, Bool.not_true, Bool.not_false, Bool.and_true, Bool.true_and, reduceCtorEq, and_true, true_and, and_false, false_and, Option.some.injEq, AV.fz.injEq, AV.ls.injEq, AV.lb.injEq, AV.dk.injEq, List.cons.injEq, PyData.int.injEq, PyData.list.injEq, PyData.tuple.injEq, exists_eq_left', exists_eq_left, List.length_cons, List.length_nil, Nat.reduceAdd, Int.reduceToNat, List.eraseIdx, isi_int_none, isi_int_bool, isi_int_int, isi_int_str, isi_int_list, isi_int_tuple, isi_bool_none, isi_bool_bool, isi_bool_int, isi_bool_str, isi_bool_list, isi_bool_tuple, isi_str_none, isi_str_bool, isi_str_int, isi_str_str, isi_str_list, isi_str_tuple, isi_tuple_none, isi_tuple_bool, isi_tuple_int, isi_tuple_str, isi_tuple_list, isi_tuple_tuple, isi_list_none, isi_list_bool, isi_list_int, isi_list_str, isi_list_list, isi_list_tuple, atI_0, atI_1, atI_2, ixN_0, ixN_1, nt_def]
      refine ⟨⟨_, _, _, rfl⟩, fun x hx => ?_⟩
      obtain ⟨d, lo, hi', e, rfl⟩ := hx
      simp only [List.cons.injEq, PyData.int.injEq, and_true] at e
      obtain ⟨rfl, rfl, rfl⟩ := e
      have e2 : isNum 0 ((c.length : Int) - 1) (.int ((st c i : Nat) : Int)) = true := by
        have := hc.st_lt hi
        simp only [isNum, Bool.and_eq_true, decide_eq_true_eq]
        omega
      simp -implicitDefEqProofs only [↓wVar_ap, ↓wC_ap, ↓wOp_ap, ↓wUn_ap, ↓wII_ap, ↓wIC_ap, ↓wIB_ap, ↓wNeg_ap, ↓wEqI_ap, ↓wEqD_ap, ↓wIsN_ap, ↓wAndV_ap, ↓wOrV_ap, ↓wNotV_ap, ↓wTest_ap, ↓wAnd_ap, ↓wOr_ap, ↓wNot_ap, ↓wIfE_ap, ↓wNil_ap, ↓wCons_ap, ↓wCB_ap, ↓wTup_ap, ↓wLst_ap, ↓wFrz_ap, ↓wCallP_ap, ↓wCallM_ap, ↓wBM_ap, ↓wBM0_ap, ↓wAppend_ap, ↓wExtend_ap, ↓wPopAt_ap, ↓wPop_ap, ↓wReverse_ap, ↓wIxL_ap, ↓wIxT_ap, ↓wNoPart_ap, ↓wPart_ap, ↓wSl_ap, ↓wSlL_ap, ↓wSlT_ap, ↓wLen_ap, ↓wListOf_ap, ↓wTupleOf_ap, ↓wAbs_ap, ↓wCatT_ap, ↓wCat_ap, ↓wRep_ap, ↓wInI_ap, ↓wRng1_ap, ↓wRng2_ap, ↓wRng3_ap, ↓wIList_ap, ↓wITup_ap, ↓wName_ap, ↓wgNil_ap, ↓wgCons_ap, ↓wgTup_ap, ↓wgLst_ap, ↓wgSub_ap, ↓wNext_ap, ↓wSeq_ap, ↓wAsg_ap, ↓wDrop_ap, ↓wRet_ap, ↓wRetN_ap, ↓wNever_ap, ↓wBreak_ap, ↓wCont_ap, ↓wPar_ap, ↓wAug_ap, ↓wIsT_ap, ↓wEnumT_ap, ↓wEnum_ap, ↓wChainF_ap, ↓wDNew_ap, ↓wDIn_ap, ↓wDGet_ap, ↓wDGet2_ap, ↓wDPut_ap, ↓wDUpd_ap, ↓wRg1_ap, ↓wRg2_ap, ↓wLstRg_ap, ↓wTupRg_ap, ↓wFrzV_ap, ↓wIxA_ap, ↓wTIdx_ap, ↓wLIdx_ap, ↓wAddD_ap, fMax, fMin, fSorted, ↓wIf_ap, ↓wThen_ap, ↓wFor_ap, ↓wWhile_ap, ↓wLc_ap, ↓wDc_ap, RetOk_fz, RetOk_ls, RetOk_rf, imm_int, imm_bool, imm_str, imm_none, ↓ifB_t, ↓ifB_f, ↓sto, ↓frz, stL, isNum_t, Int.reducePow, Int.reduceSub, Int.reduceAdd, Int.reduceMul, wInts, wBls, vl, vls, its, lsOf, oLs, oL, upL, fzs, keyOf, dkOf, isN, wipeS, ownFree, own_fz, own_un, own_rf, own_ls, own_lb, own_dk, List.map_cons, List.map_nil, List.all_cons, List.all_nil, List.set, List.getD_cons_zero, List.getD_cons_succ, List.getD_nil, List.getElem?_cons_zero, List.getElem?_cons_succ, Option.getD_some, List.getElem?_nil, Option.getD_none, Option.map_some, Option.map_none, Bool.false_eq_true, if_true, if_false, Bool.not_true, Bool.not_false, Bool.and_true, Bool.true_and, reduceCtorEq, and_true, true_and, and_false, false_and, Option.some.injEq, AV.fz.injEq, AV.ls.injEq, AV.lb.injEq, AV.dk.injEq, List.cons.injEq, PyData.int.injEq, PyData.list.injEq, PyData.tuple.injEq, exists_eq_left', exists_eq_left, List.length_cons, List.length_nil, Nat.reduceAdd, Int.reduceToNat, List.eraseIdx, isi_int_none, isi_int_bool, isi_int_int, isi_int_str, isi_int_list, isi_int_tuple, isi_bool_none, isi_bool_bool, isi_bool_int, isi_bool_str, isi_bool_list, isi_bool_tuple, isi_str_none, isi_str_bool, isi_str_int, isi_str_str, isi_str_list, isi_str_tuple, isi_tuple_none, isi_tuple_bool, isi_tuple_int, isi_tuple_str, isi_tuple_list, isi_tuple_tuple, isi_list_none, isi_list_bool, isi_list_int, isi_list_str, isi_list_list, isi_list_tuple, atI_0, atI_1, atI_2, ixN_0, ixN_1, e2]
      refine ⟨_, nts_ints _, ?_⟩
      have e3 : decide (((st c i : Nat) : Int) ∈ (c.take i).map fun n : Nat => (n : Int)) = false := by
        refine decide_eq_false fun q => ?_
        obtain ⟨n, hn, e⟩ := List.mem_map.mp q
        have e : n = st c i := by omega
        subst e
        obtain ⟨j, hj⟩ := List.mem_iff_getElem?.mp hn
        have lj := (List.getElem?_eq_some_iff.mp hj).1
        rw [List.length_take] at lj
        rw [List.getElem?_take_of_lt (by omega)] at hj
        have := nodup_at hc.2.2.1 hj (st_at hi)
        omega
      rw [e3]
      simp -implicitDefEqProofs only [↓wVar_ap, ↓wC_ap, ↓wOp_ap, ↓wUn_ap, ↓wII_ap, ↓wIC_ap, ↓wIB_ap, ↓wNeg_ap, ↓wEqI_ap, ↓wEqD_ap, ↓wIsN_ap, ↓wAndV_ap, ↓wOrV_ap, ↓wNotV_ap, ↓wTest_ap, ↓wAnd_ap, ↓wOr_ap, ↓wNot_ap, ↓wIfE_ap, ↓wNil_ap, ↓wCons_ap, ↓wCB_ap, ↓wTup_ap, ↓wLst_ap, ↓wFrz_ap, ↓wCallP_ap, ↓wCallM_ap, ↓wBM_ap, ↓wBM0_ap, ↓wAppend_ap, ↓wExtend_ap, ↓wPopAt_ap, ↓wPop_ap, ↓wReverse_ap, ↓wIxL_ap, ↓wIxT_ap, ↓wNoPart_ap, ↓wPart_ap, ↓wSl_ap, ↓wSlL_ap, ↓wSlT_ap, ↓wLen_ap, ↓wListOf_ap, ↓wTupleOf_ap, ↓wAbs_ap, ↓wCatT_ap, ↓wCat_ap, ↓wRep_ap, ↓wInI_ap, ↓wRng1_ap, ↓wRng2_ap, ↓wRng3_ap, ↓wIList_ap, ↓wITup_ap, ↓wName_ap, ↓wgNil_ap, ↓wgCons_ap, ↓wgTup_ap, ↓wgLst_ap, ↓wgSub_ap, ↓wNext_ap, ↓wSeq_ap, ↓wAsg_ap, ↓wDrop_ap, ↓wRet_ap, ↓wRetN_ap, ↓wNever_ap, ↓wBreak_ap, ↓wCont_ap, ↓wPar_ap, ↓wAug_ap, ↓wIsT_ap, ↓wEnumT_ap, ↓wEnum_ap, ↓wChainF_ap, ↓wDNew_ap, ↓wDIn_ap, ↓wDGet_ap, ↓wDGet2_ap, ↓wDPut_ap, ↓wDUpd_ap, ↓wRg1_ap, ↓wRg2_ap, ↓wLstRg_ap, ↓wTupRg_ap, ↓wFrzV_ap, ↓wIxA_ap, ↓wTIdx_ap, ↓wLIdx_ap, ↓wAddD_ap, fMax, fMin, fSorted, ↓wIf_ap, ↓wThen_ap, ↓wFor_ap, ↓wWhile_ap, ↓wLc_ap, ↓wDc_ap, RetOk_fz, RetOk_ls, RetOk_rf, imm_int, imm_bool, imm_str, imm_none, ↓ifB_t, ↓ifB_f, ↓sto, ↓frz, stL, isNum_t, Int.reducePow, Int.reduceSub, Int.reduceAdd, Int.reduceMul, wInts, wBls, vl, vls, its, lsOf, oLs, oL, upL, fzs, keyOf, dkOf, isN, wipeS, ownFree, own_fz, own_un, own_rf, own_ls, own_lb, own_dk, List.map_cons, List.map_nil, List.all_cons, List.all_nil, List.set, List.getD_cons_zero, List.getD_cons_succ, List.getD_nil, List.getElem?_cons_zero, List.getElem?_cons_succ, Option.getD_some, List.getElem?_nil, Option.getD_none, Option.map_some, Option.map_none, Bool.false_eq_true, if_true, if_false, Bool.not_true, Bool.not_false, Bool.and_true, Bool.true_and, reduceCtorEq, and_true, true_and, and_false, false_and, Option.some.injEq, AV.fz.injEq, AV.ls.injEq, AV.lb.injEq, AV.dk.injEq, List.cons.injEq, PyData.int.injEq, PyData.list.injEq, PyData.tuple.injEq, exists_eq_left', exists_eq_left, List.length_cons, List.length_nil, Nat.reduceAdd, Int.reduceToNat, List.eraseIdx, isi_int_none, isi_int_bool, isi_int_int, isi_int_str, isi_int_list, isi_int_tuple, isi_bool_none, isi_bool_bool, isi_bool_int, isi_bool_str, isi_bool_list, isi_bool_tuple, isi_str_none, isi_str_bool, isi_str_int, isi_str_str, isi_str_list, isi_str_tuple, isi_tuple_none, isi_tuple_bool, isi_tuple_int, isi_tuple_str, isi_tuple_list, isi_tuple_tuple, isi_list_none, isi_list_bool, isi_list_int, isi_list_str, isi_list_list, isi_list_tuple, atI_0, atI_1, atI_2, ixN_0, ixN_1]
      exact ⟨_, _, rfl, rfl⟩
    · obtain ⟨y, z, rfl⟩ := hi
      simp -implicitDefEqProofs only [↓wVar_ap, ↓wC_ap, ↓wOp_ap, ↓wUn_ap, ↓wII_ap, ↓wIC_ap, ↓wIB_ap, ↓wNeg_ap, ↓wEqI_ap, ↓wEqD_ap, ↓wIsN_ap, ↓wAndV_ap, ↓wOrV_ap, ↓wNotV_ap, ↓wTest_ap, ↓wAnd_ap, ↓wOr_ap, ↓wNot_ap, ↓wIfE_ap, ↓wNil_ap, ↓wCons_ap, ↓wCB_ap, ↓wTup_ap, ↓wLst_ap, ↓wFrz_ap, ↓wCallP_ap, ↓wCallM_ap, ↓wBM_ap, ↓wBM0_ap, ↓wAppend_ap, ↓wExtend_ap, ↓wPopAt_ap, ↓wPop_ap, ↓wReverse_ap, ↓wIxL_ap, ↓wIxT_ap, ↓wNoPart_ap, ↓wPart_ap, ↓wSl_ap, ↓wSlL_ap, ↓wSlT_ap, ↓wLen_ap, ↓wListOf_ap, ↓wTupleOf_ap, ↓wAbs_ap, ↓wCatT_ap, ↓wCat_ap, ↓wRep_ap, ↓wInI_ap, ↓wRng1_ap, ↓wRng2_ap, ↓wRng3_ap, ↓wIList_ap, ↓wITup_ap, ↓wName_ap, ↓wgNil_ap, ↓wgCons_ap, ↓wgTup_ap, ↓wgLst_ap, ↓wgSub_ap, ↓wNext_ap, ↓wSeq_ap, ↓wAsg_ap, ↓wDrop_ap, ↓wRet_ap, ↓wRetN_ap, ↓wNever_ap, ↓wBreak_ap, ↓wCont_ap, ↓wPar_ap, ↓wAug_ap, ↓wIsT_ap, ↓wEnumT_ap, ↓wEnum_ap, ↓wChainF_ap, ↓wDNew_ap, ↓wDIn_ap, ↓wDGet_ap, ↓wDGet2_ap, ↓wDPut_ap, ↓wDUpd_ap, ↓wRg1_ap, ↓wRg2_ap, ↓wLstRg_ap, ↓wTupRg_ap, ↓wFrzV_ap, ↓wIxA_ap, ↓wTIdx_ap, ↓wLIdx_ap, ↓wAddD_ap, fMax, fMin, fSorted, ↓wIf_ap, ↓wThen_ap, ↓wFor_ap, ↓wWhile_ap, ↓wLc_ap, ↓wDc_ap, RetOk_fz, RetOk_ls, RetOk_rf, imm_int, imm_bool, imm_str, imm_none, ↓ifB_t, ↓ifB_f, ↓sto, ↓frz, stL, isNum_t, Int.reducePow, Int.reduceSub, Int.reduceAdd, Int.reduceMul, wInts, wBls, vl, vls, its, lsOf, oLs, oL, upL, fzs, keyOf, dkOf, isN, wipeS, ownFree, own_fz, own_un, own_rf, own_ls, own_lb, own_dk, List.map_cons, List.map_nil, List.all_cons, List.all_nil, List.set, List.getD_cons_zero, List.getD_cons_succ, List.getD_nil, List.getElem?_cons_zero, List.getElem?_cons_succ, Option.getD_some, List.getElem?_nil, Option.getD_none, Option.map_some, Option.map_none, Bool.false_eq_true, if_true, if_false, Bool.not_true, Bool.not_false, Bool.and_true, Bool.true_and, reduceCtorEq, and_true, true_and, and_false, false_and, Option.some.injEq, AV.fz.injEq, AV.ls.injEq, AV.lb.injEq, AV.dk.injEq, List.cons.injEq, PyData.int.injEq, PyData.list.injEq, PyData.tuple.injEq, exists_eq_left', exists_eq_left, List.length_cons, List.length_nil, Nat.reduceAdd, Int.reduceToNat, List.eraseIdx, isi_int_none, isi_int_bool, isi_int_int, isi_int_str, isi_int_list, isi_int_tuple, isi_bool_none, isi_bool_bool, isi_bool_int, isi_bool_str, isi_bool_list, isi_bool_tuple, isi_str_none, isi_str_bool, isi_str_int, isi_str_str, isi_str_list, isi_str_tuple, isi_tuple_none, isi_tuple_bool, isi_tuple_int, isi_tuple_str, isi_tuple_list, isi_tuple_tuple, isi_list_none, isi_list_bool, isi_list_int, isi_list_str, isi_list_list, isi_list_tuple, atI_0, atI_1, atI_2, ixN_0, ixN_1, nts_len]
      refine ifB_i (fun h => ?_) (fun h => ?_)
      · simp at h
        omega
      · simp -implicitDefEqProofs only [↓wVar_ap, ↓wC_ap, ↓wOp_ap, ↓wUn_ap, ↓wII_ap, ↓wIC_ap, ↓wIB_ap, ↓wNeg_ap, ↓wEqI_ap, ↓wEqD_ap, ↓wIsN_ap, ↓wAndV_ap, ↓wOrV_ap, ↓wNotV_ap, ↓wTest_ap, ↓wAnd_ap, ↓wOr_ap, ↓wNot_ap, ↓wIfE_ap, ↓wNil_ap, ↓wCons_ap, ↓wCB_ap, ↓wTup_ap, ↓wLst_ap, ↓wFrz_ap, ↓wCallP_ap, ↓wCallM_ap, ↓wBM_ap, ↓wBM0_ap, ↓wAppend_ap, ↓wExtend_ap, ↓wPopAt_ap, ↓wPop_ap, ↓wReverse_ap, ↓wIxL_ap, ↓wIxT_ap, ↓wNoPart_ap, ↓wPart_ap, ↓wSl_ap, ↓wSlL_ap, ↓wSlT_ap, ↓wLen_ap, ↓wListOf_ap, ↓wTupleOf_ap, ↓wAbs_ap, ↓wCatT_ap, ↓wCat_ap, ↓wRep_ap, ↓wInI_ap, ↓wRng1_ap, ↓wRng2_ap, ↓wRng3_ap, ↓wIList_ap, ↓wITup_ap, ↓wName_ap, ↓wgNil_ap, ↓wgCons_ap, ↓wgTup_ap, ↓wgLst_ap, ↓wgSub_ap, ↓wNext_ap, ↓wSeq_ap, ↓wAsg_ap, ↓wDrop_ap, ↓wRet_ap, ↓wRetN_ap, ↓wNever_ap, ↓wBreak_ap, ↓wCont_ap, ↓wPar_ap, ↓wAug_ap, ↓wIsT_ap, ↓wEnumT_ap, ↓wEnum_ap, ↓wChainF_ap, ↓wDNew_ap, ↓wDIn_ap, ↓wDGet_ap, ↓wDGet2_ap, ↓wDPut_ap, ↓wDUpd_ap, ↓wRg1_ap, ↓wRg2_ap, ↓wLstRg_ap, ↓wTupRg_ap, ↓wFrzV_ap, ↓wIxA_ap, ↓wTIdx_ap, ↓wLIdx_ap, ↓wAddD_ap, fMax, fMin, fSorted, ↓wIf_ap, ↓wThen_ap, ↓wFor_ap, ↓wWhile_ap, ↓wLc_ap, ↓wDc_ap, RetOk_fz, RetOk_ls, RetOk_rf, imm_int, imm_bool, imm_str, imm_none, ↓ifB_t, ↓ifB_f, ↓sto, ↓frz, stL, isNum_t, Int.reducePow, Int.reduceSub, Int.reduceAdd, Int.reduceMul, wInts, wBls, vl, vls, its, lsOf, oLs, oL, upL, fzs, keyOf, dkOf, isN, wipeS, ownFree, own_fz, own_un, own_rf, own_ls, own_lb, own_dk, List.map_cons, List.map_nil, List.all_cons, List.all_nil, List.set, List.getD_cons_zero, List.getD_cons_succ, List.getD_nil, List.getElem?_cons_zero, List.getElem?_cons_succ, Option.getD_some, List.getElem?_nil, Option.getD_none, Option.map_some, Option.map_none, Bool.false_eq_true, if_true, if_false, Bool.not_true, Bool.not_false, Bool.and_true, Bool.true_and, reduceCtorEq, and_true, true_and, and_false, false_and, Option.some.injEq, AV.fz.injEq, AV.ls.injEq, AV.lb.injEq, AV.dk.injEq, List.cons.injEq, PyData.int.injEq, PyData.list.injEq, PyData.tuple.injEq, exists_eq_left', exists_eq_left, List.length_cons, List.length_nil, Nat.reduceAdd, Int.reduceToNat, List.eraseIdx, isi_int_none, isi_int_bool, isi_int_int, isi_int_str, isi_int_list, isi_int_tuple, isi_bool_none, isi_bool_bool, isi_bool_int, isi_bool_str, isi_bool_list, isi_bool_tuple, isi_str_none, isi_str_bool, isi_str_int, isi_str_str, isi_str_list, isi_str_tuple, isi_tuple_none, isi_tuple_bool, isi_tuple_int, isi_tuple_str, isi_tuple_list, isi_tuple_tuple, isi_list_none, isi_list_bool, isi_list_int, isi_list_str, isi_list_list, isi_list_tuple, atI_0, atI_1, atI_2, ixN_0, ixN_1]
        rfl⟩
def A_need_pins : (List Nat) × (Nat) → List D := fun (ps, n) => [.tuple (nts ps), .int (n : Int)]
def pre_need_pins : (List Nat) × (Nat) → Prop := fun (ps, n) => (PinOk n ps) ∧ (n ≤ 50)
def post_need_pins : (List Nat) × (Nat) → AV → Prop := fun (ps, n) x => x = (.fz .none)
theorem ci_need_pins (ps : List Nat) (n : Nat) {ds : Sto} {Q : Sto → AV → Prop} (hp : PinOk n ps) (hn : n ≤ 50) (q : Q ds (.fz .none)) : callIB 2 A_need_pins pre_need_pins post_need_pins (some [.tuple (nts ps), .int (n : Int)]) ds Q := callIB_i (args := A_need_pins) (ps, n) rfl ⟨hp, hn⟩ (fun x hx => by cases hx; exact q)
theorem ok_need_pins {f : Addr} {fd : FuncData} (F : Fun K "need_pins" "need_pins" s_need_pins f fd) (T : Txt mg) (C_is_number : Cal P w K mg base 1 "is_number" (spP 3 pre_is_number post_is_number K)) : FnOk P w K mg base CX0 (1 + 1) f fd ["pins", "many"] (spI 2 A_need_pins pre_need_pins post_need_pins K) := by
  exact okI F sc_need_pins rfl fun cdv A outer s H E hr => ⟨_, _, (ass_cons (as_if (aw_or (at_not (at_val (ae_isi "tuple" T.z_isinstance T.z_tuple (av 0)))) (aw_or1 (at_not (at_val (ae_callB (k_all) T.z_all (by decide +kernel) (aa_cons (ae_lc [("seat", 2)] sc_need_pins.nd (blkOk_by (N := N_need_pins) (sc := defScope s_need_pins) (by decide +kernel)) (ai_tup (av 0)) (fun _ _ _ _ _ => (ag_name 2 sc_need_pins.nd)) (fun _ _ _ _ _ => ats_nil) (fun _ _ _ _ _ => (ae_callP C_is_number hr (aa_cons (av 2) (aa_cons ae_int (aa_cons (ae_op o_sub (av 1) ae_int) aa_nil)))))) aa_nil)))))).pT ass_never ass_nil) (ass_one (as_if (at_cmp (c_neD hr) (ae_callTy k_list T.z_list rfl (aa_cons (av 0) aa_nil)) (ae_sortSet T.z_sorted T.z_set (av 0))) ass_never ass_nil))), fun i hp => by
    obtain ⟨ps, n⟩ := i
    obtain ⟨hp, hn⟩ := hp
    show (_ : WS) _ [AV.fz (.tuple (nts ps)), AV.fz (.int (n : Int)), .un]
    have hl := hp.len
    simp -implicitDefEqProofs -dsimp (disch := (first | assumption | omega)) only [↓wIf_s, ↓wFor_s, ↓wWhile_s, ↓wIC_s, ↓wEqD_s, ↓wAndV_s, ↓wOrV_s, ↓wAnd_s, ↓wOr_s, ↓wIfE_s, ↓wTup_s, ↓wLst_s, ↓wCallP_s, ↓wCallM_s, ↓wAppend_s, ↓wExtend_s, ↓wPop_s, ↓wIxL_s, ↓wIxT_s, ↓wIxA_s, ↓wCatT_s, ↓wCat_s, ↓wAddD_s, ↓wRep_s, ↓wInI_s, ↓wRng1_s, ↓wRng2_s, ↓wRng3_s, ↓wgTup_s, ↓wgLst_s, ↓wgSub_s, ↓wDGet_s, ↓wDPut_s, ↓wDUpd_s, ↓wLstRg_s, ↓wTupRg_s, ↓wTIdx_s, ↓wLIdx_s, ↓wPopAt_s, ↓wChainF_s, ↓wLc_s, ↓wDc_s, ↓wInts_s, ↓wBls_s, ↓wMaxF_s, ↓wMinF_s, ↓wSortedF_s, ↓wLc2_s, ↓wSortSet_s, ↓wZip_s, ↓wRevL_s, ↓wCallI_s, ↓wCallID_s, ↓wCallIK_s, ↓wCallJ_s, ↓wVar_ap, ↓wC_ap, ↓wOp_ap, ↓wUn_ap, ↓wII_ap, ↓wIB_ap, ↓wNeg_ap, ↓wEqI_ap, ↓wIsN_ap, ↓wNotV_ap, ↓wTest_ap, ↓wNot_ap, ↓wNil_ap, ↓wCons_ap, ↓wCB_ap, ↓wFrz_ap, ↓wBM_ap, ↓wBM0_ap, ↓wReverse_ap, ↓wNoPart_ap, ↓wPart_ap, ↓wSl_ap, ↓wSlL_ap, ↓wSlT_ap, ↓wLen_ap, ↓wListOf_ap, ↓wTupleOf_ap, ↓wAbs_ap, ↓wIList_ap, ↓wITup_ap, ↓wName_ap, ↓wgNil_ap, ↓wgCons_ap, ↓wNext_ap, ↓wSeq_ap, ↓wAsg_ap, ↓wDrop_ap, ↓wRet_ap, ↓wRetN_ap, ↓wNever_ap, ↓wBreak_ap, ↓wCont_ap, ↓wPar_ap, ↓wAug_ap, ↓wIsT_ap, ↓wEnumT_ap, ↓wEnum_ap, ↓wDNew_ap, ↓wDIn_ap, ↓wDGet2_ap, ↓wRg1_ap, ↓wRg2_ap, ↓wFrzV_ap, ↓wThen_ap, ↓ifS_t, ↓ifS_f, ↓ifQ_t, ↓ifQ_f, ↓gtB_s, ↓intsB_m, ↓intsB_n, ↓intsB_nil, ↓intsB_1, ↓intsB_2, ↓intsB_3, ↓eqB_bool, ↓eqB_int, ↓eqB_non, Bool.true_beq, Bool.false_beq, ↓inB_s, ↓ret_fz, ↓ret_ls, ↓ret_rf, ret_nts, ret_tnts, ret_int, ret_bool, ret_none, ret_str, ret_rgD, ↓lcN_a, ↓lcO_a, ↓lcM_a, ↓lcP_a, ↓blB_s, ↓blB_nil, ↓blB_1, ↓blB_2, ↓blB_3, ↓sto, ↓frz, stL, isNum_t, Int.reducePow, Int.reduceSub, Int.reduceAdd, Int.reduceMul, vl, vls, its, lsOf, oLs, oL, upL, fzs, keyOf, dkOf, isN, wipeS, ownFree, own_fz, own_un, own_rf, own_ls, own_lb, own_dk, List.map_cons, List.map_nil, List.all_cons, List.all_nil, List.set, List.getD_cons_zero, List.getD_cons_succ, List.getD_nil, List.getElem?_cons_zero, List.getElem?_cons_succ, Option.getD_some, List.getElem?_nil, Option.getD_none, Option.map_some, Option.map_none, Bool.false_eq_true, if_true, if_false, Bool.not_true, Bool.not_false, Bool.and_true, Bool.true_and, Bool.and_self, Bool.and_false, Bool.false_and, Bool.or_true, Bool.true_or, Bool.or_false, Bool.false_or, List.cons_append, List.nil_append, List.append_nil, List.length_cons, List.length_nil, Nat.reduceAdd, Int.reduceToNat, List.eraseIdx, Int.reduceNeg, Int.sub_zero, Int.toNat_natCast, eq_self, decide_true, cl_0, cl_1, cl_2, cl_3, cl_4, cl_5, cl_6, cl_7, cl_8, cl_9, cl_10, cl_11, cl_12, cl_13, sd_true, sd_refl, castL_map, sd_le, sd_lt, sd_eqn, sd_div, sd_mulL, sd_mulR, sd_pow, sd_rg, sd_rg1, sd_mem, repB_1, lb_ex, swp_eq, pr_snoc, pr_len, prD_rev, zips_nts, rep_one, rep_nts, rep_nts0, at_mod, modN, at_nts, ix_nts, ix_len, set_nts, app_nts, app2_nts, rg_snoc, rgD_len, idx_cast, cut_fromN, cut_toN, cut_two, mem_castD, cast_ltD, cast_leD, cast_eqD, rng_0, nt_def, nts_len, List.length_range, atI_0, atI_1, atI_2, ixN_0, ixN_1, List.length_map, isi_int_none, isi_int_bool, isi_int_int, isi_int_str, isi_int_list, isi_int_tuple, isi_bool_none, isi_bool_bool, isi_bool_int, isi_bool_str, isi_bool_list, isi_bool_tuple, isi_str_none, isi_str_bool, isi_str_int, isi_str_str, isi_str_list, isi_str_tuple, isi_tuple_none, isi_tuple_bool, isi_tuple_int, isi_tuple_str, isi_tuple_list, isi_tuple_tuple, isi_list_none, isi_list_bool, isi_list_int, isi_list_str, isi_list_list, isi_list_tuple]
    refine lcB_b (fun _ => true) (by omega) (fun i s J K hs hJ => ?_) ?_
    · have hs2 := hp.2 s (List.mem_of_getElem? hs)
      simp -implicitDefEqProofs -dsimp (disch := (first | assumption | omega)) only [↓wIf_s, ↓wFor_s, ↓wWhile_s, ↓wIC_s, ↓wEqD_s, ↓wAndV_s, ↓wOrV_s, ↓wAnd_s, ↓wOr_s, ↓wIfE_s, ↓wTup_s, ↓wLst_s, ↓wCallP_s, ↓wCallM_s, ↓wAppend_s, ↓wExtend_s, ↓wPop_s, ↓wIxL_s, ↓wIxT_s, ↓wIxA_s, ↓wCatT_s, ↓wCat_s, ↓wAddD_s, ↓wRep_s, ↓wInI_s, ↓wRng1_s, ↓wRng2_s, ↓wRng3_s, ↓wgTup_s, ↓wgLst_s, ↓wgSub_s, ↓wDGet_s, ↓wDPut_s, ↓wDUpd_s, ↓wLstRg_s, ↓wTupRg_s, ↓wTIdx_s, ↓wLIdx_s, ↓wPopAt_s, ↓wChainF_s, ↓wLc_s, ↓wDc_s, ↓wInts_s, ↓wBls_s, ↓wMaxF_s, ↓wMinF_s, ↓wSortedF_s, ↓wLc2_s, ↓wSortSet_s, ↓wZip_s, ↓wRevL_s, ↓wCallI_s, ↓wCallID_s, ↓wCallIK_s, ↓wCallJ_s, ↓wVar_ap, ↓wC_ap, ↓wOp_ap, ↓wUn_ap, ↓wII_ap, ↓wIB_ap, ↓wNeg_ap, ↓wEqI_ap, ↓wIsN_ap, ↓wNotV_ap, ↓wTest_ap, ↓wNot_ap, ↓wNil_ap, ↓wCons_ap, ↓wCB_ap, ↓wFrz_ap, ↓wBM_ap, ↓wBM0_ap, ↓wReverse_ap, ↓wNoPart_ap, ↓wPart_ap, ↓wSl_ap, ↓wSlL_ap, ↓wSlT_ap, ↓wLen_ap, ↓wListOf_ap, ↓wTupleOf_ap, ↓wAbs_ap, ↓wIList_ap, ↓wITup_ap, ↓wName_ap, ↓wgNil_ap, ↓wgCons_ap, ↓wNext_ap, ↓wSeq_ap, ↓wAsg_ap, ↓wDrop_ap, ↓wRet_ap, ↓wRetN_ap, ↓wNever_ap, ↓wBreak_ap, ↓wCont_ap, ↓wPar_ap, ↓wAug_ap, ↓wIsT_ap, ↓wEnumT_ap, ↓wEnum_ap, ↓wDNew_ap, ↓wDIn_ap, ↓wDGet2_ap, ↓wRg1_ap, ↓wRg2_ap, ↓wFrzV_ap, ↓wThen_ap, ↓ifS_t, ↓ifS_f, ↓ifQ_t, ↓ifQ_f, ↓gtB_s, ↓intsB_m, ↓intsB_n, ↓intsB_nil, ↓intsB_1, ↓intsB_2, ↓intsB_3, ↓eqB_bool, ↓eqB_int, ↓eqB_non, Bool.true_beq, Bool.false_beq, ↓inB_s, ↓ret_fz, ↓ret_ls, ↓ret_rf, ret_nts, ret_tnts, ret_int, ret_bool, ret_none, ret_str, ret_rgD, ↓lcN_a, ↓lcO_a, ↓lcM_a, ↓lcP_a, ↓blB_s, ↓blB_nil, ↓blB_1, ↓blB_2, ↓blB_3, ↓sto, ↓frz, stL, isNum_t, Int.reducePow, Int.reduceSub, Int.reduceAdd, Int.reduceMul, vl, vls, its, lsOf, oLs, oL, upL, fzs, keyOf, dkOf, isN, wipeS, ownFree, own_fz, own_un, own_rf, own_ls, own_lb, own_dk, List.map_cons, List.map_nil, List.all_cons, List.all_nil, List.set, List.getD_cons_zero, List.getD_cons_succ, List.getD_nil, List.getElem?_cons_zero, List.getElem?_cons_succ, Option.getD_some, List.getElem?_nil, Option.getD_none, Option.map_some, Option.map_none, Bool.false_eq_true, if_true, if_false, Bool.not_true, Bool.not_false, Bool.and_true, Bool.true_and, Bool.and_self, Bool.and_false, Bool.false_and, Bool.or_true, Bool.true_or, Bool.or_false, Bool.false_or, List.cons_append, List.nil_append, List.append_nil, List.length_cons, List.length_nil, Nat.reduceAdd, Int.reduceToNat, List.eraseIdx, Int.reduceNeg, Int.sub_zero, Int.toNat_natCast, eq_self, decide_true, cl_0, cl_1, cl_2, cl_3, cl_4, cl_5, cl_6, cl_7, cl_8, cl_9, cl_10, cl_11, cl_12, cl_13, sd_true, sd_refl, castL_map, sd_le, sd_lt, sd_eqn, sd_div, sd_mulL, sd_mulR, sd_pow, sd_rg, sd_rg1, sd_mem, repB_1, lb_ex, swp_eq, pr_snoc, pr_len, prD_rev, zips_nts, rep_one, rep_nts, rep_nts0, at_mod, modN, at_nts, ix_nts, ix_len, set_nts, app_nts, app2_nts, rg_snoc, rgD_len, idx_cast, cut_fromN, cut_toN, cut_two, mem_castD, cast_ltD, cast_leD, cast_eqD, rng_0, nt_def, nts_len, List.length_range, atI_0, atI_1, atI_2, ixN_0, ixN_1, List.length_map, isi_int_none, isi_int_bool, isi_int_int, isi_int_str, isi_int_list, isi_int_tuple, isi_bool_none, isi_bool_bool, isi_bool_int, isi_bool_str, isi_bool_list, isi_bool_tuple, isi_str_none, isi_str_bool, isi_str_int, isi_str_str, isi_str_list, isi_str_tuple, isi_tuple_none, isi_tuple_bool, isi_tuple_int, isi_tuple_str, isi_tuple_list, isi_tuple_tuple, isi_list_none, isi_list_bool, isi_list_int, isi_list_str, isi_list_list, isi_list_tuple]
      refine ci_is_number _ _ _ ?_
      simp -implicitDefEqProofs -dsimp (disch := (first | assumption | omega)) only [↓wIf_s, ↓wFor_s, ↓wWhile_s, ↓wIC_s, ↓wEqD_s, ↓wAndV_s, ↓wOrV_s, ↓wAnd_s, ↓wOr_s, ↓wIfE_s, ↓wTup_s, ↓wLst_s, ↓wCallP_s, ↓wCallM_s, ↓wAppend_s, ↓wExtend_s, ↓wPop_s, ↓wIxL_s, ↓wIxT_s, ↓wIxA_s, ↓wCatT_s, ↓wCat_s, ↓wAddD_s, ↓wRep_s, ↓wInI_s, ↓wRng1_s, ↓wRng2_s, ↓wRng3_s, ↓wgTup_s, ↓wgLst_s, ↓wgSub_s, ↓wDGet_s, ↓wDPut_s, ↓wDUpd_s, ↓wLstRg_s, ↓wTupRg_s, ↓wTIdx_s, ↓wLIdx_s, ↓wPopAt_s, ↓wChainF_s, ↓wLc_s, ↓wDc_s, ↓wInts_s, ↓wBls_s, ↓wMaxF_s, ↓wMinF_s, ↓wSortedF_s, ↓wLc2_s, ↓wSortSet_s, ↓wZip_s, ↓wRevL_s, ↓wCallI_s, ↓wCallID_s, ↓wCallIK_s, ↓wCallJ_s, ↓wVar_ap, ↓wC_ap, ↓wOp_ap, ↓wUn_ap, ↓wII_ap, ↓wIB_ap, ↓wNeg_ap, ↓wEqI_ap, ↓wIsN_ap, ↓wNotV_ap, ↓wTest_ap, ↓wNot_ap, ↓wNil_ap, ↓wCons_ap, ↓wCB_ap, ↓wFrz_ap, ↓wBM_ap, ↓wBM0_ap, ↓wReverse_ap, ↓wNoPart_ap, ↓wPart_ap, ↓wSl_ap, ↓wSlL_ap, ↓wSlT_ap, ↓wLen_ap, ↓wListOf_ap, ↓wTupleOf_ap, ↓wAbs_ap, ↓wIList_ap, ↓wITup_ap, ↓wName_ap, ↓wgNil_ap, ↓wgCons_ap, ↓wNext_ap, ↓wSeq_ap, ↓wAsg_ap, ↓wDrop_ap, ↓wRet_ap, ↓wRetN_ap, ↓wNever_ap, ↓wBreak_ap, ↓wCont_ap, ↓wPar_ap, ↓wAug_ap, ↓wIsT_ap, ↓wEnumT_ap, ↓wEnum_ap, ↓wDNew_ap, ↓wDIn_ap, ↓wDGet2_ap, ↓wRg1_ap, ↓wRg2_ap, ↓wFrzV_ap, ↓wThen_ap, ↓ifS_t, ↓ifS_f, ↓ifQ_t, ↓ifQ_f, ↓gtB_s, ↓intsB_m, ↓intsB_n, ↓intsB_nil, ↓intsB_1, ↓intsB_2, ↓intsB_3, ↓eqB_bool, ↓eqB_int, ↓eqB_non, Bool.true_beq, Bool.false_beq, ↓inB_s, ↓ret_fz, ↓ret_ls, ↓ret_rf, ret_nts, ret_tnts, ret_int, ret_bool, ret_none, ret_str, ret_rgD, ↓lcN_a, ↓lcO_a, ↓lcM_a, ↓lcP_a, ↓blB_s, ↓blB_nil, ↓blB_1, ↓blB_2, ↓blB_3, ↓sto, ↓frz, stL, isNum_t, Int.reducePow, Int.reduceSub, Int.reduceAdd, Int.reduceMul, vl, vls, its, lsOf, oLs, oL, upL, fzs, keyOf, dkOf, isN, wipeS, ownFree, own_fz, own_un, own_rf, own_ls, own_lb, own_dk, List.map_cons, List.map_nil, List.all_cons, List.all_nil, List.set, List.getD_cons_zero, List.getD_cons_succ, List.getD_nil, List.getElem?_cons_zero, List.getElem?_cons_succ, Option.getD_some, List.getElem?_nil, Option.getD_none, Option.map_some, Option.map_none, Bool.false_eq_true, if_true, if_false, Bool.not_true, Bool.not_false, Bool.and_true, Bool.true_and, Bool.and_self, Bool.and_false, Bool.false_and, Bool.or_true, Bool.true_or, Bool.or_false, Bool.false_or, List.cons_append, List.nil_append, List.append_nil, List.length_cons, List.length_nil, Nat.reduceAdd, Int.reduceToNat, List.eraseIdx, Int.reduceNeg, Int.sub_zero, Int.toNat_natCast, eq_self, decide_true, cl_0, cl_1, cl_2, cl_3, cl_4, cl_5, cl_6, cl_7, cl_8, cl_9, cl_10, cl_11, cl_12, cl_13, sd_true, sd_refl, castL_map, sd_le, sd_lt, sd_eqn, sd_div, sd_mulL, sd_mulR, sd_pow, sd_rg, sd_rg1, sd_mem, repB_1, lb_ex, swp_eq, pr_snoc, pr_len, prD_rev, zips_nts, rep_one, rep_nts, rep_nts0, at_mod, modN, at_nts, ix_nts, ix_len, set_nts, app_nts, app2_nts, rg_snoc, rgD_len, idx_cast, cut_fromN, cut_toN, cut_two, mem_castD, cast_ltD, cast_leD, cast_eqD, rng_0, nt_def, nts_len, List.length_range, atI_0, atI_1, atI_2, ixN_0, ixN_1, List.length_map, isi_int_none, isi_int_bool, isi_int_int, isi_int_str, isi_int_list, isi_int_tuple, isi_bool_none, isi_bool_bool, isi_bool_int, isi_bool_str, isi_bool_list, isi_bool_tuple, isi_str_none, isi_str_bool, isi_str_int, isi_str_str, isi_str_list, isi_str_tuple, isi_tuple_none, isi_tuple_bool, isi_tuple_int, isi_tuple_str, isi_tuple_list, isi_tuple_tuple, isi_list_none, isi_list_bool, isi_list_int, isi_list_str, isi_list_list, isi_list_tuple]
      exact hJ
    · have ha : (ps.map fun _ => true).all id = true := List.all_eq_true.mpr fun b hb => by
        obtain ⟨_, _, rfl⟩ := List.mem_map.mp hb
        rfl
      simp -implicitDefEqProofs -dsimp (disch := (first | assumption | omega)) only [↓wIf_s, ↓wFor_s, ↓wWhile_s, ↓wIC_s, ↓wEqD_s, ↓wAndV_s, ↓wOrV_s, ↓wAnd_s, ↓wOr_s, ↓wIfE_s, ↓wTup_s, ↓wLst_s, ↓wCallP_s, ↓wCallM_s, ↓wAppend_s, ↓wExtend_s, ↓wPop_s, ↓wIxL_s, ↓wIxT_s, ↓wIxA_s, ↓wCatT_s, ↓wCat_s, ↓wAddD_s, ↓wRep_s, ↓wInI_s, ↓wRng1_s, ↓wRng2_s, ↓wRng3_s, ↓wgTup_s, ↓wgLst_s, ↓wgSub_s, ↓wDGet_s, ↓wDPut_s, ↓wDUpd_s, ↓wLstRg_s, ↓wTupRg_s, ↓wTIdx_s, ↓wLIdx_s, ↓wPopAt_s, ↓wChainF_s, ↓wLc_s, ↓wDc_s, ↓wInts_s, ↓wBls_s, ↓wMaxF_s, ↓wMinF_s, ↓wSortedF_s, ↓wLc2_s, ↓wSortSet_s, ↓wZip_s, ↓wRevL_s, ↓wCallI_s, ↓wCallID_s, ↓wCallIK_s, ↓wCallJ_s, ↓wVar_ap, ↓wC_ap, ↓wOp_ap, ↓wUn_ap, ↓wII_ap, ↓wIB_ap, ↓wNeg_ap, ↓wEqI_ap, ↓wIsN_ap, ↓wNotV_ap, ↓wTest_ap, ↓wNot_ap, ↓wNil_ap, ↓wCons_ap, ↓wCB_ap, ↓wFrz_ap, ↓wBM_ap, ↓wBM0_ap, ↓wReverse_ap, ↓wNoPart_ap, ↓wPart_ap, ↓wSl_ap, ↓wSlL_ap, ↓wSlT_ap, ↓wLen_ap, ↓wListOf_ap, ↓wTupleOf_ap, ↓wAbs_ap, ↓wIList_ap, ↓wITup_ap, ↓wName_ap, ↓wgNil_ap, ↓wgCons_ap, ↓wNext_ap, ↓wSeq_ap, ↓wAsg_ap, ↓wDrop_ap, ↓wRet_ap, ↓wRetN_ap, ↓wNever_ap, ↓wBreak_ap, ↓wCont_ap, ↓wPar_ap, ↓wAug_ap, ↓wIsT_ap, ↓wEnumT_ap, ↓wEnum_ap, ↓wDNew_ap, ↓wDIn_ap, ↓wDGet2_ap, ↓wRg1_ap, ↓wRg2_ap, ↓wFrzV_ap, ↓wThen_ap, ↓ifS_t, ↓ifS_f, ↓ifQ_t, ↓ifQ_f, ↓gtB_s, ↓intsB_m, ↓intsB_n, ↓intsB_nil, ↓intsB_1, ↓intsB_2, ↓intsB_3, ↓eqB_bool, ↓eqB_int, ↓eqB_non, Bool.true_beq, Bool.false_beq, ↓inB_s, ↓ret_fz, ↓ret_ls, ↓ret_rf, ret_nts, ret_tnts, ret_int, ret_bool, ret_none, ret_str, ret_rgD, ↓lcN_a, ↓lcO_a, ↓lcM_a, ↓lcP_a, ↓blB_s, ↓blB_nil, ↓blB_1, ↓blB_2, ↓blB_3, ↓sto, ↓frz, stL, isNum_t, Int.reducePow, Int.reduceSub, Int.reduceAdd, Int.reduceMul, vl, vls, its, lsOf, oLs, oL, upL, fzs, keyOf, dkOf, isN, wipeS, ownFree, own_fz, own_un, own_rf, own_ls, own_lb, own_dk, List.map_cons, List.map_nil, List.all_cons, List.all_nil, List.set, List.getD_cons_zero, List.getD_cons_succ, List.getD_nil, List.getElem?_cons_zero, List.getElem?_cons_succ, Option.getD_some, List.getElem?_nil, Option.getD_none, Option.map_some, Option.map_none, Bool.false_eq_true, if_true, if_false, Bool.not_true, Bool.not_false, Bool.and_true, Bool.true_and, Bool.and_self, Bool.and_false, Bool.false_and, Bool.or_true, Bool.true_or, Bool.or_false, Bool.false_or, List.cons_append, List.nil_append, List.append_nil, List.length_cons, List.length_nil, Nat.reduceAdd, Int.reduceToNat, List.eraseIdx, Int.reduceNeg, Int.sub_zero, Int.toNat_natCast, eq_self, decide_true, cl_0, cl_1, cl_2, cl_3, cl_4, cl_5, cl_6, cl_7, cl_8, cl_9, cl_10, cl_11, cl_12, cl_13, sd_true, sd_refl, castL_map, sd_le, sd_lt, sd_eqn, sd_div, sd_mulL, sd_mulR, sd_pow, sd_rg, sd_rg1, sd_mem, repB_1, lb_ex, swp_eq, pr_snoc, pr_len, prD_rev, zips_nts, rep_one, rep_nts, rep_nts0, at_mod, modN, at_nts, ix_nts, ix_len, set_nts, app_nts, app2_nts, rg_snoc, rgD_len, idx_cast, cut_fromN, cut_toN, cut_two, mem_castD, cast_ltD, cast_leD, cast_eqD, rng_0, nt_def, nts_len, List.length_range, atI_0, atI_1, atI_2, ixN_0, ixN_1, List.length_map, isi_int_none, isi_int_bool, isi_int_int, isi_int_str, isi_int_list, isi_int_tuple, isi_bool_none, isi_bool_bool, isi_bool_int, isi_bool_str, isi_bool_list, isi_bool_tuple, isi_str_none, isi_str_bool, isi_str_int, isi_str_str, isi_str_list, isi_str_tuple, isi_tuple_none, isi_tuple_bool, isi_tuple_int, isi_tuple_str, isi_tuple_list, isi_tuple_tuple, isi_list_none, isi_list_bool, isi_list_int, isi_list_str, isi_list_list, isi_list_tuple, ha]
      refine ⟨by unfold castL; rw [List.length_map]; omega, fun ns' h1 h2 => ?_⟩
      have e : ns' = castL ps := by
        refine List.Perm.eq_of_pairwise (fun _ _ _ _ a b => Int.le_antisymm a b) (h1.imp fun h => Int.le_of_lt h) (List.pairwise_map.mpr (hp.1.imp fun h => by omega)) ?_
        refine (List.perm_ext_iff_of_nodup (h1.imp fun h => Int.ne_of_lt h) ?_).mpr h2
        unfold castL
        rw [List.nodup_iff_pairwise_ne, List.pairwise_map]
        exact hp.1.imp fun h => by omega
      simp -implicitDefEqProofs -dsimp (disch := (first | assumption | omega)) only [↓wIf_s, ↓wFor_s, ↓wWhile_s, ↓wIC_s, ↓wEqD_s, ↓wAndV_s, ↓wOrV_s, ↓wAnd_s, ↓wOr_s, ↓wIfE_s, ↓wTup_s, ↓wLst_s, ↓wCallP_s, ↓wCallM_s, ↓wAppend_s, ↓wExtend_s, ↓wPop_s, ↓wIxL_s, ↓wIxT_s, ↓wIxA_s, ↓wCatT_s, ↓wCat_s, ↓wAddD_s, ↓wRep_s, ↓wInI_s, ↓wRng1_s, ↓wRng2_s, ↓wRng3_s, ↓wgTup_s, ↓wgLst_s, ↓wgSub_s, ↓wDGet_s, ↓wDPut_s, ↓wDUpd_s, ↓wLstRg_s, ↓wTupRg_s, ↓wTIdx_s, ↓wLIdx_s, ↓wPopAt_s, ↓wChainF_s, ↓wLc_s, ↓wDc_s, ↓wInts_s, ↓wBls_s, ↓wMaxF_s, ↓wMinF_s, ↓wSortedF_s, ↓wLc2_s, ↓wSortSet_s, ↓wZip_s, ↓wRevL_s, ↓wCallI_s, ↓wCallID_s, ↓wCallIK_s, ↓wCallJ_s, ↓wVar_ap, ↓wC_ap, ↓wOp_ap, ↓wUn_ap, ↓wII_ap, ↓wIB_ap, ↓wNeg_ap, ↓wEqI_ap, ↓wIsN_ap, ↓wNotV_ap, ↓wTest_ap, ↓wNot_ap, ↓wNil_ap, ↓wCons_ap, ↓wCB_ap, ↓wFrz_ap, ↓wBM_ap, ↓wBM0_ap, ↓wReverse_ap, ↓wNoPart_ap, ↓wPart_ap, ↓wSl_ap, ↓wSlL_ap, ↓wSlT_ap, ↓wLen_ap, ↓wListOf_ap, ↓wTupleOf_ap, ↓wAbs_ap, ↓wIList_ap, ↓wITup_ap, ↓wName_ap, ↓wgNil_ap, ↓wgCons_ap, ↓wNext_ap, ↓wSeq_ap, ↓wAsg_ap, ↓wDrop_ap, ↓wRet_ap, ↓wRetN_ap, ↓wNever_ap, ↓wBreak_ap, ↓wCont_ap, ↓wPar_ap, ↓wAug_ap, ↓wIsT_ap, ↓wEnumT_ap, ↓wEnum_ap, ↓wDNew_ap, ↓wDIn_ap, ↓wDGet2_ap, ↓wRg1_ap, ↓wRg2_ap, ↓wFrzV_ap, ↓wThen_ap, ↓ifS_t, ↓ifS_f, ↓ifQ_t, ↓ifQ_f, ↓gtB_s, ↓intsB_m, ↓intsB_n, ↓intsB_nil, ↓intsB_1, ↓intsB_2, ↓intsB_3, ↓eqB_bool, ↓eqB_int, ↓eqB_non, Bool.true_beq, Bool.false_beq, ↓inB_s, ↓ret_fz, ↓ret_ls, ↓ret_rf, ret_nts, ret_tnts, ret_int, ret_bool, ret_none, ret_str, ret_rgD, ↓lcN_a, ↓lcO_a, ↓lcM_a, ↓lcP_a, ↓blB_s, ↓blB_nil, ↓blB_1, ↓blB_2, ↓blB_3, ↓sto, ↓frz, stL, isNum_t, Int.reducePow, Int.reduceSub, Int.reduceAdd, Int.reduceMul, vl, vls, its, lsOf, oLs, oL, upL, fzs, keyOf, dkOf, isN, wipeS, ownFree, own_fz, own_un, own_rf, own_ls, own_lb, own_dk, List.map_cons, List.map_nil, List.all_cons, List.all_nil, List.set, List.getD_cons_zero, List.getD_cons_succ, List.getD_nil, List.getElem?_cons_zero, List.getElem?_cons_succ, Option.getD_some, List.getElem?_nil, Option.getD_none, Option.map_some, Option.map_none, Bool.false_eq_true, if_true, if_false, Bool.not_true, Bool.not_false, Bool.and_true, Bool.true_and, Bool.and_self, Bool.and_false, Bool.false_and, Bool.or_true, Bool.true_or, Bool.or_false, Bool.false_or, List.cons_append, List.nil_append, List.append_nil, List.length_cons, List.length_nil, Nat.reduceAdd, Int.reduceToNat, List.eraseIdx, Int.reduceNeg, Int.sub_zero, Int.toNat_natCast, eq_self, decide_true, cl_0, cl_1, cl_2, cl_3, cl_4, cl_5, cl_6, cl_7, cl_8, cl_9, cl_10, cl_11, cl_12, cl_13, sd_true, sd_refl, castL_map, sd_le, sd_lt, sd_eqn, sd_div, sd_mulL, sd_mulR, sd_pow, sd_rg, sd_rg1, sd_mem, repB_1, lb_ex, swp_eq, pr_snoc, pr_len, prD_rev, zips_nts, rep_one, rep_nts, rep_nts0, at_mod, modN, at_nts, ix_nts, ix_len, set_nts, app_nts, app2_nts, rg_snoc, rgD_len, idx_cast, cut_fromN, cut_toN, cut_two, mem_castD, cast_ltD, cast_leD, cast_eqD, rng_0, nt_def, nts_len, List.length_range, atI_0, atI_1, atI_2, ixN_0, ixN_1, List.length_map, isi_int_none, isi_int_bool, isi_int_int, isi_int_str, isi_int_list, isi_int_tuple, isi_bool_none, isi_bool_bool, isi_bool_int, isi_bool_str, isi_bool_list, isi_bool_tuple, isi_str_none, isi_str_bool, isi_str_int, isi_str_str, isi_str_list, isi_str_tuple, isi_tuple_none, isi_tuple_bool, isi_tuple_int, isi_tuple_str, isi_tuple_list, isi_tuple_tuple, isi_list_none, isi_list_bool, isi_list_int, isi_list_str, isi_list_list, isi_list_tuple, e]
      refine eqB_ln ?_
      simp -implicitDefEqProofs -dsimp (disch := (first | assumption | omega)) only [↓wIf_s, ↓wFor_s, ↓wWhile_s, ↓wIC_s, ↓wEqD_s, ↓wAndV_s, ↓wOrV_s, ↓wAnd_s, ↓wOr_s, ↓wIfE_s, ↓wTup_s, ↓wLst_s, ↓wCallP_s, ↓wCallM_s, ↓wAppend_s, ↓wExtend_s, ↓wPop_s, ↓wIxL_s, ↓wIxT_s, ↓wIxA_s, ↓wCatT_s, ↓wCat_s, ↓wAddD_s, ↓wRep_s, ↓wInI_s, ↓wRng1_s, ↓wRng2_s, ↓wRng3_s, ↓wgTup_s, ↓wgLst_s, ↓wgSub_s, ↓wDGet_s, ↓wDPut_s, ↓wDUpd_s, ↓wLstRg_s, ↓wTupRg_s, ↓wTIdx_s, ↓wLIdx_s, ↓wPopAt_s, ↓wChainF_s, ↓wLc_s, ↓wDc_s, ↓wInts_s, ↓wBls_s, ↓wMaxF_s, ↓wMinF_s, ↓wSortedF_s, ↓wLc2_s, ↓wSortSet_s, ↓wZip_s, ↓wRevL_s, ↓wCallI_s, ↓wCallID_s, ↓wCallIK_s, ↓wCallJ_s, ↓wVar_ap, ↓wC_ap, ↓wOp_ap, ↓wUn_ap, ↓wII_ap, ↓wIB_ap, ↓wNeg_ap, ↓wEqI_ap, ↓wIsN_ap, ↓wNotV_ap, ↓wTest_ap, ↓wNot_ap, ↓wNil_ap, ↓wCons_ap, ↓wCB_ap, ↓wFrz_ap, ↓wBM_ap, ↓wBM0_ap, ↓wReverse_ap, ↓wNoPart_ap, ↓wPart_ap, ↓wSl_ap, ↓wSlL_ap, ↓wSlT_ap, ↓wLen_ap, ↓wListOf_ap, ↓wTupleOf_ap, ↓wAbs_ap, ↓wIList_ap, ↓wITup_ap, ↓wName_ap, ↓wgNil_ap, ↓wgCons_ap, ↓wNext_ap, ↓wSeq_ap, ↓wAsg_ap, ↓wDrop_ap, ↓wRet_ap, ↓wRetN_ap, ↓wNever_ap, ↓wBreak_ap, ↓wCont_ap, ↓wPar_ap, ↓wAug_ap, ↓wIsT_ap, ↓wEnumT_ap, ↓wEnum_ap, ↓wDNew_ap, ↓wDIn_ap, ↓wDGet2_ap, ↓wRg1_ap, ↓wRg2_ap, ↓wFrzV_ap, ↓wThen_ap, ↓ifS_t, ↓ifS_f, ↓ifQ_t, ↓ifQ_f, ↓gtB_s, ↓intsB_m, ↓intsB_n, ↓intsB_nil, ↓intsB_1, ↓intsB_2, ↓intsB_3, ↓eqB_bool, ↓eqB_int, ↓eqB_non, Bool.true_beq, Bool.false_beq, ↓inB_s, ↓ret_fz, ↓ret_ls, ↓ret_rf, ret_nts, ret_tnts, ret_int, ret_bool, ret_none, ret_str, ret_rgD, ↓lcN_a, ↓lcO_a, ↓lcM_a, ↓lcP_a, ↓blB_s, ↓blB_nil, ↓blB_1, ↓blB_2, ↓blB_3, ↓sto, ↓frz, stL, isNum_t, Int.reducePow, Int.reduceSub, Int.reduceAdd, Int.reduceMul, vl, vls, its, lsOf, oLs, oL, upL, fzs, keyOf, dkOf, isN, wipeS, ownFree, own_fz, own_un, own_rf, own_ls, own_lb, own_dk, List.map_cons, List.map_nil, List.all_cons, List.all_nil, List.set, List.getD_cons_zero, List.getD_cons_succ, List.getD_nil, List.getElem?_cons_zero, List.getElem?_cons_succ, Option.getD_some, List.getElem?_nil, Option.getD_none, Option.map_some, Option.map_none, Bool.false_eq_true, if_true, if_false, Bool.not_true, Bool.not_false, Bool.and_true, Bool.true_and, Bool.and_self, Bool.and_false, Bool.false_and, Bool.or_true, Bool.true_or, Bool.or_false, Bool.false_or, List.cons_append, List.nil_append, List.append_nil, List.length_cons, List.length_nil, Nat.reduceAdd, Int.reduceToNat, List.eraseIdx, Int.reduceNeg, Int.sub_zero, Int.toNat_natCast, eq_self, decide_true, cl_0, cl_1, cl_2, cl_3, cl_4, cl_5, cl_6, cl_7, cl_8, cl_9, cl_10, cl_11, cl_12, cl_13, sd_true, sd_refl, castL_map, sd_le, sd_lt, sd_eqn, sd_div, sd_mulL, sd_mulR, sd_pow, sd_rg, sd_rg1, sd_mem, repB_1, lb_ex, swp_eq, pr_snoc, pr_len, prD_rev, zips_nts, rep_one, rep_nts, rep_nts0, at_mod, modN, at_nts, ix_nts, ix_len, set_nts, app_nts, app2_nts, rg_snoc, rgD_len, idx_cast, cut_fromN, cut_toN, cut_two, mem_castD, cast_ltD, cast_leD, cast_eqD, rng_0, nt_def, nts_len, List.length_range, atI_0, atI_1, atI_2, ixN_0, ixN_1, List.length_map, isi_int_none, isi_int_bool, isi_int_int, isi_int_str, isi_int_list, isi_int_tuple, isi_bool_none, isi_bool_bool, isi_bool_int, isi_bool_str, isi_bool_list, isi_bool_tuple, isi_str_none, isi_str_bool, isi_str_int, isi_str_str, isi_str_list, isi_str_tuple, isi_tuple_none, isi_tuple_bool, isi_tuple_int, isi_tuple_str, isi_tuple_list, isi_tuple_tuple, isi_list_none, isi_list_bool, isi_list_int, isi_list_str, isi_list_list, isi_list_tuple]
      rfl⟩
def A_why_not : (List Nat) × (List Nat) × (Nat) × (Nat) → List D := fun (c, ps, i, j) => [.tuple (nts c), .tuple (nts ps), .tuple [.int (i : Int), .int (j : Int)]]
def pre_why_not : (List Nat) × (List Nat) × (Nat) × (Nat) → Prop := fun (c, ps, i, j) => (i < c.length) ∧ (j < c.length) ∧ (i ≠ j)
def post_why_not : (List Nat) × (List Nat) × (Nat) × (Nat) → AV → Prop := fun (c, ps, i, j) x => x = (.fz (.str (if i ∈ ps ∨ j ∈ ps then "pinned" else "")))
theorem ci_why_not (c : List Nat) (ps : List Nat) (i : Nat) (j : Nat) {ds : Sto} {Q : Sto → AV → Prop} (hi : i < c.length) (hj : j < c.length) (hij : i ≠ j) (q : Q ds (.fz (.str (if i ∈ ps ∨ j ∈ ps then "pinned" else "")))) : callIB 3 A_why_not pre_why_not post_why_not (some [.tuple (nts c), .tuple (nts ps), .tuple [.int (i : Int), .int (j : Int)]]) ds Q := callIB_i (args := A_why_not) (c, ps, i, j) rfl ⟨hi, hj, hij⟩ (fun x hx => by cases hx; exact q)
theorem ok_why_not {f : Addr} {fd : FuncData} (F : Fun K "why_not" "why_not" s_why_not f fd) (T : Txt mg) (C_is_number : Cal P w K mg base 1 "is_number" (spP 3 pre_is_number post_is_number K)) : FnOk P w K mg base CX0 (1 + 1) f fd ["cards", "pins", "two"] (spI 3 A_why_not pre_why_not post_why_not K) := by
  exact okI F sc_why_not rfl fun cdv A outer s H E hr => ⟨_, _, (ass_cons (as_if (aw_or (at_not (at_val (ae_isi "tuple" T.z_isinstance T.z_tuple (av 2)))) (aw_or1 (at_cmp c_ne (ae_callB k_len T.z_len (by decide +kernel) (aa_cons (av 2) aa_nil)) ae_int))).pT (ass_one (as_ret ae_str)) ass_nil) (ass_cons (as_if (aw_or (at_not (at_val (ae_callB (k_all) T.z_all (by decide +kernel) (aa_cons (ae_lc [("seat", 3)] sc_why_not.nd (blkOk_by (N := N_why_not) (sc := defScope s_why_not) (by decide +kernel)) (ai_tup (av 2)) (fun _ _ _ _ _ => (ag_name 3 sc_why_not.nd)) (fun _ _ _ _ _ => ats_nil) (fun _ _ _ _ _ => (ae_callP C_is_number hr (aa_cons (av 3) (aa_cons ae_int (aa_cons (ae_op o_sub (ae_callB k_len T.z_len (by decide +kernel) (aa_cons (av 0) aa_nil)) ae_int) aa_nil)))))) aa_nil)))) (aw_or1 (at_cmp c_eq (ae_ixT (av 2) ae_int) (ae_ixT (av 2) ae_int)))).pT (ass_one (as_ret ae_str)) ass_nil) (ass_one (as_ret (ae_if (aw_or (at_cmp c_in (ae_ixT (av 2) ae_int) (av 1)) (aw_or1 (at_cmp c_in (ae_ixT (av 2) ae_int) (av 1)))).pT ae_str ae_str))))), fun i hp => by
    obtain ⟨c, ps, i, j⟩ := i
    obtain ⟨hi, hj, hij⟩ := hp
    show (_ : WS) _ [AV.fz (.tuple (nts c)), AV.fz (.tuple (nts ps)), AV.fz (.tuple [.int (i : Int), .int (j : Int)]), .un]
    simp -implicitDefEqProofs -dsimp (disch := (first | assumption | omega)) only [↓wIf_s, ↓wFor_s, ↓wWhile_s, ↓wIC_s, ↓wEqD_s, ↓wAndV_s, ↓wOrV_s, ↓wAnd_s, ↓wOr_s, ↓wIfE_s, ↓wTup_s, ↓wLst_s, ↓wCallP_s, ↓wCallM_s, ↓wAppend_s, ↓wExtend_s, ↓wPop_s, ↓wIxL_s, ↓wIxT_s, ↓wIxA_s, ↓wCatT_s, ↓wCat_s, ↓wAddD_s, ↓wRep_s, ↓wInI_s, ↓wRng1_s, ↓wRng2_s, ↓wRng3_s, ↓wgTup_s, ↓wgLst_s, ↓wgSub_s, ↓wDGet_s, ↓wDPut_s, ↓wDUpd_s, ↓wLstRg_s, ↓wTupRg_s, ↓wTIdx_s, ↓wLIdx_s, ↓wPopAt_s, ↓wChainF_s, ↓wLc_s, ↓wDc_s, ↓wInts_s, ↓wBls_s, ↓wMaxF_s, ↓wMinF_s, ↓wSortedF_s, ↓wLc2_s, ↓wSortSet_s, ↓wZip_s, ↓wRevL_s, ↓wCallI_s, ↓wCallID_s, ↓wCallIK_s, ↓wCallJ_s, ↓wVar_ap, ↓wC_ap, ↓wOp_ap, ↓wUn_ap, ↓wII_ap, ↓wIB_ap, ↓wNeg_ap, ↓wEqI_ap, ↓wIsN_ap, ↓wNotV_ap, ↓wTest_ap, ↓wNot_ap, ↓wNil_ap, ↓wCons_ap, ↓wCB_ap, ↓wFrz_ap, ↓wBM_ap, ↓wBM0_ap, ↓wReverse_ap, ↓wNoPart_ap, ↓wPart_ap, ↓wSl_ap, ↓wSlL_ap, ↓wSlT_ap, ↓wLen_ap, ↓wListOf_ap, ↓wTupleOf_ap, ↓wAbs_ap, ↓wIList_ap, ↓wITup_ap, ↓wName_ap, ↓wgNil_ap, ↓wgCons_ap, ↓wNext_ap, ↓wSeq_ap, ↓wAsg_ap, ↓wDrop_ap, ↓wRet_ap, ↓wRetN_ap, ↓wNever_ap, ↓wBreak_ap, ↓wCont_ap, ↓wPar_ap, ↓wAug_ap, ↓wIsT_ap, ↓wEnumT_ap, ↓wEnum_ap, ↓wDNew_ap, ↓wDIn_ap, ↓wDGet2_ap, ↓wRg1_ap, ↓wRg2_ap, ↓wFrzV_ap, ↓wThen_ap, ↓ifS_t, ↓ifS_f, ↓ifQ_t, ↓ifQ_f, ↓gtB_s, ↓intsB_m, ↓intsB_n, ↓intsB_nil, ↓intsB_1, ↓intsB_2, ↓intsB_3, ↓eqB_bool, ↓eqB_int, ↓eqB_non, Bool.true_beq, Bool.false_beq, ↓inB_s, ↓ret_fz, ↓ret_ls, ↓ret_rf, ret_nts, ret_tnts, ret_int, ret_bool, ret_none, ret_str, ret_rgD, ↓lcN_a, ↓lcO_a, ↓lcM_a, ↓lcP_a, ↓blB_s, ↓blB_nil, ↓blB_1, ↓blB_2, ↓blB_3, ↓sto, ↓frz, stL, isNum_t, Int.reducePow, Int.reduceSub, Int.reduceAdd, Int.reduceMul, vl, vls, its, lsOf, oLs, oL, upL, fzs, keyOf, dkOf, isN, wipeS, ownFree, own_fz, own_un, own_rf, own_ls, own_lb, own_dk, List.map_cons, List.map_nil, List.all_cons, List.all_nil, List.set, List.getD_cons_zero, List.getD_cons_succ, List.getD_nil, List.getElem?_cons_zero, List.getElem?_cons_succ, Option.getD_some, List.getElem?_nil, Option.getD_none, Option.map_some, Option.map_none, Bool.false_eq_true, if_true, if_false, Bool.not_true, Bool.not_false, Bool.and_true, Bool.true_and, Bool.and_self, Bool.and_false, Bool.false_and, Bool.or_true, Bool.true_or, Bool.or_false, Bool.false_or, List.cons_append, List.nil_append, List.append_nil, List.length_cons, List.length_nil, Nat.reduceAdd, Int.reduceToNat, List.eraseIdx, Int.reduceNeg, Int.sub_zero, Int.toNat_natCast, eq_self, decide_true, cl_0, cl_1, cl_2, cl_3, cl_4, cl_5, cl_6, cl_7, cl_8, cl_9, cl_10, cl_11, cl_12, cl_13, sd_true, sd_refl, castL_map, sd_le, sd_lt, sd_eqn, sd_div, sd_mulL, sd_mulR, sd_pow, sd_rg, sd_rg1, sd_mem, repB_1, lb_ex, swp_eq, pr_snoc, pr_len, prD_rev, zips_nts, rep_one, rep_nts, rep_nts0, at_mod, modN, at_nts, ix_nts, ix_len, set_nts, app_nts, app2_nts, rg_snoc, rgD_len, idx_cast, cut_fromN, cut_toN, cut_two, mem_castD, cast_ltD, cast_leD, cast_eqD, rng_0, nt_def, nts_len, List.length_range, atI_0, atI_1, atI_2, ixN_0, ixN_1, List.length_map, isi_int_none, isi_int_bool, isi_int_int, isi_int_str, isi_int_list, isi_int_tuple, isi_bool_none, isi_bool_bool, isi_bool_int, isi_bool_str, isi_bool_list, isi_bool_tuple, isi_str_none, isi_str_bool, isi_str_int, isi_str_str, isi_str_list, isi_str_tuple, isi_tuple_none, isi_tuple_bool, isi_tuple_int, isi_tuple_str, isi_tuple_list, isi_tuple_tuple, isi_list_none, isi_list_bool, isi_list_int, isi_list_str, isi_list_list, isi_list_tuple]
    refine lcB_j2 trivial hi hj (fun z J K hz hJ => ?_) ?_
    · simp -implicitDefEqProofs -dsimp (disch := (first | assumption | omega)) only [↓wIf_s, ↓wFor_s, ↓wWhile_s, ↓wIC_s, ↓wEqD_s, ↓wAndV_s, ↓wOrV_s, ↓wAnd_s, ↓wOr_s, ↓wIfE_s, ↓wTup_s, ↓wLst_s, ↓wCallP_s, ↓wCallM_s, ↓wAppend_s, ↓wExtend_s, ↓wPop_s, ↓wIxL_s, ↓wIxT_s, ↓wIxA_s, ↓wCatT_s, ↓wCat_s, ↓wAddD_s, ↓wRep_s, ↓wInI_s, ↓wRng1_s, ↓wRng2_s, ↓wRng3_s, ↓wgTup_s, ↓wgLst_s, ↓wgSub_s, ↓wDGet_s, ↓wDPut_s, ↓wDUpd_s, ↓wLstRg_s, ↓wTupRg_s, ↓wTIdx_s, ↓wLIdx_s, ↓wPopAt_s, ↓wChainF_s, ↓wLc_s, ↓wDc_s, ↓wInts_s, ↓wBls_s, ↓wMaxF_s, ↓wMinF_s, ↓wSortedF_s, ↓wLc2_s, ↓wSortSet_s, ↓wZip_s, ↓wRevL_s, ↓wCallI_s, ↓wCallID_s, ↓wCallIK_s, ↓wCallJ_s, ↓wVar_ap, ↓wC_ap, ↓wOp_ap, ↓wUn_ap, ↓wII_ap, ↓wIB_ap, ↓wNeg_ap, ↓wEqI_ap, ↓wIsN_ap, ↓wNotV_ap, ↓wTest_ap, ↓wNot_ap, ↓wNil_ap, ↓wCons_ap, ↓wCB_ap, ↓wFrz_ap, ↓wBM_ap, ↓wBM0_ap, ↓wReverse_ap, ↓wNoPart_ap, ↓wPart_ap, ↓wSl_ap, ↓wSlL_ap, ↓wSlT_ap, ↓wLen_ap, ↓wListOf_ap, ↓wTupleOf_ap, ↓wAbs_ap, ↓wIList_ap, ↓wITup_ap, ↓wName_ap, ↓wgNil_ap, ↓wgCons_ap, ↓wNext_ap, ↓wSeq_ap, ↓wAsg_ap, ↓wDrop_ap, ↓wRet_ap, ↓wRetN_ap, ↓wNever_ap, ↓wBreak_ap, ↓wCont_ap, ↓wPar_ap, ↓wAug_ap, ↓wIsT_ap, ↓wEnumT_ap, ↓wEnum_ap, ↓wDNew_ap, ↓wDIn_ap, ↓wDGet2_ap, ↓wRg1_ap, ↓wRg2_ap, ↓wFrzV_ap, ↓wThen_ap, ↓ifS_t, ↓ifS_f, ↓ifQ_t, ↓ifQ_f, ↓gtB_s, ↓intsB_m, ↓intsB_n, ↓intsB_nil, ↓intsB_1, ↓intsB_2, ↓intsB_3, ↓eqB_bool, ↓eqB_int, ↓eqB_non, Bool.true_beq, Bool.false_beq, ↓inB_s, ↓ret_fz, ↓ret_ls, ↓ret_rf, ret_nts, ret_tnts, ret_int, ret_bool, ret_none, ret_str, ret_rgD, ↓lcN_a, ↓lcO_a, ↓lcM_a, ↓lcP_a, ↓blB_s, ↓blB_nil, ↓blB_1, ↓blB_2, ↓blB_3, ↓sto, ↓frz, stL, isNum_t, Int.reducePow, Int.reduceSub, Int.reduceAdd, Int.reduceMul, vl, vls, its, lsOf, oLs, oL, upL, fzs, keyOf, dkOf, isN, wipeS, ownFree, own_fz, own_un, own_rf, own_ls, own_lb, own_dk, List.map_cons, List.map_nil, List.all_cons, List.all_nil, List.set, List.getD_cons_zero, List.getD_cons_succ, List.getD_nil, List.getElem?_cons_zero, List.getElem?_cons_succ, Option.getD_some, List.getElem?_nil, Option.getD_none, Option.map_some, Option.map_none, Bool.false_eq_true, if_true, if_false, Bool.not_true, Bool.not_false, Bool.and_true, Bool.true_and, Bool.and_self, Bool.and_false, Bool.false_and, Bool.or_true, Bool.true_or, Bool.or_false, Bool.false_or, List.cons_append, List.nil_append, List.append_nil, List.length_cons, List.length_nil, Nat.reduceAdd, Int.reduceToNat, List.eraseIdx, Int.reduceNeg, Int.sub_zero, Int.toNat_natCast, eq_self, decide_true, cl_0, cl_1, cl_2, cl_3, cl_4, cl_5, cl_6, cl_7, cl_8, cl_9, cl_10, cl_11, cl_12, cl_13, sd_true, sd_refl, castL_map, sd_le, sd_lt, sd_eqn, sd_div, sd_mulL, sd_mulR, sd_pow, sd_rg, sd_rg1, sd_mem, repB_1, lb_ex, swp_eq, pr_snoc, pr_len, prD_rev, zips_nts, rep_one, rep_nts, rep_nts0, at_mod, modN, at_nts, ix_nts, ix_len, set_nts, app_nts, app2_nts, rg_snoc, rgD_len, idx_cast, cut_fromN, cut_toN, cut_two, mem_castD, cast_ltD, cast_leD, cast_eqD, rng_0, nt_def, nts_len, List.length_range, atI_0, atI_1, atI_2, ixN_0, ixN_1, List.length_map, isi_int_none, isi_int_bool, isi_int_int, isi_int_str, isi_int_list, isi_int_tuple, isi_bool_none, isi_bool_bool, isi_bool_int, isi_bool_str, isi_bool_list, isi_bool_tuple, isi_str_none, isi_str_bool, isi_str_int, isi_str_str, isi_str_list, isi_str_tuple, isi_tuple_none, isi_tuple_bool, isi_tuple_int, isi_tuple_str, isi_tuple_list, isi_tuple_tuple, isi_list_none, isi_list_bool, isi_list_int, isi_list_str, isi_list_list, isi_list_tuple]
      refine ci_is_number _ _ _ ?_
      simp -implicitDefEqProofs -dsimp (disch := (first | assumption | omega)) only [↓wIf_s, ↓wFor_s, ↓wWhile_s, ↓wIC_s, ↓wEqD_s, ↓wAndV_s, ↓wOrV_s, ↓wAnd_s, ↓wOr_s, ↓wIfE_s, ↓wTup_s, ↓wLst_s, ↓wCallP_s, ↓wCallM_s, ↓wAppend_s, ↓wExtend_s, ↓wPop_s, ↓wIxL_s, ↓wIxT_s, ↓wIxA_s, ↓wCatT_s, ↓wCat_s, ↓wAddD_s, ↓wRep_s, ↓wInI_s, ↓wRng1_s, ↓wRng2_s, ↓wRng3_s, ↓wgTup_s, ↓wgLst_s, ↓wgSub_s, ↓wDGet_s, ↓wDPut_s, ↓wDUpd_s, ↓wLstRg_s, ↓wTupRg_s, ↓wTIdx_s, ↓wLIdx_s, ↓wPopAt_s, ↓wChainF_s, ↓wLc_s, ↓wDc_s, ↓wInts_s, ↓wBls_s, ↓wMaxF_s, ↓wMinF_s, ↓wSortedF_s, ↓wLc2_s, ↓wSortSet_s, ↓wZip_s, ↓wRevL_s, ↓wCallI_s, ↓wCallID_s, ↓wCallIK_s, ↓wCallJ_s, ↓wVar_ap, ↓wC_ap, ↓wOp_ap, ↓wUn_ap, ↓wII_ap, ↓wIB_ap, ↓wNeg_ap, ↓wEqI_ap, ↓wIsN_ap, ↓wNotV_ap, ↓wTest_ap, ↓wNot_ap, ↓wNil_ap, ↓wCons_ap, ↓wCB_ap, ↓wFrz_ap, ↓wBM_ap, ↓wBM0_ap, ↓wReverse_ap, ↓wNoPart_ap, ↓wPart_ap, ↓wSl_ap, ↓wSlL_ap, ↓wSlT_ap, ↓wLen_ap, ↓wListOf_ap, ↓wTupleOf_ap, ↓wAbs_ap, ↓wIList_ap, ↓wITup_ap, ↓wName_ap, ↓wgNil_ap, ↓wgCons_ap, ↓wNext_ap, ↓wSeq_ap, ↓wAsg_ap, ↓wDrop_ap, ↓wRet_ap, ↓wRetN_ap, ↓wNever_ap, ↓wBreak_ap, ↓wCont_ap, ↓wPar_ap, ↓wAug_ap, ↓wIsT_ap, ↓wEnumT_ap, ↓wEnum_ap, ↓wDNew_ap, ↓wDIn_ap, ↓wDGet2_ap, ↓wRg1_ap, ↓wRg2_ap, ↓wFrzV_ap, ↓wThen_ap, ↓ifS_t, ↓ifS_f, ↓ifQ_t, ↓ifQ_f, ↓gtB_s, ↓intsB_m, ↓intsB_n, ↓intsB_nil, ↓intsB_1, ↓intsB_2, ↓intsB_3, ↓eqB_bool, ↓eqB_int, ↓eqB_non, Bool.true_beq, Bool.false_beq, ↓inB_s, ↓ret_fz, ↓ret_ls, ↓ret_rf, ret_nts, ret_tnts, ret_int, ret_bool, ret_none, ret_str, ret_rgD, ↓lcN_a, ↓lcO_a, ↓lcM_a, ↓lcP_a, ↓blB_s, ↓blB_nil, ↓blB_1, ↓blB_2, ↓blB_3, ↓sto, ↓frz, stL, isNum_t, Int.reducePow, Int.reduceSub, Int.reduceAdd, Int.reduceMul, vl, vls, its, lsOf, oLs, oL, upL, fzs, keyOf, dkOf, isN, wipeS, ownFree, own_fz, own_un, own_rf, own_ls, own_lb, own_dk, List.map_cons, List.map_nil, List.all_cons, List.all_nil, List.set, List.getD_cons_zero, List.getD_cons_succ, List.getD_nil, List.getElem?_cons_zero, List.getElem?_cons_succ, Option.getD_some, List.getElem?_nil, Option.getD_none, Option.map_some, Option.map_none, Bool.false_eq_true, if_true, if_false, Bool.not_true, Bool.not_false, Bool.and_true, Bool.true_and, Bool.and_self, Bool.and_false, Bool.false_and, Bool.or_true, Bool.true_or, Bool.or_false, Bool.false_or, List.cons_append, List.nil_append, List.append_nil, List.length_cons, List.length_nil, Nat.reduceAdd, Int.reduceToNat, List.eraseIdx, Int.reduceNeg, Int.sub_zero, Int.toNat_natCast, eq_self, decide_true, cl_0, cl_1, cl_2, cl_3, cl_4, cl_5, cl_6, cl_7, cl_8, cl_9, cl_10, cl_11, cl_12, cl_13, sd_true, sd_refl, castL_map, sd_le, sd_lt, sd_eqn, sd_div, sd_mulL, sd_mulR, sd_pow, sd_rg, sd_rg1, sd_mem, repB_1, lb_ex, swp_eq, pr_snoc, pr_len, prD_rev, zips_nts, rep_one, rep_nts, rep_nts0, at_mod, modN, at_nts, ix_nts, ix_len, set_nts, app_nts, app2_nts, rg_snoc, rgD_len, idx_cast, cut_fromN, cut_toN, cut_two, mem_castD, cast_ltD, cast_leD, cast_eqD, rng_0, nt_def, nts_len, List.length_range, atI_0, atI_1, atI_2, ixN_0, ixN_1, List.length_map, isi_int_none, isi_int_bool, isi_int_int, isi_int_str, isi_int_list, isi_int_tuple, isi_bool_none, isi_bool_bool, isi_bool_int, isi_bool_str, isi_bool_list, isi_bool_tuple, isi_str_none, isi_str_bool, isi_str_int, isi_str_str, isi_str_list, isi_str_tuple, isi_tuple_none, isi_tuple_bool, isi_tuple_int, isi_tuple_str, isi_tuple_list, isi_tuple_tuple, isi_list_none, isi_list_bool, isi_list_int, isi_list_str, isi_list_list, isi_list_tuple]
      exact hJ
    · simp -implicitDefEqProofs -dsimp (disch := (first | assumption | omega)) only [↓wIf_s, ↓wFor_s, ↓wWhile_s, ↓wIC_s, ↓wEqD_s, ↓wAndV_s, ↓wOrV_s, ↓wAnd_s, ↓wOr_s, ↓wIfE_s, ↓wTup_s, ↓wLst_s, ↓wCallP_s, ↓wCallM_s, ↓wAppend_s, ↓wExtend_s, ↓wPop_s, ↓wIxL_s, ↓wIxT_s, ↓wIxA_s, ↓wCatT_s, ↓wCat_s, ↓wAddD_s, ↓wRep_s, ↓wInI_s, ↓wRng1_s, ↓wRng2_s, ↓wRng3_s, ↓wgTup_s, ↓wgLst_s, ↓wgSub_s, ↓wDGet_s, ↓wDPut_s, ↓wDUpd_s, ↓wLstRg_s, ↓wTupRg_s, ↓wTIdx_s, ↓wLIdx_s, ↓wPopAt_s, ↓wChainF_s, ↓wLc_s, ↓wDc_s, ↓wInts_s, ↓wBls_s, ↓wMaxF_s, ↓wMinF_s, ↓wSortedF_s, ↓wLc2_s, ↓wSortSet_s, ↓wZip_s, ↓wRevL_s, ↓wCallI_s, ↓wCallID_s, ↓wCallIK_s, ↓wCallJ_s, ↓wVar_ap, ↓wC_ap, ↓wOp_ap, ↓wUn_ap, ↓wII_ap, ↓wIB_ap, ↓wNeg_ap, ↓wEqI_ap, ↓wIsN_ap, ↓wNotV_ap, ↓wTest_ap, ↓wNot_ap, ↓wNil_ap, ↓wCons_ap, ↓wCB_ap, ↓wFrz_ap, ↓wBM_ap, ↓wBM0_ap, ↓wReverse_ap, ↓wNoPart_ap, ↓wPart_ap, ↓wSl_ap, ↓wSlL_ap, ↓wSlT_ap, ↓wLen_ap, ↓wListOf_ap, ↓wTupleOf_ap, ↓wAbs_ap, ↓wIList_ap, ↓wITup_ap, ↓wName_ap, ↓wgNil_ap, ↓wgCons_ap, ↓wNext_ap, ↓wSeq_ap, ↓wAsg_ap, ↓wDrop_ap, ↓wRet_ap, ↓wRetN_ap, ↓wNever_ap, ↓wBreak_ap, ↓wCont_ap, ↓wPar_ap, ↓wAug_ap, ↓wIsT_ap, ↓wEnumT_ap, ↓wEnum_ap, ↓wDNew_ap, ↓wDIn_ap, ↓wDGet2_ap, ↓wRg1_ap, ↓wRg2_ap, ↓wFrzV_ap, ↓wThen_ap, ↓ifS_t, ↓ifS_f, ↓ifQ_t, ↓ifQ_f, ↓gtB_s, ↓intsB_m, ↓intsB_n, ↓intsB_nil, ↓intsB_1, ↓intsB_2, ↓intsB_3, ↓eqB_bool, ↓eqB_int, ↓eqB_non, Bool.true_beq, Bool.false_beq, ↓inB_s, ↓ret_fz, ↓ret_ls, ↓ret_rf, ret_nts, ret_tnts, ret_int, ret_bool, ret_none, ret_str, ret_rgD, ↓lcN_a, ↓lcO_a, ↓lcM_a, ↓lcP_a, ↓blB_s, ↓blB_nil, ↓blB_1, ↓blB_2, ↓blB_3, ↓sto, ↓frz, stL, isNum_t, Int.reducePow, Int.reduceSub, Int.reduceAdd, Int.reduceMul, vl, vls, its, lsOf, oLs, oL, upL, fzs, keyOf, dkOf, isN, wipeS, ownFree, own_fz, own_un, own_rf, own_ls, own_lb, own_dk, List.map_cons, List.map_nil, List.all_cons, List.all_nil, List.set, List.getD_cons_zero, List.getD_cons_succ, List.getD_nil, List.getElem?_cons_zero, List.getElem?_cons_succ, Option.getD_some, List.getElem?_nil, Option.getD_none, Option.map_some, Option.map_none, Bool.false_eq_true, if_true, if_false, Bool.not_true, Bool.not_false, Bool.and_true, Bool.true_and, Bool.and_self, Bool.and_false, Bool.false_and, Bool.or_true, Bool.true_or, Bool.or_false, Bool.false_or, List.cons_append, List.nil_append, List.append_nil, List.length_cons, List.length_nil, Nat.reduceAdd, Int.reduceToNat, List.eraseIdx, Int.reduceNeg, Int.sub_zero, Int.toNat_natCast, eq_self, decide_true, cl_0, cl_1, cl_2, cl_3, cl_4, cl_5, cl_6, cl_7, cl_8, cl_9, cl_10, cl_11, cl_12, cl_13, sd_true, sd_refl, castL_map, sd_le, sd_lt, sd_eqn, sd_div, sd_mulL, sd_mulR, sd_pow, sd_rg, sd_rg1, sd_mem, repB_1, lb_ex, swp_eq, pr_snoc, pr_len, prD_rev, zips_nts, rep_one, rep_nts, rep_nts0, at_mod, modN, at_nts, ix_nts, ix_len, set_nts, app_nts, app2_nts, rg_snoc, rgD_len, idx_cast, cut_fromN, cut_toN, cut_two, mem_castD, cast_ltD, cast_leD, cast_eqD, rng_0, nt_def, nts_len, List.length_range, atI_0, atI_1, atI_2, ixN_0, ixN_1, List.length_map, isi_int_none, isi_int_bool, isi_int_int, isi_int_str, isi_int_list, isi_int_tuple, isi_bool_none, isi_bool_bool, isi_bool_int, isi_bool_str, isi_bool_list, isi_bool_tuple, isi_str_none, isi_str_bool, isi_str_int, isi_str_str, isi_str_list, isi_str_tuple, isi_tuple_none, isi_tuple_bool, isi_tuple_int, isi_tuple_str, isi_tuple_list, isi_tuple_tuple, isi_list_none, isi_list_bool, isi_list_int, isi_list_str, isi_list_list, isi_list_tuple, decide_eq_false hij, show ([true, true] : List Bool).all id = true from rfl]
      refine ifQ_i (fun h => ?_) (fun h => ?_)
      · have h := of_decide_eq_true h
        simp -implicitDefEqProofs -dsimp (disch := (first | assumption | omega)) only [↓wIf_s, ↓wFor_s, ↓wWhile_s, ↓wIC_s, ↓wEqD_s, ↓wAndV_s, ↓wOrV_s, ↓wAnd_s, ↓wOr_s, ↓wIfE_s, ↓wTup_s, ↓wLst_s, ↓wCallP_s, ↓wCallM_s, ↓wAppend_s, ↓wExtend_s, ↓wPop_s, ↓wIxL_s, ↓wIxT_s, ↓wIxA_s, ↓wCatT_s, ↓wCat_s, ↓wAddD_s, ↓wRep_s, ↓wInI_s, ↓wRng1_s, ↓wRng2_s, ↓wRng3_s, ↓wgTup_s, ↓wgLst_s, ↓wgSub_s, ↓wDGet_s, ↓wDPut_s, ↓wDUpd_s, ↓wLstRg_s, ↓wTupRg_s, ↓wTIdx_s, ↓wLIdx_s, ↓wPopAt_s, ↓wChainF_s, ↓wLc_s, ↓wDc_s, ↓wInts_s, ↓wBls_s, ↓wMaxF_s, ↓wMinF_s, ↓wSortedF_s, ↓wLc2_s, ↓wSortSet_s, ↓wZip_s, ↓wRevL_s, ↓wCallI_s, ↓wCallID_s, ↓wCallIK_s, ↓wCallJ_s, ↓wVar_ap, ↓wC_ap, ↓wOp_ap, ↓wUn_ap, ↓wII_ap, ↓wIB_ap, ↓wNeg_ap, ↓wEqI_ap, ↓wIsN_ap, ↓wNotV_ap, ↓wTest_ap, ↓wNot_ap, ↓wNil_ap, ↓wCons_ap, ↓wCB_ap, ↓wFrz_ap, ↓wBM_ap, ↓wBM0_ap, ↓wReverse_ap, ↓wNoPart_ap, ↓wPart_ap, ↓wSl_ap, ↓wSlL_ap, ↓wSlT_ap, ↓wLen_ap, ↓wListOf_ap, ↓wTupleOf_ap, ↓wAbs_ap, ↓wIList_ap, ↓wITup_ap, ↓wName_ap, ↓wgNil_ap, ↓wgCons_ap, ↓wNext_ap, ↓wSeq_ap, ↓wAsg_ap, ↓wDrop_ap, ↓wRet_ap, ↓wRetN_ap, ↓wNever_ap, ↓wBreak_ap, ↓wCont_ap, ↓wPar_ap, ↓wAug_ap, ↓wIsT_ap, ↓wEnumT_ap, ↓wEnum_ap, ↓wDNew_ap, ↓wDIn_ap, ↓wDGet2_ap, ↓wRg1_ap, ↓wRg2_ap, ↓wFrzV_ap, ↓wThen_ap, ↓ifS_t, ↓ifS_f, ↓ifQ_t, ↓ifQ_f, ↓gtB_s, ↓intsB_m, ↓intsB_n, ↓intsB_nil, ↓intsB_1, ↓intsB_2, ↓intsB_3, ↓eqB_bool, ↓eqB_int, ↓eqB_non, Bool.true_beq, Bool.false_beq, ↓inB_s, ↓ret_fz, ↓ret_ls, ↓ret_rf, ret_nts, ret_tnts, ret_int, ret_bool, ret_none, ret_str, ret_rgD, ↓lcN_a, ↓lcO_a, ↓lcM_a, ↓lcP_a, ↓blB_s, ↓blB_nil, ↓blB_1, ↓blB_2, ↓blB_3, ↓sto, ↓frz, stL, isNum_t, Int.reducePow, Int.reduceSub, Int.reduceAdd, Int.reduceMul, vl, vls, its, lsOf, oLs, oL, upL, fzs, keyOf, dkOf, isN, wipeS, ownFree, own_fz, own_un, own_rf, own_ls, own_lb, own_dk, List.map_cons, List.map_nil, List.all_cons, List.all_nil, List.set, List.getD_cons_zero, List.getD_cons_succ, List.getD_nil, List.getElem?_cons_zero, List.getElem?_cons_succ, Option.getD_some, List.getElem?_nil, Option.getD_none, Option.map_some, Option.map_none, Bool.false_eq_true, if_true, if_false, Bool.not_true, Bool.not_false, Bool.and_true, Bool.true_and, Bool.and_self, Bool.and_false, Bool.false_and, Bool.or_true, Bool.true_or, Bool.or_false, Bool.false_or, List.cons_append, List.nil_append, List.append_nil, List.length_cons, List.length_nil, Nat.reduceAdd, Int.reduceToNat, List.eraseIdx, Int.reduceNeg, Int.sub_zero, Int.toNat_natCast, eq_self, decide_true, cl_0, cl_1, cl_2, cl_3, cl_4, cl_5, cl_6, cl_7, cl_8, cl_9, cl_10, cl_11, cl_12, cl_13, sd_true, sd_refl, castL_map, sd_le, sd_lt, sd_eqn, sd_div, sd_mulL, sd_mulR, sd_pow, sd_rg, sd_rg1, sd_mem, repB_1, lb_ex, swp_eq, pr_snoc, pr_len, prD_rev, zips_nts, rep_one, rep_nts, rep_nts0, at_mod, modN, at_nts, ix_nts, ix_len, set_nts, app_nts, app2_nts, rg_snoc, rgD_len, idx_cast, cut_fromN, cut_toN, cut_two, mem_castD, cast_ltD, cast_leD, cast_eqD, rng_0, nt_def, nts_len, List.length_range, atI_0, atI_1, atI_2, ixN_0, ixN_1, List.length_map, isi_int_none, isi_int_bool, isi_int_int, isi_int_str, isi_int_list, isi_int_tuple, isi_bool_none, isi_bool_bool, isi_bool_int, isi_bool_str, isi_bool_list, isi_bool_tuple, isi_str_none, isi_str_bool, isi_str_int, isi_str_str, isi_str_list, isi_str_tuple, isi_tuple_none, isi_tuple_bool, isi_tuple_int, isi_tuple_str, isi_tuple_list, isi_tuple_tuple, isi_list_none, isi_list_bool, isi_list_int, isi_list_str, isi_list_list, isi_list_tuple]
        show AV.fz (.str _) = AV.fz (.str _)
        rw [if_pos (Or.inl h)]
      · have h := of_decide_eq_false h
        simp -implicitDefEqProofs -dsimp (disch := (first | assumption | omega)) only [↓wIf_s, ↓wFor_s, ↓wWhile_s, ↓wIC_s, ↓wEqD_s, ↓wAndV_s, ↓wOrV_s, ↓wAnd_s, ↓wOr_s, ↓wIfE_s, ↓wTup_s, ↓wLst_s, ↓wCallP_s, ↓wCallM_s, ↓wAppend_s, ↓wExtend_s, ↓wPop_s, ↓wIxL_s, ↓wIxT_s, ↓wIxA_s, ↓wCatT_s, ↓wCat_s, ↓wAddD_s, ↓wRep_s, ↓wInI_s, ↓wRng1_s, ↓wRng2_s, ↓wRng3_s, ↓wgTup_s, ↓wgLst_s, ↓wgSub_s, ↓wDGet_s, ↓wDPut_s, ↓wDUpd_s, ↓wLstRg_s, ↓wTupRg_s, ↓wTIdx_s, ↓wLIdx_s, ↓wPopAt_s, ↓wChainF_s, ↓wLc_s, ↓wDc_s, ↓wInts_s, ↓wBls_s, ↓wMaxF_s, ↓wMinF_s, ↓wSortedF_s, ↓wLc2_s, ↓wSortSet_s, ↓wZip_s, ↓wRevL_s, ↓wCallI_s, ↓wCallID_s, ↓wCallIK_s, ↓wCallJ_s, ↓wVar_ap, ↓wC_ap, ↓wOp_ap, ↓wUn_ap, ↓wII_ap, ↓wIB_ap, ↓wNeg_ap, ↓wEqI_ap, ↓wIsN_ap, ↓wNotV_ap, ↓wTest_ap, ↓wNot_ap, ↓wNil_ap, ↓wCons_ap, ↓wCB_ap, ↓wFrz_ap, ↓wBM_ap, ↓wBM0_ap, ↓wReverse_ap, ↓wNoPart_ap, ↓wPart_ap, ↓wSl_ap, ↓wSlL_ap, ↓wSlT_ap, ↓wLen_ap, ↓wListOf_ap, ↓wTupleOf_ap, ↓wAbs_ap, ↓wIList_ap, ↓wITup_ap, ↓wName_ap, ↓wgNil_ap, ↓wgCons_ap, ↓wNext_ap, ↓wSeq_ap, ↓wAsg_ap, ↓wDrop_ap, ↓wRet_ap, ↓wRetN_ap, ↓wNever_ap, ↓wBreak_ap, ↓wCont_ap, ↓wPar_ap, ↓wAug_ap, ↓wIsT_ap, ↓wEnumT_ap, ↓wEnum_ap, ↓wDNew_ap, ↓wDIn_ap, ↓wDGet2_ap, ↓wRg1_ap, ↓wRg2_ap, ↓wFrzV_ap, ↓wThen_ap, ↓ifS_t, ↓ifS_f, ↓ifQ_t, ↓ifQ_f, ↓gtB_s, ↓intsB_m, ↓intsB_n, ↓intsB_nil, ↓intsB_1, ↓intsB_2, ↓intsB_3, ↓eqB_bool, ↓eqB_int, ↓eqB_non, Bool.true_beq, Bool.false_beq, ↓inB_s, ↓ret_fz, ↓ret_ls, ↓ret_rf, ret_nts, ret_tnts, ret_int, ret_bool, ret_none, ret_str, ret_rgD, ↓lcN_a, ↓lcO_a, ↓lcM_a, ↓lcP_a, ↓blB_s, ↓blB_nil, ↓blB_1, ↓blB_2, ↓blB_3, ↓sto, ↓frz, stL, isNum_t, Int.reducePow, Int.reduceSub, Int.reduceAdd, Int.reduceMul, vl, vls, its, lsOf, oLs, oL, upL, fzs, keyOf, dkOf, isN, wipeS, ownFree, own_fz, own_un, own_rf, own_ls, own_lb, own_dk, List.map_cons, List.map_nil, List.all_cons, List.all_nil, List.set, List.getD_cons_zero, List.getD_cons_succ, List.getD_nil, List.getElem?_cons_zero, List.getElem?_cons_succ, Option.getD_some, List.getElem?_nil, Option.getD_none, Option.map_some, Option.map_none, Bool.false_eq_true, if_true, if_false, Bool.not_true, Bool.not_false, Bool.and_true, Bool.true_and, Bool.and_self, Bool.and_false, Bool.false_and, Bool.or_true, Bool.true_or, Bool.or_false, Bool.false_or, List.cons_append, List.nil_append, List.append_nil, List.length_cons, List.length_nil, Nat.reduceAdd, Int.reduceToNat, List.eraseIdx, Int.reduceNeg, Int.sub_zero, Int.toNat_natCast, eq_self, decide_true, cl_0, cl_1, cl_2, cl_3, cl_4, cl_5, cl_6, cl_7, cl_8, cl_9, cl_10, cl_11, cl_12, cl_13, sd_true, sd_refl, castL_map, sd_le, sd_lt, sd_eqn, sd_div, sd_mulL, sd_mulR, sd_pow, sd_rg, sd_rg1, sd_mem, repB_1, lb_ex, swp_eq, pr_snoc, pr_len, prD_rev, zips_nts, rep_one, rep_nts, rep_nts0, at_mod, modN, at_nts, ix_nts, ix_len, set_nts, app_nts, app2_nts, rg_snoc, rgD_len, idx_cast, cut_fromN, cut_toN, cut_two, mem_castD, cast_ltD, cast_leD, cast_eqD, rng_0, nt_def, nts_len, List.length_range, atI_0, atI_1, atI_2, ixN_0, ixN_1, List.length_map, isi_int_none, isi_int_bool, isi_int_int, isi_int_str, isi_int_list, isi_int_tuple, isi_bool_none, isi_bool_bool, isi_bool_int, isi_bool_str, isi_bool_list, isi_bool_tuple, isi_str_none, isi_str_bool, isi_str_int, isi_str_str, isi_str_list, isi_str_tuple, isi_tuple_none, isi_tuple_bool, isi_tuple_int, isi_tuple_str, isi_tuple_list, isi_tuple_tuple, isi_list_none, isi_list_bool, isi_list_int, isi_list_str, isi_list_list, isi_list_tuple]
        refine ifQ_i (fun h2 => ?_) (fun h2 => ?_)
        · have h2 := of_decide_eq_true h2
          simp -implicitDefEqProofs -dsimp (disch := (first | assumption | omega)) only [↓wIf_s, ↓wFor_s, ↓wWhile_s, ↓wIC_s, ↓wEqD_s, ↓wAndV_s, ↓wOrV_s, ↓wAnd_s, ↓wOr_s, ↓wIfE_s, ↓wTup_s, ↓wLst_s, ↓wCallP_s, ↓wCallM_s, ↓wAppend_s, ↓wExtend_s, ↓wPop_s, ↓wIxL_s, ↓wIxT_s, ↓wIxA_s, ↓wCatT_s, ↓wCat_s, ↓wAddD_s, ↓wRep_s, ↓wInI_s, ↓wRng1_s, ↓wRng2_s, ↓wRng3_s, ↓wgTup_s, ↓wgLst_s, ↓wgSub_s, ↓wDGet_s, ↓wDPut_s, ↓wDUpd_s, ↓wLstRg_s, ↓wTupRg_s, ↓wTIdx_s, ↓wLIdx_s, ↓wPopAt_s, ↓wChainF_s, ↓wLc_s, ↓wDc_s, ↓wInts_s, ↓wBls_s, ↓wMaxF_s, ↓wMinF_s, ↓wSortedF_s, ↓wLc2_s, ↓wSortSet_s, ↓wZip_s, ↓wRevL_s, ↓wCallI_s, ↓wCallID_s, ↓wCallIK_s, ↓wCallJ_s, ↓wVar_ap, ↓wC_ap, ↓wOp_ap, ↓wUn_ap, ↓wII_ap, ↓wIB_ap, ↓wNeg_ap, ↓wEqI_ap, ↓wIsN_ap, ↓wNotV_ap, ↓wTest_ap, ↓wNot_ap, ↓wNil_ap, ↓wCons_ap, ↓wCB_ap, ↓wFrz_ap, ↓wBM_ap, ↓wBM0_ap, ↓wReverse_ap, ↓wNoPart_ap, ↓wPart_ap, ↓wSl_ap, ↓wSlL_ap, ↓wSlT_ap, ↓wLen_ap, ↓wListOf_ap, ↓wTupleOf_ap, ↓wAbs_ap, ↓wIList_ap, ↓wITup_ap, ↓wName_ap, ↓wgNil_ap, ↓wgCons_ap, ↓wNext_ap, ↓wSeq_ap, ↓wAsg_ap, ↓wDrop_ap, ↓wRet_ap, ↓wRetN_ap, ↓wNever_ap, ↓wBreak_ap, ↓wCont_ap, ↓wPar_ap, ↓wAug_ap, ↓wIsT_ap, ↓wEnumT_ap, ↓wEnum_ap, ↓wDNew_ap, ↓wDIn_ap, ↓wDGet2_ap, ↓wRg1_ap, ↓wRg2_ap, ↓wFrzV_ap, ↓wThen_ap, ↓ifS_t, ↓ifS_f, ↓ifQ_t, ↓ifQ_f, ↓gtB_s, ↓intsB_m, ↓intsB_n, ↓intsB_nil, ↓intsB_1, ↓intsB_2, ↓intsB_3, ↓eqB_bool, ↓eqB_int, ↓eqB_non, Bool.true_beq, Bool.false_beq, ↓inB_s, ↓ret_fz, ↓ret_ls, ↓ret_rf, ret_nts, ret_tnts, ret_int, ret_bool, ret_none, ret_str, ret_rgD, ↓lcN_a, ↓lcO_a, ↓lcM_a, ↓lcP_a, ↓blB_s, ↓blB_nil, ↓blB_1, ↓blB_2, ↓blB_3, ↓sto, ↓frz, stL, isNum_t, Int.reducePow, Int.reduceSub, Int.reduceAdd, Int.reduceMul, vl, vls, its, lsOf, oLs, oL, upL, fzs, keyOf, dkOf, isN, wipeS, ownFree, own_fz, own_un, own_rf, own_ls, own_lb, own_dk, List.map_cons, List.map_nil, List.all_cons, List.all_nil, List.set, List.getD_cons_zero, List.getD_cons_succ, List.getD_nil, List.getElem?_cons_zero, List.getElem?_cons_succ, Option.getD_some, List.getElem?_nil, Option.getD_none, Option.map_some, Option.map_none, Bool.false_eq_true, if_true, if_false, Bool.not_true, Bool.not_false, Bool.and_true, Bool.true_and, Bool.and_self, Bool.and_false, Bool.false_and, Bool.or_true, Bool.true_or, Bool.or_false, Bool.false_or, List.cons_append, List.nil_append, List.append_nil, List.length_cons, List.length_nil, Nat.reduceAdd, Int.reduceToNat, List.eraseIdx, Int.reduceNeg, Int.sub_zero, Int.toNat_natCast, eq_self, decide_true, cl_0, cl_1, cl_2, cl_3, cl_4, cl_5, cl_6, cl_7, cl_8, cl_9, cl_10, cl_11, cl_12, cl_13, sd_true, sd_refl, castL_map, sd_le, sd_lt, sd_eqn, sd_div, sd_mulL, sd_mulR, sd_pow, sd_rg, sd_rg1, sd_mem, repB_1, lb_ex, swp_eq, pr_snoc, pr_len, prD_rev, zips_nts, rep_one, rep_nts, rep_nts0, at_mod, modN, at_nts, ix_nts, ix_len, set_nts, app_nts, app2_nts, rg_snoc, rgD_len, idx_cast, cut_fromN, cut_toN, cut_two, mem_castD, cast_ltD, cast_leD, cast_eqD, rng_0, nt_def, nts_len, List.length_range, atI_0, atI_1, atI_2, ixN_0, ixN_1, List.length_map, isi_int_none, isi_int_bool, isi_int_int, isi_int_str, isi_int_list, isi_int_tuple, isi_bool_none, isi_bool_bool, isi_bool_int, isi_bool_str, isi_bool_list, isi_bool_tuple, isi_str_none, isi_str_bool, isi_str_int, isi_str_str, isi_str_list, isi_str_tuple, isi_tuple_none, isi_tuple_bool, isi_tuple_int, isi_tuple_str, isi_tuple_list, isi_tuple_tuple, isi_list_none, isi_list_bool, isi_list_int, isi_list_str, isi_list_list, isi_list_tuple]
          show AV.fz (.str _) = AV.fz (.str _)
          rw [if_pos (Or.inr h2)]
        · have h2 := of_decide_eq_false h2
          simp -implicitDefEqProofs -dsimp (disch := (first | assumption | omega)) only [↓wIf_s, ↓wFor_s, ↓wWhile_s, ↓wIC_s, ↓wEqD_s, ↓wAndV_s, ↓wOrV_s, ↓wAnd_s, ↓wOr_s, ↓wIfE_s, ↓wTup_s, ↓wLst_s, ↓wCallP_s, ↓wCallM_s, ↓wAppend_s, ↓wExtend_s, ↓wPop_s, ↓wIxL_s, ↓wIxT_s, ↓wIxA_s, ↓wCatT_s, ↓wCat_s, ↓wAddD_s, ↓wRep_s, ↓wInI_s, ↓wRng1_s, ↓wRng2_s, ↓wRng3_s, ↓wgTup_s, ↓wgLst_s, ↓wgSub_s, ↓wDGet_s, ↓wDPut_s, ↓wDUpd_s, ↓wLstRg_s, ↓wTupRg_s, ↓wTIdx_s, ↓wLIdx_s, ↓wPopAt_s, ↓wChainF_s, ↓wLc_s, ↓wDc_s, ↓wInts_s, ↓wBls_s, ↓wMaxF_s, ↓wMinF_s, ↓wSortedF_s, ↓wLc2_s, ↓wSortSet_s, ↓wZip_s, ↓wRevL_s, ↓wCallI_s, ↓wCallID_s, ↓wCallIK_s, ↓wCallJ_s, ↓wVar_ap, ↓wC_ap, ↓wOp_ap, ↓wUn_ap, ↓wII_ap, ↓wIB_ap, ↓wNeg_ap, ↓wEqI_ap, ↓wIsN_ap, ↓wNotV_ap, ↓wTest_ap, ↓wNot_ap, ↓wNil_ap, ↓wCons_ap, ↓wCB_ap, ↓wFrz_ap, ↓wBM_ap, ↓wBM0_ap, ↓wReverse_ap, ↓wNoPart_ap, ↓wPart_ap, ↓wSl_ap, ↓wSlL_ap, ↓wSlT_ap, ↓wLen_ap, ↓wListOf_ap, ↓wTupleOf_ap, ↓wAbs_ap, ↓wIList_ap, ↓wITup_ap, ↓wName_ap, ↓wgNil_ap, ↓wgCons_ap, ↓wNext_ap, ↓wSeq_ap, ↓wAsg_ap, ↓wDrop_ap, ↓wRet_ap, ↓wRetN_ap, ↓wNever_ap, ↓wBreak_ap, ↓wCont_ap, ↓wPar_ap, ↓wAug_ap, ↓wIsT_ap, ↓wEnumT_ap, ↓wEnum_ap, ↓wDNew_ap, ↓wDIn_ap, ↓wDGet2_ap, ↓wRg1_ap, ↓wRg2_ap, ↓wFrzV_ap, ↓wThen_ap, ↓ifS_t, ↓ifS_f, ↓ifQ_t, ↓ifQ_f, ↓gtB_s, ↓intsB_m, ↓intsB_n, ↓intsB_nil, ↓intsB_1, ↓intsB_2, ↓intsB_3, ↓eqB_bool, ↓eqB_int, ↓eqB_non, Bool.true_beq, Bool.false_beq, ↓inB_s, ↓ret_fz, ↓ret_ls, ↓ret_rf, ret_nts, ret_tnts, ret_int, ret_bool, ret_none, ret_str, ret_rgD, ↓lcN_a, ↓lcO_a, ↓lcM_a, ↓lcP_a, ↓blB_s, ↓blB_nil, ↓blB_1, ↓blB_2, ↓blB_3, ↓sto, ↓frz, stL, isNum_t, Int.reducePow, Int.reduceSub, Int.reduceAdd, Int.reduceMul, vl, vls, its, lsOf, oLs, oL, upL, fzs, keyOf, dkOf, isN, wipeS, ownFree, own_fz, own_un, own_rf, own_ls, own_lb, own_dk, List.map_cons, List.map_nil, List.all_cons, List.all_nil, List.set, List.getD_cons_zero, List.getD_cons_succ, List.getD_nil, List.getElem?_cons_zero, List.getElem?_cons_succ, Option.getD_some, List.getElem?_nil, Option.getD_none, Option.map_some, Option.map_none, Bool.false_eq_true, if_true, if_false, Bool.not_true, Bool.not_false, Bool.and_true, Bool.true_and, Bool.and_self, Bool.and_false, Bool.false_and, Bool.or_true, Bool.true_or, Bool.or_false, Bool.false_or, List.cons_append, List.nil_append, List.append_nil, List.length_cons, List.length_nil, Nat.reduceAdd, Int.reduceToNat, List.eraseIdx, Int.reduceNeg, Int.sub_zero, Int.toNat_natCast, eq_self, decide_true, cl_0, cl_1, cl_2, cl_3, cl_4, cl_5, cl_6, cl_7, cl_8, cl_9, cl_10, cl_11, cl_12, cl_13, sd_true, sd_refl, castL_map, sd_le, sd_lt, sd_eqn, sd_div, sd_mulL, sd_mulR, sd_pow, sd_rg, sd_rg1, sd_mem, repB_1, lb_ex, swp_eq, pr_snoc, pr_len, prD_rev, zips_nts, rep_one, rep_nts, rep_nts0, at_mod, modN, at_nts, ix_nts, ix_len, set_nts, app_nts, app2_nts, rg_snoc, rgD_len, idx_cast, cut_fromN, cut_toN, cut_two, mem_castD, cast_ltD, cast_leD, cast_eqD, rng_0, nt_def, nts_len, List.length_range, atI_0, atI_1, atI_2, ixN_0, ixN_1, List.length_map, isi_int_none, isi_int_bool, isi_int_int, isi_int_str, isi_int_list, isi_int_tuple, isi_bool_none, isi_bool_bool, isi_bool_int, isi_bool_str, isi_bool_list, isi_bool_tuple, isi_str_none, isi_str_bool, isi_str_int, isi_str_str, isi_str_list, isi_str_tuple, isi_tuple_none, isi_tuple_bool, isi_tuple_int, isi_tuple_str, isi_tuple_list, isi_tuple_tuple, isi_list_none, isi_list_bool, isi_list_int, isi_list_str, isi_list_list, isi_list_tuple]
          show AV.fz (.str _) = AV.fz (.str _)
          rw [if_neg (fun q => q.elim h h2)]⟩
def A_exchanged : (List Nat) × (Nat) × (Nat) → List D := fun (c, i, j) => [.tuple (nts c), .tuple [.int (i : Int), .int (j : Int)]]
def pre_exchanged : (List Nat) × (Nat) × (Nat) → Prop := fun (c, i, j) => (i < c.length) ∧ (j < c.length)
def post_exchanged : (List Nat) × (Nat) × (Nat) → AV → Prop := fun (c, i, j) x => x = (.fz (.tuple (nts (swp c i j))))
theorem ci_exchanged (c : List Nat) (i : Nat) (j : Nat) {ds : Sto} {Q : Sto → AV → Prop} (hi : i < c.length) (hj : j < c.length) (q : Q ds (.fz (.tuple (nts (swp c i j))))) : callIB 2 A_exchanged pre_exchanged post_exchanged (some [.tuple (nts c), .tuple [.int (i : Int), .int (j : Int)]]) ds Q := callIB_i (args := A_exchanged) (c, i, j) rfl ⟨hi, hj⟩ (fun x hx => by cases hx; exact q)
theorem ok_exchanged {f : Addr} {fd : FuncData} (F : Fun K "exchanged" "exchanged" s_exchanged f fd) (T : Txt mg)  : FnOk P w K mg base CX0 (0 + 1) f fd ["cards", "two"] (spI 2 A_exchanged pre_exchanged post_exchanged K) := by
  exact okI F sc_exchanged rfl fun cdv A outer s H E hr => ⟨_, _, (ass_cons (as_set 2 sc_exchanged.nd (ae_callTy k_list T.z_list rfl (aa_cons (av 0) aa_nil))) (ass_cons (as_asg (ae_tup (aa_cons (ae_ixT (av 0) (ae_ixT (av 1) ae_int)) (aa_cons (ae_ixT (av 0) (ae_ixT (av 1) ae_int)) aa_nil))) (ag_tup (n := 2) (ags_cons (ag_sub (av 2) (ae_ixT (av 1) ae_int)) (ags_cons (ag_sub (av 2) (ae_ixT (av 1) ae_int)) ags_nil)))) (ass_one (as_ret (ae_callTy k_tuple T.z_tuple rfl (aa_cons (av 2) aa_nil)))))), fun i hp => by
    obtain ⟨c, i, j⟩ := i
    obtain ⟨hi, hj⟩ := hp
    show (_ : WS) _ [AV.fz (.tuple (nts c)), AV.fz (.tuple [.int (i : Int), .int (j : Int)]), .un]
    have hj2 : j < (c.set i (st c j)).length := by rw [List.length_set]; exact hj
    simp -implicitDefEqProofs -dsimp (disch := (first | assumption | omega)) only [↓wIf_s, ↓wFor_s, ↓wWhile_s, ↓wIC_s, ↓wEqD_s, ↓wAndV_s, ↓wOrV_s, ↓wAnd_s, ↓wOr_s, ↓wIfE_s, ↓wTup_s, ↓wLst_s, ↓wCallP_s, ↓wCallM_s, ↓wAppend_s, ↓wExtend_s, ↓wPop_s, ↓wIxL_s, ↓wIxT_s, ↓wIxA_s, ↓wCatT_s, ↓wCat_s, ↓wAddD_s, ↓wRep_s, ↓wInI_s, ↓wRng1_s, ↓wRng2_s, ↓wRng3_s, ↓wgTup_s, ↓wgLst_s, ↓wgSub_s, ↓wDGet_s, ↓wDPut_s, ↓wDUpd_s, ↓wLstRg_s, ↓wTupRg_s, ↓wTIdx_s, ↓wLIdx_s, ↓wPopAt_s, ↓wChainF_s, ↓wLc_s, ↓wDc_s, ↓wInts_s, ↓wBls_s, ↓wMaxF_s, ↓wMinF_s, ↓wSortedF_s, ↓wLc2_s, ↓wSortSet_s, ↓wZip_s, ↓wRevL_s, ↓wCallI_s, ↓wCallID_s, ↓wCallIK_s, ↓wCallJ_s, ↓wVar_ap, ↓wC_ap, ↓wOp_ap, ↓wUn_ap, ↓wII_ap, ↓wIB_ap, ↓wNeg_ap, ↓wEqI_ap, ↓wIsN_ap, ↓wNotV_ap, ↓wTest_ap, ↓wNot_ap, ↓wNil_ap, ↓wCons_ap, ↓wCB_ap, ↓wFrz_ap, ↓wBM_ap, ↓wBM0_ap, ↓wReverse_ap, ↓wNoPart_ap, ↓wPart_ap, ↓wSl_ap, ↓wSlL_ap, ↓wSlT_ap, ↓wLen_ap, ↓wListOf_ap, ↓wTupleOf_ap, ↓wAbs_ap, ↓wIList_ap, ↓wITup_ap, ↓wName_ap, ↓wgNil_ap, ↓wgCons_ap, ↓wNext_ap, ↓wSeq_ap, ↓wAsg_ap, ↓wDrop_ap, ↓wRet_ap, ↓wRetN_ap, ↓wNever_ap, ↓wBreak_ap, ↓wCont_ap, ↓wPar_ap, ↓wAug_ap, ↓wIsT_ap, ↓wEnumT_ap, ↓wEnum_ap, ↓wDNew_ap, ↓wDIn_ap, ↓wDGet2_ap, ↓wRg1_ap, ↓wRg2_ap, ↓wFrzV_ap, ↓wThen_ap, ↓ifS_t, ↓ifS_f, ↓ifQ_t, ↓ifQ_f, ↓gtB_s, ↓intsB_m, ↓intsB_n, ↓intsB_nil, ↓intsB_1, ↓intsB_2, ↓intsB_3, ↓eqB_bool, ↓eqB_int, ↓eqB_non, Bool.true_beq, Bool.false_beq, ↓inB_s, ↓ret_fz, ↓ret_ls, ↓ret_rf, ret_nts, ret_tnts, ret_int, ret_bool, ret_none, ret_str, ret_rgD, ↓lcN_a, ↓lcO_a, ↓lcM_a, ↓lcP_a, ↓blB_s, ↓blB_nil, ↓blB_1, ↓blB_2, ↓blB_3, ↓sto, ↓frz, stL, isNum_t, Int.reducePow, Int.reduceSub, Int.reduceAdd, Int.reduceMul, vl, vls, its, lsOf, oLs, oL, upL, fzs, keyOf, dkOf, isN, wipeS, ownFree, own_fz, own_un, own_rf, own_ls, own_lb, own_dk, List.map_cons, List.map_nil, List.all_cons, List.all_nil, List.set, List.getD_cons_zero, List.getD_cons_succ, List.getD_nil, List.getElem?_cons_zero, List.getElem?_cons_succ, Option.getD_some, List.getElem?_nil, Option.getD_none, Option.map_some, Option.map_none, Bool.false_eq_true, if_true, if_false, Bool.not_true, Bool.not_false, Bool.and_true, Bool.true_and, Bool.and_self, Bool.and_false, Bool.false_and, Bool.or_true, Bool.true_or, Bool.or_false, Bool.false_or, List.cons_append, List.nil_append, List.append_nil, List.length_cons, List.length_nil, Nat.reduceAdd, Int.reduceToNat, List.eraseIdx, Int.reduceNeg, Int.sub_zero, Int.toNat_natCast, eq_self, decide_true, cl_0, cl_1, cl_2, cl_3, cl_4, cl_5, cl_6, cl_7, cl_8, cl_9, cl_10, cl_11, cl_12, cl_13, sd_true, sd_refl, castL_map, sd_le, sd_lt, sd_eqn, sd_div, sd_mulL, sd_mulR, sd_pow, sd_rg, sd_rg1, sd_mem, repB_1, lb_ex, swp_eq, pr_snoc, pr_len, prD_rev, zips_nts, rep_one, rep_nts, rep_nts0, at_mod, modN, at_nts, ix_nts, ix_len, set_nts, app_nts, app2_nts, rg_snoc, rgD_len, idx_cast, cut_fromN, cut_toN, cut_two, mem_castD, cast_ltD, cast_leD, cast_eqD, rng_0, nt_def, nts_len, List.length_range, atI_0, atI_1, atI_2, ixN_0, ixN_1, List.length_map, isi_int_none, isi_int_bool, isi_int_int, isi_int_str, isi_int_list, isi_int_tuple, isi_bool_none, isi_bool_bool, isi_bool_int, isi_bool_str, isi_bool_list, isi_bool_tuple, isi_str_none, isi_str_bool, isi_str_int, isi_str_str, isi_str_list, isi_str_tuple, isi_tuple_none, isi_tuple_bool, isi_tuple_int, isi_tuple_str, isi_tuple_list, isi_tuple_tuple, isi_list_none, isi_list_bool, isi_list_int, isi_list_str, isi_list_list, isi_list_tuple]
    rfl⟩
def A_done : (List Nat) × (List (Nat × Nat)) × (List Nat) → List D := fun (c, l, ps) => [.tuple (nts c), .list (prD l), .tuple (nts ps)]
def pre_done : (List Nat) × (List (Nat × Nat)) × (List Nat) → Prop := fun (c, l, ps) => (IsC c) ∧ (c.length ≤ 12) ∧ (PinOk c.length ps) ∧ (OkX c.length ps l)
def post_done : (List Nat) × (List (Nat × Nat)) × (List Nat) → AV → Prop := fun (c, l, ps) x => x = (.fz (.tuple (nts (doneL c l))))
theorem ci_done (c : List Nat) (l : List (Nat × Nat)) (ps : List Nat) {ds : Sto} {Q : Sto → AV → Prop} (hc : IsC c) (h12 : c.length ≤ 12) (hp : PinOk c.length ps) (ho : OkX c.length ps l) (q : Q ds (.fz (.tuple (nts (doneL c l))))) : callIB 3 A_done pre_done post_done (some [.tuple (nts c), .list (prD l), .tuple (nts ps)]) ds Q := callIB_i (args := A_done) (c, l, ps) rfl ⟨hc, h12, hp, ho⟩ (fun x hx => by cases hx; exact q)
theorem ok_done {f : Addr} {fd : FuncData} (F : Fun K "done" "done" s_done f fd) (T : Txt mg) (C_need_cards : Cal P w K mg base 2 "need_cards" (spP 1 pre_need_cards post_need_cards K)) (C_need_pins : Cal P w K mg base 2 "need_pins" (spI 2 A_need_pins pre_need_pins post_need_pins K)) (C_why_not : Cal P w K mg base 2 "why_not" (spI 3 A_why_not pre_why_not post_why_not K)) (C_exchanged : Cal P w K mg base 1 "exchanged" (spI 2 A_exchanged pre_exchanged post_exchanged K)) : FnOk P w K mg base CX0 (2 + 1) f fd ["cards", "some", "pins"] (spI 3 A_done pre_done post_done K) := by
  exact okI F sc_done rfl fun cdv A outer s H E hr => ⟨_, _, (ass_cons (as_expr (ae_callP C_need_cards hr (aa_cons (av 0) aa_nil))) (ass_cons (as_expr (ae_callI C_need_pins hr (aa_cons (av 2) (aa_cons (ae_callB k_len T.z_len (by decide +kernel) (aa_cons (av 0) aa_nil)) aa_nil)))) (ass_cons ((as_for (ai_enum T.z_enumerate (aa_cons ((av 1)).frz aa_nil)) (ag_tup (n := 2) (ags_cons (ag_name 3 sc_done.nd) (ags_cons (ag_name 4 sc_done.nd) ags_nil))) (ass_cons (as_set 5 sc_done.nd (ae_callI C_why_not hr (aa_cons (av 0) (aa_cons (av 2) (aa_cons (av 4) aa_nil))))) (ass_cons (as_if (at_cmp c_ne (av 5) ae_str) ass_never ass_nil) (ass_one (as_set 0 sc_done.nd (ae_callI C_exchanged hr (aa_cons (av 0) (aa_cons (av 4) aa_nil)))))))).frzV 1) (ass_one (as_ret (av 0)))))), fun i hp => by
    obtain ⟨c, l, ps⟩ := i
    obtain ⟨hc, h12, hp, ho⟩ := hp
    show (_ : WS) _ [AV.fz (.tuple (nts c)), AV.fz (.list (prD l)), AV.fz (.tuple (nts ps)), .un, .un, .un]
    simp -implicitDefEqProofs -dsimp (disch := (first | assumption | omega)) only [↓wIf_s, ↓wFor_s, ↓wWhile_s, ↓wIC_s, ↓wEqD_s, ↓wAndV_s, ↓wOrV_s, ↓wAnd_s, ↓wOr_s, ↓wIfE_s, ↓wTup_s, ↓wLst_s, ↓wCallP_s, ↓wCallM_s, ↓wAppend_s, ↓wExtend_s, ↓wPop_s, ↓wIxL_s, ↓wIxT_s, ↓wIxA_s, ↓wCatT_s, ↓wCat_s, ↓wAddD_s, ↓wRep_s, ↓wInI_s, ↓wRng1_s, ↓wRng2_s, ↓wRng3_s, ↓wgTup_s, ↓wgLst_s, ↓wgSub_s, ↓wDGet_s, ↓wDPut_s, ↓wDUpd_s, ↓wLstRg_s, ↓wTupRg_s, ↓wTIdx_s, ↓wLIdx_s, ↓wPopAt_s, ↓wChainF_s, ↓wLc_s, ↓wDc_s, ↓wInts_s, ↓wBls_s, ↓wMaxF_s, ↓wMinF_s, ↓wSortedF_s, ↓wLc2_s, ↓wSortSet_s, ↓wZip_s, ↓wRevL_s, ↓wCallI_s, ↓wCallID_s, ↓wCallIK_s, ↓wCallJ_s, ↓wVar_ap, ↓wC_ap, ↓wOp_ap, ↓wUn_ap, ↓wII_ap, ↓wIB_ap, ↓wNeg_ap, ↓wEqI_ap, ↓wIsN_ap, ↓wNotV_ap, ↓wTest_ap, ↓wNot_ap, ↓wNil_ap, ↓wCons_ap, ↓wCB_ap, ↓wFrz_ap, ↓wBM_ap, ↓wBM0_ap, ↓wReverse_ap, ↓wNoPart_ap, ↓wPart_ap, ↓wSl_ap, ↓wSlL_ap, ↓wSlT_ap, ↓wLen_ap, ↓wListOf_ap, ↓wTupleOf_ap, ↓wAbs_ap, ↓wIList_ap, ↓wITup_ap, ↓wName_ap, ↓wgNil_ap, ↓wgCons_ap, ↓wNext_ap, ↓wSeq_ap, ↓wAsg_ap, ↓wDrop_ap, ↓wRet_ap, ↓wRetN_ap, ↓wNever_ap, ↓wBreak_ap, ↓wCont_ap, ↓wPar_ap, ↓wAug_ap, ↓wIsT_ap, ↓wEnumT_ap, ↓wEnum_ap, ↓wDNew_ap, ↓wDIn_ap, ↓wDGet2_ap, ↓wRg1_ap, ↓wRg2_ap, ↓wFrzV_ap, ↓wThen_ap, ↓ifS_t, ↓ifS_f, ↓ifQ_t, ↓ifQ_f, ↓gtB_s, ↓intsB_m, ↓intsB_n, ↓intsB_nil, ↓intsB_1, ↓intsB_2, ↓intsB_3, ↓eqB_bool, ↓eqB_int, ↓eqB_non, Bool.true_beq, Bool.false_beq, ↓inB_s, ↓ret_fz, ↓ret_ls, ↓ret_rf, ret_nts, ret_tnts, ret_int, ret_bool, ret_none, ret_str, ret_rgD, ↓lcN_a, ↓lcO_a, ↓lcM_a, ↓lcP_a, ↓blB_s, ↓blB_nil, ↓blB_1, ↓blB_2, ↓blB_3, ↓sto, ↓frz, stL, isNum_t, Int.reducePow, Int.reduceSub, Int.reduceAdd, Int.reduceMul, vl, vls, its, lsOf, oLs, oL, upL, fzs, keyOf, dkOf, isN, wipeS, ownFree, own_fz, own_un, own_rf, own_ls, own_lb, own_dk, List.map_cons, List.map_nil, List.all_cons, List.all_nil, List.set, List.getD_cons_zero, List.getD_cons_succ, List.getD_nil, List.getElem?_cons_zero, List.getElem?_cons_succ, Option.getD_some, List.getElem?_nil, Option.getD_none, Option.map_some, Option.map_none, Bool.false_eq_true, if_true, if_false, Bool.not_true, Bool.not_false, Bool.and_true, Bool.true_and, Bool.and_self, Bool.and_false, Bool.false_and, Bool.or_true, Bool.true_or, Bool.or_false, Bool.false_or, List.cons_append, List.nil_append, List.append_nil, List.length_cons, List.length_nil, Nat.reduceAdd, Int.reduceToNat, List.eraseIdx, Int.reduceNeg, Int.sub_zero, Int.toNat_natCast, eq_self, decide_true, cl_0, cl_1, cl_2, cl_3, cl_4, cl_5, cl_6, cl_7, cl_8, cl_9, cl_10, cl_11, cl_12, cl_13, sd_true, sd_refl, castL_map, sd_le, sd_lt, sd_eqn, sd_div, sd_mulL, sd_mulR, sd_pow, sd_rg, sd_rg1, sd_mem, repB_1, lb_ex, swp_eq, pr_snoc, pr_len, prD_rev, zips_nts, rep_one, rep_nts, rep_nts0, at_mod, modN, at_nts, ix_nts, ix_len, set_nts, app_nts, app2_nts, rg_snoc, rgD_len, idx_cast, cut_fromN, cut_toN, cut_two, mem_castD, cast_ltD, cast_leD, cast_eqD, rng_0, nt_def, nts_len, List.length_range, atI_0, atI_1, atI_2, ixN_0, ixN_1, List.length_map, isi_int_none, isi_int_bool, isi_int_int, isi_int_str, isi_int_list, isi_int_tuple, isi_bool_none, isi_bool_bool, isi_bool_int, isi_bool_str, isi_bool_list, isi_bool_tuple, isi_str_none, isi_str_bool, isi_str_int, isi_str_str, isi_str_list, isi_str_tuple, isi_tuple_none, isi_tuple_bool, isi_tuple_int, isi_tuple_str, isi_tuple_list, isi_tuple_tuple, isi_list_none, isi_list_bool, isi_list_int, isi_list_str, isi_list_list, isi_list_tuple]
    refine ci_need_cards hc h12 ?_
    simp -implicitDefEqProofs -dsimp (disch := (first | assumption | omega)) only [↓wIf_s, ↓wFor_s, ↓wWhile_s, ↓wIC_s, ↓wEqD_s, ↓wAndV_s, ↓wOrV_s, ↓wAnd_s, ↓wOr_s, ↓wIfE_s, ↓wTup_s, ↓wLst_s, ↓wCallP_s, ↓wCallM_s, ↓wAppend_s, ↓wExtend_s, ↓wPop_s, ↓wIxL_s, ↓wIxT_s, ↓wIxA_s, ↓wCatT_s, ↓wCat_s, ↓wAddD_s, ↓wRep_s, ↓wInI_s, ↓wRng1_s, ↓wRng2_s, ↓wRng3_s, ↓wgTup_s, ↓wgLst_s, ↓wgSub_s, ↓wDGet_s, ↓wDPut_s, ↓wDUpd_s, ↓wLstRg_s, ↓wTupRg_s, ↓wTIdx_s, ↓wLIdx_s, ↓wPopAt_s, ↓wChainF_s, ↓wLc_s, ↓wDc_s, ↓wInts_s, ↓wBls_s, ↓wMaxF_s, ↓wMinF_s, ↓wSortedF_s, ↓wLc2_s, ↓wSortSet_s, ↓wZip_s, ↓wRevL_s, ↓wCallI_s, ↓wCallID_s, ↓wCallIK_s, ↓wCallJ_s, ↓wVar_ap, ↓wC_ap, ↓wOp_ap, ↓wUn_ap, ↓wII_ap, ↓wIB_ap, ↓wNeg_ap, ↓wEqI_ap, ↓wIsN_ap, ↓wNotV_ap, ↓wTest_ap, ↓wNot_ap, ↓wNil_ap, ↓wCons_ap, ↓wCB_ap, ↓wFrz_ap, ↓wBM_ap, ↓wBM0_ap, ↓wReverse_ap, ↓wNoPart_ap, ↓wPart_ap, ↓wSl_ap, ↓wSlL_ap, ↓wSlT_ap, ↓wLen_ap, ↓wListOf_ap, ↓wTupleOf_ap, ↓wAbs_ap, ↓wIList_ap, ↓wITup_ap, ↓wName_ap, ↓wgNil_ap, ↓wgCons_ap, ↓wNext_ap, ↓wSeq_ap, ↓wAsg_ap, ↓wDrop_ap, ↓wRet_ap, ↓wRetN_ap, ↓wNever_ap, ↓wBreak_ap, ↓wCont_ap, ↓wPar_ap, ↓wAug_ap, ↓wIsT_ap, ↓wEnumT_ap, ↓wEnum_ap, ↓wDNew_ap, ↓wDIn_ap, ↓wDGet2_ap, ↓wRg1_ap, ↓wRg2_ap, ↓wFrzV_ap, ↓wThen_ap, ↓ifS_t, ↓ifS_f, ↓ifQ_t, ↓ifQ_f, ↓gtB_s, ↓intsB_m, ↓intsB_n, ↓intsB_nil, ↓intsB_1, ↓intsB_2, ↓intsB_3, ↓eqB_bool, ↓eqB_int, ↓eqB_non, Bool.true_beq, Bool.false_beq, ↓inB_s, ↓ret_fz, ↓ret_ls, ↓ret_rf, ret_nts, ret_tnts, ret_int, ret_bool, ret_none, ret_str, ret_rgD, ↓lcN_a, ↓lcO_a, ↓lcM_a, ↓lcP_a, ↓blB_s, ↓blB_nil, ↓blB_1, ↓blB_2, ↓blB_3, ↓sto, ↓frz, stL, isNum_t, Int.reducePow, Int.reduceSub, Int.reduceAdd, Int.reduceMul, vl, vls, its, lsOf, oLs, oL, upL, fzs, keyOf, dkOf, isN, wipeS, ownFree, own_fz, own_un, own_rf, own_ls, own_lb, own_dk, List.map_cons, List.map_nil, List.all_cons, List.all_nil, List.set, List.getD_cons_zero, List.getD_cons_succ, List.getD_nil, List.getElem?_cons_zero, List.getElem?_cons_succ, Option.getD_some, List.getElem?_nil, Option.getD_none, Option.map_some, Option.map_none, Bool.false_eq_true, if_true, if_false, Bool.not_true, Bool.not_false, Bool.and_true, Bool.true_and, Bool.and_self, Bool.and_false, Bool.false_and, Bool.or_true, Bool.true_or, Bool.or_false, Bool.false_or, List.cons_append, List.nil_append, List.append_nil, List.length_cons, List.length_nil, Nat.reduceAdd, Int.reduceToNat, List.eraseIdx, Int.reduceNeg, Int.sub_zero, Int.toNat_natCast, eq_self, decide_true, cl_0, cl_1, cl_2, cl_3, cl_4, cl_5, cl_6, cl_7, cl_8, cl_9, cl_10, cl_11, cl_12, cl_13, sd_true, sd_refl, castL_map, sd_le, sd_lt, sd_eqn, sd_div, sd_mulL, sd_mulR, sd_pow, sd_rg, sd_rg1, sd_mem, repB_1, lb_ex, swp_eq, pr_snoc, pr_len, prD_rev, zips_nts, rep_one, rep_nts, rep_nts0, at_mod, modN, at_nts, ix_nts, ix_len, set_nts, app_nts, app2_nts, rg_snoc, rgD_len, idx_cast, cut_fromN, cut_toN, cut_two, mem_castD, cast_ltD, cast_leD, cast_eqD, rng_0, nt_def, nts_len, List.length_range, atI_0, atI_1, atI_2, ixN_0, ixN_1, List.length_map, isi_int_none, isi_int_bool, isi_int_int, isi_int_str, isi_int_list, isi_int_tuple, isi_bool_none, isi_bool_bool, isi_bool_int, isi_bool_str, isi_bool_list, isi_bool_tuple, isi_str_none, isi_str_bool, isi_str_int, isi_str_str, isi_str_list, isi_str_tuple, isi_tuple_none, isi_tuple_bool, isi_tuple_int, isi_tuple_str, isi_tuple_list, isi_tuple_tuple, isi_list_none, isi_list_bool, isi_list_int, isi_list_str, isi_list_list, isi_list_tuple]
    refine ci_need_pins ps c.length hp (by omega) ?_
    simp -implicitDefEqProofs -dsimp (disch := (first | assumption | omega)) only [↓wIf_s, ↓wFor_s, ↓wWhile_s, ↓wIC_s, ↓wEqD_s, ↓wAndV_s, ↓wOrV_s, ↓wAnd_s, ↓wOr_s, ↓wIfE_s, ↓wTup_s, ↓wLst_s, ↓wCallP_s, ↓wCallM_s, ↓wAppend_s, ↓wExtend_s, ↓wPop_s, ↓wIxL_s, ↓wIxT_s, ↓wIxA_s, ↓wCatT_s, ↓wCat_s, ↓wAddD_s, ↓wRep_s, ↓wInI_s, ↓wRng1_s, ↓wRng2_s, ↓wRng3_s, ↓wgTup_s, ↓wgLst_s, ↓wgSub_s, ↓wDGet_s, ↓wDPut_s, ↓wDUpd_s, ↓wLstRg_s, ↓wTupRg_s, ↓wTIdx_s, ↓wLIdx_s, ↓wPopAt_s, ↓wChainF_s, ↓wLc_s, ↓wDc_s, ↓wInts_s, ↓wBls_s, ↓wMaxF_s, ↓wMinF_s, ↓wSortedF_s, ↓wLc2_s, ↓wSortSet_s, ↓wZip_s, ↓wRevL_s, ↓wCallI_s, ↓wCallID_s, ↓wCallIK_s, ↓wCallJ_s, ↓wVar_ap, ↓wC_ap, ↓wOp_ap, ↓wUn_ap, ↓wII_ap, ↓wIB_ap, ↓wNeg_ap, ↓wEqI_ap, ↓wIsN_ap, ↓wNotV_ap, ↓wTest_ap, ↓wNot_ap, ↓wNil_ap, ↓wCons_ap, ↓wCB_ap, ↓wFrz_ap, ↓wBM_ap, ↓wBM0_ap, ↓wReverse_ap, ↓wNoPart_ap, ↓wPart_ap, ↓wSl_ap, ↓wSlL_ap, ↓wSlT_ap, ↓wLen_ap, ↓wListOf_ap, ↓wTupleOf_ap, ↓wAbs_ap, ↓wIList_ap, ↓wITup_ap, ↓wName_ap, ↓wgNil_ap, ↓wgCons_ap, ↓wNext_ap, ↓wSeq_ap, ↓wAsg_ap, ↓wDrop_ap, ↓wRet_ap, ↓wRetN_ap, ↓wNever_ap, ↓wBreak_ap, ↓wCont_ap, ↓wPar_ap, ↓wAug_ap, ↓wIsT_ap, ↓wEnumT_ap, ↓wEnum_ap, ↓wDNew_ap, ↓wDIn_ap, ↓wDGet2_ap, ↓wRg1_ap, ↓wRg2_ap, ↓wFrzV_ap, ↓wThen_ap, ↓ifS_t, ↓ifS_f, ↓ifQ_t, ↓ifQ_f, ↓gtB_s, ↓intsB_m, ↓intsB_n, ↓intsB_nil, ↓intsB_1, ↓intsB_2, ↓intsB_3, ↓eqB_bool, ↓eqB_int, ↓eqB_non, Bool.true_beq, Bool.false_beq, ↓inB_s, ↓ret_fz, ↓ret_ls, ↓ret_rf, ret_nts, ret_tnts, ret_int, ret_bool, ret_none, ret_str, ret_rgD, ↓lcN_a, ↓lcO_a, ↓lcM_a, ↓lcP_a, ↓blB_s, ↓blB_nil, ↓blB_1, ↓blB_2, ↓blB_3, ↓sto, ↓frz, stL, isNum_t, Int.reducePow, Int.reduceSub, Int.reduceAdd, Int.reduceMul, vl, vls, its, lsOf, oLs, oL, upL, fzs, keyOf, dkOf, isN, wipeS, ownFree, own_fz, own_un, own_rf, own_ls, own_lb, own_dk, List.map_cons, List.map_nil, List.all_cons, List.all_nil, List.set, List.getD_cons_zero, List.getD_cons_succ, List.getD_nil, List.getElem?_cons_zero, List.getElem?_cons_succ, Option.getD_some, List.getElem?_nil, Option.getD_none, Option.map_some, Option.map_none, Bool.false_eq_true, if_true, if_false, Bool.not_true, Bool.not_false, Bool.and_true, Bool.true_and, Bool.and_self, Bool.and_false, Bool.false_and, Bool.or_true, Bool.true_or, Bool.or_false, Bool.false_or, List.cons_append, List.nil_append, List.append_nil, List.length_cons, List.length_nil, Nat.reduceAdd, Int.reduceToNat, List.eraseIdx, Int.reduceNeg, Int.sub_zero, Int.toNat_natCast, eq_self, decide_true, cl_0, cl_1, cl_2, cl_3, cl_4, cl_5, cl_6, cl_7, cl_8, cl_9, cl_10, cl_11, cl_12, cl_13, sd_true, sd_refl, castL_map, sd_le, sd_lt, sd_eqn, sd_div, sd_mulL, sd_mulR, sd_pow, sd_rg, sd_rg1, sd_mem, repB_1, lb_ex, swp_eq, pr_snoc, pr_len, prD_rev, zips_nts, rep_one, rep_nts, rep_nts0, at_mod, modN, at_nts, ix_nts, ix_len, set_nts, app_nts, app2_nts, rg_snoc, rgD_len, idx_cast, cut_fromN, cut_toN, cut_two, mem_castD, cast_ltD, cast_leD, cast_eqD, rng_0, nt_def, nts_len, List.length_range, atI_0, atI_1, atI_2, ixN_0, ixN_1, List.length_map, isi_int_none, isi_int_bool, isi_int_int, isi_int_str, isi_int_list, isi_int_tuple, isi_bool_none, isi_bool_bool, isi_bool_int, isi_bool_str, isi_bool_list, isi_bool_tuple, isi_str_none, isi_str_bool, isi_str_int, isi_str_str, isi_str_list, isi_str_tuple, isi_tuple_none, isi_tuple_bool, isi_tuple_int, isi_tuple_str, isi_tuple_list, isi_tuple_tuple, isi_list_none, isi_list_bool, isi_list_int, isi_list_str, isi_list_list, isi_list_tuple]
    refine forB_ea (fun k ds => ∃ (y z u : AV), ds = [.fz (.tuple (nts (doneL c (l.take k)))), .fz (.list (prD l)), .fz (.tuple (nts ps)), y, z, u]) ⟨_, _, _, rfl⟩ (fun k p ds J hk hi hJ => ?_) (fun ds hi => ?_)
    · obtain ⟨y, z, u, rfl⟩ := hi
      obtain ⟨i, j⟩ := p
      obtain ⟨a1, a2, a3, a4, a5⟩ := ho _ (List.mem_of_getElem? hk)
      have hl := doneL_len (l.take k) c
      simp -implicitDefEqProofs -dsimp (disch := (first | assumption | omega)) only [↓wIf_s, ↓wFor_s, ↓wWhile_s, ↓wIC_s, ↓wEqD_s, ↓wAndV_s, ↓wOrV_s, ↓wAnd_s, ↓wOr_s, ↓wIfE_s, ↓wTup_s, ↓wLst_s, ↓wCallP_s, ↓wCallM_s, ↓wAppend_s, ↓wExtend_s, ↓wPop_s, ↓wIxL_s, ↓wIxT_s, ↓wIxA_s, ↓wCatT_s, ↓wCat_s, ↓wAddD_s, ↓wRep_s, ↓wInI_s, ↓wRng1_s, ↓wRng2_s, ↓wRng3_s, ↓wgTup_s, ↓wgLst_s, ↓wgSub_s, ↓wDGet_s, ↓wDPut_s, ↓wDUpd_s, ↓wLstRg_s, ↓wTupRg_s, ↓wTIdx_s, ↓wLIdx_s, ↓wPopAt_s, ↓wChainF_s, ↓wLc_s, ↓wDc_s, ↓wInts_s, ↓wBls_s, ↓wMaxF_s, ↓wMinF_s, ↓wSortedF_s, ↓wLc2_s, ↓wSortSet_s, ↓wZip_s, ↓wRevL_s, ↓wCallI_s, ↓wCallID_s, ↓wCallIK_s, ↓wCallJ_s, ↓wVar_ap, ↓wC_ap, ↓wOp_ap, ↓wUn_ap, ↓wII_ap, ↓wIB_ap, ↓wNeg_ap, ↓wEqI_ap, ↓wIsN_ap, ↓wNotV_ap, ↓wTest_ap, ↓wNot_ap, ↓wNil_ap, ↓wCons_ap, ↓wCB_ap, ↓wFrz_ap, ↓wBM_ap, ↓wBM0_ap, ↓wReverse_ap, ↓wNoPart_ap, ↓wPart_ap, ↓wSl_ap, ↓wSlL_ap, ↓wSlT_ap, ↓wLen_ap, ↓wListOf_ap, ↓wTupleOf_ap, ↓wAbs_ap, ↓wIList_ap, ↓wITup_ap, ↓wName_ap, ↓wgNil_ap, ↓wgCons_ap, ↓wNext_ap, ↓wSeq_ap, ↓wAsg_ap, ↓wDrop_ap, ↓wRet_ap, ↓wRetN_ap, ↓wNever_ap, ↓wBreak_ap, ↓wCont_ap, ↓wPar_ap, ↓wAug_ap, ↓wIsT_ap, ↓wEnumT_ap, ↓wEnum_ap, ↓wDNew_ap, ↓wDIn_ap, ↓wDGet2_ap, ↓wRg1_ap, ↓wRg2_ap, ↓wFrzV_ap, ↓wThen_ap, ↓ifS_t, ↓ifS_f, ↓ifQ_t, ↓ifQ_f, ↓gtB_s, ↓intsB_m, ↓intsB_n, ↓intsB_nil, ↓intsB_1, ↓intsB_2, ↓intsB_3, ↓eqB_bool, ↓eqB_int, ↓eqB_non, Bool.true_beq, Bool.false_beq, ↓inB_s, ↓ret_fz, ↓ret_ls, ↓ret_rf, ret_nts, ret_tnts, ret_int, ret_bool, ret_none, ret_str, ret_rgD, ↓lcN_a, ↓lcO_a, ↓lcM_a, ↓lcP_a, ↓blB_s, ↓blB_nil, ↓blB_1, ↓blB_2, ↓blB_3, ↓sto, ↓frz, stL, isNum_t, Int.reducePow, Int.reduceSub, Int.reduceAdd, Int.reduceMul, vl, vls, its, lsOf, oLs, oL, upL, fzs, keyOf, dkOf, isN, wipeS, ownFree, own_fz, own_un, own_rf, own_ls, own_lb, own_dk, List.map_cons, List.map_nil, List.all_cons, List.all_nil, List.set, List.getD_cons_zero, List.getD_cons_succ, List.getD_nil, List.getElem?_cons_zero, List.getElem?_cons_succ, Option.getD_some, List.getElem?_nil, Option.getD_none, Option.map_some, Option.map_none, Bool.false_eq_true, if_true, if_false, Bool.not_true, Bool.not_false, Bool.and_true, Bool.true_and, Bool.and_self, Bool.and_false, Bool.false_and, Bool.or_true, Bool.true_or, Bool.or_false, Bool.false_or, List.cons_append, List.nil_append, List.append_nil, List.length_cons, List.length_nil, Nat.reduceAdd, Int.reduceToNat, List.eraseIdx, Int.reduceNeg, Int.sub_zero, Int.toNat_natCast, eq_self, decide_true, cl_0, cl_1, cl_2, cl_3, cl_4, cl_5, cl_6, cl_7, cl_8, cl_9, cl_10, cl_11, cl_12, cl_13, sd_true, sd_refl, castL_map, sd_le, sd_lt, sd_eqn, sd_div, sd_mulL, sd_mulR, sd_pow, sd_rg, sd_rg1, sd_mem, repB_1, lb_ex, swp_eq, pr_snoc, pr_len, prD_rev, zips_nts, rep_one, rep_nts, rep_nts0, at_mod, modN, at_nts, ix_nts, ix_len, set_nts, app_nts, app2_nts, rg_snoc, rgD_len, idx_cast, cut_fromN, cut_toN, cut_two, mem_castD, cast_ltD, cast_leD, cast_eqD, rng_0, nt_def, nts_len, List.length_range, atI_0, atI_1, atI_2, ixN_0, ixN_1, List.length_map, isi_int_none, isi_int_bool, isi_int_int, isi_int_str, isi_int_list, isi_int_tuple, isi_bool_none, isi_bool_bool, isi_bool_int, isi_bool_str, isi_bool_list, isi_bool_tuple, isi_str_none, isi_str_bool, isi_str_int, isi_str_str, isi_str_list, isi_str_tuple, isi_tuple_none, isi_tuple_bool, isi_tuple_int, isi_tuple_str, isi_tuple_list, isi_tuple_tuple, isi_list_none, isi_list_bool, isi_list_int, isi_list_str, isi_list_list, isi_list_tuple]
      refine ci_why_not _ ps i j (by omega) (by omega) a3 ?_
      rw [if_neg (fun q => q.elim a4 a5)]
      simp -implicitDefEqProofs -dsimp (disch := (first | assumption | omega)) only [↓wIf_s, ↓wFor_s, ↓wWhile_s, ↓wIC_s, ↓wEqD_s, ↓wAndV_s, ↓wOrV_s, ↓wAnd_s, ↓wOr_s, ↓wIfE_s, ↓wTup_s, ↓wLst_s, ↓wCallP_s, ↓wCallM_s, ↓wAppend_s, ↓wExtend_s, ↓wPop_s, ↓wIxL_s, ↓wIxT_s, ↓wIxA_s, ↓wCatT_s, ↓wCat_s, ↓wAddD_s, ↓wRep_s, ↓wInI_s, ↓wRng1_s, ↓wRng2_s, ↓wRng3_s, ↓wgTup_s, ↓wgLst_s, ↓wgSub_s, ↓wDGet_s, ↓wDPut_s, ↓wDUpd_s, ↓wLstRg_s, ↓wTupRg_s, ↓wTIdx_s, ↓wLIdx_s, ↓wPopAt_s, ↓wChainF_s, ↓wLc_s, ↓wDc_s, ↓wInts_s, ↓wBls_s, ↓wMaxF_s, ↓wMinF_s, ↓wSortedF_s, ↓wLc2_s, ↓wSortSet_s, ↓wZip_s, ↓wRevL_s, ↓wCallI_s, ↓wCallID_s, ↓wCallIK_s, ↓wCallJ_s, ↓wVar_ap, ↓wC_ap, ↓wOp_ap, ↓wUn_ap, ↓wII_ap, ↓wIB_ap, ↓wNeg_ap, ↓wEqI_ap, ↓wIsN_ap, ↓wNotV_ap, ↓wTest_ap, ↓wNot_ap, ↓wNil_ap, ↓wCons_ap, ↓wCB_ap, ↓wFrz_ap, ↓wBM_ap, ↓wBM0_ap, ↓wReverse_ap, ↓wNoPart_ap, ↓wPart_ap, ↓wSl_ap, ↓wSlL_ap, ↓wSlT_ap, ↓wLen_ap, ↓wListOf_ap, ↓wTupleOf_ap, ↓wAbs_ap, ↓wIList_ap, ↓wITup_ap, ↓wName_ap, ↓wgNil_ap, ↓wgCons_ap, ↓wNext_ap, ↓wSeq_ap, ↓wAsg_ap, ↓wDrop_ap, ↓wRet_ap, ↓wRetN_ap, ↓wNever_ap, ↓wBreak_ap, ↓wCont_ap, ↓wPar_ap, ↓wAug_ap, ↓wIsT_ap, ↓wEnumT_ap, ↓wEnum_ap, ↓wDNew_ap, ↓wDIn_ap, ↓wDGet2_ap, ↓wRg1_ap, ↓wRg2_ap, ↓wFrzV_ap, ↓wThen_ap, ↓ifS_t, ↓ifS_f, ↓ifQ_t, ↓ifQ_f, ↓gtB_s, ↓intsB_m, ↓intsB_n, ↓intsB_nil, ↓intsB_1, ↓intsB_2, ↓intsB_3, ↓eqB_bool, ↓eqB_int, ↓eqB_non, Bool.true_beq, Bool.false_beq, ↓inB_s, ↓ret_fz, ↓ret_ls, ↓ret_rf, ret_nts, ret_tnts, ret_int, ret_bool, ret_none, ret_str, ret_rgD, ↓lcN_a, ↓lcO_a, ↓lcM_a, ↓lcP_a, ↓blB_s, ↓blB_nil, ↓blB_1, ↓blB_2, ↓blB_3, ↓sto, ↓frz, stL, isNum_t, Int.reducePow, Int.reduceSub, Int.reduceAdd, Int.reduceMul, vl, vls, its, lsOf, oLs, oL, upL, fzs, keyOf, dkOf, isN, wipeS, ownFree, own_fz, own_un, own_rf, own_ls, own_lb, own_dk, List.map_cons, List.map_nil, List.all_cons, List.all_nil, List.set, List.getD_cons_zero, List.getD_cons_succ, List.getD_nil, List.getElem?_cons_zero, List.getElem?_cons_succ, Option.getD_some, List.getElem?_nil, Option.getD_none, Option.map_some, Option.map_none, Bool.false_eq_true, if_true, if_false, Bool.not_true, Bool.not_false, Bool.and_true, Bool.true_and, Bool.and_self, Bool.and_false, Bool.false_and, Bool.or_true, Bool.true_or, Bool.or_false, Bool.false_or, List.cons_append, List.nil_append, List.append_nil, List.length_cons, List.length_nil, Nat.reduceAdd, Int.reduceToNat, List.eraseIdx, Int.reduceNeg, Int.sub_zero, Int.toNat_natCast, eq_self, decide_true, cl_0, cl_1, cl_2, cl_3, cl_4, cl_5, cl_6, cl_7, cl_8, cl_9, cl_10, cl_11, cl_12, cl_13, sd_true, sd_refl, castL_map, sd_le, sd_lt, sd_eqn, sd_div, sd_mulL, sd_mulR, sd_pow, sd_rg, sd_rg1, sd_mem, repB_1, lb_ex, swp_eq, pr_snoc, pr_len, prD_rev, zips_nts, rep_one, rep_nts, rep_nts0, at_mod, modN, at_nts, ix_nts, ix_len, set_nts, app_nts, app2_nts, rg_snoc, rgD_len, idx_cast, cut_fromN, cut_toN, cut_two, mem_castD, cast_ltD, cast_leD, cast_eqD, rng_0, nt_def, nts_len, List.length_range, atI_0, atI_1, atI_2, ixN_0, ixN_1, List.length_map, isi_int_none, isi_int_bool, isi_int_int, isi_int_str, isi_int_list, isi_int_tuple, isi_bool_none, isi_bool_bool, isi_bool_int, isi_bool_str, isi_bool_list, isi_bool_tuple, isi_str_none, isi_str_bool, isi_str_int, isi_str_str, isi_str_list, isi_str_tuple, isi_tuple_none, isi_tuple_bool, isi_tuple_int, isi_tuple_str, isi_tuple_list, isi_tuple_tuple, isi_list_none, isi_list_bool, isi_list_int, isi_list_str, isi_list_list, isi_list_tuple]
      refine ci_exchanged _ i j (by omega) (by omega) ?_
      rw [← doneL_snoc]
      have e : l.take k ++ [(i, j)] = l.take (k + 1) := by
        rw [List.take_add_one, hk]
        rfl
      rw [e]
      simp -implicitDefEqProofs -dsimp (disch := (first | assumption | omega)) only [↓wIf_s, ↓wFor_s, ↓wWhile_s, ↓wIC_s, ↓wEqD_s, ↓wAndV_s, ↓wOrV_s, ↓wAnd_s, ↓wOr_s, ↓wIfE_s, ↓wTup_s, ↓wLst_s, ↓wCallP_s, ↓wCallM_s, ↓wAppend_s, ↓wExtend_s, ↓wPop_s, ↓wIxL_s, ↓wIxT_s, ↓wIxA_s, ↓wCatT_s, ↓wCat_s, ↓wAddD_s, ↓wRep_s, ↓wInI_s, ↓wRng1_s, ↓wRng2_s, ↓wRng3_s, ↓wgTup_s, ↓wgLst_s, ↓wgSub_s, ↓wDGet_s, ↓wDPut_s, ↓wDUpd_s, ↓wLstRg_s, ↓wTupRg_s, ↓wTIdx_s, ↓wLIdx_s, ↓wPopAt_s, ↓wChainF_s, ↓wLc_s, ↓wDc_s, ↓wInts_s, ↓wBls_s, ↓wMaxF_s, ↓wMinF_s, ↓wSortedF_s, ↓wLc2_s, ↓wSortSet_s, ↓wZip_s, ↓wRevL_s, ↓wCallI_s, ↓wCallID_s, ↓wCallIK_s, ↓wCallJ_s, ↓wVar_ap, ↓wC_ap, ↓wOp_ap, ↓wUn_ap, ↓wII_ap, ↓wIB_ap, ↓wNeg_ap, ↓wEqI_ap, ↓wIsN_ap, ↓wNotV_ap, ↓wTest_ap, ↓wNot_ap, ↓wNil_ap, ↓wCons_ap, ↓wCB_ap, ↓wFrz_ap, ↓wBM_ap, ↓wBM0_ap, ↓wReverse_ap, ↓wNoPart_ap, ↓wPart_ap, ↓wSl_ap, ↓wSlL_ap, ↓wSlT_ap, ↓wLen_ap, ↓wListOf_ap, ↓wTupleOf_ap, ↓wAbs_ap, ↓wIList_ap, ↓wITup_ap, ↓wName_ap, ↓wgNil_ap, ↓wgCons_ap, ↓wNext_ap, ↓wSeq_ap, ↓wAsg_ap, ↓wDrop_ap, ↓wRet_ap, ↓wRetN_ap, ↓wNever_ap, ↓wBreak_ap, ↓wCont_ap, ↓wPar_ap, ↓wAug_ap, ↓wIsT_ap, ↓wEnumT_ap, ↓wEnum_ap, ↓wDNew_ap, ↓wDIn_ap, ↓wDGet2_ap, ↓wRg1_ap, ↓wRg2_ap, ↓wFrzV_ap, ↓wThen_ap, ↓ifS_t, ↓ifS_f, ↓ifQ_t, ↓ifQ_f, ↓gtB_s, ↓intsB_m, ↓intsB_n, ↓intsB_nil, ↓intsB_1, ↓intsB_2, ↓intsB_3, ↓eqB_bool, ↓eqB_int, ↓eqB_non, Bool.true_beq, Bool.false_beq, ↓inB_s, ↓ret_fz, ↓ret_ls, ↓ret_rf, ret_nts, ret_tnts, ret_int, ret_bool, ret_none, ret_str, ret_rgD, ↓lcN_a, ↓lcO_a, ↓lcM_a, ↓lcP_a, ↓blB_s, ↓blB_nil, ↓blB_1, ↓blB_2, ↓blB_3, ↓sto, ↓frz, stL, isNum_t, Int.reducePow, Int.reduceSub, Int.reduceAdd, Int.reduceMul, vl, vls, its, lsOf, oLs, oL, upL, fzs, keyOf, dkOf, isN, wipeS, ownFree, own_fz, own_un, own_rf, own_ls, own_lb, own_dk, List.map_cons, List.map_nil, List.all_cons, List.all_nil, List.set, List.getD_cons_zero, List.getD_cons_succ, List.getD_nil, List.getElem?_cons_zero, List.getElem?_cons_succ, Option.getD_some, List.getElem?_nil, Option.getD_none, Option.map_some, Option.map_none, Bool.false_eq_true, if_true, if_false, Bool.not_true, Bool.not_false, Bool.and_true, Bool.true_and, Bool.and_self, Bool.and_false, Bool.false_and, Bool.or_true, Bool.true_or, Bool.or_false, Bool.false_or, List.cons_append, List.nil_append, List.append_nil, List.length_cons, List.length_nil, Nat.reduceAdd, Int.reduceToNat, List.eraseIdx, Int.reduceNeg, Int.sub_zero, Int.toNat_natCast, eq_self, decide_true, cl_0, cl_1, cl_2, cl_3, cl_4, cl_5, cl_6, cl_7, cl_8, cl_9, cl_10, cl_11, cl_12, cl_13, sd_true, sd_refl, castL_map, sd_le, sd_lt, sd_eqn, sd_div, sd_mulL, sd_mulR, sd_pow, sd_rg, sd_rg1, sd_mem, repB_1, lb_ex, swp_eq, pr_snoc, pr_len, prD_rev, zips_nts, rep_one, rep_nts, rep_nts0, at_mod, modN, at_nts, ix_nts, ix_len, set_nts, app_nts, app2_nts, rg_snoc, rgD_len, idx_cast, cut_fromN, cut_toN, cut_two, mem_castD, cast_ltD, cast_leD, cast_eqD, rng_0, nt_def, nts_len, List.length_range, atI_0, atI_1, atI_2, ixN_0, ixN_1, List.length_map, isi_int_none, isi_int_bool, isi_int_int, isi_int_str, isi_int_list, isi_int_tuple, isi_bool_none, isi_bool_bool, isi_bool_int, isi_bool_str, isi_bool_list, isi_bool_tuple, isi_str_none, isi_str_bool, isi_str_int, isi_str_str, isi_str_list, isi_str_tuple, isi_tuple_none, isi_tuple_bool, isi_tuple_int, isi_tuple_str, isi_tuple_list, isi_tuple_tuple, isi_list_none, isi_list_bool, isi_list_int, isi_list_str, isi_list_list, isi_list_tuple]
      exact hJ _ ⟨_, _, _, rfl⟩
    · obtain ⟨y, z, u, rfl⟩ := hi
      rw [List.take_length]
      simp -implicitDefEqProofs -dsimp (disch := (first | assumption | omega)) only [↓wIf_s, ↓wFor_s, ↓wWhile_s, ↓wIC_s, ↓wEqD_s, ↓wAndV_s, ↓wOrV_s, ↓wAnd_s, ↓wOr_s, ↓wIfE_s, ↓wTup_s, ↓wLst_s, ↓wCallP_s, ↓wCallM_s, ↓wAppend_s, ↓wExtend_s, ↓wPop_s, ↓wIxL_s, ↓wIxT_s, ↓wIxA_s, ↓wCatT_s, ↓wCat_s, ↓wAddD_s, ↓wRep_s, ↓wInI_s, ↓wRng1_s, ↓wRng2_s, ↓wRng3_s, ↓wgTup_s, ↓wgLst_s, ↓wgSub_s, ↓wDGet_s, ↓wDPut_s, ↓wDUpd_s, ↓wLstRg_s, ↓wTupRg_s, ↓wTIdx_s, ↓wLIdx_s, ↓wPopAt_s, ↓wChainF_s, ↓wLc_s, ↓wDc_s, ↓wInts_s, ↓wBls_s, ↓wMaxF_s, ↓wMinF_s, ↓wSortedF_s, ↓wLc2_s, ↓wSortSet_s, ↓wZip_s, ↓wRevL_s, ↓wCallI_s, ↓wCallID_s, ↓wCallIK_s, ↓wCallJ_s, ↓wVar_ap, ↓wC_ap, ↓wOp_ap, ↓wUn_ap, ↓wII_ap, ↓wIB_ap, ↓wNeg_ap, ↓wEqI_ap, ↓wIsN_ap, ↓wNotV_ap, ↓wTest_ap, ↓wNot_ap, ↓wNil_ap, ↓wCons_ap, ↓wCB_ap, ↓wFrz_ap, ↓wBM_ap, ↓wBM0_ap, ↓wReverse_ap, ↓wNoPart_ap, ↓wPart_ap, ↓wSl_ap, ↓wSlL_ap, ↓wSlT_ap, ↓wLen_ap, ↓wListOf_ap, ↓wTupleOf_ap, ↓wAbs_ap, ↓wIList_ap, ↓wITup_ap, ↓wName_ap, ↓wgNil_ap, ↓wgCons_ap, ↓wNext_ap, ↓wSeq_ap, ↓wAsg_ap, ↓wDrop_ap, ↓wRet_ap, ↓wRetN_ap, ↓wNever_ap, ↓wBreak_ap, ↓wCont_ap, ↓wPar_ap, ↓wAug_ap, ↓wIsT_ap, ↓wEnumT_ap, ↓wEnum_ap, ↓wDNew_ap, ↓wDIn_ap, ↓wDGet2_ap, ↓wRg1_ap, ↓wRg2_ap, ↓wFrzV_ap, ↓wThen_ap, ↓ifS_t, ↓ifS_f, ↓ifQ_t, ↓ifQ_f, ↓gtB_s, ↓intsB_m, ↓intsB_n, ↓intsB_nil, ↓intsB_1, ↓intsB_2, ↓intsB_3, ↓eqB_bool, ↓eqB_int, ↓eqB_non, Bool.true_beq, Bool.false_beq, ↓inB_s, ↓ret_fz, ↓ret_ls, ↓ret_rf, ret_nts, ret_tnts, ret_int, ret_bool, ret_none, ret_str, ret_rgD, ↓lcN_a, ↓lcO_a, ↓lcM_a, ↓lcP_a, ↓blB_s, ↓blB_nil, ↓blB_1, ↓blB_2, ↓blB_3, ↓sto, ↓frz, stL, isNum_t, Int.reducePow, Int.reduceSub, Int.reduceAdd, Int.reduceMul, vl, vls, its, lsOf, oLs, oL, upL, fzs, keyOf, dkOf, isN, wipeS, ownFree, own_fz, own_un, own_rf, own_ls, own_lb, own_dk, List.map_cons, List.map_nil, List.all_cons, List.all_nil, List.set, List.getD_cons_zero, List.getD_cons_succ, List.getD_nil, List.getElem?_cons_zero, List.getElem?_cons_succ, Option.getD_some, List.getElem?_nil, Option.getD_none, Option.map_some, Option.map_none, Bool.false_eq_true, if_true, if_false, Bool.not_true, Bool.not_false, Bool.and_true, Bool.true_and, Bool.and_self, Bool.and_false, Bool.false_and, Bool.or_true, Bool.true_or, Bool.or_false, Bool.false_or, List.cons_append, List.nil_append, List.append_nil, List.length_cons, List.length_nil, Nat.reduceAdd, Int.reduceToNat, List.eraseIdx, Int.reduceNeg, Int.sub_zero, Int.toNat_natCast, eq_self, decide_true, cl_0, cl_1, cl_2, cl_3, cl_4, cl_5, cl_6, cl_7, cl_8, cl_9, cl_10, cl_11, cl_12, cl_13, sd_true, sd_refl, castL_map, sd_le, sd_lt, sd_eqn, sd_div, sd_mulL, sd_mulR, sd_pow, sd_rg, sd_rg1, sd_mem, repB_1, lb_ex, swp_eq, pr_snoc, pr_len, prD_rev, zips_nts, rep_one, rep_nts, rep_nts0, at_mod, modN, at_nts, ix_nts, ix_len, set_nts, app_nts, app2_nts, rg_snoc, rgD_len, idx_cast, cut_fromN, cut_toN, cut_two, mem_castD, cast_ltD, cast_leD, cast_eqD, rng_0, nt_def, nts_len, List.length_range, atI_0, atI_1, atI_2, ixN_0, ixN_1, List.length_map, isi_int_none, isi_int_bool, isi_int_int, isi_int_str, isi_int_list, isi_int_tuple, isi_bool_none, isi_bool_bool, isi_bool_int, isi_bool_str, isi_bool_list, isi_bool_tuple, isi_str_none, isi_str_bool, isi_str_int, isi_str_str, isi_str_list, isi_str_tuple, isi_tuple_none, isi_tuple_bool, isi_tuple_int, isi_tuple_str, isi_tuple_list, isi_tuple_tuple, isi_list_none, isi_list_bool, isi_list_int, isi_list_str, isi_list_list, isi_list_tuple]
      rfl⟩
def pre_ring_from (dl : List D) : Prop := ∃ (c : List Nat) (s : Nat), dl = [.tuple (nts c), nt s] ∧ IsC c ∧ s < c.length
def post_ring_from (dl : List D) (x : AV) : Prop := ∃ (c : List Nat) (s : Nat), dl = [.tuple (nts c), nt s] ∧ x = .ls (nts (ringOf c s))
theorem ci_ring_from {c : List Nat} {s : Nat} {ds : Sto} {Q : Sto → AV → Prop} (hc : IsC c) (hs : s < c.length) (q : Q ds (.ls (nts (ringOf c s)))) : callB pre_ring_from post_ring_from 2 (some [.tuple (nts c), .int (s : Int)]) ds Q := callB_i rfl ⟨c, s, rfl, hc, hs⟩ fun x ⟨c', s', e, e2⟩ => by
  simp only [List.cons.injEq, PyData.tuple.injEq, nt, PyData.int.injEq, and_true] at e
  cases nts_inj e.1
  have : s = s' := by omega
  subst this
  subst e2
  exact q
theorem ok_ring_from {f : Addr} {fd : FuncData} (F : Fun K "ring_from" "ring_from" s_ring_from f fd) (T : Txt mg)  : FnOk P w K mg base CX0 (0 + 1) f fd ["cards", "seat"] (spP 2 pre_ring_from post_ring_from K) := by
  exact okP F sc_ring_from rfl fun cdv A outer s H E hr => ⟨_, _, (ass_cons (as_set 2 sc_ring_from.nd (ae_lst (aa_cons (av 1) aa_nil))) (ass_cons (as_while (at_cmp c_ne (ae_ixT (av 0) (ae_ixL (av 2) (ae_neg ae_int))) (av 1)) (ass_one (as_expr (ae_bm PySem.F.slot_list_append PySem.F.type_list_append m_append (av 2) (aa_cons (ae_ixT (av 0) (ae_ixL (av 2) (ae_neg ae_int))) aa_nil))))) (ass_one (as_ret (av 2))))), fun dl hl hp => by
    obtain ⟨c, s0, rfl, hc, hs⟩ := hp
    show (_ : WS) _ [AV.fz (.tuple (nts c)), .fz (.int (s0 : Int)), .un]
    obtain ⟨p1, p2, p3, p4⟩ := hc.per hs
    simp -implicitDefEqProofs only [↓wVar_ap, ↓wC_ap, ↓wOp_ap, ↓wUn_ap, ↓wII_ap, ↓wIC_ap, ↓wIB_ap, ↓wNeg_ap, ↓wEqI_ap, ↓wEqD_ap, ↓wIsN_ap, ↓wAndV_ap, ↓wOrV_ap, ↓wNotV_ap, ↓wTest_ap, ↓wAnd_ap, ↓wOr_ap, ↓wNot_ap, ↓wIfE_ap, ↓wNil_ap, ↓wCons_ap, ↓wCB_ap, ↓wTup_ap, ↓wLst_ap, ↓wFrz_ap, ↓wCallP_ap, ↓wCallM_ap, ↓wBM_ap, ↓wBM0_ap, ↓wAppend_ap, ↓wExtend_ap, ↓wPopAt_ap, ↓wPop_ap, ↓wReverse_ap, ↓wIxL_ap, ↓wIxT_ap, ↓wNoPart_ap, ↓wPart_ap, ↓wSl_ap, ↓wSlL_ap, ↓wSlT_ap, ↓wLen_ap, ↓wListOf_ap, ↓wTupleOf_ap, ↓wAbs_ap, ↓wCatT_ap, ↓wCat_ap, ↓wRep_ap, ↓wInI_ap, ↓wRng1_ap, ↓wRng2_ap, ↓wRng3_ap, ↓wIList_ap, ↓wITup_ap, ↓wName_ap, ↓wgNil_ap, ↓wgCons_ap, ↓wgTup_ap, ↓wgLst_ap, ↓wgSub_ap, ↓wNext_ap, ↓wSeq_ap, ↓wAsg_ap, ↓wDrop_ap, ↓wRet_ap, ↓wRetN_ap, ↓wNever_ap, ↓wBreak_ap, ↓wCont_ap, ↓wPar_ap, ↓wAug_ap, ↓wIsT_ap, ↓wEnumT_ap, ↓wEnum_ap, ↓wChainF_ap, ↓wDNew_ap, ↓wDIn_ap, ↓wDGet_ap, ↓wDGet2_ap, ↓wDPut_ap, ↓wDUpd_ap, ↓wRg1_ap, ↓wRg2_ap, ↓wLstRg_ap, ↓wTupRg_ap, ↓wFrzV_ap, ↓wIxA_ap, ↓wTIdx_ap, ↓wLIdx_ap, ↓wAddD_ap, fMax, fMin, fSorted, ↓wIf_ap, ↓wThen_ap, ↓wFor_ap, ↓wWhile_ap, ↓wLc_ap, ↓wDc_ap, RetOk_fz, RetOk_ls, RetOk_rf, imm_int, imm_bool, imm_str, imm_none, ↓ifB_t, ↓ifB_f, ↓sto, ↓frz, stL, isNum_t, Int.reducePow, Int.reduceSub, Int.reduceAdd, Int.reduceMul, wInts, wBls, vl, vls, its, lsOf, oLs, oL, upL, fzs, keyOf, dkOf, isN, wipeS, ownFree, own_fz, own_un, own_rf, own_ls, own_lb, own_dk, List.map_cons, List.map_nil, List.all_cons, List.all_nil, List.set, List.getD_cons_zero, List.getD_cons_succ, List.getD_nil, List.getElem?_cons_zero, List.getElem?_cons_succ, Option.getD_some, List.getElem?_nil, Option.getD_none, Option.map_some, Option.map_none, Bool.false_eq_true, if_true, if_false, Bool.not_true, Bool.not_false, Bool.and_true, Bool.true_and, reduceCtorEq, and_true, true_and, and_false, false_and, Option.some.injEq, AV.fz.injEq, AV.ls.injEq, AV.lb.injEq, AV.dk.injEq, List.cons.injEq, PyData.int.injEq, PyData.list.injEq, PyData.tuple.injEq, exists_eq_left', exists_eq_left, List.length_cons, List.length_nil, Nat.reduceAdd, Int.reduceToNat, List.eraseIdx, isi_int_none, isi_int_bool, isi_int_int, isi_int_str, isi_int_list, isi_int_tuple, isi_bool_none, isi_bool_bool, isi_bool_int, isi_bool_str, isi_bool_list, isi_bool_tuple, isi_str_none, isi_str_bool, isi_str_int, isi_str_str, isi_str_list, isi_str_tuple, isi_tuple_none, isi_tuple_bool, isi_tuple_int, isi_tuple_str, isi_tuple_list, isi_tuple_tuple, isi_list_none, isi_list_bool, isi_list_int, isi_list_str, isi_list_list, isi_list_tuple, atI_0, atI_1, atI_2, ixN_0, ixN_1]
    refine ⟨by decide, whileB_i (fun m ds => ∃ k, ds = [AV.fz (.tuple (nts c)), .fz (.int (s0 : Int)), .ls (nts ((List.range k).map (orb c s0)))] ∧ 1 ≤ k ∧ k ≤ per c s0 ∧ m = per c s0 - k) (per c s0 - 1) ⟨1, rfl, Nat.le_refl _, p1, rfl⟩ (fun m ds hi => ?_)⟩
    obtain ⟨k, rfl, k1, k2, rfl⟩ := hi
    have hlast : atI (nts ((List.range k).map (orb c s0))) (-1) = some (nt (orb c s0 (k - 1))) := by
      refine atI_back (i := 0) (by rw [nts_len, List.length_map, List.length_range]; omega) ?_
      refine nts_get ?_
      rw [nts_len, List.length_map, List.length_range, List.getElem?_map, List.getElem?_range (by omega)]
      rfl
    have hnext : atI (nts c) ((orb c s0 (k - 1) : Nat) : Int) = some (nt (orb c s0 k)) := by
      refine nts_atI ?_
      rw [st_at (hc.orb_lt hs (k - 1))]
      congr 1
      obtain ⟨j, rfl⟩ : ∃ j, k = j + 1 := ⟨k - 1, by omega⟩
      rfl
    simp -implicitDefEqProofs only [↓wVar_ap, ↓wC_ap, ↓wOp_ap, ↓wUn_ap, ↓wII_ap, ↓wIC_ap, ↓wIB_ap, ↓wNeg_ap, ↓wEqI_ap, ↓wEqD_ap, ↓wIsN_ap, ↓wAndV_ap, ↓wOrV_ap, ↓wNotV_ap, ↓wTest_ap, ↓wAnd_ap, ↓wOr_ap, ↓wNot_ap, ↓wIfE_ap, ↓wNil_ap, ↓wCons_ap, ↓wCB_ap, ↓wTup_ap, ↓wLst_ap, ↓wFrz_ap, ↓wCallP_ap, ↓wCallM_ap, ↓wBM_ap, ↓wBM0_ap, ↓wAppend_ap, ↓wExtend_ap, ↓wPopAt_ap, ↓wPop_ap, ↓wReverse_ap, ↓wIxL_ap, ↓wIxT_ap, ↓wNoPart_ap, ↓wPart_ap, ↓wSl_ap, ↓wSlL_ap, ↓wSlT_ap, ↓wLen_ap, ↓wListOf_ap, ↓wTupleOf_ap, ↓wAbs_ap, ↓wCatT_ap, ↓wCat_ap, ↓wRep_ap, ↓wInI_ap, ↓wRng1_ap, ↓wRng2_ap, ↓wRng3_ap, ↓wIList_ap, ↓wITup_ap, ↓wName_ap, ↓wgNil_ap, ↓wgCons_ap, ↓wgTup_ap, ↓wgLst_ap, ↓wgSub_ap, ↓wNext_ap, ↓wSeq_ap, ↓wAsg_ap, ↓wDrop_ap, ↓wRet_ap, ↓wRetN_ap, ↓wNever_ap, ↓wBreak_ap, ↓wCont_ap, ↓wPar_ap, ↓wAug_ap, ↓wIsT_ap, ↓wEnumT_ap, ↓wEnum_ap, ↓wChainF_ap, ↓wDNew_ap, ↓wDIn_ap, ↓wDGet_ap, ↓wDGet2_ap, ↓wDPut_ap, ↓wDUpd_ap, ↓wRg1_ap, ↓wRg2_ap, ↓wLstRg_ap, ↓wTupRg_ap, ↓wFrzV_ap, ↓wIxA_ap, ↓wTIdx_ap, ↓wLIdx_ap, ↓wAddD_ap, fMax, fMin, fSorted, ↓wIf_ap, ↓wThen_ap, ↓wFor_ap, ↓wWhile_ap, ↓wLc_ap, ↓wDc_ap, RetOk_fz, RetOk_ls, RetOk_rf, imm_int, imm_bool, imm_str, imm_none, ↓ifB_t, ↓ifB_f, ↓sto, ↓frz, stL, isNum_t, Int.reducePow, Int.reduceSub, Int.reduceAdd, Int.reduceMul, wInts, wBls, vl, vls, its, lsOf, oLs, oL, upL, fzs, keyOf, dkOf, isN, wipeS, ownFree, own_fz, own_un, own_rf, own_ls, own_lb, own_dk, List.map_cons, List.map_nil, List.all_cons, List.all_nil, List.set, List.getD_cons_zero, List.getD_cons_succ, List.getD_nil, List.getElem?_cons_zero, List.getElem?_cons_succ, Option.getD_some, List.getElem?_nil, Option.getD_none, Option.map_some, Option.map_none, Bool.false_eq_true, if_true, if_false, Bool.not_true, Bool.not_false, Bool.and_true, Bool.true_and, reduceCtorEq, and_true, true_and, and_false, false_and, Option.some.injEq, AV.fz.injEq, AV.ls.injEq, AV.lb.injEq, AV.dk.injEq, List.cons.injEq, PyData.int.injEq, PyData.list.injEq, PyData.tuple.injEq, exists_eq_left', exists_eq_left, List.length_cons, List.length_nil, Nat.reduceAdd, Int.reduceToNat, List.eraseIdx, isi_int_none, isi_int_bool, isi_int_int, isi_int_str, isi_int_list, isi_int_tuple, isi_bool_none, isi_bool_bool, isi_bool_int, isi_bool_str, isi_bool_list, isi_bool_tuple, isi_str_none, isi_str_bool, isi_str_int, isi_str_str, isi_str_list, isi_str_tuple, isi_tuple_none, isi_tuple_bool, isi_tuple_int, isi_tuple_str, isi_tuple_list, isi_tuple_tuple, isi_list_none, isi_list_bool, isi_list_int, isi_list_str, isi_list_list, isi_list_tuple, atI_0, atI_1, atI_2, ixN_0, ixN_1]
    refine ⟨_, hlast, ?_⟩
    simp -implicitDefEqProofs only [↓wVar_ap, ↓wC_ap, ↓wOp_ap, ↓wUn_ap, ↓wII_ap, ↓wIC_ap, ↓wIB_ap, ↓wNeg_ap, ↓wEqI_ap, ↓wEqD_ap, ↓wIsN_ap, ↓wAndV_ap, ↓wOrV_ap, ↓wNotV_ap, ↓wTest_ap, ↓wAnd_ap, ↓wOr_ap, ↓wNot_ap, ↓wIfE_ap, ↓wNil_ap, ↓wCons_ap, ↓wCB_ap, ↓wTup_ap, ↓wLst_ap, ↓wFrz_ap, ↓wCallP_ap, ↓wCallM_ap, ↓wBM_ap, ↓wBM0_ap, ↓wAppend_ap, ↓wExtend_ap, ↓wPopAt_ap, ↓wPop_ap, ↓wReverse_ap, ↓wIxL_ap, ↓wIxT_ap, ↓wNoPart_ap, ↓wPart_ap, ↓wSl_ap, ↓wSlL_ap, ↓wSlT_ap, ↓wLen_ap, ↓wListOf_ap, ↓wTupleOf_ap, ↓wAbs_ap, ↓wCatT_ap, ↓wCat_ap, ↓wRep_ap, ↓wInI_ap, ↓wRng1_ap, ↓wRng2_ap, ↓wRng3_ap, ↓wIList_ap, ↓wITup_ap, ↓wName_ap, ↓wgNil_ap, ↓wgCons_ap, ↓wgTup_ap, ↓wgLst_ap, ↓wgSub_ap, ↓wNext_ap, ↓wSeq_ap, ↓wAsg_ap, ↓wDrop_ap, ↓wRet_ap, ↓wRetN_ap, ↓wNever_ap, ↓wBreak_ap, ↓wCont_ap, ↓wPar_ap, ↓wAug_ap, ↓wIsT_ap, ↓wEnumT_ap, ↓wEnum_ap, ↓wChainF_ap, ↓wDNew_ap, ↓wDIn_ap, ↓wDGet_ap, ↓wDGet2_ap, ↓wDPut_ap, ↓wDUpd_ap, ↓wRg1_ap, ↓wRg2_ap, ↓wLstRg_ap, ↓wTupRg_ap, ↓wFrzV_ap, ↓wIxA_ap, ↓wTIdx_ap, ↓wLIdx_ap, ↓wAddD_ap, fMax, fMin, fSorted, ↓wIf_ap, ↓wThen_ap, ↓wFor_ap, ↓wWhile_ap, ↓wLc_ap, ↓wDc_ap, RetOk_fz, RetOk_ls, RetOk_rf, imm_int, imm_bool, imm_str, imm_none, ↓ifB_t, ↓ifB_f, ↓sto, ↓frz, stL, isNum_t, Int.reducePow, Int.reduceSub, Int.reduceAdd, Int.reduceMul, wInts, wBls, vl, vls, its, lsOf, oLs, oL, upL, fzs, keyOf, dkOf, isN, wipeS, ownFree, own_fz, own_un, own_rf, own_ls, own_lb, own_dk, List.map_cons, List.map_nil, List.all_cons, List.all_nil, List.set, List.getD_cons_zero, List.getD_cons_succ, List.getD_nil, List.getElem?_cons_zero, List.getElem?_cons_succ, Option.getD_some, List.getElem?_nil, Option.getD_none, Option.map_some, Option.map_none, Bool.false_eq_true, if_true, if_false, Bool.not_true, Bool.not_false, Bool.and_true, Bool.true_and, reduceCtorEq, and_true, true_and, and_false, false_and, Option.some.injEq, AV.fz.injEq, AV.ls.injEq, AV.lb.injEq, AV.dk.injEq, List.cons.injEq, PyData.int.injEq, PyData.list.injEq, PyData.tuple.injEq, exists_eq_left', exists_eq_left, List.length_cons, List.length_nil, Nat.reduceAdd, Int.reduceToNat, List.eraseIdx, isi_int_none, isi_int_bool, isi_int_int, isi_int_str, isi_int_list, isi_int_tuple, isi_bool_none, isi_bool_bool, isi_bool_int, isi_bool_str, isi_bool_list, isi_bool_tuple, isi_str_none, isi_str_bool, isi_str_int, isi_str_str, isi_str_list, isi_str_tuple, isi_tuple_none, isi_tuple_bool, isi_tuple_int, isi_tuple_str, isi_tuple_list, isi_tuple_tuple, isi_list_none, isi_list_bool, isi_list_int, isi_list_str, isi_list_list, isi_list_tuple, atI_0, atI_1, atI_2, ixN_0, ixN_1, nt_def]
    refine ⟨_, hnext, ?_⟩
    simp -implicitDefEqProofs only [↓wVar_ap, ↓wC_ap, ↓wOp_ap, ↓wUn_ap, ↓wII_ap, ↓wIC_ap, ↓wIB_ap, ↓wNeg_ap, ↓wEqI_ap, ↓wEqD_ap, ↓wIsN_ap, ↓wAndV_ap, ↓wOrV_ap, ↓wNotV_ap, ↓wTest_ap, ↓wAnd_ap, ↓wOr_ap, ↓wNot_ap, ↓wIfE_ap, ↓wNil_ap, ↓wCons_ap, ↓wCB_ap, ↓wTup_ap, ↓wLst_ap, ↓wFrz_ap, ↓wCallP_ap, ↓wCallM_ap, ↓wBM_ap, ↓wBM0_ap, ↓wAppend_ap, ↓wExtend_ap, ↓wPopAt_ap, ↓wPop_ap, ↓wReverse_ap, ↓wIxL_ap, ↓wIxT_ap, ↓wNoPart_ap, ↓wPart_ap, ↓wSl_ap, ↓wSlL_ap, ↓wSlT_ap, ↓wLen_ap, ↓wListOf_ap, ↓wTupleOf_ap, ↓wAbs_ap, ↓wCatT_ap, ↓wCat_ap, ↓wRep_ap, ↓wInI_ap, ↓wRng1_ap, ↓wRng2_ap, ↓wRng3_ap, ↓wIList_ap, ↓wITup_ap, ↓wName_ap, ↓wgNil_ap, ↓wgCons_ap, ↓wgTup_ap, ↓wgLst_ap, ↓wgSub_ap, ↓wNext_ap, ↓wSeq_ap, ↓wAsg_ap, ↓wDrop_ap, ↓wRet_ap, ↓wRetN_ap, ↓wNever_ap, ↓wBreak_ap, ↓wCont_ap, ↓wPar_ap, ↓wAug_ap, ↓wIsT_ap, ↓wEnumT_ap, ↓wEnum_ap, ↓wChainF_ap, ↓wDNew_ap, ↓wDIn_ap, ↓wDGet_ap, ↓wDGet2_ap, ↓wDPut_ap, ↓wDUpd_ap, ↓wRg1_ap, ↓wRg2_ap, ↓wLstRg_ap, ↓wTupRg_ap, ↓wFrzV_ap, ↓wIxA_ap, ↓wTIdx_ap, ↓wLIdx_ap, ↓wAddD_ap, fMax, fMin, fSorted, ↓wIf_ap, ↓wThen_ap, ↓wFor_ap, ↓wWhile_ap, ↓wLc_ap, ↓wDc_ap, RetOk_fz, RetOk_ls, RetOk_rf, imm_int, imm_bool, imm_str, imm_none, ↓ifB_t, ↓ifB_f, ↓sto, ↓frz, stL, isNum_t, Int.reducePow, Int.reduceSub, Int.reduceAdd, Int.reduceMul, wInts, wBls, vl, vls, its, lsOf, oLs, oL, upL, fzs, keyOf, dkOf, isN, wipeS, ownFree, own_fz, own_un, own_rf, own_ls, own_lb, own_dk, List.map_cons, List.map_nil, List.all_cons, List.all_nil, List.set, List.getD_cons_zero, List.getD_cons_succ, List.getD_nil, List.getElem?_cons_zero, List.getElem?_cons_succ, Option.getD_some, List.getElem?_nil, Option.getD_none, Option.map_some, Option.map_none, Bool.false_eq_true, if_true, if_false, Bool.not_true, Bool.not_false, Bool.and_true, Bool.true_and, reduceCtorEq, and_true, true_and, and_false, false_and, Option.some.injEq, AV.fz.injEq, AV.ls.injEq, AV.lb.injEq, AV.dk.injEq, List.cons.injEq, PyData.int.injEq, PyData.list.injEq, PyData.tuple.injEq, exists_eq_left', exists_eq_left, List.length_cons, List.length_nil, Nat.reduceAdd, Int.reduceToNat, List.eraseIdx, isi_int_none, isi_int_bool, isi_int_int, isi_int_str, isi_int_list, isi_int_tuple, isi_bool_none, isi_bool_bool, isi_bool_int, isi_bool_str, isi_bool_list, isi_bool_tuple, isi_str_none, isi_str_bool, isi_str_int, isi_str_str, isi_str_list, isi_str_tuple, isi_tuple_none, isi_tuple_bool, isi_tuple_int, isi_tuple_str, isi_tuple_list, isi_tuple_tuple, isi_list_none, isi_list_bool, isi_list_int, isi_list_str, isi_list_list, isi_list_tuple, atI_0, atI_1, atI_2, ixN_0, ixN_1, nt_def]
    refine ifB_i (fun h => ?_) (fun h => ?_)
    · have hk : k < per c s0 := by
        refine Nat.lt_of_le_of_ne k2 fun e => ?_
        rw [e, p3] at h
        simp at h
      simp -implicitDefEqProofs only [↓wVar_ap, ↓wC_ap, ↓wOp_ap, ↓wUn_ap, ↓wII_ap, ↓wIC_ap, ↓wIB_ap, ↓wNeg_ap, ↓wEqI_ap, ↓wEqD_ap, ↓wIsN_ap, ↓wAndV_ap, ↓wOrV_ap, ↓wNotV_ap, ↓wTest_ap, ↓wAnd_ap, ↓wOr_ap, ↓wNot_ap, ↓wIfE_ap, ↓wNil_ap, ↓wCons_ap, ↓wCB_ap, ↓wTup_ap, ↓wLst_ap, ↓wFrz_ap, ↓wCallP_ap, ↓wCallM_ap, ↓wBM_ap, ↓wBM0_ap, ↓wAppend_ap, ↓wExtend_ap, ↓wPopAt_ap, ↓wPop_ap, ↓wReverse_ap, ↓wIxL_ap, ↓wIxT_ap, ↓wNoPart_ap, ↓wPart_ap, ↓wSl_ap, ↓wSlL_ap, ↓wSlT_ap, ↓wLen_ap, ↓wListOf_ap, ↓wTupleOf_ap, ↓wAbs_ap, ↓wCatT_ap, ↓wCat_ap, ↓wRep_ap, ↓wInI_ap, ↓wRng1_ap, ↓wRng2_ap, ↓wRng3_ap, ↓wIList_ap, ↓wITup_ap, ↓wName_ap, ↓wgNil_ap, ↓wgCons_ap, ↓wgTup_ap, ↓wgLst_ap, ↓wgSub_ap, ↓wNext_ap, ↓wSeq_ap, ↓wAsg_ap, ↓wDrop_ap, ↓wRet_ap, ↓wRetN_ap, ↓wNever_ap, ↓wBreak_ap, ↓wCont_ap, ↓wPar_ap, ↓wAug_ap, ↓wIsT_ap, ↓wEnumT_ap, ↓wEnum_ap, ↓wChainF_ap, ↓wDNew_ap, ↓wDIn_ap, ↓wDGet_ap, ↓wDGet2_ap, ↓wDPut_ap, ↓wDUpd_ap, ↓wRg1_ap, ↓wRg2_ap, ↓wLstRg_ap, ↓wTupRg_ap, ↓wFrzV_ap, ↓wIxA_ap, ↓wTIdx_ap, ↓wLIdx_ap, ↓wAddD_ap, fMax, fMin, fSorted, ↓wIf_ap, ↓wThen_ap, ↓wFor_ap, ↓wWhile_ap, ↓wLc_ap, ↓wDc_ap, RetOk_fz, RetOk_ls, RetOk_rf, imm_int, imm_bool, imm_str, imm_none, ↓ifB_t, ↓ifB_f, ↓sto, ↓frz, stL, isNum_t, Int.reducePow, Int.reduceSub, Int.reduceAdd, Int.reduceMul, wInts, wBls, vl, vls, its, lsOf, oLs, oL, upL, fzs, keyOf, dkOf, isN, wipeS, ownFree, own_fz, own_un, own_rf, own_ls, own_lb, own_dk, List.map_cons, List.map_nil, List.all_cons, List.all_nil, List.set, List.getD_cons_zero, List.getD_cons_succ, List.getD_nil, List.getElem?_cons_zero, List.getElem?_cons_succ, Option.getD_some, List.getElem?_nil, Option.getD_none, Option.map_some, Option.map_none, Bool.false_eq_true, if_true, if_false, Bool.not_true, Bool.not_false, Bool.and_true, Bool.true_and, reduceCtorEq, and_true, true_and, and_false, false_and, Option.some.injEq, AV.fz.injEq, AV.ls.injEq, AV.lb.injEq, AV.dk.injEq, List.cons.injEq, PyData.int.injEq, PyData.list.injEq, PyData.tuple.injEq, exists_eq_left', exists_eq_left, List.length_cons, List.length_nil, Nat.reduceAdd, Int.reduceToNat, List.eraseIdx, isi_int_none, isi_int_bool, isi_int_int, isi_int_str, isi_int_list, isi_int_tuple, isi_bool_none, isi_bool_bool, isi_bool_int, isi_bool_str, isi_bool_list, isi_bool_tuple, isi_str_none, isi_str_bool, isi_str_int, isi_str_str, isi_str_list, isi_str_tuple, isi_tuple_none, isi_tuple_bool, isi_tuple_int, isi_tuple_str, isi_tuple_list, isi_tuple_tuple, isi_list_none, isi_list_bool, isi_list_int, isi_list_str, isi_list_list, isi_list_tuple, atI_0, atI_1, atI_2, ixN_0, ixN_1]
      refine ⟨_, hlast, ?_⟩
      simp -implicitDefEqProofs only [↓wVar_ap, ↓wC_ap, ↓wOp_ap, ↓wUn_ap, ↓wII_ap, ↓wIC_ap, ↓wIB_ap, ↓wNeg_ap, ↓wEqI_ap, ↓wEqD_ap, ↓wIsN_ap, ↓wAndV_ap, ↓wOrV_ap, ↓wNotV_ap, ↓wTest_ap, ↓wAnd_ap, ↓wOr_ap, ↓wNot_ap, ↓wIfE_ap, ↓wNil_ap, ↓wCons_ap, ↓wCB_ap, ↓wTup_ap, ↓wLst_ap, ↓wFrz_ap, ↓wCallP_ap, ↓wCallM_ap, ↓wBM_ap, ↓wBM0_ap, ↓wAppend_ap, ↓wExtend_ap, ↓wPopAt_ap, ↓wPop_ap, ↓wReverse_ap, ↓wIxL_ap, ↓wIxT_ap, ↓wNoPart_ap, ↓wPart_ap, ↓wSl_ap, ↓wSlL_ap, ↓wSlT_ap, ↓wLen_ap, ↓wListOf_ap, ↓wTupleOf_ap, ↓wAbs_ap, ↓wCatT_ap, ↓wCat_ap, ↓wRep_ap, ↓wInI_ap, ↓wRng1_ap, ↓wRng2_ap, ↓wRng3_ap, ↓wIList_ap, ↓wITup_ap, ↓wName_ap, ↓wgNil_ap, ↓wgCons_ap, ↓wgTup_ap, ↓wgLst_ap, ↓wgSub_ap, ↓wNext_ap, ↓wSeq_ap, ↓wAsg_ap, ↓wDrop_ap, ↓wRet_ap, ↓wRetN_ap, ↓wNever_ap, ↓wBreak_ap, ↓wCont_ap, ↓wPar_ap, ↓wAug_ap, ↓wIsT_ap, ↓wEnumT_ap, ↓wEnum_ap, ↓wChainF_ap, ↓wDNew_ap, ↓wDIn_ap, ↓wDGet_ap, ↓wDGet2_ap, ↓wDPut_ap, ↓wDUpd_ap, ↓wRg1_ap, ↓wRg2_ap, ↓wLstRg_ap, ↓wTupRg_ap, ↓wFrzV_ap, ↓wIxA_ap, ↓wTIdx_ap, ↓wLIdx_ap, ↓wAddD_ap, fMax, fMin, fSorted, ↓wIf_ap, ↓wThen_ap, ↓wFor_ap, ↓wWhile_ap, ↓wLc_ap, ↓wDc_ap, RetOk_fz, RetOk_ls, RetOk_rf, imm_int, imm_bool, imm_str, imm_none, ↓ifB_t, ↓ifB_f, ↓sto, ↓frz, stL, isNum_t, Int.reducePow, Int.reduceSub, Int.reduceAdd, Int.reduceMul, wInts, wBls, vl, vls, its, lsOf, oLs, oL, upL, fzs, keyOf, dkOf, isN, wipeS, ownFree, own_fz, own_un, own_rf, own_ls, own_lb, own_dk, List.map_cons, List.map_nil, List.all_cons, List.all_nil, List.set, List.getD_cons_zero, List.getD_cons_succ, List.getD_nil, List.getElem?_cons_zero, List.getElem?_cons_succ, Option.getD_some, List.getElem?_nil, Option.getD_none, Option.map_some, Option.map_none, Bool.false_eq_true, if_true, if_false, Bool.not_true, Bool.not_false, Bool.and_true, Bool.true_and, reduceCtorEq, and_true, true_and, and_false, false_and, Option.some.injEq, AV.fz.injEq, AV.ls.injEq, AV.lb.injEq, AV.dk.injEq, List.cons.injEq, PyData.int.injEq, PyData.list.injEq, PyData.tuple.injEq, exists_eq_left', exists_eq_left, List.length_cons, List.length_nil, Nat.reduceAdd, Int.reduceToNat, List.eraseIdx, isi_int_none, isi_int_bool, isi_int_int, isi_int_str, isi_int_list, isi_int_tuple, isi_bool_none, isi_bool_bool, isi_bool_int, isi_bool_str, isi_bool_list, isi_bool_tuple, isi_str_none, isi_str_bool, isi_str_int, isi_str_str, isi_str_list, isi_str_tuple, isi_tuple_none, isi_tuple_bool, isi_tuple_int, isi_tuple_str, isi_tuple_list, isi_tuple_tuple, isi_list_none, isi_list_bool, isi_list_int, isi_list_str, isi_list_list, isi_list_tuple, atI_0, atI_1, atI_2, ixN_0, ixN_1, nt_def]
      refine ⟨_, hnext, ?_⟩
      simp -implicitDefEqProofs only [↓wVar_ap, ↓wC_ap, ↓wOp_ap, ↓wUn_ap, ↓wII_ap, ↓wIC_ap, ↓wIB_ap, ↓wNeg_ap, ↓wEqI_ap, ↓wEqD_ap, ↓wIsN_ap, ↓wAndV_ap, ↓wOrV_ap, ↓wNotV_ap, ↓wTest_ap, ↓wAnd_ap, ↓wOr_ap, ↓wNot_ap, ↓wIfE_ap, ↓wNil_ap, ↓wCons_ap, ↓wCB_ap, ↓wTup_ap, ↓wLst_ap, ↓wFrz_ap, ↓wCallP_ap, ↓wCallM_ap, ↓wBM_ap, ↓wBM0_ap, ↓wAppend_ap, ↓wExtend_ap, ↓wPopAt_ap, ↓wPop_ap, ↓wReverse_ap, ↓wIxL_ap, ↓wIxT_ap, ↓wNoPart_ap, ↓wPart_ap, ↓wSl_ap, ↓wSlL_ap, ↓wSlT_ap, ↓wLen_ap, ↓wListOf_ap, ↓wTupleOf_ap, ↓wAbs_ap, ↓wCatT_ap, ↓wCat_ap, ↓wRep_ap, ↓wInI_ap, ↓wRng1_ap, ↓wRng2_ap, ↓wRng3_ap, ↓wIList_ap, ↓wITup_ap, ↓wName_ap, ↓wgNil_ap, ↓wgCons_ap, ↓wgTup_ap, ↓wgLst_ap, ↓wgSub_ap, ↓wNext_ap, ↓wSeq_ap, ↓wAsg_ap, ↓wDrop_ap, ↓wRet_ap, ↓wRetN_ap, ↓wNever_ap, ↓wBreak_ap, ↓wCont_ap, ↓wPar_ap, ↓wAug_ap, ↓wIsT_ap, ↓wEnumT_ap, ↓wEnum_ap, ↓wChainF_ap, ↓wDNew_ap, ↓wDIn_ap, ↓wDGet_ap, ↓wDGet2_ap, ↓wDPut_ap, ↓wDUpd_ap, ↓wRg1_ap, ↓wRg2_ap, ↓wLstRg_ap, ↓wTupRg_ap, ↓wFrzV_ap, ↓wIxA_ap, ↓wTIdx_ap, ↓wLIdx_ap, ↓wAddD_ap, fMax, fMin, fSorted, ↓wIf_ap, ↓wThen_ap, ↓wFor_ap, ↓wWhile_ap, ↓wLc_ap, ↓wDc_ap, RetOk_fz, RetOk_ls, RetOk_rf, imm_int, imm_bool, imm_str, imm_none, ↓ifB_t, ↓ifB_f, ↓sto, ↓frz, stL, isNum_t, Int.reducePow, Int.reduceSub, Int.reduceAdd, Int.reduceMul, wInts, wBls, vl, vls, its, lsOf, oLs, oL, upL, fzs, keyOf, dkOf, isN, wipeS, ownFree, own_fz, own_un, own_rf, own_ls, own_lb, own_dk, List.map_cons, List.map_nil, List.all_cons, List.all_nil, List.set, List.getD_cons_zero, List.getD_cons_succ, List.getD_nil, List.getElem?_cons_zero, List.getElem?_cons_succ, Option.getD_some, List.getElem?_nil, Option.getD_none, Option.map_some, Option.map_none, Bool.false_eq_true, if_true, if_false, Bool.not_true, Bool.not_false, Bool.and_true, Bool.true_and, reduceCtorEq, and_true, true_and, and_false, false_and, Option.some.injEq, AV.fz.injEq, AV.ls.injEq, AV.lb.injEq, AV.dk.injEq, List.cons.injEq, PyData.int.injEq, PyData.list.injEq, PyData.tuple.injEq, exists_eq_left', exists_eq_left, List.length_cons, List.length_nil, Nat.reduceAdd, Int.reduceToNat, List.eraseIdx, isi_int_none, isi_int_bool, isi_int_int, isi_int_str, isi_int_list, isi_int_tuple, isi_bool_none, isi_bool_bool, isi_bool_int, isi_bool_str, isi_bool_list, isi_bool_tuple, isi_str_none, isi_str_bool, isi_str_int, isi_str_str, isi_str_list, isi_str_tuple, isi_tuple_none, isi_tuple_bool, isi_tuple_int, isi_tuple_str, isi_tuple_list, isi_tuple_tuple, isi_list_none, isi_list_bool, isi_list_int, isi_list_str, isi_list_list, isi_list_tuple, atI_0, atI_1, atI_2, ixN_0, ixN_1, nt_def]
      refine ⟨by rw [nts_len, List.length_map, List.length_range]; have := hc.thousand; omega, per c s0 - (k + 1), by omega, k + 1, ?_, by omega, by omega, rfl⟩
      rw [List.range_succ, List.map_append, nts_app]
      rfl
    · have hk : k = per c s0 := by
        refine Nat.le_antisymm k2 (Nat.le_of_not_lt fun z => ?_)
        have := p4 k k1 z
        simp at h
        omega
      subst hk
      simp -implicitDefEqProofs only [↓wVar_ap, ↓wC_ap, ↓wOp_ap, ↓wUn_ap, ↓wII_ap, ↓wIC_ap, ↓wIB_ap, ↓wNeg_ap, ↓wEqI_ap, ↓wEqD_ap, ↓wIsN_ap, ↓wAndV_ap, ↓wOrV_ap, ↓wNotV_ap, ↓wTest_ap, ↓wAnd_ap, ↓wOr_ap, ↓wNot_ap, ↓wIfE_ap, ↓wNil_ap, ↓wCons_ap, ↓wCB_ap, ↓wTup_ap, ↓wLst_ap, ↓wFrz_ap, ↓wCallP_ap, ↓wCallM_ap, ↓wBM_ap, ↓wBM0_ap, ↓wAppend_ap, ↓wExtend_ap, ↓wPopAt_ap, ↓wPop_ap, ↓wReverse_ap, ↓wIxL_ap, ↓wIxT_ap, ↓wNoPart_ap, ↓wPart_ap, ↓wSl_ap, ↓wSlL_ap, ↓wSlT_ap, ↓wLen_ap, ↓wListOf_ap, ↓wTupleOf_ap, ↓wAbs_ap, ↓wCatT_ap, ↓wCat_ap, ↓wRep_ap, ↓wInI_ap, ↓wRng1_ap, ↓wRng2_ap, ↓wRng3_ap, ↓wIList_ap, ↓wITup_ap, ↓wName_ap, ↓wgNil_ap, ↓wgCons_ap, ↓wgTup_ap, ↓wgLst_ap, ↓wgSub_ap, ↓wNext_ap, ↓wSeq_ap, ↓wAsg_ap, ↓wDrop_ap, ↓wRet_ap, ↓wRetN_ap, ↓wNever_ap, ↓wBreak_ap, ↓wCont_ap, ↓wPar_ap, ↓wAug_ap, ↓wIsT_ap, ↓wEnumT_ap, ↓wEnum_ap, ↓wChainF_ap, ↓wDNew_ap, ↓wDIn_ap, ↓wDGet_ap, ↓wDGet2_ap, ↓wDPut_ap, ↓wDUpd_ap, ↓wRg1_ap, ↓wRg2_ap, ↓wLstRg_ap, ↓wTupRg_ap, ↓wFrzV_ap, ↓wIxA_ap, ↓wTIdx_ap, ↓wLIdx_ap, ↓wAddD_ap, fMax, fMin, fSorted, ↓wIf_ap, ↓wThen_ap, ↓wFor_ap, ↓wWhile_ap, ↓wLc_ap, ↓wDc_ap, RetOk_fz, RetOk_ls, RetOk_rf, imm_int, imm_bool, imm_str, imm_none, ↓ifB_t, ↓ifB_f, ↓sto, ↓frz, stL, isNum_t, Int.reducePow, Int.reduceSub, Int.reduceAdd, Int.reduceMul, wInts, wBls, vl, vls, its, lsOf, oLs, oL, upL, fzs, keyOf, dkOf, isN, wipeS, ownFree, own_fz, own_un, own_rf, own_ls, own_lb, own_dk, List.map_cons, List.map_nil, List.all_cons, List.all_nil, List.set, List.getD_cons_zero, List.getD_cons_succ, List.getD_nil, List.getElem?_cons_zero, List.getElem?_cons_succ, Option.getD_some, List.getElem?_nil, Option.getD_none, Option.map_some, Option.map_none, Bool.false_eq_true, if_true, if_false, Bool.not_true, Bool.not_false, Bool.and_true, Bool.true_and, reduceCtorEq, and_true, true_and, and_false, false_and, Option.some.injEq, AV.fz.injEq, AV.ls.injEq, AV.lb.injEq, AV.dk.injEq, List.cons.injEq, PyData.int.injEq, PyData.list.injEq, PyData.tuple.injEq, exists_eq_left', exists_eq_left, List.length_cons, List.length_nil, Nat.reduceAdd, Int.reduceToNat, List.eraseIdx, isi_int_none, isi_int_bool, isi_int_int, isi_int_str, isi_int_list, isi_int_tuple, isi_bool_none, isi_bool_bool, isi_bool_int, isi_bool_str, isi_bool_list, isi_bool_tuple, isi_str_none, isi_str_bool, isi_str_int, isi_str_str, isi_str_list, isi_str_tuple, isi_tuple_none, isi_tuple_bool, isi_tuple_int, isi_tuple_str, isi_tuple_list, isi_tuple_tuple, isi_list_none, isi_list_bool, isi_list_int, isi_list_str, isi_list_list, isi_list_tuple, atI_0, atI_1, atI_2, ixN_0, ixN_1]
      exact ⟨nts_imm _, c, s0, rfl, rfl⟩⟩
def pre_rings_of (dl : List D) : Prop := ∃ c : List Nat, dl = [.tuple (nts c)] ∧ IsC c ∧ c.length ≤ 100
def post_rings_of (dl : List D) (x : AV) : Prop := ∃ c : List Nat, dl = [.tuple (nts c)] ∧ x = .ls (rgD (ringsOf c))
theorem ci_rings_of {c : List Nat} {ds : Sto} {Q : Sto → AV → Prop} (hc : IsC c) (h : c.length ≤ 100) (q : Q ds (.ls (rgD (ringsOf c)))) : callB pre_rings_of post_rings_of 1 (some [.tuple (nts c)]) ds Q := callB_i rfl ⟨c, rfl, hc, h⟩ fun x ⟨c', e, e2⟩ => by
  simp only [List.cons.injEq, PyData.tuple.injEq, and_true] at e
  cases nts_inj e
  subst e2
  exact q
theorem ok_rings_of {f : Addr} {fd : FuncData} (F : Fun K "rings_of" "rings_of" s_rings_of f fd) (T : Txt mg) (C_ring_from : Cal P w K mg base 1 "ring_from" (spP 2 pre_ring_from post_ring_from K)) : FnOk P w K mg base CX0 (1 + 1) f fd ["cards"] (spP 1 pre_rings_of post_rings_of K) := by
  exact okP F sc_rings_of rfl fun cdv A outer s H E hr => ⟨_, _, (ass_cons (as_par 1 2 sc_rings_of.nd (aa_cons (ae_lst aa_nil) (aa_cons ae_dNew aa_nil))) (ass_cons (as_for (ai_range1 T.z_range (aa_cons (ae_callB k_len T.z_len (by decide +kernel) (aa_cons (av 0) aa_nil)) aa_nil)) (ag_name 3 sc_rings_of.nd) (ass_one (as_if (at_dNotIn hr (av 3) (av 2)) (ass_cons (as_set 4 sc_rings_of.nd (ae_callP C_ring_from hr (aa_cons (av 0) (aa_cons (av 3) aa_nil)))) (ass_cons (as_expr (ae_bm PySem.F.slot_list_append PySem.F.type_list_append m_append (av 1) (aa_cons (ae_callTy k_tuple T.z_tuple rfl (aa_cons (av 4) aa_nil)) aa_nil))) (ass_one ((as_expr (ae_dUpd (av 2) (ae_dc [("one", 5)] sc_rings_of.nd (blkOk_by (N := N_rings_of) (sc := defScope s_rings_of) (by decide +kernel)) (ai_list (av 4)) (fun _ _ _ _ _ => (ag_name 5 sc_rings_of.nd)) (fun _ _ _ _ _ => ats_nil) (fun _ _ _ _ _ => (av 5)) (fun _ _ _ _ _ => ae_bl)))).frzV 4)))) ass_nil))) (ass_one (as_ret (av 1))))), fun dl hl hp => by
    obtain ⟨c, rfl, hc, h100⟩ := hp
    show (_ : WS) _ [AV.fz (.tuple (nts c)), .un, .un, .un, .un, .un]
    have h2 := hc.two
    simp -implicitDefEqProofs only [↓wVar_ap, ↓wC_ap, ↓wOp_ap, ↓wUn_ap, ↓wII_ap, ↓wIC_ap, ↓wIB_ap, ↓wNeg_ap, ↓wEqI_ap, ↓wEqD_ap, ↓wIsN_ap, ↓wAndV_ap, ↓wOrV_ap, ↓wNotV_ap, ↓wTest_ap, ↓wAnd_ap, ↓wOr_ap, ↓wNot_ap, ↓wIfE_ap, ↓wNil_ap, ↓wCons_ap, ↓wCB_ap, ↓wTup_ap, ↓wLst_ap, ↓wFrz_ap, ↓wCallP_ap, ↓wCallM_ap, ↓wBM_ap, ↓wBM0_ap, ↓wAppend_ap, ↓wExtend_ap, ↓wPopAt_ap, ↓wPop_ap, ↓wReverse_ap, ↓wIxL_ap, ↓wIxT_ap, ↓wNoPart_ap, ↓wPart_ap, ↓wSl_ap, ↓wSlL_ap, ↓wSlT_ap, ↓wLen_ap, ↓wListOf_ap, ↓wTupleOf_ap, ↓wAbs_ap, ↓wCatT_ap, ↓wCat_ap, ↓wRep_ap, ↓wInI_ap, ↓wRng1_ap, ↓wRng2_ap, ↓wRng3_ap, ↓wIList_ap, ↓wITup_ap, ↓wName_ap, ↓wgNil_ap, ↓wgCons_ap, ↓wgTup_ap, ↓wgLst_ap, ↓wgSub_ap, ↓wNext_ap, ↓wSeq_ap, ↓wAsg_ap, ↓wDrop_ap, ↓wRet_ap, ↓wRetN_ap, ↓wNever_ap, ↓wBreak_ap, ↓wCont_ap, ↓wPar_ap, ↓wAug_ap, ↓wIsT_ap, ↓wEnumT_ap, ↓wEnum_ap, ↓wChainF_ap, ↓wDNew_ap, ↓wDIn_ap, ↓wDGet_ap, ↓wDGet2_ap, ↓wDPut_ap, ↓wDUpd_ap, ↓wRg1_ap, ↓wRg2_ap, ↓wLstRg_ap, ↓wTupRg_ap, ↓wFrzV_ap, ↓wIxA_ap, ↓wTIdx_ap, ↓wLIdx_ap, ↓wAddD_ap, fMax, fMin, fSorted, ↓wIf_ap, ↓wThen_ap, ↓wFor_ap, ↓wWhile_ap, ↓wLc_ap, ↓wDc_ap, RetOk_fz, RetOk_ls, RetOk_rf, imm_int, imm_bool, imm_str, imm_none, ↓ifB_t, ↓ifB_f, ↓sto, ↓frz, stL, isNum_t, Int.reducePow, Int.reduceSub, Int.reduceAdd, Int.reduceMul, wInts, wBls, vl, vls, its, lsOf, oLs, oL, upL, fzs, keyOf, dkOf, isN, wipeS, ownFree, own_fz, own_un, own_rf, own_ls, own_lb, own_dk, List.map_cons, List.map_nil, List.all_cons, List.all_nil, List.set, List.getD_cons_zero, List.getD_cons_succ, List.getD_nil, List.getElem?_cons_zero, List.getElem?_cons_succ, Option.getD_some, List.getElem?_nil, Option.getD_none, Option.map_some, Option.map_none, Bool.false_eq_true, if_true, if_false, Bool.not_true, Bool.not_false, Bool.and_true, Bool.true_and, reduceCtorEq, and_true, true_and, and_false, false_and, Option.some.injEq, AV.fz.injEq, AV.ls.injEq, AV.lb.injEq, AV.dk.injEq, List.cons.injEq, PyData.int.injEq, PyData.list.injEq, PyData.tuple.injEq, exists_eq_left', exists_eq_left, List.length_cons, List.length_nil, Nat.reduceAdd, Int.reduceToNat, List.eraseIdx, isi_int_none, isi_int_bool, isi_int_int, isi_int_str, isi_int_list, isi_int_tuple, isi_bool_none, isi_bool_bool, isi_bool_int, isi_bool_str, isi_bool_list, isi_bool_tuple, isi_str_none, isi_str_bool, isi_str_int, isi_str_str, isi_str_list, isi_str_tuple, isi_tuple_none, isi_tuple_bool, isi_tuple_int, isi_tuple_str, isi_tuple_list, isi_tuple_tuple, isi_list_none, isi_list_bool, isi_list_int, isi_list_str, isi_list_list, isi_list_tuple, atI_0, atI_1, atI_2, ixN_0, ixN_1, nts_len, Int.toNat_natCast, rng_nts]
    refine ⟨by decide, ⟨by omega, by omega⟩, forB_i (fun i ds => ∃ (kv : List (Key × D)) (y z u : AV), ds = [AV.fz (.tuple (nts c)), .ls (rgD (((List.range i).filter (isMin c)).map (ringOf c))), .dk kv, y, z, u] ∧ u.own = false ∧ kv.length ≤ i * 100 ∧ ∀ x : Nat, (valD kv (.inl (x : Int))).isSome = true ↔ ∃ t, t < i ∧ x ∈ ringOf c t) ⟨[], _, _, _, rfl, rfl, Nat.zero_le _, fun x => ⟨fun h => (nomatch h), fun ⟨t, h, _⟩ => absurd h (Nat.not_lt_zero t)⟩⟩ (fun i d ds hd hi => ?_) (fun ds hi => ?_)⟩
    · obtain ⟨kv, y, z, u, rfl, hu, hk, hv⟩ := hi
      obtain ⟨i', rfl, hi⟩ := nts_at hd
      have hi1 : i < c.length := by
        have := (List.getElem?_eq_some_iff.mp hi).1
        rwa [List.length_range] at this
      rw [List.getElem?_range hi1] at hi
      cases hi
      simp -implicitDefEqProofs only [↓wVar_ap, ↓wC_ap, ↓wOp_ap, ↓wUn_ap, ↓wII_ap, ↓wIC_ap, ↓wIB_ap, ↓wNeg_ap, ↓wEqI_ap, ↓wEqD_ap, ↓wIsN_ap, ↓wAndV_ap, ↓wOrV_ap, ↓wNotV_ap, ↓wTest_ap, ↓wAnd_ap, ↓wOr_ap, ↓wNot_ap, ↓wIfE_ap, ↓wNil_ap, ↓wCons_ap, ↓wCB_ap, ↓wTup_ap, ↓wLst_ap, ↓wFrz_ap, ↓wCallP_ap, ↓wCallM_ap, ↓wBM_ap, ↓wBM0_ap, ↓wAppend_ap, ↓wExtend_ap, ↓wPopAt_ap, ↓wPop_ap, ↓wReverse_ap, ↓wIxL_ap, ↓wIxT_ap, ↓wNoPart_ap, ↓wPart_ap, ↓wSl_ap, ↓wSlL_ap, ↓wSlT_ap, ↓wLen_ap, ↓wListOf_ap, ↓wTupleOf_ap, ↓wAbs_ap, ↓wCatT_ap, ↓wCat_ap, ↓wRep_ap, ↓wInI_ap, ↓wRng1_ap, ↓wRng2_ap, ↓wRng3_ap, ↓wIList_ap, ↓wITup_ap, ↓wName_ap, ↓wgNil_ap, ↓wgCons_ap, ↓wgTup_ap, ↓wgLst_ap, ↓wgSub_ap, ↓wNext_ap, ↓wSeq_ap, ↓wAsg_ap, ↓wDrop_ap, ↓wRet_ap, ↓wRetN_ap, ↓wNever_ap, ↓wBreak_ap, ↓wCont_ap, ↓wPar_ap, ↓wAug_ap, ↓wIsT_ap, ↓wEnumT_ap, ↓wEnum_ap, ↓wChainF_ap, ↓wDNew_ap, ↓wDIn_ap, ↓wDGet_ap, ↓wDGet2_ap, ↓wDPut_ap, ↓wDUpd_ap, ↓wRg1_ap, ↓wRg2_ap, ↓wLstRg_ap, ↓wTupRg_ap, ↓wFrzV_ap, ↓wIxA_ap, ↓wTIdx_ap, ↓wLIdx_ap, ↓wAddD_ap, fMax, fMin, fSorted, ↓wIf_ap, ↓wThen_ap, ↓wFor_ap, ↓wWhile_ap, ↓wLc_ap, ↓wDc_ap, RetOk_fz, RetOk_ls, RetOk_rf, imm_int, imm_bool, imm_str, imm_none, ↓ifB_t, ↓ifB_f, ↓sto, ↓frz, stL, isNum_t, Int.reducePow, Int.reduceSub, Int.reduceAdd, Int.reduceMul, wInts, wBls, vl, vls, its, lsOf, oLs, oL, upL, fzs, keyOf, dkOf, isN, wipeS, ownFree, own_fz, own_un, own_rf, own_ls, own_lb, own_dk, List.map_cons, List.map_nil, List.all_cons, List.all_nil, List.set, List.getD_cons_zero, List.getD_cons_succ, List.getD_nil, List.getElem?_cons_zero, List.getElem?_cons_succ, Option.getD_some, List.getElem?_nil, Option.getD_none, Option.map_some, Option.map_none, Bool.false_eq_true, if_true, if_false, Bool.not_true, Bool.not_false, Bool.and_true, Bool.true_and, reduceCtorEq, and_true, true_and, and_false, false_and, Option.some.injEq, AV.fz.injEq, AV.ls.injEq, AV.lb.injEq, AV.dk.injEq, List.cons.injEq, PyData.int.injEq, PyData.list.injEq, PyData.tuple.injEq, exists_eq_left', exists_eq_left, List.length_cons, List.length_nil, Nat.reduceAdd, Int.reduceToNat, List.eraseIdx, isi_int_none, isi_int_bool, isi_int_int, isi_int_str, isi_int_list, isi_int_tuple, isi_bool_none, isi_bool_bool, isi_bool_int, isi_bool_str, isi_bool_list, isi_bool_tuple, isi_str_none, isi_str_bool, isi_str_int, isi_str_str, isi_str_list, isi_str_tuple, isi_tuple_none, isi_tuple_bool, isi_tuple_int, isi_tuple_str, isi_tuple_list, isi_tuple_tuple, isi_list_none, isi_list_bool, isi_list_int, isi_list_str, isi_list_list, isi_list_tuple, atI_0, atI_1, atI_2, ixN_0, ixN_1, nt_def]
      have hm : (valD kv (.inl (i : Int))).isSome = true ↔ isMin c i = false := (hv i).trans (hc.met_iff hi1)
      refine ifB_i (fun h => ?_) (fun h => ?_)
      · have hmin : isMin c i = true := by
          cases e : isMin c i with
          | true => rfl
          | false =>
            rw [hm.mpr e] at h
            cases h
        simp -implicitDefEqProofs only [↓wVar_ap, ↓wC_ap, ↓wOp_ap, ↓wUn_ap, ↓wII_ap, ↓wIC_ap, ↓wIB_ap, ↓wNeg_ap, ↓wEqI_ap, ↓wEqD_ap, ↓wIsN_ap, ↓wAndV_ap, ↓wOrV_ap, ↓wNotV_ap, ↓wTest_ap, ↓wAnd_ap, ↓wOr_ap, ↓wNot_ap, ↓wIfE_ap, ↓wNil_ap, ↓wCons_ap, ↓wCB_ap, ↓wTup_ap, ↓wLst_ap, ↓wFrz_ap, ↓wCallP_ap, ↓wCallM_ap, ↓wBM_ap, ↓wBM0_ap, ↓wAppend_ap, ↓wExtend_ap, ↓wPopAt_ap, ↓wPop_ap, ↓wReverse_ap, ↓wIxL_ap, ↓wIxT_ap, ↓wNoPart_ap, ↓wPart_ap, ↓wSl_ap, ↓wSlL_ap, ↓wSlT_ap, ↓wLen_ap, ↓wListOf_ap, ↓wTupleOf_ap, ↓wAbs_ap, ↓wCatT_ap, ↓wCat_ap, ↓wRep_ap, ↓wInI_ap, ↓wRng1_ap, ↓wRng2_ap, ↓wRng3_ap, ↓wIList_ap, ↓wITup_ap, ↓wName_ap, ↓wgNil_ap, ↓wgCons_ap, ↓wgTup_ap, ↓wgLst_ap, ↓wgSub_ap, ↓wNext_ap, ↓wSeq_ap, ↓wAsg_ap, ↓wDrop_ap, ↓wRet_ap, ↓wRetN_ap, ↓wNever_ap, ↓wBreak_ap, ↓wCont_ap, ↓wPar_ap, ↓wAug_ap, ↓wIsT_ap, ↓wEnumT_ap, ↓wEnum_ap, ↓wChainF_ap, ↓wDNew_ap, ↓wDIn_ap, ↓wDGet_ap, ↓wDGet2_ap, ↓wDPut_ap, ↓wDUpd_ap, ↓wRg1_ap, ↓wRg2_ap, ↓wLstRg_ap, ↓wTupRg_ap, ↓wFrzV_ap, ↓wIxA_ap, ↓wTIdx_ap, ↓wLIdx_ap, ↓wAddD_ap, fMax, fMin, fSorted, ↓wIf_ap, ↓wThen_ap, ↓wFor_ap, ↓wWhile_ap, ↓wLc_ap, ↓wDc_ap, RetOk_fz, RetOk_ls, RetOk_rf, imm_int, imm_bool, imm_str, imm_none, ↓ifB_t, ↓ifB_f, ↓sto, ↓frz, stL, isNum_t, Int.reducePow, Int.reduceSub, Int.reduceAdd, Int.reduceMul, wInts, wBls, vl, vls, its, lsOf, oLs, oL, upL, fzs, keyOf, dkOf, isN, wipeS, ownFree, own_fz, own_un, own_rf, own_ls, own_lb, own_dk, List.map_cons, List.map_nil, List.all_cons, List.all_nil, List.set, List.getD_cons_zero, List.getD_cons_succ, List.getD_nil, List.getElem?_cons_zero, List.getElem?_cons_succ, Option.getD_some, List.getElem?_nil, Option.getD_none, Option.map_some, Option.map_none, Bool.false_eq_true, if_true, if_false, Bool.not_true, Bool.not_false, Bool.and_true, Bool.true_and, reduceCtorEq, and_true, true_and, and_false, false_and, Option.some.injEq, AV.fz.injEq, AV.ls.injEq, AV.lb.injEq, AV.dk.injEq, List.cons.injEq, PyData.int.injEq, PyData.list.injEq, PyData.tuple.injEq, exists_eq_left', exists_eq_left, List.length_cons, List.length_nil, Nat.reduceAdd, Int.reduceToNat, List.eraseIdx, isi_int_none, isi_int_bool, isi_int_int, isi_int_str, isi_int_list, isi_int_tuple, isi_bool_none, isi_bool_bool, isi_bool_int, isi_bool_str, isi_bool_list, isi_bool_tuple, isi_str_none, isi_str_bool, isi_str_int, isi_str_str, isi_str_list, isi_str_tuple, isi_tuple_none, isi_tuple_bool, isi_tuple_int, isi_tuple_str, isi_tuple_list, isi_tuple_tuple, isi_list_none, isi_list_bool, isi_list_int, isi_list_str, isi_list_list, isi_list_tuple, atI_0, atI_1, atI_2, ixN_0, ixN_1, nt_def]
        refine ⟨⟨c, i, rfl, hc, hi1⟩, fun x hx => ?_⟩
        obtain ⟨c', s', e, rfl⟩ := hx
        simp only [List.cons.injEq, PyData.tuple.injEq, nt, PyData.int.injEq, and_true] at e
        obtain ⟨e1, e2⟩ := e
        have e1 := nts_inj e1
        have e2 : s' = i := by omega
        subst e1 e2
        have hrl : (ringOf c s').length ≤ 100 := by
          rw [ringOf_len]
          have := (hc.per hi1).2.1
          omega
        simp -implicitDefEqProofs only [↓wVar_ap, ↓wC_ap, ↓wOp_ap, ↓wUn_ap, ↓wII_ap, ↓wIC_ap, ↓wIB_ap, ↓wNeg_ap, ↓wEqI_ap, ↓wEqD_ap, ↓wIsN_ap, ↓wAndV_ap, ↓wOrV_ap, ↓wNotV_ap, ↓wTest_ap, ↓wAnd_ap, ↓wOr_ap, ↓wNot_ap, ↓wIfE_ap, ↓wNil_ap, ↓wCons_ap, ↓wCB_ap, ↓wTup_ap, ↓wLst_ap, ↓wFrz_ap, ↓wCallP_ap, ↓wCallM_ap, ↓wBM_ap, ↓wBM0_ap, ↓wAppend_ap, ↓wExtend_ap, ↓wPopAt_ap, ↓wPop_ap, ↓wReverse_ap, ↓wIxL_ap, ↓wIxT_ap, ↓wNoPart_ap, ↓wPart_ap, ↓wSl_ap, ↓wSlL_ap, ↓wSlT_ap, ↓wLen_ap, ↓wListOf_ap, ↓wTupleOf_ap, ↓wAbs_ap, ↓wCatT_ap, ↓wCat_ap, ↓wRep_ap, ↓wInI_ap, ↓wRng1_ap, ↓wRng2_ap, ↓wRng3_ap, ↓wIList_ap, ↓wITup_ap, ↓wName_ap, ↓wgNil_ap, ↓wgCons_ap, ↓wgTup_ap, ↓wgLst_ap, ↓wgSub_ap, ↓wNext_ap, ↓wSeq_ap, ↓wAsg_ap, ↓wDrop_ap, ↓wRet_ap, ↓wRetN_ap, ↓wNever_ap, ↓wBreak_ap, ↓wCont_ap, ↓wPar_ap, ↓wAug_ap, ↓wIsT_ap, ↓wEnumT_ap, ↓wEnum_ap, ↓wChainF_ap, ↓wDNew_ap, ↓wDIn_ap, ↓wDGet_ap, ↓wDGet2_ap, ↓wDPut_ap, ↓wDUpd_ap, ↓wRg1_ap, ↓wRg2_ap, ↓wLstRg_ap, ↓wTupRg_ap, ↓wFrzV_ap, ↓wIxA_ap, ↓wTIdx_ap, ↓wLIdx_ap, ↓wAddD_ap, fMax, fMin, fSorted, ↓wIf_ap, ↓wThen_ap, ↓wFor_ap, ↓wWhile_ap, ↓wLc_ap, ↓wDc_ap, RetOk_fz, RetOk_ls, RetOk_rf, imm_int, imm_bool, imm_str, imm_none, ↓ifB_t, ↓ifB_f, ↓sto, ↓frz, stL, isNum_t, Int.reducePow, Int.reduceSub, Int.reduceAdd, Int.reduceMul, wInts, wBls, vl, vls, its, lsOf, oLs, oL, upL, fzs, keyOf, dkOf, isN, wipeS, ownFree, own_fz, own_un, own_rf, own_ls, own_lb, own_dk, List.map_cons, List.map_nil, List.all_cons, List.all_nil, List.set, List.getD_cons_zero, List.getD_cons_succ, List.getD_nil, List.getElem?_cons_zero, List.getElem?_cons_succ, Option.getD_some, List.getElem?_nil, Option.getD_none, Option.map_some, Option.map_none, Bool.false_eq_true, if_true, if_false, Bool.not_true, Bool.not_false, Bool.and_true, Bool.true_and, reduceCtorEq, and_true, true_and, and_false, false_and, Option.some.injEq, AV.fz.injEq, AV.ls.injEq, AV.lb.injEq, AV.dk.injEq, List.cons.injEq, PyData.int.injEq, PyData.list.injEq, PyData.tuple.injEq, exists_eq_left', exists_eq_left, List.length_cons, List.length_nil, Nat.reduceAdd, Int.reduceToNat, List.eraseIdx, isi_int_none, isi_int_bool, isi_int_int, isi_int_str, isi_int_list, isi_int_tuple, isi_bool_none, isi_bool_bool, isi_bool_int, isi_bool_str, isi_bool_list, isi_bool_tuple, isi_str_none, isi_str_bool, isi_str_int, isi_str_str, isi_str_list, isi_str_tuple, isi_tuple_none, isi_tuple_bool, isi_tuple_int, isi_tuple_str, isi_tuple_list, isi_tuple_tuple, isi_list_none, isi_list_bool, isi_list_int, isi_list_str, isi_list_list, isi_list_tuple, atI_0, atI_1, atI_2, ixN_0, ixN_1, hu]
        refine ⟨by rw [rgD_len, List.length_map]; exact Nat.le_trans (List.length_filter_le _ _) (by rw [List.length_range]; omega), ?_⟩
        refine ⟨fun j acc ds => ds = [AV.fz (.tuple (nts c)), .ls (rgD (((List.range s').filter (isMin c)).map (ringOf c)) ++ [.tuple (nts (ringOf c s'))]), .dk kv, .fz (.int (s' : Int)), .fz (.list (nts (ringOf c s'))), .un] ∧ acc.length ≤ j ∧ ∀ x : Nat, (valD acc (.inl (x : Int))).isSome = true ↔ x ∈ (ringOf c s').take j, ⟨rfl, Nat.le_refl _, fun x => ⟨fun h => (nomatch h), fun h => absurd h List.not_mem_nil⟩⟩, fun j d acc ds hd _ hI => ?_, fun acc ds _ hI => ?_⟩
        · obtain ⟨rfl, ha, hx⟩ := hI
          obtain ⟨n, rfl, hn⟩ := nts_at hd
          have lj := (List.getElem?_eq_some_iff.mp hn).1
          simp -implicitDefEqProofs only [↓wVar_ap, ↓wC_ap, ↓wOp_ap, ↓wUn_ap, ↓wII_ap, ↓wIC_ap, ↓wIB_ap, ↓wNeg_ap, ↓wEqI_ap, ↓wEqD_ap, ↓wIsN_ap, ↓wAndV_ap, ↓wOrV_ap, ↓wNotV_ap, ↓wTest_ap, ↓wAnd_ap, ↓wOr_ap, ↓wNot_ap, ↓wIfE_ap, ↓wNil_ap, ↓wCons_ap, ↓wCB_ap, ↓wTup_ap, ↓wLst_ap, ↓wFrz_ap, ↓wCallP_ap, ↓wCallM_ap, ↓wBM_ap, ↓wBM0_ap, ↓wAppend_ap, ↓wExtend_ap, ↓wPopAt_ap, ↓wPop_ap, ↓wReverse_ap, ↓wIxL_ap, ↓wIxT_ap, ↓wNoPart_ap, ↓wPart_ap, ↓wSl_ap, ↓wSlL_ap, ↓wSlT_ap, ↓wLen_ap, ↓wListOf_ap, ↓wTupleOf_ap, ↓wAbs_ap, ↓wCatT_ap, ↓wCat_ap, ↓wRep_ap, ↓wInI_ap, ↓wRng1_ap, ↓wRng2_ap, ↓wRng3_ap, ↓wIList_ap, ↓wITup_ap, ↓wName_ap, ↓wgNil_ap, ↓wgCons_ap, ↓wgTup_ap, ↓wgLst_ap, ↓wgSub_ap, ↓wNext_ap, ↓wSeq_ap, ↓wAsg_ap, ↓wDrop_ap, ↓wRet_ap, ↓wRetN_ap, ↓wNever_ap, ↓wBreak_ap, ↓wCont_ap, ↓wPar_ap, ↓wAug_ap, ↓wIsT_ap, ↓wEnumT_ap, ↓wEnum_ap, ↓wChainF_ap, ↓wDNew_ap, ↓wDIn_ap, ↓wDGet_ap, ↓wDGet2_ap, ↓wDPut_ap, ↓wDUpd_ap, ↓wRg1_ap, ↓wRg2_ap, ↓wLstRg_ap, ↓wTupRg_ap, ↓wFrzV_ap, ↓wIxA_ap, ↓wTIdx_ap, ↓wLIdx_ap, ↓wAddD_ap, fMax, fMin, fSorted, ↓wIf_ap, ↓wThen_ap, ↓wFor_ap, ↓wWhile_ap, ↓wLc_ap, ↓wDc_ap, RetOk_fz, RetOk_ls, RetOk_rf, imm_int, imm_bool, imm_str, imm_none, ↓ifB_t, ↓ifB_f, ↓sto, ↓frz, stL, isNum_t, Int.reducePow, Int.reduceSub, Int.reduceAdd, Int.reduceMul, wInts, wBls, vl, vls, its, lsOf, oLs, oL, upL, fzs, keyOf, dkOf, isN, wipeS, ownFree, own_fz, own_un, own_rf, own_ls, own_lb, own_dk, List.map_cons, List.map_nil, List.all_cons, List.all_nil, List.set, List.getD_cons_zero, List.getD_cons_succ, List.getD_nil, List.getElem?_cons_zero, List.getElem?_cons_succ, Option.getD_some, List.getElem?_nil, Option.getD_none, Option.map_some, Option.map_none, Bool.false_eq_true, if_true, if_false, Bool.not_true, Bool.not_false, Bool.and_true, Bool.true_and, reduceCtorEq, and_true, true_and, and_false, false_and, Option.some.injEq, AV.fz.injEq, AV.ls.injEq, AV.lb.injEq, AV.dk.injEq, List.cons.injEq, PyData.int.injEq, PyData.list.injEq, PyData.tuple.injEq, exists_eq_left', exists_eq_left, List.length_cons, List.length_nil, Nat.reduceAdd, Int.reduceToNat, List.eraseIdx, isi_int_none, isi_int_bool, isi_int_int, isi_int_str, isi_int_list, isi_int_tuple, isi_bool_none, isi_bool_bool, isi_bool_int, isi_bool_str, isi_bool_list, isi_bool_tuple, isi_str_none, isi_str_bool, isi_str_int, isi_str_str, isi_str_list, isi_str_tuple, isi_tuple_none, isi_tuple_bool, isi_tuple_int, isi_tuple_str, isi_tuple_list, isi_tuple_tuple, isi_list_none, isi_list_bool, isi_list_int, isi_list_str, isi_list_list, isi_list_tuple, atI_0, atI_1, atI_2, ixN_0, ixN_1, nt_def]
          refine ⟨by omega, Nat.le_trans (putD_len _ _ _) (by omega), fun x => ?_⟩
          rw [putD_some, hx, inl_eq, mem_take_succ hn]
        · obtain ⟨rfl, ha, hx⟩ := hI
          rw [nts_len] at ha hx
          simp -implicitDefEqProofs only [↓wVar_ap, ↓wC_ap, ↓wOp_ap, ↓wUn_ap, ↓wII_ap, ↓wIC_ap, ↓wIB_ap, ↓wNeg_ap, ↓wEqI_ap, ↓wEqD_ap, ↓wIsN_ap, ↓wAndV_ap, ↓wOrV_ap, ↓wNotV_ap, ↓wTest_ap, ↓wAnd_ap, ↓wOr_ap, ↓wNot_ap, ↓wIfE_ap, ↓wNil_ap, ↓wCons_ap, ↓wCB_ap, ↓wTup_ap, ↓wLst_ap, ↓wFrz_ap, ↓wCallP_ap, ↓wCallM_ap, ↓wBM_ap, ↓wBM0_ap, ↓wAppend_ap, ↓wExtend_ap, ↓wPopAt_ap, ↓wPop_ap, ↓wReverse_ap, ↓wIxL_ap, ↓wIxT_ap, ↓wNoPart_ap, ↓wPart_ap, ↓wSl_ap, ↓wSlL_ap, ↓wSlT_ap, ↓wLen_ap, ↓wListOf_ap, ↓wTupleOf_ap, ↓wAbs_ap, ↓wCatT_ap, ↓wCat_ap, ↓wRep_ap, ↓wInI_ap, ↓wRng1_ap, ↓wRng2_ap, ↓wRng3_ap, ↓wIList_ap, ↓wITup_ap, ↓wName_ap, ↓wgNil_ap, ↓wgCons_ap, ↓wgTup_ap, ↓wgLst_ap, ↓wgSub_ap, ↓wNext_ap, ↓wSeq_ap, ↓wAsg_ap, ↓wDrop_ap, ↓wRet_ap, ↓wRetN_ap, ↓wNever_ap, ↓wBreak_ap, ↓wCont_ap, ↓wPar_ap, ↓wAug_ap, ↓wIsT_ap, ↓wEnumT_ap, ↓wEnum_ap, ↓wChainF_ap, ↓wDNew_ap, ↓wDIn_ap, ↓wDGet_ap, ↓wDGet2_ap, ↓wDPut_ap, ↓wDUpd_ap, ↓wRg1_ap, ↓wRg2_ap, ↓wLstRg_ap, ↓wTupRg_ap, ↓wFrzV_ap, ↓wIxA_ap, ↓wTIdx_ap, ↓wLIdx_ap, ↓wAddD_ap, fMax, fMin, fSorted, ↓wIf_ap, ↓wThen_ap, ↓wFor_ap, ↓wWhile_ap, ↓wLc_ap, ↓wDc_ap, RetOk_fz, RetOk_ls, RetOk_rf, imm_int, imm_bool, imm_str, imm_none, ↓ifB_t, ↓ifB_f, ↓sto, ↓frz, stL, isNum_t, Int.reducePow, Int.reduceSub, Int.reduceAdd, Int.reduceMul, wInts, wBls, vl, vls, its, lsOf, oLs, oL, upL, fzs, keyOf, dkOf, isN, wipeS, ownFree, own_fz, own_un, own_rf, own_ls, own_lb, own_dk, List.map_cons, List.map_nil, List.all_cons, List.all_nil, List.set, List.getD_cons_zero, List.getD_cons_succ, List.getD_nil, List.getElem?_cons_zero, List.getElem?_cons_succ, Option.getD_some, List.getElem?_nil, Option.getD_none, Option.map_some, Option.map_none, Bool.false_eq_true, if_true, if_false, Bool.not_true, Bool.not_false, Bool.and_true, Bool.true_and, reduceCtorEq, and_true, true_and, and_false, false_and, Option.some.injEq, AV.fz.injEq, AV.ls.injEq, AV.lb.injEq, AV.dk.injEq, List.cons.injEq, PyData.int.injEq, PyData.list.injEq, PyData.tuple.injEq, exists_eq_left', exists_eq_left, List.length_cons, List.length_nil, Nat.reduceAdd, Int.reduceToNat, List.eraseIdx, isi_int_none, isi_int_bool, isi_int_int, isi_int_str, isi_int_list, isi_int_tuple, isi_bool_none, isi_bool_bool, isi_bool_int, isi_bool_str, isi_bool_list, isi_bool_tuple, isi_str_none, isi_str_bool, isi_str_int, isi_str_str, isi_str_list, isi_str_tuple, isi_tuple_none, isi_tuple_bool, isi_tuple_int, isi_tuple_str, isi_tuple_list, isi_tuple_tuple, isi_list_none, isi_list_bool, isi_list_int, isi_list_str, isi_list_list, isi_list_tuple, atI_0, atI_1, atI_2, ixN_0, ixN_1]
          refine ⟨by omega, mergeD kv acc, _, _, _, ⟨?_, rfl, rfl, rfl, rfl⟩, rfl, Nat.le_trans (mergeD_len _ _) (by omega), fun x => ?_⟩
          · rw [rings_step, if_pos hmin, rgD_app]
            rfl
          · rw [mergeD_some, hv, hx, List.take_of_length_le (Nat.le_refl _)]
            constructor
            · rintro (⟨t, ht, q⟩ | q)
              · exact ⟨t, by omega, q⟩
              · exact ⟨s', by omega, q⟩
            · rintro ⟨t, ht, q⟩
              rcases Nat.lt_or_ge t s' with a | a
              · exact .inl ⟨t, a, q⟩
              · have : t = s' := by omega
                subst this
                exact .inr q
      · have hmin : isMin c i = false := by
          refine hm.mp ?_
          cases e : (valD kv (.inl (i : Int))).isSome with
          | true => rfl
          | false =>
            rw [e] at h
            cases h
        simp -implicitDefEqProofs only [↓wVar_ap, ↓wC_ap, ↓wOp_ap, ↓wUn_ap, ↓wII_ap, ↓wIC_ap, ↓wIB_ap, ↓wNeg_ap, ↓wEqI_ap, ↓wEqD_ap, ↓wIsN_ap, ↓wAndV_ap, ↓wOrV_ap, ↓wNotV_ap, ↓wTest_ap, ↓wAnd_ap, ↓wOr_ap, ↓wNot_ap, ↓wIfE_ap, ↓wNil_ap, ↓wCons_ap, ↓wCB_ap, ↓wTup_ap, ↓wLst_ap, ↓wFrz_ap, ↓wCallP_ap, ↓wCallM_ap, ↓wBM_ap, ↓wBM0_ap, ↓wAppend_ap, ↓wExtend_ap, ↓wPopAt_ap, ↓wPop_ap, ↓wReverse_ap, ↓wIxL_ap, ↓wIxT_ap, ↓wNoPart_ap, ↓wPart_ap, ↓wSl_ap, ↓wSlL_ap, ↓wSlT_ap, ↓wLen_ap, ↓wListOf_ap, ↓wTupleOf_ap, ↓wAbs_ap, ↓wCatT_ap, ↓wCat_ap, ↓wRep_ap, ↓wInI_ap, ↓wRng1_ap, ↓wRng2_ap, ↓wRng3_ap, ↓wIList_ap, ↓wITup_ap, ↓wName_ap, ↓wgNil_ap, ↓wgCons_ap, ↓wgTup_ap, ↓wgLst_ap, ↓wgSub_ap, ↓wNext_ap, ↓wSeq_ap, ↓wAsg_ap, ↓wDrop_ap, ↓wRet_ap, ↓wRetN_ap, ↓wNever_ap, ↓wBreak_ap, ↓wCont_ap, ↓wPar_ap, ↓wAug_ap, ↓wIsT_ap, ↓wEnumT_ap, ↓wEnum_ap, ↓wChainF_ap, ↓wDNew_ap, ↓wDIn_ap, ↓wDGet_ap, ↓wDGet2_ap, ↓wDPut_ap, ↓wDUpd_ap, ↓wRg1_ap, ↓wRg2_ap, ↓wLstRg_ap, ↓wTupRg_ap, ↓wFrzV_ap, ↓wIxA_ap, ↓wTIdx_ap, ↓wLIdx_ap, ↓wAddD_ap, fMax, fMin, fSorted, ↓wIf_ap, ↓wThen_ap, ↓wFor_ap, ↓wWhile_ap, ↓wLc_ap, ↓wDc_ap, RetOk_fz, RetOk_ls, RetOk_rf, imm_int, imm_bool, imm_str, imm_none, ↓ifB_t, ↓ifB_f, ↓sto, ↓frz, stL, isNum_t, Int.reducePow, Int.reduceSub, Int.reduceAdd, Int.reduceMul, wInts, wBls, vl, vls, its, lsOf, oLs, oL, upL, fzs, keyOf, dkOf, isN, wipeS, ownFree, own_fz, own_un, own_rf, own_ls, own_lb, own_dk, List.map_cons, List.map_nil, List.all_cons, List.all_nil, List.set, List.getD_cons_zero, List.getD_cons_succ, List.getD_nil, List.getElem?_cons_zero, List.getElem?_cons_succ, Option.getD_some, List.getElem?_nil, Option.getD_none, Option.map_some, Option.map_none, Bool.false_eq_true, if_true, if_false, Bool.not_true, Bool.not_false, Bool.and_true, Bool.true_and, reduceCtorEq, and_true, true_and, and_false, false_and, Option.some.injEq, AV.fz.injEq, AV.ls.injEq, AV.lb.injEq, AV.dk.injEq, List.cons.injEq, PyData.int.injEq, PyData.list.injEq, PyData.tuple.injEq, exists_eq_left', exists_eq_left, List.length_cons, List.length_nil, Nat.reduceAdd, Int.reduceToNat, List.eraseIdx, isi_int_none, isi_int_bool, isi_int_int, isi_int_str, isi_int_list, isi_int_tuple, isi_bool_none, isi_bool_bool, isi_bool_int, isi_bool_str, isi_bool_list, isi_bool_tuple, isi_str_none, isi_str_bool, isi_str_int, isi_str_str, isi_str_list, isi_str_tuple, isi_tuple_none, isi_tuple_bool, isi_tuple_int, isi_tuple_str, isi_tuple_list, isi_tuple_tuple, isi_list_none, isi_list_bool, isi_list_int, isi_list_str, isi_list_list, isi_list_tuple, atI_0, atI_1, atI_2, ixN_0, ixN_1]
        refine ⟨kv, _, _, _, ⟨?_, rfl, rfl, rfl, rfl⟩, hu, by omega, fun x => ?_⟩
        · rw [rings_step, hmin]
          simp
        · rw [hv]
          constructor
          · rintro ⟨t, ht, q⟩
            exact ⟨t, by omega, q⟩
          · rintro ⟨t, ht, q⟩
            rcases Nat.lt_or_ge t i with a | a
            · exact ⟨t, a, q⟩
            · have : t = i := by omega
              subst this
              obtain ⟨r, hr, hq⟩ := (hc.met_iff hi1).mpr hmin
              exact ⟨r, hr, hc.ring_trans (Nat.lt_trans hr hi1) hq q⟩
    · obtain ⟨kv, y, z, u, rfl, hu, hk, hv⟩ := hi
      simp -implicitDefEqProofs only [↓wVar_ap, ↓wC_ap, ↓wOp_ap, ↓wUn_ap, ↓wII_ap, ↓wIC_ap, ↓wIB_ap, ↓wNeg_ap, ↓wEqI_ap, ↓wEqD_ap, ↓wIsN_ap, ↓wAndV_ap, ↓wOrV_ap, ↓wNotV_ap, ↓wTest_ap, ↓wAnd_ap, ↓wOr_ap, ↓wNot_ap, ↓wIfE_ap, ↓wNil_ap, ↓wCons_ap, ↓wCB_ap, ↓wTup_ap, ↓wLst_ap, ↓wFrz_ap, ↓wCallP_ap, ↓wCallM_ap, ↓wBM_ap, ↓wBM0_ap, ↓wAppend_ap, ↓wExtend_ap, ↓wPopAt_ap, ↓wPop_ap, ↓wReverse_ap, ↓wIxL_ap, ↓wIxT_ap, ↓wNoPart_ap, ↓wPart_ap, ↓wSl_ap, ↓wSlL_ap, ↓wSlT_ap, ↓wLen_ap, ↓wListOf_ap, ↓wTupleOf_ap, ↓wAbs_ap, ↓wCatT_ap, ↓wCat_ap, ↓wRep_ap, ↓wInI_ap, ↓wRng1_ap, ↓wRng2_ap, ↓wRng3_ap, ↓wIList_ap, ↓wITup_ap, ↓wName_ap, ↓wgNil_ap, ↓wgCons_ap, ↓wgTup_ap, ↓wgLst_ap, ↓wgSub_ap, ↓wNext_ap, ↓wSeq_ap, ↓wAsg_ap, ↓wDrop_ap, ↓wRet_ap, ↓wRetN_ap, ↓wNever_ap, ↓wBreak_ap, ↓wCont_ap, ↓wPar_ap, ↓wAug_ap, ↓wIsT_ap, ↓wEnumT_ap, ↓wEnum_ap, ↓wChainF_ap, ↓wDNew_ap, ↓wDIn_ap, ↓wDGet_ap, ↓wDGet2_ap, ↓wDPut_ap, ↓wDUpd_ap, ↓wRg1_ap, ↓wRg2_ap, ↓wLstRg_ap, ↓wTupRg_ap, ↓wFrzV_ap, ↓wIxA_ap, ↓wTIdx_ap, ↓wLIdx_ap, ↓wAddD_ap, fMax, fMin, fSorted, ↓wIf_ap, ↓wThen_ap, ↓wFor_ap, ↓wWhile_ap, ↓wLc_ap, ↓wDc_ap, RetOk_fz, RetOk_ls, RetOk_rf, imm_int, imm_bool, imm_str, imm_none, ↓ifB_t, ↓ifB_f, ↓sto, ↓frz, stL, isNum_t, Int.reducePow, Int.reduceSub, Int.reduceAdd, Int.reduceMul, wInts, wBls, vl, vls, its, lsOf, oLs, oL, upL, fzs, keyOf, dkOf, isN, wipeS, ownFree, own_fz, own_un, own_rf, own_ls, own_lb, own_dk, List.map_cons, List.map_nil, List.all_cons, List.all_nil, List.set, List.getD_cons_zero, List.getD_cons_succ, List.getD_nil, List.getElem?_cons_zero, List.getElem?_cons_succ, Option.getD_some, List.getElem?_nil, Option.getD_none, Option.map_some, Option.map_none, Bool.false_eq_true, if_true, if_false, Bool.not_true, Bool.not_false, Bool.and_true, Bool.true_and, reduceCtorEq, and_true, true_and, and_false, false_and, Option.some.injEq, AV.fz.injEq, AV.ls.injEq, AV.lb.injEq, AV.dk.injEq, List.cons.injEq, PyData.int.injEq, PyData.list.injEq, PyData.tuple.injEq, exists_eq_left', exists_eq_left, List.length_cons, List.length_nil, Nat.reduceAdd, Int.reduceToNat, List.eraseIdx, isi_int_none, isi_int_bool, isi_int_int, isi_int_str, isi_int_list, isi_int_tuple, isi_bool_none, isi_bool_bool, isi_bool_int, isi_bool_str, isi_bool_list, isi_bool_tuple, isi_str_none, isi_str_bool, isi_str_int, isi_str_str, isi_str_list, isi_str_tuple, isi_tuple_none, isi_tuple_bool, isi_tuple_int, isi_tuple_str, isi_tuple_list, isi_tuple_tuple, isi_list_none, isi_list_bool, isi_list_int, isi_list_str, isi_list_list, isi_list_tuple, atI_0, atI_1, atI_2, ixN_0, ixN_1]
      rw [nts_len, List.length_range]
      exact ⟨rgD_imm _, c, rfl, rfl⟩⟩
def pre_rings (dl : List D) : Prop := ∃ c : List Nat, dl = [.tuple (nts c)] ∧ IsC c ∧ c.length ≤ 12
def post_rings (dl : List D) (x : AV) : Prop := ∃ c : List Nat, dl = [.tuple (nts c)] ∧ x = .ls (rgD (ringsOf c))
theorem ci_rings {c : List Nat} {ds : Sto} {Q : Sto → AV → Prop} (hc : IsC c) (h : c.length ≤ 12) (q : Q ds (.ls (rgD (ringsOf c)))) : callB pre_rings post_rings 1 (some [.tuple (nts c)]) ds Q := callB_i rfl ⟨c, rfl, hc, h⟩ fun x ⟨c', e, e2⟩ => by
  simp only [List.cons.injEq, PyData.tuple.injEq, and_true] at e
  cases nts_inj e
  subst e2
  exact q
theorem ok_rings {f : Addr} {fd : FuncData} (F : Fun K "rings" "rings" s_rings f fd) (T : Txt mg) (C_need_cards : Cal P w K mg base 2 "need_cards" (spP 1 pre_need_cards post_need_cards K)) (C_rings_of : Cal P w K mg base 2 "rings_of" (spP 1 pre_rings_of post_rings_of K)) : FnOk P w K mg base CX0 (2 + 1) f fd ["cards"] (spP 1 pre_rings post_rings K) := by
  exact okP F sc_rings rfl fun cdv A outer s H E hr => ⟨_, _, (ass_cons (as_expr (ae_callP C_need_cards hr (aa_cons (av 0) aa_nil))) (ass_one (as_ret (ae_callP C_rings_of hr (aa_cons (av 0) aa_nil))))), fun dl hl hp => by
    obtain ⟨c, rfl, hc, hl⟩ := hp
    show (_ : WS) _ [AV.fz (.tuple (nts c)), ]
    simp -implicitDefEqProofs only [↓wVar_ap, ↓wC_ap, ↓wOp_ap, ↓wUn_ap, ↓wII_ap, ↓wIC_ap, ↓wIB_ap, ↓wNeg_ap, ↓wEqI_ap, ↓wEqD_ap, ↓wIsN_ap, ↓wAndV_ap, ↓wOrV_ap, ↓wNotV_ap, ↓wTest_ap, ↓wAnd_ap, ↓wOr_ap, ↓wNot_ap, ↓wIfE_ap, ↓wNil_ap, ↓wCons_ap, ↓wCB_ap, ↓wTup_ap, ↓wLst_ap, ↓wFrz_ap, ↓wCallP_ap, ↓wCallM_ap, ↓wBM_ap, ↓wBM0_ap, ↓wAppend_ap, ↓wExtend_ap, ↓wPopAt_ap, ↓wPop_ap, ↓wReverse_ap, ↓wIxL_ap, ↓wIxT_ap, ↓wNoPart_ap, ↓wPart_ap, ↓wSl_ap, ↓wSlL_ap, ↓wSlT_ap, ↓wLen_ap, ↓wListOf_ap, ↓wTupleOf_ap, ↓wAbs_ap, ↓wCatT_ap, ↓wCat_ap, ↓wRep_ap, ↓wInI_ap, ↓wRng1_ap, ↓wRng2_ap, ↓wRng3_ap, ↓wIList_ap, ↓wITup_ap, ↓wName_ap, ↓wgNil_ap, ↓wgCons_ap, ↓wgTup_ap, ↓wgLst_ap, ↓wgSub_ap, ↓wNext_ap, ↓wSeq_ap, ↓wAsg_ap, ↓wDrop_ap, ↓wRet_ap, ↓wRetN_ap, ↓wNever_ap, ↓wBreak_ap, ↓wCont_ap, ↓wPar_ap, ↓wAug_ap, ↓wIsT_ap, ↓wEnumT_ap, ↓wEnum_ap, ↓wChainF_ap, ↓wDNew_ap, ↓wDIn_ap, ↓wDGet_ap, ↓wDGet2_ap, ↓wDPut_ap, ↓wDUpd_ap, ↓wRg1_ap, ↓wRg2_ap, ↓wLstRg_ap, ↓wTupRg_ap, ↓wFrzV_ap, ↓wIxA_ap, ↓wTIdx_ap, ↓wLIdx_ap, ↓wAddD_ap, fMax, fMin, fSorted, ↓wIf_ap, ↓wThen_ap, ↓wFor_ap, ↓wWhile_ap, ↓wLc_ap, ↓wDc_ap, RetOk_fz, RetOk_ls, RetOk_rf, imm_int, imm_bool, imm_str, imm_none, ↓ifB_t, ↓ifB_f, ↓sto, ↓frz, stL, isNum_t, Int.reducePow, Int.reduceSub, Int.reduceAdd, Int.reduceMul, wInts, wBls, vl, vls, its, lsOf, oLs, oL, upL, fzs, keyOf, dkOf, isN, wipeS, ownFree, own_fz, own_un, own_rf, own_ls, own_lb, own_dk, List.map_cons, List.map_nil, List.all_cons, List.all_nil, List.set, List.getD_cons_zero, List.getD_cons_succ, List.getD_nil, List.getElem?_cons_zero, List.getElem?_cons_succ, Option.getD_some, List.getElem?_nil, Option.getD_none, Option.map_some, Option.map_none, Bool.false_eq_true, if_true, if_false, Bool.not_true, Bool.not_false, Bool.and_true, Bool.true_and, reduceCtorEq, and_true, true_and, and_false, false_and, Option.some.injEq, AV.fz.injEq, AV.ls.injEq, AV.lb.injEq, AV.dk.injEq, List.cons.injEq, PyData.int.injEq, PyData.list.injEq, PyData.tuple.injEq, exists_eq_left', exists_eq_left, List.length_cons, List.length_nil, Nat.reduceAdd, Int.reduceToNat, List.eraseIdx, isi_int_none, isi_int_bool, isi_int_int, isi_int_str, isi_int_list, isi_int_tuple, isi_bool_none, isi_bool_bool, isi_bool_int, isi_bool_str, isi_bool_list, isi_bool_tuple, isi_str_none, isi_str_bool, isi_str_int, isi_str_str, isi_str_list, isi_str_tuple, isi_tuple_none, isi_tuple_bool, isi_tuple_int, isi_tuple_str, isi_tuple_list, isi_tuple_tuple, isi_list_none, isi_list_bool, isi_list_int, isi_list_str, isi_list_list, isi_list_tuple, atI_0, atI_1, atI_2, ixN_0, ixN_1]
    refine ⟨⟨c, rfl, hc, hl⟩, fun x hx => ⟨⟨c, rfl, hc, by omega⟩, fun x hx => ?_⟩⟩
    obtain ⟨c', e, rfl⟩ := hx
    simp -implicitDefEqProofs only [↓wVar_ap, ↓wC_ap, ↓wOp_ap, ↓wUn_ap, ↓wII_ap, ↓wIC_ap, ↓wIB_ap, ↓wNeg_ap, ↓wEqI_ap, ↓wEqD_ap, ↓wIsN_ap, ↓wAndV_ap, ↓wOrV_ap, ↓wNotV_ap, ↓wTest_ap, ↓wAnd_ap, ↓wOr_ap, ↓wNot_ap, ↓wIfE_ap, ↓wNil_ap, ↓wCons_ap, ↓wCB_ap, ↓wTup_ap, ↓wLst_ap, ↓wFrz_ap, ↓wCallP_ap, ↓wCallM_ap, ↓wBM_ap, ↓wBM0_ap, ↓wAppend_ap, ↓wExtend_ap, ↓wPopAt_ap, ↓wPop_ap, ↓wReverse_ap, ↓wIxL_ap, ↓wIxT_ap, ↓wNoPart_ap, ↓wPart_ap, ↓wSl_ap, ↓wSlL_ap, ↓wSlT_ap, ↓wLen_ap, ↓wListOf_ap, ↓wTupleOf_ap, ↓wAbs_ap, ↓wCatT_ap, ↓wCat_ap, ↓wRep_ap, ↓wInI_ap, ↓wRng1_ap, ↓wRng2_ap, ↓wRng3_ap, ↓wIList_ap, ↓wITup_ap, ↓wName_ap, ↓wgNil_ap, ↓wgCons_ap, ↓wgTup_ap, ↓wgLst_ap, ↓wgSub_ap, ↓wNext_ap, ↓wSeq_ap, ↓wAsg_ap, ↓wDrop_ap, ↓wRet_ap, ↓wRetN_ap, ↓wNever_ap, ↓wBreak_ap, ↓wCont_ap, ↓wPar_ap, ↓wAug_ap, ↓wIsT_ap, ↓wEnumT_ap, ↓wEnum_ap, ↓wChainF_ap, ↓wDNew_ap, ↓wDIn_ap, ↓wDGet_ap, ↓wDGet2_ap, ↓wDPut_ap, ↓wDUpd_ap, ↓wRg1_ap, ↓wRg2_ap, ↓wLstRg_ap, ↓wTupRg_ap, ↓wFrzV_ap, ↓wIxA_ap, ↓wTIdx_ap, ↓wLIdx_ap, ↓wAddD_ap, fMax, fMin, fSorted, ↓wIf_ap, ↓wThen_ap, ↓wFor_ap, ↓wWhile_ap, ↓wLc_ap, ↓wDc_ap, RetOk_fz, RetOk_ls, RetOk_rf, imm_int, imm_bool, imm_str, imm_none, ↓ifB_t, ↓ifB_f, ↓sto, ↓frz, stL, isNum_t, Int.reducePow, Int.reduceSub, Int.reduceAdd, Int.reduceMul, wInts, wBls, vl, vls, its, lsOf, oLs, oL, upL, fzs, keyOf, dkOf, isN, wipeS, ownFree, own_fz, own_un, own_rf, own_ls, own_lb, own_dk, List.map_cons, List.map_nil, List.all_cons, List.all_nil, List.set, List.getD_cons_zero, List.getD_cons_succ, List.getD_nil, List.getElem?_cons_zero, List.getElem?_cons_succ, Option.getD_some, List.getElem?_nil, Option.getD_none, Option.map_some, Option.map_none, Bool.false_eq_true, if_true, if_false, Bool.not_true, Bool.not_false, Bool.and_true, Bool.true_and, reduceCtorEq, and_true, true_and, and_false, false_and, Option.some.injEq, AV.fz.injEq, AV.ls.injEq, AV.lb.injEq, AV.dk.injEq, List.cons.injEq, PyData.int.injEq, PyData.list.injEq, PyData.tuple.injEq, exists_eq_left', exists_eq_left, List.length_cons, List.length_nil, Nat.reduceAdd, Int.reduceToNat, List.eraseIdx, isi_int_none, isi_int_bool, isi_int_int, isi_int_str, isi_int_list, isi_int_tuple, isi_bool_none, isi_bool_bool, isi_bool_int, isi_bool_str, isi_bool_list, isi_bool_tuple, isi_str_none, isi_str_bool, isi_str_int, isi_str_str, isi_str_list, isi_str_tuple, isi_tuple_none, isi_tuple_bool, isi_tuple_int, isi_tuple_str, isi_tuple_list, isi_tuple_tuple, isi_list_none, isi_list_bool, isi_list_int, isi_list_str, isi_list_list, isi_list_tuple, atI_0, atI_1, atI_2, ixN_0, ixN_1]
    exact ⟨rgD_imm _, c', e, rfl⟩⟩
def pre_alike_L (n : Nat) (dl : List D) : Prop := ∃ d, dl = [d, d] ∧ okA n d = true
def post_alike_L (_ : List D) (x : AV) : Prop := x = .fz (.bool true)
theorem rec0_alike_L {K : PySem.W.Frag} {vs : List V} {H : Hp} {Q : VK} {E : XK} {C : Prop} (h : spP 2 (pre_alike_L 0) post_alike_L K vs H Q E) : C := by
  obtain ⟨dl, _, _, ⟨d, _, q⟩, _⟩ := h
  simp [okA] at q
theorem ci_alike_L {n : Nat} {d : D} {ds : Sto} {Q : Sto → AV → Prop} (h : okA n d = true) (q : Q ds (.fz (.bool true))) : callB (pre_alike_L n) post_alike_L 2 (some [d, d]) ds Q := callB_i rfl ⟨d, rfl, h⟩ fun x e => by
  obtain rfl : x = .fz (.bool true) := e
  exact q
theorem ok_alike_L {f : Addr} {fd : FuncData} (F : Fun K "_law_alike" "_law_alike" s_alike_L f fd) (T : Txt mg) {n : Nat} (C_alike_L : Cal P w K mg base n "_law_alike" (spP 2 (pre_alike_L n) post_alike_L K)) : FnOk P w K mg base CX0 (n + 1) f fd ["_law_found", "_law_due"] (spP 2 (pre_alike_L (n + 1)) post_alike_L K) := by
  exact okP F sc_alike_L rfl fun cdv A outer s H E hr => ⟨_, _, (ass_cons (as_if (at_cmp c_isN (av 1) ae_non) (ass_one (as_ret (ae_cmp c_isN (av 0) ae_non))) ass_nil) (ass_cons (as_if (at_val (ae_isi "bool" T.z_isinstance T.z_bool (av 1))) (ass_one (as_ret (ae_and (ae_isi "bool" T.z_isinstance T.z_bool (av 0)) (ae_one (ae_cmp (c_eqD hr) (av 0) (av 1)))))) ass_nil) (ass_cons (as_if (at_val (ae_isi "int" T.z_isinstance T.z_int (av 1))) (ass_one (as_ret (ae_and (ae_isi "int" T.z_isinstance T.z_int (av 0)) (ae_and (ae_not (ae_isi "bool" T.z_isinstance T.z_bool (av 0))) (ae_one (ae_cmp (c_eqD hr) (av 0) (av 1))))))) ass_nil) (ass_cons (as_if (at_val (ae_isi "str" T.z_isinstance T.z_str (av 1))) (ass_one (as_ret (ae_and (ae_isi "str" T.z_isinstance T.z_str (av 0)) (ae_one (ae_cmp (c_eqD hr) (av 0) (av 1)))))) ass_nil) (ass_cons (as_if (aw_or (at_cmp (c_neD hr) (ae_isi "tuple" T.z_isinstance T.z_tuple (av 1)) (ae_isi "tuple" T.z_isinstance T.z_tuple (av 0))) (aw_or1 (at_cmp (c_neD hr) (ae_isi "list" T.z_isinstance T.z_list (av 1)) (ae_isi "list" T.z_isinstance T.z_list (av 0))))).pT (ass_one (as_ret ae_bl)) ass_nil) (ass_cons (as_if (at_cmp c_ne (ae_callB k_len T.z_len (by decide +kernel) (aa_cons (av 0) aa_nil)) (ae_callB k_len T.z_len (by decide +kernel) (aa_cons (av 1) aa_nil))) (ass_one (as_ret ae_bl)) ass_nil) (ass_one (as_ret (ae_callB (k_all) T.z_all (by decide +kernel) (aa_cons (ae_lc [("_law_k", 2)] sc_alike_L.nd (blkOk_by (N := N_alike_L) (sc := defScope s_alike_L) (by decide +kernel)) (ai_range1 T.z_range (aa_cons (ae_callB k_len T.z_len (by decide +kernel) (aa_cons (av 1) aa_nil)) aa_nil)) (fun _ _ _ _ _ => (ag_name 2 sc_alike_L.nd)) (fun _ _ _ _ _ => ats_nil) (fun _ _ _ _ _ => (ae_callP C_alike_L hr (aa_cons (ae_ixA (av 0) (av 2)) (aa_cons (ae_ixA (av 1) (av 2)) aa_nil)) (Nat.le_refl _)))) aa_nil)))))))))), fun dl hl hp => by
    obtain ⟨d, rfl, h⟩ := hp
    show (_ : WS) _ [AV.fz d, .fz d, .un]
    cases d with
    | none =>
      simp -implicitDefEqProofs only [↓wVar_ap, ↓wC_ap, ↓wOp_ap, ↓wUn_ap, ↓wII_ap, ↓wIC_ap, ↓wIB_ap, ↓wNeg_ap, ↓wEqI_ap, ↓wEqD_ap, ↓wIsN_ap, ↓wAndV_ap, ↓wOrV_ap, ↓wNotV_ap, ↓wTest_ap, ↓wAnd_ap, ↓wOr_ap, ↓wNot_ap, ↓wIfE_ap, ↓wNil_ap, ↓wCons_ap, ↓wCB_ap, ↓wTup_ap, ↓wLst_ap, ↓wFrz_ap, ↓wCallP_ap, ↓wCallM_ap, ↓wBM_ap, ↓wBM0_ap, ↓wAppend_ap, ↓wExtend_ap, ↓wPopAt_ap, ↓wPop_ap, ↓wReverse_ap, ↓wIxL_ap, ↓wIxT_ap, ↓wNoPart_ap, ↓wPart_ap, ↓wSl_ap, ↓wSlL_ap, ↓wSlT_ap, ↓wLen_ap, ↓wListOf_ap, ↓wTupleOf_ap, ↓wAbs_ap, ↓wCatT_ap, ↓wCat_ap, ↓wRep_ap, ↓wInI_ap, ↓wRng1_ap, ↓wRng2_ap, ↓wRng3_ap, ↓wIList_ap, ↓wITup_ap, ↓wName_ap, ↓wgNil_ap, ↓wgCons_ap, ↓wgTup_ap, ↓wgLst_ap, ↓wgSub_ap, ↓wNext_ap, ↓wSeq_ap, ↓wAsg_ap, ↓wDrop_ap, ↓wRet_ap, ↓wRetN_ap, ↓wNever_ap, ↓wBreak_ap, ↓wCont_ap, ↓wPar_ap, ↓wAug_ap, ↓wIsT_ap, ↓wEnumT_ap, ↓wEnum_ap, ↓wChainF_ap, ↓wDNew_ap, ↓wDIn_ap, ↓wDGet_ap, ↓wDGet2_ap, ↓wDPut_ap, ↓wDUpd_ap, ↓wRg1_ap, ↓wRg2_ap, ↓wLstRg_ap, ↓wTupRg_ap, ↓wFrzV_ap, ↓wIxA_ap, ↓wTIdx_ap, ↓wLIdx_ap, ↓wAddD_ap, fMax, fMin, fSorted, ↓wIf_ap, ↓wThen_ap, ↓wFor_ap, ↓wWhile_ap, ↓wLc_ap, ↓wDc_ap, RetOk_fz, RetOk_ls, RetOk_rf, imm_int, imm_bool, imm_str, imm_none, ↓ifB_t, ↓ifB_f, ↓sto, ↓frz, stL, isNum_t, Int.reducePow, Int.reduceSub, Int.reduceAdd, Int.reduceMul, wInts, wBls, vl, vls, its, lsOf, oLs, oL, upL, fzs, keyOf, dkOf, isN, wipeS, ownFree, own_fz, own_un, own_rf, own_ls, own_lb, own_dk, List.map_cons, List.map_nil, List.all_cons, List.all_nil, List.set, List.getD_cons_zero, List.getD_cons_succ, List.getD_nil, List.getElem?_cons_zero, List.getElem?_cons_succ, Option.getD_some, List.getElem?_nil, Option.getD_none, Option.map_some, Option.map_none, Bool.false_eq_true, if_true, if_false, Bool.not_true, Bool.not_false, Bool.and_true, Bool.true_and, reduceCtorEq, and_true, true_and, and_false, false_and, Option.some.injEq, AV.fz.injEq, AV.ls.injEq, AV.lb.injEq, AV.dk.injEq, List.cons.injEq, PyData.int.injEq, PyData.list.injEq, PyData.tuple.injEq, exists_eq_left', exists_eq_left, List.length_cons, List.length_nil, Nat.reduceAdd, Int.reduceToNat, List.eraseIdx, isi_int_none, isi_int_bool, isi_int_int, isi_int_str, isi_int_list, isi_int_tuple, isi_bool_none, isi_bool_bool, isi_bool_int, isi_bool_str, isi_bool_list, isi_bool_tuple, isi_str_none, isi_str_bool, isi_str_int, isi_str_str, isi_str_list, isi_str_tuple, isi_tuple_none, isi_tuple_bool, isi_tuple_int, isi_tuple_str, isi_tuple_list, isi_tuple_tuple, isi_list_none, isi_list_bool, isi_list_int, isi_list_str, isi_list_list, isi_list_tuple, atI_0, atI_1, atI_2, ixN_0, ixN_1]
      rfl
    | bool b =>
      simp -implicitDefEqProofs only [↓wVar_ap, ↓wC_ap, ↓wOp_ap, ↓wUn_ap, ↓wII_ap, ↓wIC_ap, ↓wIB_ap, ↓wNeg_ap, ↓wEqI_ap, ↓wEqD_ap, ↓wIsN_ap, ↓wAndV_ap, ↓wOrV_ap, ↓wNotV_ap, ↓wTest_ap, ↓wAnd_ap, ↓wOr_ap, ↓wNot_ap, ↓wIfE_ap, ↓wNil_ap, ↓wCons_ap, ↓wCB_ap, ↓wTup_ap, ↓wLst_ap, ↓wFrz_ap, ↓wCallP_ap, ↓wCallM_ap, ↓wBM_ap, ↓wBM0_ap, ↓wAppend_ap, ↓wExtend_ap, ↓wPopAt_ap, ↓wPop_ap, ↓wReverse_ap, ↓wIxL_ap, ↓wIxT_ap, ↓wNoPart_ap, ↓wPart_ap, ↓wSl_ap, ↓wSlL_ap, ↓wSlT_ap, ↓wLen_ap, ↓wListOf_ap, ↓wTupleOf_ap, ↓wAbs_ap, ↓wCatT_ap, ↓wCat_ap, ↓wRep_ap, ↓wInI_ap, ↓wRng1_ap, ↓wRng2_ap, ↓wRng3_ap, ↓wIList_ap, ↓wITup_ap, ↓wName_ap, ↓wgNil_ap, ↓wgCons_ap, ↓wgTup_ap, ↓wgLst_ap, ↓wgSub_ap, ↓wNext_ap, ↓wSeq_ap, ↓wAsg_ap, ↓wDrop_ap, ↓wRet_ap, ↓wRetN_ap, ↓wNever_ap, ↓wBreak_ap, ↓wCont_ap, ↓wPar_ap, ↓wAug_ap, ↓wIsT_ap, ↓wEnumT_ap, ↓wEnum_ap, ↓wChainF_ap, ↓wDNew_ap, ↓wDIn_ap, ↓wDGet_ap, ↓wDGet2_ap, ↓wDPut_ap, ↓wDUpd_ap, ↓wRg1_ap, ↓wRg2_ap, ↓wLstRg_ap, ↓wTupRg_ap, ↓wFrzV_ap, ↓wIxA_ap, ↓wTIdx_ap, ↓wLIdx_ap, ↓wAddD_ap, fMax, fMin, fSorted, ↓wIf_ap, ↓wThen_ap, ↓wFor_ap, ↓wWhile_ap, ↓wLc_ap, ↓wDc_ap, RetOk_fz, RetOk_ls, RetOk_rf, imm_int, imm_bool, imm_str, imm_none, ↓ifB_t, ↓ifB_f, ↓sto, ↓frz, stL, isNum_t, Int.reducePow, Int.reduceSub, Int.reduceAdd, Int.reduceMul, wInts, wBls, vl, vls, its, lsOf, oLs, oL, upL, fzs, keyOf, dkOf, isN, wipeS, ownFree, own_fz, own_un, own_rf, own_ls, own_lb, own_dk, List.map_cons, List.map_nil, List.all_cons, List.all_nil, List.set, List.getD_cons_zero, List.getD_cons_succ, List.getD_nil, List.getElem?_cons_zero, List.getElem?_cons_succ, Option.getD_some, List.getElem?_nil, Option.getD_none, Option.map_some, Option.map_none, Bool.false_eq_true, if_true, if_false, Bool.not_true, Bool.not_false, Bool.and_true, Bool.true_and, reduceCtorEq, and_true, true_and, and_false, false_and, Option.some.injEq, AV.fz.injEq, AV.ls.injEq, AV.lb.injEq, AV.dk.injEq, List.cons.injEq, PyData.int.injEq, PyData.list.injEq, PyData.tuple.injEq, exists_eq_left', exists_eq_left, List.length_cons, List.length_nil, Nat.reduceAdd, Int.reduceToNat, List.eraseIdx, isi_int_none, isi_int_bool, isi_int_int, isi_int_str, isi_int_list, isi_int_tuple, isi_bool_none, isi_bool_bool, isi_bool_int, isi_bool_str, isi_bool_list, isi_bool_tuple, isi_str_none, isi_str_bool, isi_str_int, isi_str_str, isi_str_list, isi_str_tuple, isi_tuple_none, isi_tuple_bool, isi_tuple_int, isi_tuple_str, isi_tuple_list, isi_tuple_tuple, isi_list_none, isi_list_bool, isi_list_int, isi_list_str, isi_list_list, isi_list_tuple, atI_0, atI_1, atI_2, ixN_0, ixN_1]
      refine ⟨_, _, rfl, rfl, shaped_bool b, shaped_bool b, ?_⟩
      rw [eqv_bool, beq_self_eq_true]
      rfl
    | int b =>
      simp -implicitDefEqProofs only [↓wVar_ap, ↓wC_ap, ↓wOp_ap, ↓wUn_ap, ↓wII_ap, ↓wIC_ap, ↓wIB_ap, ↓wNeg_ap, ↓wEqI_ap, ↓wEqD_ap, ↓wIsN_ap, ↓wAndV_ap, ↓wOrV_ap, ↓wNotV_ap, ↓wTest_ap, ↓wAnd_ap, ↓wOr_ap, ↓wNot_ap, ↓wIfE_ap, ↓wNil_ap, ↓wCons_ap, ↓wCB_ap, ↓wTup_ap, ↓wLst_ap, ↓wFrz_ap, ↓wCallP_ap, ↓wCallM_ap, ↓wBM_ap, ↓wBM0_ap, ↓wAppend_ap, ↓wExtend_ap, ↓wPopAt_ap, ↓wPop_ap, ↓wReverse_ap, ↓wIxL_ap, ↓wIxT_ap, ↓wNoPart_ap, ↓wPart_ap, ↓wSl_ap, ↓wSlL_ap, ↓wSlT_ap, ↓wLen_ap, ↓wListOf_ap, ↓wTupleOf_ap, ↓wAbs_ap, ↓wCatT_ap, ↓wCat_ap, ↓wRep_ap, ↓wInI_ap, ↓wRng1_ap, ↓wRng2_ap, ↓wRng3_ap, ↓wIList_ap, ↓wITup_ap, ↓wName_ap, ↓wgNil_ap, ↓wgCons_ap, ↓wgTup_ap, ↓wgLst_ap, ↓wgSub_ap, ↓wNext_ap, ↓wSeq_ap, ↓wAsg_ap, ↓wDrop_ap, ↓wRet_ap, ↓wRetN_ap, ↓wNever_ap, ↓wBreak_ap, ↓wCont_ap, ↓wPar_ap, ↓wAug_ap, ↓wIsT_ap, ↓wEnumT_ap, ↓wEnum_ap, ↓wChainF_ap, ↓wDNew_ap, ↓wDIn_ap, ↓wDGet_ap, ↓wDGet2_ap, ↓wDPut_ap, ↓wDUpd_ap, ↓wRg1_ap, ↓wRg2_ap, ↓wLstRg_ap, ↓wTupRg_ap, ↓wFrzV_ap, ↓wIxA_ap, ↓wTIdx_ap, ↓wLIdx_ap, ↓wAddD_ap, fMax, fMin, fSorted, ↓wIf_ap, ↓wThen_ap, ↓wFor_ap, ↓wWhile_ap, ↓wLc_ap, ↓wDc_ap, RetOk_fz, RetOk_ls, RetOk_rf, imm_int, imm_bool, imm_str, imm_none, ↓ifB_t, ↓ifB_f, ↓sto, ↓frz, stL, isNum_t, Int.reducePow, Int.reduceSub, Int.reduceAdd, Int.reduceMul, wInts, wBls, vl, vls, its, lsOf, oLs, oL, upL, fzs, keyOf, dkOf, isN, wipeS, ownFree, own_fz, own_un, own_rf, own_ls, own_lb, own_dk, List.map_cons, List.map_nil, List.all_cons, List.all_nil, List.set, List.getD_cons_zero, List.getD_cons_succ, List.getD_nil, List.getElem?_cons_zero, List.getElem?_cons_succ, Option.getD_some, List.getElem?_nil, Option.getD_none, Option.map_some, Option.map_none, Bool.false_eq_true, if_true, if_false, Bool.not_true, Bool.not_false, Bool.and_true, Bool.true_and, reduceCtorEq, and_true, true_and, and_false, false_and, Option.some.injEq, AV.fz.injEq, AV.ls.injEq, AV.lb.injEq, AV.dk.injEq, List.cons.injEq, PyData.int.injEq, PyData.list.injEq, PyData.tuple.injEq, exists_eq_left', exists_eq_left, List.length_cons, List.length_nil, Nat.reduceAdd, Int.reduceToNat, List.eraseIdx, isi_int_none, isi_int_bool, isi_int_int, isi_int_str, isi_int_list, isi_int_tuple, isi_bool_none, isi_bool_bool, isi_bool_int, isi_bool_str, isi_bool_list, isi_bool_tuple, isi_str_none, isi_str_bool, isi_str_int, isi_str_str, isi_str_list, isi_str_tuple, isi_tuple_none, isi_tuple_bool, isi_tuple_int, isi_tuple_str, isi_tuple_list, isi_tuple_tuple, isi_list_none, isi_list_bool, isi_list_int, isi_list_str, isi_list_list, isi_list_tuple, atI_0, atI_1, atI_2, ixN_0, ixN_1]
      refine ⟨_, _, rfl, rfl, shaped_int b, shaped_int b, ?_⟩
      rw [eqv_int, beq_self_eq_true]
      rfl
    | str b =>
      simp -implicitDefEqProofs only [↓wVar_ap, ↓wC_ap, ↓wOp_ap, ↓wUn_ap, ↓wII_ap, ↓wIC_ap, ↓wIB_ap, ↓wNeg_ap, ↓wEqI_ap, ↓wEqD_ap, ↓wIsN_ap, ↓wAndV_ap, ↓wOrV_ap, ↓wNotV_ap, ↓wTest_ap, ↓wAnd_ap, ↓wOr_ap, ↓wNot_ap, ↓wIfE_ap, ↓wNil_ap, ↓wCons_ap, ↓wCB_ap, ↓wTup_ap, ↓wLst_ap, ↓wFrz_ap, ↓wCallP_ap, ↓wCallM_ap, ↓wBM_ap, ↓wBM0_ap, ↓wAppend_ap, ↓wExtend_ap, ↓wPopAt_ap, ↓wPop_ap, ↓wReverse_ap, ↓wIxL_ap, ↓wIxT_ap, ↓wNoPart_ap, ↓wPart_ap, ↓wSl_ap, ↓wSlL_ap, ↓wSlT_ap, ↓wLen_ap, ↓wListOf_ap, ↓wTupleOf_ap, ↓wAbs_ap, ↓wCatT_ap, ↓wCat_ap, ↓wRep_ap, ↓wInI_ap, ↓wRng1_ap, ↓wRng2_ap, ↓wRng3_ap, ↓wIList_ap, ↓wITup_ap, ↓wName_ap, ↓wgNil_ap, ↓wgCons_ap, ↓wgTup_ap, ↓wgLst_ap, ↓wgSub_ap, ↓wNext_ap, ↓wSeq_ap, ↓wAsg_ap, ↓wDrop_ap, ↓wRet_ap, ↓wRetN_ap, ↓wNever_ap, ↓wBreak_ap, ↓wCont_ap, ↓wPar_ap, ↓wAug_ap, ↓wIsT_ap, ↓wEnumT_ap, ↓wEnum_ap, ↓wChainF_ap, ↓wDNew_ap, ↓wDIn_ap, ↓wDGet_ap, ↓wDGet2_ap, ↓wDPut_ap, ↓wDUpd_ap, ↓wRg1_ap, ↓wRg2_ap, ↓wLstRg_ap, ↓wTupRg_ap, ↓wFrzV_ap, ↓wIxA_ap, ↓wTIdx_ap, ↓wLIdx_ap, ↓wAddD_ap, fMax, fMin, fSorted, ↓wIf_ap, ↓wThen_ap, ↓wFor_ap, ↓wWhile_ap, ↓wLc_ap, ↓wDc_ap, RetOk_fz, RetOk_ls, RetOk_rf, imm_int, imm_bool, imm_str, imm_none, ↓ifB_t, ↓ifB_f, ↓sto, ↓frz, stL, isNum_t, Int.reducePow, Int.reduceSub, Int.reduceAdd, Int.reduceMul, wInts, wBls, vl, vls, its, lsOf, oLs, oL, upL, fzs, keyOf, dkOf, isN, wipeS, ownFree, own_fz, own_un, own_rf, own_ls, own_lb, own_dk, List.map_cons, List.map_nil, List.all_cons, List.all_nil, List.set, List.getD_cons_zero, List.getD_cons_succ, List.getD_nil, List.getElem?_cons_zero, List.getElem?_cons_succ, Option.getD_some, List.getElem?_nil, Option.getD_none, Option.map_some, Option.map_none, Bool.false_eq_true, if_true, if_false, Bool.not_true, Bool.not_false, Bool.and_true, Bool.true_and, reduceCtorEq, and_true, true_and, and_false, false_and, Option.some.injEq, AV.fz.injEq, AV.ls.injEq, AV.lb.injEq, AV.dk.injEq, List.cons.injEq, PyData.int.injEq, PyData.list.injEq, PyData.tuple.injEq, exists_eq_left', exists_eq_left, List.length_cons, List.length_nil, Nat.reduceAdd, Int.reduceToNat, List.eraseIdx, isi_int_none, isi_int_bool, isi_int_int, isi_int_str, isi_int_list, isi_int_tuple, isi_bool_none, isi_bool_bool, isi_bool_int, isi_bool_str, isi_bool_list, isi_bool_tuple, isi_str_none, isi_str_bool, isi_str_int, isi_str_str, isi_str_list, isi_str_tuple, isi_tuple_none, isi_tuple_bool, isi_tuple_int, isi_tuple_str, isi_tuple_list, isi_tuple_tuple, isi_list_none, isi_list_bool, isi_list_int, isi_list_str, isi_list_list, isi_list_tuple, atI_0, atI_1, atI_2, ixN_0, ixN_1]
      have hs : SeqAt.shaped (.str b) = true := shaped_str h
      refine ⟨_, _, rfl, rfl, hs, hs, ?_⟩
      rw [eqv_str, beq_self_eq_true]
      rfl
    | dict b => simp [okA] at h
    | list b =>
      have hb : b.length ≤ 1000 ∧ b.all (okA n) = true := by
        have q : (decide (b.length ≤ 1000) && b.all (okA n)) = true := h
        rw [Bool.and_eq_true, decide_eq_true_eq] at q
        exact q
      simp -implicitDefEqProofs only [↓wVar_ap, ↓wC_ap, ↓wOp_ap, ↓wUn_ap, ↓wII_ap, ↓wIC_ap, ↓wIB_ap, ↓wNeg_ap, ↓wEqI_ap, ↓wEqD_ap, ↓wIsN_ap, ↓wAndV_ap, ↓wOrV_ap, ↓wNotV_ap, ↓wTest_ap, ↓wAnd_ap, ↓wOr_ap, ↓wNot_ap, ↓wIfE_ap, ↓wNil_ap, ↓wCons_ap, ↓wCB_ap, ↓wTup_ap, ↓wLst_ap, ↓wFrz_ap, ↓wCallP_ap, ↓wCallM_ap, ↓wBM_ap, ↓wBM0_ap, ↓wAppend_ap, ↓wExtend_ap, ↓wPopAt_ap, ↓wPop_ap, ↓wReverse_ap, ↓wIxL_ap, ↓wIxT_ap, ↓wNoPart_ap, ↓wPart_ap, ↓wSl_ap, ↓wSlL_ap, ↓wSlT_ap, ↓wLen_ap, ↓wListOf_ap, ↓wTupleOf_ap, ↓wAbs_ap, ↓wCatT_ap, ↓wCat_ap, ↓wRep_ap, ↓wInI_ap, ↓wRng1_ap, ↓wRng2_ap, ↓wRng3_ap, ↓wIList_ap, ↓wITup_ap, ↓wName_ap, ↓wgNil_ap, ↓wgCons_ap, ↓wgTup_ap, ↓wgLst_ap, ↓wgSub_ap, ↓wNext_ap, ↓wSeq_ap, ↓wAsg_ap, ↓wDrop_ap, ↓wRet_ap, ↓wRetN_ap, ↓wNever_ap, ↓wBreak_ap, ↓wCont_ap, ↓wPar_ap, ↓wAug_ap, ↓wIsT_ap, ↓wEnumT_ap, ↓wEnum_ap, ↓wChainF_ap, ↓wDNew_ap, ↓wDIn_ap, ↓wDGet_ap, ↓wDGet2_ap, ↓wDPut_ap, ↓wDUpd_ap, ↓wRg1_ap, ↓wRg2_ap, ↓wLstRg_ap, ↓wTupRg_ap, ↓wFrzV_ap, ↓wIxA_ap, ↓wTIdx_ap, ↓wLIdx_ap, ↓wAddD_ap, fMax, fMin, fSorted, ↓wIf_ap, ↓wThen_ap, ↓wFor_ap, ↓wWhile_ap, ↓wLc_ap, ↓wDc_ap, RetOk_fz, RetOk_ls, RetOk_rf, imm_int, imm_bool, imm_str, imm_none, ↓ifB_t, ↓ifB_f, ↓sto, ↓frz, stL, isNum_t, Int.reducePow, Int.reduceSub, Int.reduceAdd, Int.reduceMul, wInts, wBls, vl, vls, its, lsOf, oLs, oL, upL, fzs, keyOf, dkOf, isN, wipeS, ownFree, own_fz, own_un, own_rf, own_ls, own_lb, own_dk, List.map_cons, List.map_nil, List.all_cons, List.all_nil, List.set, List.getD_cons_zero, List.getD_cons_succ, List.getD_nil, List.getElem?_cons_zero, List.getElem?_cons_succ, Option.getD_some, List.getElem?_nil, Option.getD_none, Option.map_some, Option.map_none, Bool.false_eq_true, if_true, if_false, Bool.not_true, Bool.not_false, Bool.and_true, Bool.true_and, reduceCtorEq, and_true, true_and, and_false, false_and, Option.some.injEq, AV.fz.injEq, AV.ls.injEq, AV.lb.injEq, AV.dk.injEq, List.cons.injEq, PyData.int.injEq, PyData.list.injEq, PyData.tuple.injEq, exists_eq_left', exists_eq_left, List.length_cons, List.length_nil, Nat.reduceAdd, Int.reduceToNat, List.eraseIdx, isi_int_none, isi_int_bool, isi_int_int, isi_int_str, isi_int_list, isi_int_tuple, isi_bool_none, isi_bool_bool, isi_bool_int, isi_bool_str, isi_bool_list, isi_bool_tuple, isi_str_none, isi_str_bool, isi_str_int, isi_str_str, isi_str_list, isi_str_tuple, isi_tuple_none, isi_tuple_bool, isi_tuple_int, isi_tuple_str, isi_tuple_list, isi_tuple_tuple, isi_list_none, isi_list_bool, isi_list_int, isi_list_str, isi_list_list, isi_list_tuple, atI_0, atI_1, atI_2, ixN_0, ixN_1]
      refine ⟨_, _, rfl, rfl, shaped_bool _, shaped_bool _, ?_⟩
      rw [eqv_bool, if_neg (by decide)]
      refine ⟨_, _, rfl, rfl, shaped_bool _, shaped_bool _, ?_⟩
      rw [eqv_bool]
      simp -implicitDefEqProofs only [↓wVar_ap, ↓wC_ap, ↓wOp_ap, ↓wUn_ap, ↓wII_ap, ↓wIC_ap, ↓wIB_ap, ↓wNeg_ap, ↓wEqI_ap, ↓wEqD_ap, ↓wIsN_ap, ↓wAndV_ap, ↓wOrV_ap, ↓wNotV_ap, ↓wTest_ap, ↓wAnd_ap, ↓wOr_ap, ↓wNot_ap, ↓wIfE_ap, ↓wNil_ap, ↓wCons_ap, ↓wCB_ap, ↓wTup_ap, ↓wLst_ap, ↓wFrz_ap, ↓wCallP_ap, ↓wCallM_ap, ↓wBM_ap, ↓wBM0_ap, ↓wAppend_ap, ↓wExtend_ap, ↓wPopAt_ap, ↓wPop_ap, ↓wReverse_ap, ↓wIxL_ap, ↓wIxT_ap, ↓wNoPart_ap, ↓wPart_ap, ↓wSl_ap, ↓wSlL_ap, ↓wSlT_ap, ↓wLen_ap, ↓wListOf_ap, ↓wTupleOf_ap, ↓wAbs_ap, ↓wCatT_ap, ↓wCat_ap, ↓wRep_ap, ↓wInI_ap, ↓wRng1_ap, ↓wRng2_ap, ↓wRng3_ap, ↓wIList_ap, ↓wITup_ap, ↓wName_ap, ↓wgNil_ap, ↓wgCons_ap, ↓wgTup_ap, ↓wgLst_ap, ↓wgSub_ap, ↓wNext_ap, ↓wSeq_ap, ↓wAsg_ap, ↓wDrop_ap, ↓wRet_ap, ↓wRetN_ap, ↓wNever_ap, ↓wBreak_ap, ↓wCont_ap, ↓wPar_ap, ↓wAug_ap, ↓wIsT_ap, ↓wEnumT_ap, ↓wEnum_ap, ↓wChainF_ap, ↓wDNew_ap, ↓wDIn_ap, ↓wDGet_ap, ↓wDGet2_ap, ↓wDPut_ap, ↓wDUpd_ap, ↓wRg1_ap, ↓wRg2_ap, ↓wLstRg_ap, ↓wTupRg_ap, ↓wFrzV_ap, ↓wIxA_ap, ↓wTIdx_ap, ↓wLIdx_ap, ↓wAddD_ap, fMax, fMin, fSorted, ↓wIf_ap, ↓wThen_ap, ↓wFor_ap, ↓wWhile_ap, ↓wLc_ap, ↓wDc_ap, RetOk_fz, RetOk_ls, RetOk_rf, imm_int, imm_bool, imm_str, imm_none, ↓ifB_t, ↓ifB_f, ↓sto, ↓frz, stL, isNum_t, Int.reducePow, Int.reduceSub, Int.reduceAdd, Int.reduceMul, wInts, wBls, vl, vls, its, lsOf, oLs, oL, upL, fzs, keyOf, dkOf, isN, wipeS, ownFree, own_fz, own_un, own_rf, own_ls, own_lb, own_dk, List.map_cons, List.map_nil, List.all_cons, List.all_nil, List.set, List.getD_cons_zero, List.getD_cons_succ, List.getD_nil, List.getElem?_cons_zero, List.getElem?_cons_succ, Option.getD_some, List.getElem?_nil, Option.getD_none, Option.map_some, Option.map_none, Bool.false_eq_true, if_true, if_false, Bool.not_true, Bool.not_false, Bool.and_true, Bool.true_and, reduceCtorEq, and_true, true_and, and_false, false_and, Option.some.injEq, AV.fz.injEq, AV.ls.injEq, AV.lb.injEq, AV.dk.injEq, List.cons.injEq, PyData.int.injEq, PyData.list.injEq, PyData.tuple.injEq, exists_eq_left', exists_eq_left, List.length_cons, List.length_nil, Nat.reduceAdd, Int.reduceToNat, List.eraseIdx, isi_int_none, isi_int_bool, isi_int_int, isi_int_str, isi_int_list, isi_int_tuple, isi_bool_none, isi_bool_bool, isi_bool_int, isi_bool_str, isi_bool_list, isi_bool_tuple, isi_str_none, isi_str_bool, isi_str_int, isi_str_str, isi_str_list, isi_str_tuple, isi_tuple_none, isi_tuple_bool, isi_tuple_int, isi_tuple_str, isi_tuple_list, isi_tuple_tuple, isi_list_none, isi_list_bool, isi_list_int, isi_list_str, isi_list_list, isi_list_tuple, atI_0, atI_1, atI_2, ixN_0, ixN_1, beq_self_eq_true]
      refine ifB_i (fun q => ?_) (fun _ => ?_)
      · simp at q
      · simp -implicitDefEqProofs only [↓wVar_ap, ↓wC_ap, ↓wOp_ap, ↓wUn_ap, ↓wII_ap, ↓wIC_ap, ↓wIB_ap, ↓wNeg_ap, ↓wEqI_ap, ↓wEqD_ap, ↓wIsN_ap, ↓wAndV_ap, ↓wOrV_ap, ↓wNotV_ap, ↓wTest_ap, ↓wAnd_ap, ↓wOr_ap, ↓wNot_ap, ↓wIfE_ap, ↓wNil_ap, ↓wCons_ap, ↓wCB_ap, ↓wTup_ap, ↓wLst_ap, ↓wFrz_ap, ↓wCallP_ap, ↓wCallM_ap, ↓wBM_ap, ↓wBM0_ap, ↓wAppend_ap, ↓wExtend_ap, ↓wPopAt_ap, ↓wPop_ap, ↓wReverse_ap, ↓wIxL_ap, ↓wIxT_ap, ↓wNoPart_ap, ↓wPart_ap, ↓wSl_ap, ↓wSlL_ap, ↓wSlT_ap, ↓wLen_ap, ↓wListOf_ap, ↓wTupleOf_ap, ↓wAbs_ap, ↓wCatT_ap, ↓wCat_ap, ↓wRep_ap, ↓wInI_ap, ↓wRng1_ap, ↓wRng2_ap, ↓wRng3_ap, ↓wIList_ap, ↓wITup_ap, ↓wName_ap, ↓wgNil_ap, ↓wgCons_ap, ↓wgTup_ap, ↓wgLst_ap, ↓wgSub_ap, ↓wNext_ap, ↓wSeq_ap, ↓wAsg_ap, ↓wDrop_ap, ↓wRet_ap, ↓wRetN_ap, ↓wNever_ap, ↓wBreak_ap, ↓wCont_ap, ↓wPar_ap, ↓wAug_ap, ↓wIsT_ap, ↓wEnumT_ap, ↓wEnum_ap, ↓wChainF_ap, ↓wDNew_ap, ↓wDIn_ap, ↓wDGet_ap, ↓wDGet2_ap, ↓wDPut_ap, ↓wDUpd_ap, ↓wRg1_ap, ↓wRg2_ap, ↓wLstRg_ap, ↓wTupRg_ap, ↓wFrzV_ap, ↓wIxA_ap, ↓wTIdx_ap, ↓wLIdx_ap, ↓wAddD_ap, fMax, fMin, fSorted, ↓wIf_ap, ↓wThen_ap, ↓wFor_ap, ↓wWhile_ap, ↓wLc_ap, ↓wDc_ap, RetOk_fz, RetOk_ls, RetOk_rf, imm_int, imm_bool, imm_str, imm_none, ↓ifB_t, ↓ifB_f, ↓sto, ↓frz, stL, isNum_t, Int.reducePow, Int.reduceSub, Int.reduceAdd, Int.reduceMul, wInts, wBls, vl, vls, its, lsOf, oLs, oL, upL, fzs, keyOf, dkOf, isN, wipeS, ownFree, own_fz, own_un, own_rf, own_ls, own_lb, own_dk, List.map_cons, List.map_nil, List.all_cons, List.all_nil, List.set, List.getD_cons_zero, List.getD_cons_succ, List.getD_nil, List.getElem?_cons_zero, List.getElem?_cons_succ, Option.getD_some, List.getElem?_nil, Option.getD_none, Option.map_some, Option.map_none, Bool.false_eq_true, if_true, if_false, Bool.not_true, Bool.not_false, Bool.and_true, Bool.true_and, reduceCtorEq, and_true, true_and, and_false, false_and, Option.some.injEq, AV.fz.injEq, AV.ls.injEq, AV.lb.injEq, AV.dk.injEq, List.cons.injEq, PyData.int.injEq, PyData.list.injEq, PyData.tuple.injEq, exists_eq_left', exists_eq_left, List.length_cons, List.length_nil, Nat.reduceAdd, Int.reduceToNat, List.eraseIdx, isi_int_none, isi_int_bool, isi_int_int, isi_int_str, isi_int_list, isi_int_tuple, isi_bool_none, isi_bool_bool, isi_bool_int, isi_bool_str, isi_bool_list, isi_bool_tuple, isi_str_none, isi_str_bool, isi_str_int, isi_str_str, isi_str_list, isi_str_tuple, isi_tuple_none, isi_tuple_bool, isi_tuple_int, isi_tuple_str, isi_tuple_list, isi_tuple_tuple, isi_list_none, isi_list_bool, isi_list_int, isi_list_str, isi_list_list, isi_list_tuple, atI_0, atI_1, atI_2, ixN_0, ixN_1]
        refine ⟨⟨by omega, by omega⟩, ?_⟩
        rw [Int.toNat_natCast]
        refine lcB_i (fun i => List.replicate i (.bool true)) rfl (fun i d hd => ?_) ?_
        · have hi : i < b.length := by
            have := (List.getElem?_eq_some_iff.mp hd).1
            rwa [rng_len] at this
          rw [rng_get hi] at hd
          cases hd
          have e := List.getElem?_eq_getElem hi
          have e2 : atI b (0 + (i : Int)) = some b[i] := by rw [Int.zero_add]; exact atI_get e
          simp -implicitDefEqProofs only [↓wVar_ap, ↓wC_ap, ↓wOp_ap, ↓wUn_ap, ↓wII_ap, ↓wIC_ap, ↓wIB_ap, ↓wNeg_ap, ↓wEqI_ap, ↓wEqD_ap, ↓wIsN_ap, ↓wAndV_ap, ↓wOrV_ap, ↓wNotV_ap, ↓wTest_ap, ↓wAnd_ap, ↓wOr_ap, ↓wNot_ap, ↓wIfE_ap, ↓wNil_ap, ↓wCons_ap, ↓wCB_ap, ↓wTup_ap, ↓wLst_ap, ↓wFrz_ap, ↓wCallP_ap, ↓wCallM_ap, ↓wBM_ap, ↓wBM0_ap, ↓wAppend_ap, ↓wExtend_ap, ↓wPopAt_ap, ↓wPop_ap, ↓wReverse_ap, ↓wIxL_ap, ↓wIxT_ap, ↓wNoPart_ap, ↓wPart_ap, ↓wSl_ap, ↓wSlL_ap, ↓wSlT_ap, ↓wLen_ap, ↓wListOf_ap, ↓wTupleOf_ap, ↓wAbs_ap, ↓wCatT_ap, ↓wCat_ap, ↓wRep_ap, ↓wInI_ap, ↓wRng1_ap, ↓wRng2_ap, ↓wRng3_ap, ↓wIList_ap, ↓wITup_ap, ↓wName_ap, ↓wgNil_ap, ↓wgCons_ap, ↓wgTup_ap, ↓wgLst_ap, ↓wgSub_ap, ↓wNext_ap, ↓wSeq_ap, ↓wAsg_ap, ↓wDrop_ap, ↓wRet_ap, ↓wRetN_ap, ↓wNever_ap, ↓wBreak_ap, ↓wCont_ap, ↓wPar_ap, ↓wAug_ap, ↓wIsT_ap, ↓wEnumT_ap, ↓wEnum_ap, ↓wChainF_ap, ↓wDNew_ap, ↓wDIn_ap, ↓wDGet_ap, ↓wDGet2_ap, ↓wDPut_ap, ↓wDUpd_ap, ↓wRg1_ap, ↓wRg2_ap, ↓wLstRg_ap, ↓wTupRg_ap, ↓wFrzV_ap, ↓wIxA_ap, ↓wTIdx_ap, ↓wLIdx_ap, ↓wAddD_ap, fMax, fMin, fSorted, ↓wIf_ap, ↓wThen_ap, ↓wFor_ap, ↓wWhile_ap, ↓wLc_ap, ↓wDc_ap, RetOk_fz, RetOk_ls, RetOk_rf, imm_int, imm_bool, imm_str, imm_none, ↓ifB_t, ↓ifB_f, ↓sto, ↓frz, stL, isNum_t, Int.reducePow, Int.reduceSub, Int.reduceAdd, Int.reduceMul, wInts, wBls, vl, vls, its, lsOf, oLs, oL, upL, fzs, keyOf, dkOf, isN, wipeS, ownFree, own_fz, own_un, own_rf, own_ls, own_lb, own_dk, List.map_cons, List.map_nil, List.all_cons, List.all_nil, List.set, List.getD_cons_zero, List.getD_cons_succ, List.getD_nil, List.getElem?_cons_zero, List.getElem?_cons_succ, Option.getD_some, List.getElem?_nil, Option.getD_none, Option.map_some, Option.map_none, Bool.false_eq_true, if_true, if_false, Bool.not_true, Bool.not_false, Bool.and_true, Bool.true_and, reduceCtorEq, and_true, true_and, and_false, false_and, Option.some.injEq, AV.fz.injEq, AV.ls.injEq, AV.lb.injEq, AV.dk.injEq, List.cons.injEq, PyData.int.injEq, PyData.list.injEq, PyData.tuple.injEq, exists_eq_left', exists_eq_left, List.length_cons, List.length_nil, Nat.reduceAdd, Int.reduceToNat, List.eraseIdx, isi_int_none, isi_int_bool, isi_int_int, isi_int_str, isi_int_list, isi_int_tuple, isi_bool_none, isi_bool_bool, isi_bool_int, isi_bool_str, isi_bool_list, isi_bool_tuple, isi_str_none, isi_str_bool, isi_str_int, isi_str_str, isi_str_list, isi_str_tuple, isi_tuple_none, isi_tuple_bool, isi_tuple_int, isi_tuple_str, isi_tuple_list, isi_tuple_tuple, isi_list_none, isi_list_bool, isi_list_int, isi_list_str, isi_list_list, isi_list_tuple, atI_0, atI_1, atI_2, ixN_0, ixN_1]
          refine ⟨_, e2, _, e2, ⟨_, rfl, okA_at hb.2 e⟩, fun x hx => ?_⟩
          obtain rfl : x = .fz (.bool true) := hx
          simp -implicitDefEqProofs only [↓wVar_ap, ↓wC_ap, ↓wOp_ap, ↓wUn_ap, ↓wII_ap, ↓wIC_ap, ↓wIB_ap, ↓wNeg_ap, ↓wEqI_ap, ↓wEqD_ap, ↓wIsN_ap, ↓wAndV_ap, ↓wOrV_ap, ↓wNotV_ap, ↓wTest_ap, ↓wAnd_ap, ↓wOr_ap, ↓wNot_ap, ↓wIfE_ap, ↓wNil_ap, ↓wCons_ap, ↓wCB_ap, ↓wTup_ap, ↓wLst_ap, ↓wFrz_ap, ↓wCallP_ap, ↓wCallM_ap, ↓wBM_ap, ↓wBM0_ap, ↓wAppend_ap, ↓wExtend_ap, ↓wPopAt_ap, ↓wPop_ap, ↓wReverse_ap, ↓wIxL_ap, ↓wIxT_ap, ↓wNoPart_ap, ↓wPart_ap, ↓wSl_ap, ↓wSlL_ap, ↓wSlT_ap, ↓wLen_ap, ↓wListOf_ap, ↓wTupleOf_ap, ↓wAbs_ap, ↓wCatT_ap, ↓wCat_ap, ↓wRep_ap, ↓wInI_ap, ↓wRng1_ap, ↓wRng2_ap, ↓wRng3_ap, ↓wIList_ap, ↓wITup_ap, ↓wName_ap, ↓wgNil_ap, ↓wgCons_ap, ↓wgTup_ap, ↓wgLst_ap, ↓wgSub_ap, ↓wNext_ap, ↓wSeq_ap, ↓wAsg_ap, ↓wDrop_ap, ↓wRet_ap, ↓wRetN_ap, ↓wNever_ap, ↓wBreak_ap, ↓wCont_ap, ↓wPar_ap, ↓wAug_ap, ↓wIsT_ap, ↓wEnumT_ap, ↓wEnum_ap, ↓wChainF_ap, ↓wDNew_ap, ↓wDIn_ap, ↓wDGet_ap, ↓wDGet2_ap, ↓wDPut_ap, ↓wDUpd_ap, ↓wRg1_ap, ↓wRg2_ap, ↓wLstRg_ap, ↓wTupRg_ap, ↓wFrzV_ap, ↓wIxA_ap, ↓wTIdx_ap, ↓wLIdx_ap, ↓wAddD_ap, fMax, fMin, fSorted, ↓wIf_ap, ↓wThen_ap, ↓wFor_ap, ↓wWhile_ap, ↓wLc_ap, ↓wDc_ap, RetOk_fz, RetOk_ls, RetOk_rf, imm_int, imm_bool, imm_str, imm_none, ↓ifB_t, ↓ifB_f, ↓sto, ↓frz, stL, isNum_t, Int.reducePow, Int.reduceSub, Int.reduceAdd, Int.reduceMul, wInts, wBls, vl, vls, its, lsOf, oLs, oL, upL, fzs, keyOf, dkOf, isN, wipeS, ownFree, own_fz, own_un, own_rf, own_ls, own_lb, own_dk, List.map_cons, List.map_nil, List.all_cons, List.all_nil, List.set, List.getD_cons_zero, List.getD_cons_succ, List.getD_nil, List.getElem?_cons_zero, List.getElem?_cons_succ, Option.getD_some, List.getElem?_nil, Option.getD_none, Option.map_some, Option.map_none, Bool.false_eq_true, if_true, if_false, Bool.not_true, Bool.not_false, Bool.and_true, Bool.true_and, reduceCtorEq, and_true, true_and, and_false, false_and, Option.some.injEq, AV.fz.injEq, AV.ls.injEq, AV.lb.injEq, AV.dk.injEq, List.cons.injEq, PyData.int.injEq, PyData.list.injEq, PyData.tuple.injEq, exists_eq_left', exists_eq_left, List.length_cons, List.length_nil, Nat.reduceAdd, Int.reduceToNat, List.eraseIdx, isi_int_none, isi_int_bool, isi_int_int, isi_int_str, isi_int_list, isi_int_tuple, isi_bool_none, isi_bool_bool, isi_bool_int, isi_bool_str, isi_bool_list, isi_bool_tuple, isi_str_none, isi_str_bool, isi_str_int, isi_str_str, isi_str_list, isi_str_tuple, isi_tuple_none, isi_tuple_bool, isi_tuple_int, isi_tuple_str, isi_tuple_list, isi_tuple_tuple, isi_list_none, isi_list_bool, isi_list_int, isi_list_str, isi_list_list, isi_list_tuple, atI_0, atI_1, atI_2, ixN_0, ixN_1]
          refine ⟨by rw [List.length_replicate]; omega, ?_⟩
          rw [← List.replicate_succ']
        · rw [rng_len]
          simp -implicitDefEqProofs only [↓wVar_ap, ↓wC_ap, ↓wOp_ap, ↓wUn_ap, ↓wII_ap, ↓wIC_ap, ↓wIB_ap, ↓wNeg_ap, ↓wEqI_ap, ↓wEqD_ap, ↓wIsN_ap, ↓wAndV_ap, ↓wOrV_ap, ↓wNotV_ap, ↓wTest_ap, ↓wAnd_ap, ↓wOr_ap, ↓wNot_ap, ↓wIfE_ap, ↓wNil_ap, ↓wCons_ap, ↓wCB_ap, ↓wTup_ap, ↓wLst_ap, ↓wFrz_ap, ↓wCallP_ap, ↓wCallM_ap, ↓wBM_ap, ↓wBM0_ap, ↓wAppend_ap, ↓wExtend_ap, ↓wPopAt_ap, ↓wPop_ap, ↓wReverse_ap, ↓wIxL_ap, ↓wIxT_ap, ↓wNoPart_ap, ↓wPart_ap, ↓wSl_ap, ↓wSlL_ap, ↓wSlT_ap, ↓wLen_ap, ↓wListOf_ap, ↓wTupleOf_ap, ↓wAbs_ap, ↓wCatT_ap, ↓wCat_ap, ↓wRep_ap, ↓wInI_ap, ↓wRng1_ap, ↓wRng2_ap, ↓wRng3_ap, ↓wIList_ap, ↓wITup_ap, ↓wName_ap, ↓wgNil_ap, ↓wgCons_ap, ↓wgTup_ap, ↓wgLst_ap, ↓wgSub_ap, ↓wNext_ap, ↓wSeq_ap, ↓wAsg_ap, ↓wDrop_ap, ↓wRet_ap, ↓wRetN_ap, ↓wNever_ap, ↓wBreak_ap, ↓wCont_ap, ↓wPar_ap, ↓wAug_ap, ↓wIsT_ap, ↓wEnumT_ap, ↓wEnum_ap, ↓wChainF_ap, ↓wDNew_ap, ↓wDIn_ap, ↓wDGet_ap, ↓wDGet2_ap, ↓wDPut_ap, ↓wDUpd_ap, ↓wRg1_ap, ↓wRg2_ap, ↓wLstRg_ap, ↓wTupRg_ap, ↓wFrzV_ap, ↓wIxA_ap, ↓wTIdx_ap, ↓wLIdx_ap, ↓wAddD_ap, fMax, fMin, fSorted, ↓wIf_ap, ↓wThen_ap, ↓wFor_ap, ↓wWhile_ap, ↓wLc_ap, ↓wDc_ap, RetOk_fz, RetOk_ls, RetOk_rf, imm_int, imm_bool, imm_str, imm_none, ↓ifB_t, ↓ifB_f, ↓sto, ↓frz, stL, isNum_t, Int.reducePow, Int.reduceSub, Int.reduceAdd, Int.reduceMul, wInts, wBls, vl, vls, its, lsOf, oLs, oL, upL, fzs, keyOf, dkOf, isN, wipeS, ownFree, own_fz, own_un, own_rf, own_ls, own_lb, own_dk, List.map_cons, List.map_nil, List.all_cons, List.all_nil, List.set, List.getD_cons_zero, List.getD_cons_succ, List.getD_nil, List.getElem?_cons_zero, List.getElem?_cons_succ, Option.getD_some, List.getElem?_nil, Option.getD_none, Option.map_some, Option.map_none, Bool.false_eq_true, if_true, if_false, Bool.not_true, Bool.not_false, Bool.and_true, Bool.true_and, reduceCtorEq, and_true, true_and, and_false, false_and, Option.some.injEq, AV.fz.injEq, AV.ls.injEq, AV.lb.injEq, AV.dk.injEq, List.cons.injEq, PyData.int.injEq, PyData.list.injEq, PyData.tuple.injEq, exists_eq_left', exists_eq_left, List.length_cons, List.length_nil, Nat.reduceAdd, Int.reduceToNat, List.eraseIdx, isi_int_none, isi_int_bool, isi_int_int, isi_int_str, isi_int_list, isi_int_tuple, isi_bool_none, isi_bool_bool, isi_bool_int, isi_bool_str, isi_bool_list, isi_bool_tuple, isi_str_none, isi_str_bool, isi_str_int, isi_str_str, isi_str_list, isi_str_tuple, isi_tuple_none, isi_tuple_bool, isi_tuple_int, isi_tuple_str, isi_tuple_list, isi_tuple_tuple, isi_list_none, isi_list_bool, isi_list_int, isi_list_str, isi_list_list, isi_list_tuple, atI_0, atI_1, atI_2, ixN_0, ixN_1]
          refine ⟨_, rep_all _ _, ?_⟩
          rw [rep_alltrue]
          rfl
    | tuple b =>
      have hb : b.length ≤ 1000 ∧ b.all (okA n) = true := by
        have q : (decide (b.length ≤ 1000) && b.all (okA n)) = true := h
        rw [Bool.and_eq_true, decide_eq_true_eq] at q
        exact q
      simp -implicitDefEqProofs only [↓wVar_ap, ↓wC_ap, ↓wOp_ap, ↓wUn_ap, ↓wII_ap, ↓wIC_ap, ↓wIB_ap, ↓wNeg_ap, ↓wEqI_ap, ↓wEqD_ap, ↓wIsN_ap, ↓wAndV_ap, ↓wOrV_ap, ↓wNotV_ap, ↓wTest_ap, ↓wAnd_ap, ↓wOr_ap, ↓wNot_ap, ↓wIfE_ap, ↓wNil_ap, ↓wCons_ap, ↓wCB_ap, ↓wTup_ap, ↓wLst_ap, ↓wFrz_ap, ↓wCallP_ap, ↓wCallM_ap, ↓wBM_ap, ↓wBM0_ap, ↓wAppend_ap, ↓wExtend_ap, ↓wPopAt_ap, ↓wPop_ap, ↓wReverse_ap, ↓wIxL_ap, ↓wIxT_ap, ↓wNoPart_ap, ↓wPart_ap, ↓wSl_ap, ↓wSlL_ap, ↓wSlT_ap, ↓wLen_ap, ↓wListOf_ap, ↓wTupleOf_ap, ↓wAbs_ap, ↓wCatT_ap, ↓wCat_ap, ↓wRep_ap, ↓wInI_ap, ↓wRng1_ap, ↓wRng2_ap, ↓wRng3_ap, ↓wIList_ap, ↓wITup_ap, ↓wName_ap, ↓wgNil_ap, ↓wgCons_ap, ↓wgTup_ap, ↓wgLst_ap, ↓wgSub_ap, ↓wNext_ap, ↓wSeq_ap, ↓wAsg_ap, ↓wDrop_ap, ↓wRet_ap, ↓wRetN_ap, ↓wNever_ap, ↓wBreak_ap, ↓wCont_ap, ↓wPar_ap, ↓wAug_ap, ↓wIsT_ap, ↓wEnumT_ap, ↓wEnum_ap, ↓wChainF_ap, ↓wDNew_ap, ↓wDIn_ap, ↓wDGet_ap, ↓wDGet2_ap, ↓wDPut_ap, ↓wDUpd_ap, ↓wRg1_ap, ↓wRg2_ap, ↓wLstRg_ap, ↓wTupRg_ap, ↓wFrzV_ap, ↓wIxA_ap, ↓wTIdx_ap, ↓wLIdx_ap, ↓wAddD_ap, fMax, fMin, fSorted, ↓wIf_ap, ↓wThen_ap, ↓wFor_ap, ↓wWhile_ap, ↓wLc_ap, ↓wDc_ap, RetOk_fz, RetOk_ls, RetOk_rf, imm_int, imm_bool, imm_str, imm_none, ↓ifB_t, ↓ifB_f, ↓sto, ↓frz, stL, isNum_t, Int.reducePow, Int.reduceSub, Int.reduceAdd, Int.reduceMul, wInts, wBls, vl, vls, its, lsOf, oLs, oL, upL, fzs, keyOf, dkOf, isN, wipeS, ownFree, own_fz, own_un, own_rf, own_ls, own_lb, own_dk, List.map_cons, List.map_nil, List.all_cons, List.all_nil, List.set, List.getD_cons_zero, List.getD_cons_succ, List.getD_nil, List.getElem?_cons_zero, List.getElem?_cons_succ, Option.getD_some, List.getElem?_nil, Option.getD_none, Option.map_some, Option.map_none, Bool.false_eq_true, if_true, if_false, Bool.not_true, Bool.not_false, Bool.and_true, Bool.true_and, reduceCtorEq, and_true, true_and, and_false, false_and, Option.some.injEq, AV.fz.injEq, AV.ls.injEq, AV.lb.injEq, AV.dk.injEq, List.cons.injEq, PyData.int.injEq, PyData.list.injEq, PyData.tuple.injEq, exists_eq_left', exists_eq_left, List.length_cons, List.length_nil, Nat.reduceAdd, Int.reduceToNat, List.eraseIdx, isi_int_none, isi_int_bool, isi_int_int, isi_int_str, isi_int_list, isi_int_tuple, isi_bool_none, isi_bool_bool, isi_bool_int, isi_bool_str, isi_bool_list, isi_bool_tuple, isi_str_none, isi_str_bool, isi_str_int, isi_str_str, isi_str_list, isi_str_tuple, isi_tuple_none, isi_tuple_bool, isi_tuple_int, isi_tuple_str, isi_tuple_list, isi_tuple_tuple, isi_list_none, isi_list_bool, isi_list_int, isi_list_str, isi_list_list, isi_list_tuple, atI_0, atI_1, atI_2, ixN_0, ixN_1]
      refine ⟨_, _, rfl, rfl, shaped_bool _, shaped_bool _, ?_⟩
      rw [eqv_bool, if_neg (by decide)]
      refine ⟨_, _, rfl, rfl, shaped_bool _, shaped_bool _, ?_⟩
      rw [eqv_bool]
      simp -implicitDefEqProofs only [↓wVar_ap, ↓wC_ap, ↓wOp_ap, ↓wUn_ap, ↓wII_ap, ↓wIC_ap, ↓wIB_ap, ↓wNeg_ap, ↓wEqI_ap, ↓wEqD_ap, ↓wIsN_ap, ↓wAndV_ap, ↓wOrV_ap, ↓wNotV_ap, ↓wTest_ap, ↓wAnd_ap, ↓wOr_ap, ↓wNot_ap, ↓wIfE_ap, ↓wNil_ap, ↓wCons_ap, ↓wCB_ap, ↓wTup_ap, ↓wLst_ap, ↓wFrz_ap, ↓wCallP_ap, ↓wCallM_ap, ↓wBM_ap, ↓wBM0_ap, ↓wAppend_ap, ↓wExtend_ap, ↓wPopAt_ap, ↓wPop_ap, ↓wReverse_ap, ↓wIxL_ap, ↓wIxT_ap, ↓wNoPart_ap, ↓wPart_ap, ↓wSl_ap, ↓wSlL_ap, ↓wSlT_ap, ↓wLen_ap, ↓wListOf_ap, ↓wTupleOf_ap, ↓wAbs_ap, ↓wCatT_ap, ↓wCat_ap, ↓wRep_ap, ↓wInI_ap, ↓wRng1_ap, ↓wRng2_ap, ↓wRng3_ap, ↓wIList_ap, ↓wITup_ap, ↓wName_ap, ↓wgNil_ap, ↓wgCons_ap, ↓wgTup_ap, ↓wgLst_ap, ↓wgSub_ap, ↓wNext_ap, ↓wSeq_ap, ↓wAsg_ap, ↓wDrop_ap, ↓wRet_ap, ↓wRetN_ap, ↓wNever_ap, ↓wBreak_ap, ↓wCont_ap, ↓wPar_ap, ↓wAug_ap, ↓wIsT_ap, ↓wEnumT_ap, ↓wEnum_ap, ↓wChainF_ap, ↓wDNew_ap, ↓wDIn_ap, ↓wDGet_ap, ↓wDGet2_ap, ↓wDPut_ap, ↓wDUpd_ap, ↓wRg1_ap, ↓wRg2_ap, ↓wLstRg_ap, ↓wTupRg_ap, ↓wFrzV_ap, ↓wIxA_ap, ↓wTIdx_ap, ↓wLIdx_ap, ↓wAddD_ap, fMax, fMin, fSorted, ↓wIf_ap, ↓wThen_ap, ↓wFor_ap, ↓wWhile_ap, ↓wLc_ap, ↓wDc_ap, RetOk_fz, RetOk_ls, RetOk_rf, imm_int, imm_bool, imm_str, imm_none, ↓ifB_t, ↓ifB_f, ↓sto, ↓frz, stL, isNum_t, Int.reducePow, Int.reduceSub, Int.reduceAdd, Int.reduceMul, wInts, wBls, vl, vls, its, lsOf, oLs, oL, upL, fzs, keyOf, dkOf, isN, wipeS, ownFree, own_fz, own_un, own_rf, own_ls, own_lb, own_dk, List.map_cons, List.map_nil, List.all_cons, List.all_nil, List.set, List.getD_cons_zero, List.getD_cons_succ, List.getD_nil, List.getElem?_cons_zero, List.getElem?_cons_succ, Option.getD_some, List.getElem?_nil, Option.getD_none, Option.map_some, Option.map_none, Bool.false_eq_true, if_true, if_false, Bool.not_true, Bool.not_false, Bool.and_true, Bool.true_and, reduceCtorEq, and_true, true_and, and_false, false_and, Option.some.injEq, AV.fz.injEq, AV.ls.injEq, AV.lb.injEq, AV.dk.injEq, List.cons.injEq, PyData.int.injEq, PyData.list.injEq, PyData.tuple.injEq, exists_eq_left', exists_eq_left, List.length_cons, List.length_nil, Nat.reduceAdd, Int.reduceToNat, List.eraseIdx, isi_int_none, isi_int_bool, isi_int_int, isi_int_str, isi_int_list, isi_int_tuple, isi_bool_none, isi_bool_bool, isi_bool_int, isi_bool_str, isi_bool_list, isi_bool_tuple, isi_str_none, isi_str_bool, isi_str_int, isi_str_str, isi_str_list, isi_str_tuple, isi_tuple_none, isi_tuple_bool, isi_tuple_int, isi_tuple_str, isi_tuple_list, isi_tuple_tuple, isi_list_none, isi_list_bool, isi_list_int, isi_list_str, isi_list_list, isi_list_tuple, atI_0, atI_1, atI_2, ixN_0, ixN_1, beq_self_eq_true]
      refine ifB_i (fun q => ?_) (fun _ => ?_)
      · simp at q
      · simp -implicitDefEqProofs only [↓wVar_ap, ↓wC_ap, ↓wOp_ap, ↓wUn_ap, ↓wII_ap, ↓wIC_ap, ↓wIB_ap, ↓wNeg_ap, ↓wEqI_ap, ↓wEqD_ap, ↓wIsN_ap, ↓wAndV_ap, ↓wOrV_ap, ↓wNotV_ap, ↓wTest_ap, ↓wAnd_ap, ↓wOr_ap, ↓wNot_ap, ↓wIfE_ap, ↓wNil_ap, ↓wCons_ap, ↓wCB_ap, ↓wTup_ap, ↓wLst_ap, ↓wFrz_ap, ↓wCallP_ap, ↓wCallM_ap, ↓wBM_ap, ↓wBM0_ap, ↓wAppend_ap, ↓wExtend_ap, ↓wPopAt_ap, ↓wPop_ap, ↓wReverse_ap, ↓wIxL_ap, ↓wIxT_ap, ↓wNoPart_ap, ↓wPart_ap, ↓wSl_ap, ↓wSlL_ap, ↓wSlT_ap, ↓wLen_ap, ↓wListOf_ap, ↓wTupleOf_ap, ↓wAbs_ap, ↓wCatT_ap, ↓wCat_ap, ↓wRep_ap, ↓wInI_ap, ↓wRng1_ap, ↓wRng2_ap, ↓wRng3_ap, ↓wIList_ap, ↓wITup_ap, ↓wName_ap, ↓wgNil_ap, ↓wgCons_ap, ↓wgTup_ap, ↓wgLst_ap, ↓wgSub_ap, ↓wNext_ap, ↓wSeq_ap, ↓wAsg_ap, ↓wDrop_ap, ↓wRet_ap, ↓wRetN_ap, ↓wNever_ap, ↓wBreak_ap, ↓wCont_ap, ↓wPar_ap, ↓wAug_ap, ↓wIsT_ap, ↓wEnumT_ap, ↓wEnum_ap, ↓wChainF_ap, ↓wDNew_ap, ↓wDIn_ap, ↓wDGet_ap, ↓wDGet2_ap, ↓wDPut_ap, ↓wDUpd_ap, ↓wRg1_ap, ↓wRg2_ap, ↓wLstRg_ap, ↓wTupRg_ap, ↓wFrzV_ap, ↓wIxA_ap, ↓wTIdx_ap, ↓wLIdx_ap, ↓wAddD_ap, fMax, fMin, fSorted, ↓wIf_ap, ↓wThen_ap, ↓wFor_ap, ↓wWhile_ap, ↓wLc_ap, ↓wDc_ap, RetOk_fz, RetOk_ls, RetOk_rf, imm_int, imm_bool, imm_str, imm_none, ↓ifB_t, ↓ifB_f, ↓sto, ↓frz, stL, isNum_t, Int.reducePow, Int.reduceSub, Int.reduceAdd, Int.reduceMul, wInts, wBls, vl, vls, its, lsOf, oLs, oL, upL, fzs, keyOf, dkOf, isN, wipeS, ownFree, own_fz, own_un, own_rf, own_ls, own_lb, own_dk, List.map_cons, List.map_nil, List.all_cons, List.all_nil, List.set, List.getD_cons_zero, List.getD_cons_succ, List.getD_nil, List.getElem?_cons_zero, List.getElem?_cons_succ, Option.getD_some, List.getElem?_nil, Option.getD_none, Option.map_some, Option.map_none, Bool.false_eq_true, if_true, if_false, Bool.not_true, Bool.not_false, Bool.and_true, Bool.true_and, reduceCtorEq, and_true, true_and, and_false, false_and, Option.some.injEq, AV.fz.injEq, AV.ls.injEq, AV.lb.injEq, AV.dk.injEq, List.cons.injEq, PyData.int.injEq, PyData.list.injEq, PyData.tuple.injEq, exists_eq_left', exists_eq_left, List.length_cons, List.length_nil, Nat.reduceAdd, Int.reduceToNat, List.eraseIdx, isi_int_none, isi_int_bool, isi_int_int, isi_int_str, isi_int_list, isi_int_tuple, isi_bool_none, isi_bool_bool, isi_bool_int, isi_bool_str, isi_bool_list, isi_bool_tuple, isi_str_none, isi_str_bool, isi_str_int, isi_str_str, isi_str_list, isi_str_tuple, isi_tuple_none, isi_tuple_bool, isi_tuple_int, isi_tuple_str, isi_tuple_list, isi_tuple_tuple, isi_list_none, isi_list_bool, isi_list_int, isi_list_str, isi_list_list, isi_list_tuple, atI_0, atI_1, atI_2, ixN_0, ixN_1]
        refine ⟨⟨by omega, by omega⟩, ?_⟩
        rw [Int.toNat_natCast]
        refine lcB_i (fun i => List.replicate i (.bool true)) rfl (fun i d hd => ?_) ?_
        · have hi : i < b.length := by
            have := (List.getElem?_eq_some_iff.mp hd).1
            rwa [rng_len] at this
          rw [rng_get hi] at hd
          cases hd
          have e := List.getElem?_eq_getElem hi
          have e2 : atI b (0 + (i : Int)) = some b[i] := by rw [Int.zero_add]; exact atI_get e
          simp -implicitDefEqProofs only [↓wVar_ap, ↓wC_ap, ↓wOp_ap, ↓wUn_ap, ↓wII_ap, ↓wIC_ap, ↓wIB_ap, ↓wNeg_ap, ↓wEqI_ap, ↓wEqD_ap, ↓wIsN_ap, ↓wAndV_ap, ↓wOrV_ap, ↓wNotV_ap, ↓wTest_ap, ↓wAnd_ap, ↓wOr_ap, ↓wNot_ap, ↓wIfE_ap, ↓wNil_ap, ↓wCons_ap, ↓wCB_ap, ↓wTup_ap, ↓wLst_ap, ↓wFrz_ap, ↓wCallP_ap, ↓wCallM_ap, ↓wBM_ap, ↓wBM0_ap, ↓wAppend_ap, ↓wExtend_ap, ↓wPopAt_ap, ↓wPop_ap, ↓wReverse_ap, ↓wIxL_ap, ↓wIxT_ap, ↓wNoPart_ap, ↓wPart_ap, ↓wSl_ap, ↓wSlL_ap, ↓wSlT_ap, ↓wLen_ap, ↓wListOf_ap, ↓wTupleOf_ap, ↓wAbs_ap, ↓wCatT_ap, ↓wCat_ap, ↓wRep_ap, ↓wInI_ap, ↓wRng1_ap, ↓wRng2_ap, ↓wRng3_ap, ↓wIList_ap, ↓wITup_ap, ↓wName_ap, ↓wgNil_ap, ↓wgCons_ap, ↓wgTup_ap, ↓wgLst_ap, ↓wgSub_ap, ↓wNext_ap, ↓wSeq_ap, ↓wAsg_ap, ↓wDrop_ap, ↓wRet_ap, ↓wRetN_ap, ↓wNever_ap, ↓wBreak_ap, ↓wCont_ap, ↓wPar_ap, ↓wAug_ap, ↓wIsT_ap, ↓wEnumT_ap, ↓wEnum_ap, ↓wChainF_ap, ↓wDNew_ap, ↓wDIn_ap, ↓wDGet_ap, ↓wDGet2_ap, ↓wDPut_ap, ↓wDUpd_ap, ↓wRg1_ap, ↓wRg2_ap, ↓wLstRg_ap, ↓wTupRg_ap, ↓wFrzV_ap, ↓wIxA_ap, ↓wTIdx_ap, ↓wLIdx_ap, ↓wAddD_ap, fMax, fMin, fSorted, ↓wIf_ap, ↓wThen_ap, ↓wFor_ap, ↓wWhile_ap, ↓wLc_ap, ↓wDc_ap, RetOk_fz, RetOk_ls, RetOk_rf, imm_int, imm_bool, imm_str, imm_none, ↓ifB_t, ↓ifB_f, ↓sto, ↓frz, stL, isNum_t, Int.reducePow, Int.reduceSub, Int.reduceAdd, Int.reduceMul, wInts, wBls, vl, vls, its, lsOf, oLs, oL, upL, fzs, keyOf, dkOf, isN, wipeS, ownFree, own_fz, own_un, own_rf, own_ls, own_lb, own_dk, List.map_cons, List.map_nil, List.all_cons, List.all_nil, List.set, List.getD_cons_zero, List.getD_cons_succ, List.getD_nil, List.getElem?_cons_zero, List.getElem?_cons_succ, Option.getD_some, List.getElem?_nil, Option.getD_none, Option.map_some, Option.map_none, Bool.false_eq_true, if_true, if_false, Bool.not_true, Bool.not_false, Bool.and_true, Bool.true_and, reduceCtorEq, and_true, true_and, and_false, false_and, Option.some.injEq, AV.fz.injEq, AV.ls.injEq, AV.lb.injEq, AV.dk.injEq, List.cons.injEq, PyData.int.injEq, PyData.list.injEq, PyData.tuple.injEq, exists_eq_left', exists_eq_left, List.length_cons, List.length_nil, Nat.reduceAdd, Int.reduceToNat, List.eraseIdx, isi_int_none, isi_int_bool, isi_int_int, isi_int_str, isi_int_list, isi_int_tuple, isi_bool_none, isi_bool_bool, isi_bool_int, isi_bool_str, isi_bool_list, isi_bool_tuple, isi_str_none, isi_str_bool, isi_str_int, isi_str_str, isi_str_list, isi_str_tuple, isi_tuple_none, isi_tuple_bool, isi_tuple_int, isi_tuple_str, isi_tuple_list, isi_tuple_tuple, isi_list_none, isi_list_bool, isi_list_int, isi_list_str, isi_list_list, isi_list_tuple, atI_0, atI_1, atI_2, ixN_0, ixN_1]
          refine ⟨_, e2, _, e2, ⟨_, rfl, okA_at hb.2 e⟩, fun x hx => ?_⟩
          obtain rfl : x = .fz (.bool true) := hx
          simp -implicitDefEqProofs only [↓wVar_ap, ↓wC_ap, ↓wOp_ap, ↓wUn_ap, ↓wII_ap, ↓wIC_ap, ↓wIB_ap, ↓wNeg_ap, ↓wEqI_ap, ↓wEqD_ap, ↓wIsN_ap, ↓wAndV_ap, ↓wOrV_ap, ↓wNotV_ap, ↓wTest_ap, ↓wAnd_ap, ↓wOr_ap, ↓wNot_ap, ↓wIfE_ap, ↓wNil_ap, ↓wCons_ap, ↓wCB_ap, ↓wTup_ap, ↓wLst_ap, ↓wFrz_ap, ↓wCallP_ap, ↓wCallM_ap, ↓wBM_ap, ↓wBM0_ap, ↓wAppend_ap, ↓wExtend_ap, ↓wPopAt_ap, ↓wPop_ap, ↓wReverse_ap, ↓wIxL_ap, ↓wIxT_ap, ↓wNoPart_ap, ↓wPart_ap, ↓wSl_ap, ↓wSlL_ap, ↓wSlT_ap, ↓wLen_ap, ↓wListOf_ap, ↓wTupleOf_ap, ↓wAbs_ap, ↓wCatT_ap, ↓wCat_ap, ↓wRep_ap, ↓wInI_ap, ↓wRng1_ap, ↓wRng2_ap, ↓wRng3_ap, ↓wIList_ap, ↓wITup_ap, ↓wName_ap, ↓wgNil_ap, ↓wgCons_ap, ↓wgTup_ap, ↓wgLst_ap, ↓wgSub_ap, ↓wNext_ap, ↓wSeq_ap, ↓wAsg_ap, ↓wDrop_ap, ↓wRet_ap, ↓wRetN_ap, ↓wNever_ap, ↓wBreak_ap, ↓wCont_ap, ↓wPar_ap, ↓wAug_ap, ↓wIsT_ap, ↓wEnumT_ap, ↓wEnum_ap, ↓wChainF_ap, ↓wDNew_ap, ↓wDIn_ap, ↓wDGet_ap, ↓wDGet2_ap, ↓wDPut_ap, ↓wDUpd_ap, ↓wRg1_ap, ↓wRg2_ap, ↓wLstRg_ap, ↓wTupRg_ap, ↓wFrzV_ap, ↓wIxA_ap, ↓wTIdx_ap, ↓wLIdx_ap, ↓wAddD_ap, fMax, fMin, fSorted, ↓wIf_ap, ↓wThen_ap, ↓wFor_ap, ↓wWhile_ap, ↓wLc_ap, ↓wDc_ap, RetOk_fz, RetOk_ls, RetOk_rf, imm_int, imm_bool, imm_str, imm_none, ↓ifB_t, ↓ifB_f, ↓sto, ↓frz, stL, isNum_t, Int.reducePow, Int.reduceSub, Int.reduceAdd, Int.reduceMul, wInts, wBls, vl, vls, its, lsOf, oLs, oL, upL, fzs, keyOf, dkOf, isN, wipeS, ownFree, own_fz, own_un, own_rf, own_ls, own_lb, own_dk, List.map_cons, List.map_nil, List.all_cons, List.all_nil, List.set, List.getD_cons_zero, List.getD_cons_succ, List.getD_nil, List.getElem?_cons_zero, List.getElem?_cons_succ, Option.getD_some, List.getElem?_nil, Option.getD_none, Option.map_some, Option.map_none, Bool.false_eq_true, if_true, if_false, Bool.not_true, Bool.not_false, Bool.and_true, Bool.true_and, reduceCtorEq, and_true, true_and, and_false, false_and, Option.some.injEq, AV.fz.injEq, AV.ls.injEq, AV.lb.injEq, AV.dk.injEq, List.cons.injEq, PyData.int.injEq, PyData.list.injEq, PyData.tuple.injEq, exists_eq_left', exists_eq_left, List.length_cons, List.length_nil, Nat.reduceAdd, Int.reduceToNat, List.eraseIdx, isi_int_none, isi_int_bool, isi_int_int, isi_int_str, isi_int_list, isi_int_tuple, isi_bool_none, isi_bool_bool, isi_bool_int, isi_bool_str, isi_bool_list, isi_bool_tuple, isi_str_none, isi_str_bool, isi_str_int, isi_str_str, isi_str_list, isi_str_tuple, isi_tuple_none, isi_tuple_bool, isi_tuple_int, isi_tuple_str, isi_tuple_list, isi_tuple_tuple, isi_list_none, isi_list_bool, isi_list_int, isi_list_str, isi_list_list, isi_list_tuple, atI_0, atI_1, atI_2, ixN_0, ixN_1]
          refine ⟨by rw [List.length_replicate]; omega, ?_⟩
          rw [← List.replicate_succ']
        · rw [rng_len]
          simp -implicitDefEqProofs only [↓wVar_ap, ↓wC_ap, ↓wOp_ap, ↓wUn_ap, ↓wII_ap, ↓wIC_ap, ↓wIB_ap, ↓wNeg_ap, ↓wEqI_ap, ↓wEqD_ap, ↓wIsN_ap, ↓wAndV_ap, ↓wOrV_ap, ↓wNotV_ap, ↓wTest_ap, ↓wAnd_ap, ↓wOr_ap, ↓wNot_ap, ↓wIfE_ap, ↓wNil_ap, ↓wCons_ap, ↓wCB_ap, ↓wTup_ap, ↓wLst_ap, ↓wFrz_ap, ↓wCallP_ap, ↓wCallM_ap, ↓wBM_ap, ↓wBM0_ap, ↓wAppend_ap, ↓wExtend_ap, ↓wPopAt_ap, ↓wPop_ap, ↓wReverse_ap, ↓wIxL_ap, ↓wIxT_ap, ↓wNoPart_ap, ↓wPart_ap, ↓wSl_ap, ↓wSlL_ap, ↓wSlT_ap, ↓wLen_ap, ↓wListOf_ap, ↓wTupleOf_ap, ↓wAbs_ap, ↓wCatT_ap, ↓wCat_ap, ↓wRep_ap, ↓wInI_ap, ↓wRng1_ap, ↓wRng2_ap, ↓wRng3_ap, ↓wIList_ap, ↓wITup_ap, ↓wName_ap, ↓wgNil_ap, ↓wgCons_ap, ↓wgTup_ap, ↓wgLst_ap, ↓wgSub_ap, ↓wNext_ap, ↓wSeq_ap, ↓wAsg_ap, ↓wDrop_ap, ↓wRet_ap, ↓wRetN_ap, ↓wNever_ap, ↓wBreak_ap, ↓wCont_ap, ↓wPar_ap, ↓wAug_ap, ↓wIsT_ap, ↓wEnumT_ap, ↓wEnum_ap, ↓wChainF_ap, ↓wDNew_ap, ↓wDIn_ap, ↓wDGet_ap, ↓wDGet2_ap, ↓wDPut_ap, ↓wDUpd_ap, ↓wRg1_ap, ↓wRg2_ap, ↓wLstRg_ap, ↓wTupRg_ap, ↓wFrzV_ap, ↓wIxA_ap, ↓wTIdx_ap, ↓wLIdx_ap, ↓wAddD_ap, fMax, fMin, fSorted, ↓wIf_ap, ↓wThen_ap, ↓wFor_ap, ↓wWhile_ap, ↓wLc_ap, ↓wDc_ap, RetOk_fz, RetOk_ls, RetOk_rf, imm_int, imm_bool, imm_str, imm_none, ↓ifB_t, ↓ifB_f, ↓sto, ↓frz, stL, isNum_t, Int.reducePow, Int.reduceSub, Int.reduceAdd, Int.reduceMul, wInts, wBls, vl, vls, its, lsOf, oLs, oL, upL, fzs, keyOf, dkOf, isN, wipeS, ownFree, own_fz, own_un, own_rf, own_ls, own_lb, own_dk, List.map_cons, List.map_nil, List.all_cons, List.all_nil, List.set, List.getD_cons_zero, List.getD_cons_succ, List.getD_nil, List.getElem?_cons_zero, List.getElem?_cons_succ, Option.getD_some, List.getElem?_nil, Option.getD_none, Option.map_some, Option.map_none, Bool.false_eq_true, if_true, if_false, Bool.not_true, Bool.not_false, Bool.and_true, Bool.true_and, reduceCtorEq, and_true, true_and, and_false, false_and, Option.some.injEq, AV.fz.injEq, AV.ls.injEq, AV.lb.injEq, AV.dk.injEq, List.cons.injEq, PyData.int.injEq, PyData.list.injEq, PyData.tuple.injEq, exists_eq_left', exists_eq_left, List.length_cons, List.length_nil, Nat.reduceAdd, Int.reduceToNat, List.eraseIdx, isi_int_none, isi_int_bool, isi_int_int, isi_int_str, isi_int_list, isi_int_tuple, isi_bool_none, isi_bool_bool, isi_bool_int, isi_bool_str, isi_bool_list, isi_bool_tuple, isi_str_none, isi_str_bool, isi_str_int, isi_str_str, isi_str_list, isi_str_tuple, isi_tuple_none, isi_tuple_bool, isi_tuple_int, isi_tuple_str, isi_tuple_list, isi_tuple_tuple, isi_list_none, isi_list_bool, isi_list_int, isi_list_str, isi_list_list, isi_list_tuple, atI_0, atI_1, atI_2, ixN_0, ixN_1]
          refine ⟨_, rep_all _ _, ?_⟩
          rw [rep_alltrue]
          rfl⟩
def A_parts : (List Nat) × (Nat) × (Nat) → List D := fun (c, i, j) => [.tuple (nts c), .int (i : Int), .int (j : Int)]
def pre_parts : (List Nat) × (Nat) × (Nat) → Prop := fun (c, i, j) => (IsC c) ∧ (c.length ≤ 12) ∧ (i < c.length) ∧ (j < c.length) ∧ (i ≠ j)
def post_parts : (List Nat) × (Nat) × (Nat) → AV → Prop := fun (c, i, j) x => x = (.fz (.bool (decide (j ∈ ringOf c i))))
theorem ci_parts (c : List Nat) (i : Nat) (j : Nat) {ds : Sto} {Q : Sto → AV → Prop} (hc : IsC c) (h12 : c.length ≤ 12) (hi : i < c.length) (hj : j < c.length) (hij : i ≠ j) (q : Q ds (.fz (.bool (decide (j ∈ ringOf c i))))) : callIB 3 A_parts pre_parts post_parts (some [.tuple (nts c), .int (i : Int), .int (j : Int)]) ds Q := callIB_i (args := A_parts) (c, i, j) rfl ⟨hc, h12, hi, hj, hij⟩ (fun x hx => by cases hx; exact q)
theorem ok_parts {f : Addr} {fd : FuncData} (F : Fun K "parts" "parts" s_parts f fd) (T : Txt mg) (C_need_cards : Cal P w K mg base 2 "need_cards" (spP 1 pre_need_cards post_need_cards K)) (C_why_not : Cal P w K mg base 2 "why_not" (spI 3 A_why_not pre_why_not post_why_not K)) (C_rings_of : Cal P w K mg base 2 "rings_of" (spP 1 pre_rings_of post_rings_of K)) : FnOk P w K mg base CX0 (2 + 1) f fd ["cards", "one", "other"] (spI 3 A_parts pre_parts post_parts K) := by
  exact okI F sc_parts rfl fun cdv A outer s H E hr => ⟨_, _, (ass_cons (as_expr (ae_callP C_need_cards hr (aa_cons (av 0) aa_nil))) (ass_cons (as_set 3 sc_parts.nd (ae_callI C_why_not hr (aa_cons (av 0) (aa_cons (ae_tup aa_nil) (aa_cons (ae_tup (aa_cons (av 1) (aa_cons (av 2) aa_nil))) aa_nil))))) (ass_cons (as_if (at_cmp c_ne (av 3) ae_str) ass_never ass_nil) (ass_one (as_ret (ae_callB (k_any) T.z_any (by decide +kernel) (aa_cons (ae_lc [("ring", 4)] sc_parts.nd (blkOk_by (N := N_parts) (sc := defScope s_parts) (by decide +kernel)) (ai_list ((ae_callP C_rings_of hr (aa_cons (av 0) aa_nil))).frz) (fun _ _ _ _ _ => (ag_name 4 sc_parts.nd)) (fun _ _ _ _ _ => ats_nil) (fun _ _ _ _ _ => (ae_and (ae_cmp c_in (av 1) (av 4)) (ae_one (ae_cmp c_in (av 2) (av 4)))))) aa_nil))))))), fun i hp => by
    obtain ⟨c, i, j⟩ := i
    obtain ⟨hc, h12, hi, hj, hij⟩ := hp
    show (_ : WS) _ [AV.fz (.tuple (nts c)), AV.fz (.int (i : Int)), AV.fz (.int (j : Int)), .un, .un]
    have hrl := hc.ringsOf_len
    simp -implicitDefEqProofs -dsimp (disch := (first | assumption | omega)) only [↓wIf_s, ↓wFor_s, ↓wWhile_s, ↓wIC_s, ↓wEqD_s, ↓wAndV_s, ↓wOrV_s, ↓wAnd_s, ↓wOr_s, ↓wIfE_s, ↓wTup_s, ↓wLst_s, ↓wCallP_s, ↓wCallM_s, ↓wAppend_s, ↓wExtend_s, ↓wPop_s, ↓wIxL_s, ↓wIxT_s, ↓wIxA_s, ↓wCatT_s, ↓wCat_s, ↓wAddD_s, ↓wRep_s, ↓wInI_s, ↓wRng1_s, ↓wRng2_s, ↓wRng3_s, ↓wgTup_s, ↓wgLst_s, ↓wgSub_s, ↓wDGet_s, ↓wDPut_s, ↓wDUpd_s, ↓wLstRg_s, ↓wTupRg_s, ↓wTIdx_s, ↓wLIdx_s, ↓wPopAt_s, ↓wChainF_s, ↓wLc_s, ↓wDc_s, ↓wInts_s, ↓wBls_s, ↓wMaxF_s, ↓wMinF_s, ↓wSortedF_s, ↓wLc2_s, ↓wSortSet_s, ↓wZip_s, ↓wRevL_s, ↓wCallI_s, ↓wCallID_s, ↓wCallIK_s, ↓wCallJ_s, ↓wVar_ap, ↓wC_ap, ↓wOp_ap, ↓wUn_ap, ↓wII_ap, ↓wIB_ap, ↓wNeg_ap, ↓wEqI_ap, ↓wIsN_ap, ↓wNotV_ap, ↓wTest_ap, ↓wNot_ap, ↓wNil_ap, ↓wCons_ap, ↓wCB_ap, ↓wFrz_ap, ↓wBM_ap, ↓wBM0_ap, ↓wReverse_ap, ↓wNoPart_ap, ↓wPart_ap, ↓wSl_ap, ↓wSlL_ap, ↓wSlT_ap, ↓wLen_ap, ↓wListOf_ap, ↓wTupleOf_ap, ↓wAbs_ap, ↓wIList_ap, ↓wITup_ap, ↓wName_ap, ↓wgNil_ap, ↓wgCons_ap, ↓wNext_ap, ↓wSeq_ap, ↓wAsg_ap, ↓wDrop_ap, ↓wRet_ap, ↓wRetN_ap, ↓wNever_ap, ↓wBreak_ap, ↓wCont_ap, ↓wPar_ap, ↓wAug_ap, ↓wIsT_ap, ↓wEnumT_ap, ↓wEnum_ap, ↓wDNew_ap, ↓wDIn_ap, ↓wDGet2_ap, ↓wRg1_ap, ↓wRg2_ap, ↓wFrzV_ap, ↓wThen_ap, ↓ifS_t, ↓ifS_f, ↓ifQ_t, ↓ifQ_f, ↓gtB_s, ↓intsB_m, ↓intsB_n, ↓intsB_nil, ↓intsB_1, ↓intsB_2, ↓intsB_3, ↓eqB_bool, ↓eqB_int, ↓eqB_non, Bool.true_beq, Bool.false_beq, ↓inB_s, ↓ret_fz, ↓ret_ls, ↓ret_rf, ret_nts, ret_tnts, ret_int, ret_bool, ret_none, ret_str, ret_rgD, ↓lcN_a, ↓lcO_a, ↓lcM_a, ↓lcP_a, ↓blB_s, ↓blB_nil, ↓blB_1, ↓blB_2, ↓blB_3, ↓sto, ↓frz, stL, isNum_t, Int.reducePow, Int.reduceSub, Int.reduceAdd, Int.reduceMul, vl, vls, its, lsOf, oLs, oL, upL, fzs, keyOf, dkOf, isN, wipeS, ownFree, own_fz, own_un, own_rf, own_ls, own_lb, own_dk, List.map_cons, List.map_nil, List.all_cons, List.all_nil, List.set, List.getD_cons_zero, List.getD_cons_succ, List.getD_nil, List.getElem?_cons_zero, List.getElem?_cons_succ, Option.getD_some, List.getElem?_nil, Option.getD_none, Option.map_some, Option.map_none, Bool.false_eq_true, if_true, if_false, Bool.not_true, Bool.not_false, Bool.and_true, Bool.true_and, Bool.and_self, Bool.and_false, Bool.false_and, Bool.or_true, Bool.true_or, Bool.or_false, Bool.false_or, List.cons_append, List.nil_append, List.append_nil, List.length_cons, List.length_nil, Nat.reduceAdd, Int.reduceToNat, List.eraseIdx, Int.reduceNeg, Int.sub_zero, Int.toNat_natCast, eq_self, decide_true, cl_0, cl_1, cl_2, cl_3, cl_4, cl_5, cl_6, cl_7, cl_8, cl_9, cl_10, cl_11, cl_12, cl_13, sd_true, sd_refl, castL_map, sd_le, sd_lt, sd_eqn, sd_div, sd_mulL, sd_mulR, sd_pow, sd_rg, sd_rg1, sd_mem, repB_1, lb_ex, swp_eq, pr_snoc, pr_len, prD_rev, zips_nts, rep_one, rep_nts, rep_nts0, at_mod, modN, at_nts, ix_nts, ix_len, set_nts, app_nts, app2_nts, rg_snoc, rgD_len, idx_cast, cut_fromN, cut_toN, cut_two, mem_castD, cast_ltD, cast_leD, cast_eqD, rng_0, nt_def, nts_len, List.length_range, atI_0, atI_1, atI_2, ixN_0, ixN_1, List.length_map, isi_int_none, isi_int_bool, isi_int_int, isi_int_str, isi_int_list, isi_int_tuple, isi_bool_none, isi_bool_bool, isi_bool_int, isi_bool_str, isi_bool_list, isi_bool_tuple, isi_str_none, isi_str_bool, isi_str_int, isi_str_str, isi_str_list, isi_str_tuple, isi_tuple_none, isi_tuple_bool, isi_tuple_int, isi_tuple_str, isi_tuple_list, isi_tuple_tuple, isi_list_none, isi_list_bool, isi_list_int, isi_list_str, isi_list_list, isi_list_tuple]
    refine ci_need_cards hc h12 ?_
    simp -implicitDefEqProofs -dsimp (disch := (first | assumption | omega)) only [↓wIf_s, ↓wFor_s, ↓wWhile_s, ↓wIC_s, ↓wEqD_s, ↓wAndV_s, ↓wOrV_s, ↓wAnd_s, ↓wOr_s, ↓wIfE_s, ↓wTup_s, ↓wLst_s, ↓wCallP_s, ↓wCallM_s, ↓wAppend_s, ↓wExtend_s, ↓wPop_s, ↓wIxL_s, ↓wIxT_s, ↓wIxA_s, ↓wCatT_s, ↓wCat_s, ↓wAddD_s, ↓wRep_s, ↓wInI_s, ↓wRng1_s, ↓wRng2_s, ↓wRng3_s, ↓wgTup_s, ↓wgLst_s, ↓wgSub_s, ↓wDGet_s, ↓wDPut_s, ↓wDUpd_s, ↓wLstRg_s, ↓wTupRg_s, ↓wTIdx_s, ↓wLIdx_s, ↓wPopAt_s, ↓wChainF_s, ↓wLc_s, ↓wDc_s, ↓wInts_s, ↓wBls_s, ↓wMaxF_s, ↓wMinF_s, ↓wSortedF_s, ↓wLc2_s, ↓wSortSet_s, ↓wZip_s, ↓wRevL_s, ↓wCallI_s, ↓wCallID_s, ↓wCallIK_s, ↓wCallJ_s, ↓wVar_ap, ↓wC_ap, ↓wOp_ap, ↓wUn_ap, ↓wII_ap, ↓wIB_ap, ↓wNeg_ap, ↓wEqI_ap, ↓wIsN_ap, ↓wNotV_ap, ↓wTest_ap, ↓wNot_ap, ↓wNil_ap, ↓wCons_ap, ↓wCB_ap, ↓wFrz_ap, ↓wBM_ap, ↓wBM0_ap, ↓wReverse_ap, ↓wNoPart_ap, ↓wPart_ap, ↓wSl_ap, ↓wSlL_ap, ↓wSlT_ap, ↓wLen_ap, ↓wListOf_ap, ↓wTupleOf_ap, ↓wAbs_ap, ↓wIList_ap, ↓wITup_ap, ↓wName_ap, ↓wgNil_ap, ↓wgCons_ap, ↓wNext_ap, ↓wSeq_ap, ↓wAsg_ap, ↓wDrop_ap, ↓wRet_ap, ↓wRetN_ap, ↓wNever_ap, ↓wBreak_ap, ↓wCont_ap, ↓wPar_ap, ↓wAug_ap, ↓wIsT_ap, ↓wEnumT_ap, ↓wEnum_ap, ↓wDNew_ap, ↓wDIn_ap, ↓wDGet2_ap, ↓wRg1_ap, ↓wRg2_ap, ↓wFrzV_ap, ↓wThen_ap, ↓ifS_t, ↓ifS_f, ↓ifQ_t, ↓ifQ_f, ↓gtB_s, ↓intsB_m, ↓intsB_n, ↓intsB_nil, ↓intsB_1, ↓intsB_2, ↓intsB_3, ↓eqB_bool, ↓eqB_int, ↓eqB_non, Bool.true_beq, Bool.false_beq, ↓inB_s, ↓ret_fz, ↓ret_ls, ↓ret_rf, ret_nts, ret_tnts, ret_int, ret_bool, ret_none, ret_str, ret_rgD, ↓lcN_a, ↓lcO_a, ↓lcM_a, ↓lcP_a, ↓blB_s, ↓blB_nil, ↓blB_1, ↓blB_2, ↓blB_3, ↓sto, ↓frz, stL, isNum_t, Int.reducePow, Int.reduceSub, Int.reduceAdd, Int.reduceMul, vl, vls, its, lsOf, oLs, oL, upL, fzs, keyOf, dkOf, isN, wipeS, ownFree, own_fz, own_un, own_rf, own_ls, own_lb, own_dk, List.map_cons, List.map_nil, List.all_cons, List.all_nil, List.set, List.getD_cons_zero, List.getD_cons_succ, List.getD_nil, List.getElem?_cons_zero, List.getElem?_cons_succ, Option.getD_some, List.getElem?_nil, Option.getD_none, Option.map_some, Option.map_none, Bool.false_eq_true, if_true, if_false, Bool.not_true, Bool.not_false, Bool.and_true, Bool.true_and, Bool.and_self, Bool.and_false, Bool.false_and, Bool.or_true, Bool.true_or, Bool.or_false, Bool.false_or, List.cons_append, List.nil_append, List.append_nil, List.length_cons, List.length_nil, Nat.reduceAdd, Int.reduceToNat, List.eraseIdx, Int.reduceNeg, Int.sub_zero, Int.toNat_natCast, eq_self, decide_true, cl_0, cl_1, cl_2, cl_3, cl_4, cl_5, cl_6, cl_7, cl_8, cl_9, cl_10, cl_11, cl_12, cl_13, sd_true, sd_refl, castL_map, sd_le, sd_lt, sd_eqn, sd_div, sd_mulL, sd_mulR, sd_pow, sd_rg, sd_rg1, sd_mem, repB_1, lb_ex, swp_eq, pr_snoc, pr_len, prD_rev, zips_nts, rep_one, rep_nts, rep_nts0, at_mod, modN, at_nts, ix_nts, ix_len, set_nts, app_nts, app2_nts, rg_snoc, rgD_len, idx_cast, cut_fromN, cut_toN, cut_two, mem_castD, cast_ltD, cast_leD, cast_eqD, rng_0, nt_def, nts_len, List.length_range, atI_0, atI_1, atI_2, ixN_0, ixN_1, List.length_map, isi_int_none, isi_int_bool, isi_int_int, isi_int_str, isi_int_list, isi_int_tuple, isi_bool_none, isi_bool_bool, isi_bool_int, isi_bool_str, isi_bool_list, isi_bool_tuple, isi_str_none, isi_str_bool, isi_str_int, isi_str_str, isi_str_list, isi_str_tuple, isi_tuple_none, isi_tuple_bool, isi_tuple_int, isi_tuple_str, isi_tuple_list, isi_tuple_tuple, isi_list_none, isi_list_bool, isi_list_int, isi_list_str, isi_list_list, isi_list_tuple]
    refine ci_why_not c [] i j hi hj hij ?_
    rw [if_neg (fun q => by simp at q)]
    simp -implicitDefEqProofs -dsimp (disch := (first | assumption | omega)) only [↓wIf_s, ↓wFor_s, ↓wWhile_s, ↓wIC_s, ↓wEqD_s, ↓wAndV_s, ↓wOrV_s, ↓wAnd_s, ↓wOr_s, ↓wIfE_s, ↓wTup_s, ↓wLst_s, ↓wCallP_s, ↓wCallM_s, ↓wAppend_s, ↓wExtend_s, ↓wPop_s, ↓wIxL_s, ↓wIxT_s, ↓wIxA_s, ↓wCatT_s, ↓wCat_s, ↓wAddD_s, ↓wRep_s, ↓wInI_s, ↓wRng1_s, ↓wRng2_s, ↓wRng3_s, ↓wgTup_s, ↓wgLst_s, ↓wgSub_s, ↓wDGet_s, ↓wDPut_s, ↓wDUpd_s, ↓wLstRg_s, ↓wTupRg_s, ↓wTIdx_s, ↓wLIdx_s, ↓wPopAt_s, ↓wChainF_s, ↓wLc_s, ↓wDc_s, ↓wInts_s, ↓wBls_s, ↓wMaxF_s, ↓wMinF_s, ↓wSortedF_s, ↓wLc2_s, ↓wSortSet_s, ↓wZip_s, ↓wRevL_s, ↓wCallI_s, ↓wCallID_s, ↓wCallIK_s, ↓wCallJ_s, ↓wVar_ap, ↓wC_ap, ↓wOp_ap, ↓wUn_ap, ↓wII_ap, ↓wIB_ap, ↓wNeg_ap, ↓wEqI_ap, ↓wIsN_ap, ↓wNotV_ap, ↓wTest_ap, ↓wNot_ap, ↓wNil_ap, ↓wCons_ap, ↓wCB_ap, ↓wFrz_ap, ↓wBM_ap, ↓wBM0_ap, ↓wReverse_ap, ↓wNoPart_ap, ↓wPart_ap, ↓wSl_ap, ↓wSlL_ap, ↓wSlT_ap, ↓wLen_ap, ↓wListOf_ap, ↓wTupleOf_ap, ↓wAbs_ap, ↓wIList_ap, ↓wITup_ap, ↓wName_ap, ↓wgNil_ap, ↓wgCons_ap, ↓wNext_ap, ↓wSeq_ap, ↓wAsg_ap, ↓wDrop_ap, ↓wRet_ap, ↓wRetN_ap, ↓wNever_ap, ↓wBreak_ap, ↓wCont_ap, ↓wPar_ap, ↓wAug_ap, ↓wIsT_ap, ↓wEnumT_ap, ↓wEnum_ap, ↓wDNew_ap, ↓wDIn_ap, ↓wDGet2_ap, ↓wRg1_ap, ↓wRg2_ap, ↓wFrzV_ap, ↓wThen_ap, ↓ifS_t, ↓ifS_f, ↓ifQ_t, ↓ifQ_f, ↓gtB_s, ↓intsB_m, ↓intsB_n, ↓intsB_nil, ↓intsB_1, ↓intsB_2, ↓intsB_3, ↓eqB_bool, ↓eqB_int, ↓eqB_non, Bool.true_beq, Bool.false_beq, ↓inB_s, ↓ret_fz, ↓ret_ls, ↓ret_rf, ret_nts, ret_tnts, ret_int, ret_bool, ret_none, ret_str, ret_rgD, ↓lcN_a, ↓lcO_a, ↓lcM_a, ↓lcP_a, ↓blB_s, ↓blB_nil, ↓blB_1, ↓blB_2, ↓blB_3, ↓sto, ↓frz, stL, isNum_t, Int.reducePow, Int.reduceSub, Int.reduceAdd, Int.reduceMul, vl, vls, its, lsOf, oLs, oL, upL, fzs, keyOf, dkOf, isN, wipeS, ownFree, own_fz, own_un, own_rf, own_ls, own_lb, own_dk, List.map_cons, List.map_nil, List.all_cons, List.all_nil, List.set, List.getD_cons_zero, List.getD_cons_succ, List.getD_nil, List.getElem?_cons_zero, List.getElem?_cons_succ, Option.getD_some, List.getElem?_nil, Option.getD_none, Option.map_some, Option.map_none, Bool.false_eq_true, if_true, if_false, Bool.not_true, Bool.not_false, Bool.and_true, Bool.true_and, Bool.and_self, Bool.and_false, Bool.false_and, Bool.or_true, Bool.true_or, Bool.or_false, Bool.false_or, List.cons_append, List.nil_append, List.append_nil, List.length_cons, List.length_nil, Nat.reduceAdd, Int.reduceToNat, List.eraseIdx, Int.reduceNeg, Int.sub_zero, Int.toNat_natCast, eq_self, decide_true, cl_0, cl_1, cl_2, cl_3, cl_4, cl_5, cl_6, cl_7, cl_8, cl_9, cl_10, cl_11, cl_12, cl_13, sd_true, sd_refl, castL_map, sd_le, sd_lt, sd_eqn, sd_div, sd_mulL, sd_mulR, sd_pow, sd_rg, sd_rg1, sd_mem, repB_1, lb_ex, swp_eq, pr_snoc, pr_len, prD_rev, zips_nts, rep_one, rep_nts, rep_nts0, at_mod, modN, at_nts, ix_nts, ix_len, set_nts, app_nts, app2_nts, rg_snoc, rgD_len, idx_cast, cut_fromN, cut_toN, cut_two, mem_castD, cast_ltD, cast_leD, cast_eqD, rng_0, nt_def, nts_len, List.length_range, atI_0, atI_1, atI_2, ixN_0, ixN_1, List.length_map, isi_int_none, isi_int_bool, isi_int_int, isi_int_str, isi_int_list, isi_int_tuple, isi_bool_none, isi_bool_bool, isi_bool_int, isi_bool_str, isi_bool_list, isi_bool_tuple, isi_str_none, isi_str_bool, isi_str_int, isi_str_str, isi_str_list, isi_str_tuple, isi_tuple_none, isi_tuple_bool, isi_tuple_int, isi_tuple_str, isi_tuple_list, isi_tuple_tuple, isi_list_none, isi_list_bool, isi_list_int, isi_list_str, isi_list_list, isi_list_tuple]
    refine ci_rings_of hc (by omega) ?_
    simp -implicitDefEqProofs -dsimp (disch := (first | assumption | omega)) only [↓wIf_s, ↓wFor_s, ↓wWhile_s, ↓wIC_s, ↓wEqD_s, ↓wAndV_s, ↓wOrV_s, ↓wAnd_s, ↓wOr_s, ↓wIfE_s, ↓wTup_s, ↓wLst_s, ↓wCallP_s, ↓wCallM_s, ↓wAppend_s, ↓wExtend_s, ↓wPop_s, ↓wIxL_s, ↓wIxT_s, ↓wIxA_s, ↓wCatT_s, ↓wCat_s, ↓wAddD_s, ↓wRep_s, ↓wInI_s, ↓wRng1_s, ↓wRng2_s, ↓wRng3_s, ↓wgTup_s, ↓wgLst_s, ↓wgSub_s, ↓wDGet_s, ↓wDPut_s, ↓wDUpd_s, ↓wLstRg_s, ↓wTupRg_s, ↓wTIdx_s, ↓wLIdx_s, ↓wPopAt_s, ↓wChainF_s, ↓wLc_s, ↓wDc_s, ↓wInts_s, ↓wBls_s, ↓wMaxF_s, ↓wMinF_s, ↓wSortedF_s, ↓wLc2_s, ↓wSortSet_s, ↓wZip_s, ↓wRevL_s, ↓wCallI_s, ↓wCallID_s, ↓wCallIK_s, ↓wCallJ_s, ↓wVar_ap, ↓wC_ap, ↓wOp_ap, ↓wUn_ap, ↓wII_ap, ↓wIB_ap, ↓wNeg_ap, ↓wEqI_ap, ↓wIsN_ap, ↓wNotV_ap, ↓wTest_ap, ↓wNot_ap, ↓wNil_ap, ↓wCons_ap, ↓wCB_ap, ↓wFrz_ap, ↓wBM_ap, ↓wBM0_ap, ↓wReverse_ap, ↓wNoPart_ap, ↓wPart_ap, ↓wSl_ap, ↓wSlL_ap, ↓wSlT_ap, ↓wLen_ap, ↓wListOf_ap, ↓wTupleOf_ap, ↓wAbs_ap, ↓wIList_ap, ↓wITup_ap, ↓wName_ap, ↓wgNil_ap, ↓wgCons_ap, ↓wNext_ap, ↓wSeq_ap, ↓wAsg_ap, ↓wDrop_ap, ↓wRet_ap, ↓wRetN_ap, ↓wNever_ap, ↓wBreak_ap, ↓wCont_ap, ↓wPar_ap, ↓wAug_ap, ↓wIsT_ap, ↓wEnumT_ap, ↓wEnum_ap, ↓wDNew_ap, ↓wDIn_ap, ↓wDGet2_ap, ↓wRg1_ap, ↓wRg2_ap, ↓wFrzV_ap, ↓wThen_ap, ↓ifS_t, ↓ifS_f, ↓ifQ_t, ↓ifQ_f, ↓gtB_s, ↓intsB_m, ↓intsB_n, ↓intsB_nil, ↓intsB_1, ↓intsB_2, ↓intsB_3, ↓eqB_bool, ↓eqB_int, ↓eqB_non, Bool.true_beq, Bool.false_beq, ↓inB_s, ↓ret_fz, ↓ret_ls, ↓ret_rf, ret_nts, ret_tnts, ret_int, ret_bool, ret_none, ret_str, ret_rgD, ↓lcN_a, ↓lcO_a, ↓lcM_a, ↓lcP_a, ↓blB_s, ↓blB_nil, ↓blB_1, ↓blB_2, ↓blB_3, ↓sto, ↓frz, stL, isNum_t, Int.reducePow, Int.reduceSub, Int.reduceAdd, Int.reduceMul, vl, vls, its, lsOf, oLs, oL, upL, fzs, keyOf, dkOf, isN, wipeS, ownFree, own_fz, own_un, own_rf, own_ls, own_lb, own_dk, List.map_cons, List.map_nil, List.all_cons, List.all_nil, List.set, List.getD_cons_zero, List.getD_cons_succ, List.getD_nil, List.getElem?_cons_zero, List.getElem?_cons_succ, Option.getD_some, List.getElem?_nil, Option.getD_none, Option.map_some, Option.map_none, Bool.false_eq_true, if_true, if_false, Bool.not_true, Bool.not_false, Bool.and_true, Bool.true_and, Bool.and_self, Bool.and_false, Bool.false_and, Bool.or_true, Bool.true_or, Bool.or_false, Bool.false_or, List.cons_append, List.nil_append, List.append_nil, List.length_cons, List.length_nil, Nat.reduceAdd, Int.reduceToNat, List.eraseIdx, Int.reduceNeg, Int.sub_zero, Int.toNat_natCast, eq_self, decide_true, cl_0, cl_1, cl_2, cl_3, cl_4, cl_5, cl_6, cl_7, cl_8, cl_9, cl_10, cl_11, cl_12, cl_13, sd_true, sd_refl, castL_map, sd_le, sd_lt, sd_eqn, sd_div, sd_mulL, sd_mulR, sd_pow, sd_rg, sd_rg1, sd_mem, repB_1, lb_ex, swp_eq, pr_snoc, pr_len, prD_rev, zips_nts, rep_one, rep_nts, rep_nts0, at_mod, modN, at_nts, ix_nts, ix_len, set_nts, app_nts, app2_nts, rg_snoc, rgD_len, idx_cast, cut_fromN, cut_toN, cut_two, mem_castD, cast_ltD, cast_leD, cast_eqD, rng_0, nt_def, nts_len, List.length_range, atI_0, atI_1, atI_2, ixN_0, ixN_1, List.length_map, isi_int_none, isi_int_bool, isi_int_int, isi_int_str, isi_int_list, isi_int_tuple, isi_bool_none, isi_bool_bool, isi_bool_int, isi_bool_str, isi_bool_list, isi_bool_tuple, isi_str_none, isi_str_bool, isi_str_int, isi_str_str, isi_str_list, isi_str_tuple, isi_tuple_none, isi_tuple_bool, isi_tuple_int, isi_tuple_str, isi_tuple_list, isi_tuple_tuple, isi_list_none, isi_list_bool, isi_list_int, isi_list_str, isi_list_list, isi_list_tuple]
    refine lcB_b (fun r : List Nat => decide (i ∈ r) && decide (j ∈ r)) (by omega) (fun k r J K hr hJ => ?_) ?_
    · simp -implicitDefEqProofs -dsimp (disch := (first | assumption | omega)) only [↓wIf_s, ↓wFor_s, ↓wWhile_s, ↓wIC_s, ↓wEqD_s, ↓wAndV_s, ↓wOrV_s, ↓wAnd_s, ↓wOr_s, ↓wIfE_s, ↓wTup_s, ↓wLst_s, ↓wCallP_s, ↓wCallM_s, ↓wAppend_s, ↓wExtend_s, ↓wPop_s, ↓wIxL_s, ↓wIxT_s, ↓wIxA_s, ↓wCatT_s, ↓wCat_s, ↓wAddD_s, ↓wRep_s, ↓wInI_s, ↓wRng1_s, ↓wRng2_s, ↓wRng3_s, ↓wgTup_s, ↓wgLst_s, ↓wgSub_s, ↓wDGet_s, ↓wDPut_s, ↓wDUpd_s, ↓wLstRg_s, ↓wTupRg_s, ↓wTIdx_s, ↓wLIdx_s, ↓wPopAt_s, ↓wChainF_s, ↓wLc_s, ↓wDc_s, ↓wInts_s, ↓wBls_s, ↓wMaxF_s, ↓wMinF_s, ↓wSortedF_s, ↓wLc2_s, ↓wSortSet_s, ↓wZip_s, ↓wRevL_s, ↓wCallI_s, ↓wCallID_s, ↓wCallIK_s, ↓wCallJ_s, ↓wVar_ap, ↓wC_ap, ↓wOp_ap, ↓wUn_ap, ↓wII_ap, ↓wIB_ap, ↓wNeg_ap, ↓wEqI_ap, ↓wIsN_ap, ↓wNotV_ap, ↓wTest_ap, ↓wNot_ap, ↓wNil_ap, ↓wCons_ap, ↓wCB_ap, ↓wFrz_ap, ↓wBM_ap, ↓wBM0_ap, ↓wReverse_ap, ↓wNoPart_ap, ↓wPart_ap, ↓wSl_ap, ↓wSlL_ap, ↓wSlT_ap, ↓wLen_ap, ↓wListOf_ap, ↓wTupleOf_ap, ↓wAbs_ap, ↓wIList_ap, ↓wITup_ap, ↓wName_ap, ↓wgNil_ap, ↓wgCons_ap, ↓wNext_ap, ↓wSeq_ap, ↓wAsg_ap, ↓wDrop_ap, ↓wRet_ap, ↓wRetN_ap, ↓wNever_ap, ↓wBreak_ap, ↓wCont_ap, ↓wPar_ap, ↓wAug_ap, ↓wIsT_ap, ↓wEnumT_ap, ↓wEnum_ap, ↓wDNew_ap, ↓wDIn_ap, ↓wDGet2_ap, ↓wRg1_ap, ↓wRg2_ap, ↓wFrzV_ap, ↓wThen_ap, ↓ifS_t, ↓ifS_f, ↓ifQ_t, ↓ifQ_f, ↓gtB_s, ↓intsB_m, ↓intsB_n, ↓intsB_nil, ↓intsB_1, ↓intsB_2, ↓intsB_3, ↓eqB_bool, ↓eqB_int, ↓eqB_non, Bool.true_beq, Bool.false_beq, ↓inB_s, ↓ret_fz, ↓ret_ls, ↓ret_rf, ret_nts, ret_tnts, ret_int, ret_bool, ret_none, ret_str, ret_rgD, ↓lcN_a, ↓lcO_a, ↓lcM_a, ↓lcP_a, ↓blB_s, ↓blB_nil, ↓blB_1, ↓blB_2, ↓blB_3, ↓sto, ↓frz, stL, isNum_t, Int.reducePow, Int.reduceSub, Int.reduceAdd, Int.reduceMul, vl, vls, its, lsOf, oLs, oL, upL, fzs, keyOf, dkOf, isN, wipeS, ownFree, own_fz, own_un, own_rf, own_ls, own_lb, own_dk, List.map_cons, List.map_nil, List.all_cons, List.all_nil, List.set, List.getD_cons_zero, List.getD_cons_succ, List.getD_nil, List.getElem?_cons_zero, List.getElem?_cons_succ, Option.getD_some, List.getElem?_nil, Option.getD_none, Option.map_some, Option.map_none, Bool.false_eq_true, if_true, if_false, Bool.not_true, Bool.not_false, Bool.and_true, Bool.true_and, Bool.and_self, Bool.and_false, Bool.false_and, Bool.or_true, Bool.true_or, Bool.or_false, Bool.false_or, List.cons_append, List.nil_append, List.append_nil, List.length_cons, List.length_nil, Nat.reduceAdd, Int.reduceToNat, List.eraseIdx, Int.reduceNeg, Int.sub_zero, Int.toNat_natCast, eq_self, decide_true, cl_0, cl_1, cl_2, cl_3, cl_4, cl_5, cl_6, cl_7, cl_8, cl_9, cl_10, cl_11, cl_12, cl_13, sd_true, sd_refl, castL_map, sd_le, sd_lt, sd_eqn, sd_div, sd_mulL, sd_mulR, sd_pow, sd_rg, sd_rg1, sd_mem, repB_1, lb_ex, swp_eq, pr_snoc, pr_len, prD_rev, zips_nts, rep_one, rep_nts, rep_nts0, at_mod, modN, at_nts, ix_nts, ix_len, set_nts, app_nts, app2_nts, rg_snoc, rgD_len, idx_cast, cut_fromN, cut_toN, cut_two, mem_castD, cast_ltD, cast_leD, cast_eqD, rng_0, nt_def, nts_len, List.length_range, atI_0, atI_1, atI_2, ixN_0, ixN_1, List.length_map, isi_int_none, isi_int_bool, isi_int_int, isi_int_str, isi_int_list, isi_int_tuple, isi_bool_none, isi_bool_bool, isi_bool_int, isi_bool_str, isi_bool_list, isi_bool_tuple, isi_str_none, isi_str_bool, isi_str_int, isi_str_str, isi_str_list, isi_str_tuple, isi_tuple_none, isi_tuple_bool, isi_tuple_int, isi_tuple_str, isi_tuple_list, isi_tuple_tuple, isi_list_none, isi_list_bool, isi_list_int, isi_list_str, isi_list_list, isi_list_tuple]
      cases h : decide (i ∈ r) with
      | true =>
        rw [h] at hJ
        simp -implicitDefEqProofs -dsimp (disch := (first | assumption | omega)) only [↓wIf_s, ↓wFor_s, ↓wWhile_s, ↓wIC_s, ↓wEqD_s, ↓wAndV_s, ↓wOrV_s, ↓wAnd_s, ↓wOr_s, ↓wIfE_s, ↓wTup_s, ↓wLst_s, ↓wCallP_s, ↓wCallM_s, ↓wAppend_s, ↓wExtend_s, ↓wPop_s, ↓wIxL_s, ↓wIxT_s, ↓wIxA_s, ↓wCatT_s, ↓wCat_s, ↓wAddD_s, ↓wRep_s, ↓wInI_s, ↓wRng1_s, ↓wRng2_s, ↓wRng3_s, ↓wgTup_s, ↓wgLst_s, ↓wgSub_s, ↓wDGet_s, ↓wDPut_s, ↓wDUpd_s, ↓wLstRg_s, ↓wTupRg_s, ↓wTIdx_s, ↓wLIdx_s, ↓wPopAt_s, ↓wChainF_s, ↓wLc_s, ↓wDc_s, ↓wInts_s, ↓wBls_s, ↓wMaxF_s, ↓wMinF_s, ↓wSortedF_s, ↓wLc2_s, ↓wSortSet_s, ↓wZip_s, ↓wRevL_s, ↓wCallI_s, ↓wCallID_s, ↓wCallIK_s, ↓wCallJ_s, ↓wVar_ap, ↓wC_ap, ↓wOp_ap, ↓wUn_ap, ↓wII_ap, ↓wIB_ap, ↓wNeg_ap, ↓wEqI_ap, ↓wIsN_ap, ↓wNotV_ap, ↓wTest_ap, ↓wNot_ap, ↓wNil_ap, ↓wCons_ap, ↓wCB_ap, ↓wFrz_ap, ↓wBM_ap, ↓wBM0_ap, ↓wReverse_ap, ↓wNoPart_ap, ↓wPart_ap, ↓wSl_ap, ↓wSlL_ap, ↓wSlT_ap, ↓wLen_ap, ↓wListOf_ap, ↓wTupleOf_ap, ↓wAbs_ap, ↓wIList_ap, ↓wITup_ap, ↓wName_ap, ↓wgNil_ap, ↓wgCons_ap, ↓wNext_ap, ↓wSeq_ap, ↓wAsg_ap, ↓wDrop_ap, ↓wRet_ap, ↓wRetN_ap, ↓wNever_ap, ↓wBreak_ap, ↓wCont_ap, ↓wPar_ap, ↓wAug_ap, ↓wIsT_ap, ↓wEnumT_ap, ↓wEnum_ap, ↓wDNew_ap, ↓wDIn_ap, ↓wDGet2_ap, ↓wRg1_ap, ↓wRg2_ap, ↓wFrzV_ap, ↓wThen_ap, ↓ifS_t, ↓ifS_f, ↓ifQ_t, ↓ifQ_f, ↓gtB_s, ↓intsB_m, ↓intsB_n, ↓intsB_nil, ↓intsB_1, ↓intsB_2, ↓intsB_3, ↓eqB_bool, ↓eqB_int, ↓eqB_non, Bool.true_beq, Bool.false_beq, ↓inB_s, ↓ret_fz, ↓ret_ls, ↓ret_rf, ret_nts, ret_tnts, ret_int, ret_bool, ret_none, ret_str, ret_rgD, ↓lcN_a, ↓lcO_a, ↓lcM_a, ↓lcP_a, ↓blB_s, ↓blB_nil, ↓blB_1, ↓blB_2, ↓blB_3, ↓sto, ↓frz, stL, isNum_t, Int.reducePow, Int.reduceSub, Int.reduceAdd, Int.reduceMul, vl, vls, its, lsOf, oLs, oL, upL, fzs, keyOf, dkOf, isN, wipeS, ownFree, own_fz, own_un, own_rf, own_ls, own_lb, own_dk, List.map_cons, List.map_nil, List.all_cons, List.all_nil, List.set, List.getD_cons_zero, List.getD_cons_succ, List.getD_nil, List.getElem?_cons_zero, List.getElem?_cons_succ, Option.getD_some, List.getElem?_nil, Option.getD_none, Option.map_some, Option.map_none, Bool.false_eq_true, if_true, if_false, Bool.not_true, Bool.not_false, Bool.and_true, Bool.true_and, Bool.and_self, Bool.and_false, Bool.false_and, Bool.or_true, Bool.true_or, Bool.or_false, Bool.false_or, List.cons_append, List.nil_append, List.append_nil, List.length_cons, List.length_nil, Nat.reduceAdd, Int.reduceToNat, List.eraseIdx, Int.reduceNeg, Int.sub_zero, Int.toNat_natCast, eq_self, decide_true, cl_0, cl_1, cl_2, cl_3, cl_4, cl_5, cl_6, cl_7, cl_8, cl_9, cl_10, cl_11, cl_12, cl_13, sd_true, sd_refl, castL_map, sd_le, sd_lt, sd_eqn, sd_div, sd_mulL, sd_mulR, sd_pow, sd_rg, sd_rg1, sd_mem, repB_1, lb_ex, swp_eq, pr_snoc, pr_len, prD_rev, zips_nts, rep_one, rep_nts, rep_nts0, at_mod, modN, at_nts, ix_nts, ix_len, set_nts, app_nts, app2_nts, rg_snoc, rgD_len, idx_cast, cut_fromN, cut_toN, cut_two, mem_castD, cast_ltD, cast_leD, cast_eqD, rng_0, nt_def, nts_len, List.length_range, atI_0, atI_1, atI_2, ixN_0, ixN_1, List.length_map, isi_int_none, isi_int_bool, isi_int_int, isi_int_str, isi_int_list, isi_int_tuple, isi_bool_none, isi_bool_bool, isi_bool_int, isi_bool_str, isi_bool_list, isi_bool_tuple, isi_str_none, isi_str_bool, isi_str_int, isi_str_str, isi_str_list, isi_str_tuple, isi_tuple_none, isi_tuple_bool, isi_tuple_int, isi_tuple_str, isi_tuple_list, isi_tuple_tuple, isi_list_none, isi_list_bool, isi_list_int, isi_list_str, isi_list_list, isi_list_tuple]
        exact hJ
      | false =>
        rw [h] at hJ
        simp -implicitDefEqProofs -dsimp (disch := (first | assumption | omega)) only [↓wIf_s, ↓wFor_s, ↓wWhile_s, ↓wIC_s, ↓wEqD_s, ↓wAndV_s, ↓wOrV_s, ↓wAnd_s, ↓wOr_s, ↓wIfE_s, ↓wTup_s, ↓wLst_s, ↓wCallP_s, ↓wCallM_s, ↓wAppend_s, ↓wExtend_s, ↓wPop_s, ↓wIxL_s, ↓wIxT_s, ↓wIxA_s, ↓wCatT_s, ↓wCat_s, ↓wAddD_s, ↓wRep_s, ↓wInI_s, ↓wRng1_s, ↓wRng2_s, ↓wRng3_s, ↓wgTup_s, ↓wgLst_s, ↓wgSub_s, ↓wDGet_s, ↓wDPut_s, ↓wDUpd_s, ↓wLstRg_s, ↓wTupRg_s, ↓wTIdx_s, ↓wLIdx_s, ↓wPopAt_s, ↓wChainF_s, ↓wLc_s, ↓wDc_s, ↓wInts_s, ↓wBls_s, ↓wMaxF_s, ↓wMinF_s, ↓wSortedF_s, ↓wLc2_s, ↓wSortSet_s, ↓wZip_s, ↓wRevL_s, ↓wCallI_s, ↓wCallID_s, ↓wCallIK_s, ↓wCallJ_s, ↓wVar_ap, ↓wC_ap, ↓wOp_ap, ↓wUn_ap, ↓wII_ap, ↓wIB_ap, ↓wNeg_ap, ↓wEqI_ap, ↓wIsN_ap, ↓wNotV_ap, ↓wTest_ap, ↓wNot_ap, ↓wNil_ap, ↓wCons_ap, ↓wCB_ap, ↓wFrz_ap, ↓wBM_ap, ↓wBM0_ap, ↓wReverse_ap, ↓wNoPart_ap, ↓wPart_ap, ↓wSl_ap, ↓wSlL_ap, ↓wSlT_ap, ↓wLen_ap, ↓wListOf_ap, ↓wTupleOf_ap, ↓wAbs_ap, ↓wIList_ap, ↓wITup_ap, ↓wName_ap, ↓wgNil_ap, ↓wgCons_ap, ↓wNext_ap, ↓wSeq_ap, ↓wAsg_ap, ↓wDrop_ap, ↓wRet_ap, ↓wRetN_ap, ↓wNever_ap, ↓wBreak_ap, ↓wCont_ap, ↓wPar_ap, ↓wAug_ap, ↓wIsT_ap, ↓wEnumT_ap, ↓wEnum_ap, ↓wDNew_ap, ↓wDIn_ap, ↓wDGet2_ap, ↓wRg1_ap, ↓wRg2_ap, ↓wFrzV_ap, ↓wThen_ap, ↓ifS_t, ↓ifS_f, ↓ifQ_t, ↓ifQ_f, ↓gtB_s, ↓intsB_m, ↓intsB_n, ↓intsB_nil, ↓intsB_1, ↓intsB_2, ↓intsB_3, ↓eqB_bool, ↓eqB_int, ↓eqB_non, Bool.true_beq, Bool.false_beq, ↓inB_s, ↓ret_fz, ↓ret_ls, ↓ret_rf, ret_nts, ret_tnts, ret_int, ret_bool, ret_none, ret_str, ret_rgD, ↓lcN_a, ↓lcO_a, ↓lcM_a, ↓lcP_a, ↓blB_s, ↓blB_nil, ↓blB_1, ↓blB_2, ↓blB_3, ↓sto, ↓frz, stL, isNum_t, Int.reducePow, Int.reduceSub, Int.reduceAdd, Int.reduceMul, vl, vls, its, lsOf, oLs, oL, upL, fzs, keyOf, dkOf, isN, wipeS, ownFree, own_fz, own_un, own_rf, own_ls, own_lb, own_dk, List.map_cons, List.map_nil, List.all_cons, List.all_nil, List.set, List.getD_cons_zero, List.getD_cons_succ, List.getD_nil, List.getElem?_cons_zero, List.getElem?_cons_succ, Option.getD_some, List.getElem?_nil, Option.getD_none, Option.map_some, Option.map_none, Bool.false_eq_true, if_true, if_false, Bool.not_true, Bool.not_false, Bool.and_true, Bool.true_and, Bool.and_self, Bool.and_false, Bool.false_and, Bool.or_true, Bool.true_or, Bool.or_false, Bool.false_or, List.cons_append, List.nil_append, List.append_nil, List.length_cons, List.length_nil, Nat.reduceAdd, Int.reduceToNat, List.eraseIdx, Int.reduceNeg, Int.sub_zero, Int.toNat_natCast, eq_self, decide_true, cl_0, cl_1, cl_2, cl_3, cl_4, cl_5, cl_6, cl_7, cl_8, cl_9, cl_10, cl_11, cl_12, cl_13, sd_true, sd_refl, castL_map, sd_le, sd_lt, sd_eqn, sd_div, sd_mulL, sd_mulR, sd_pow, sd_rg, sd_rg1, sd_mem, repB_1, lb_ex, swp_eq, pr_snoc, pr_len, prD_rev, zips_nts, rep_one, rep_nts, rep_nts0, at_mod, modN, at_nts, ix_nts, ix_len, set_nts, app_nts, app2_nts, rg_snoc, rgD_len, idx_cast, cut_fromN, cut_toN, cut_two, mem_castD, cast_ltD, cast_leD, cast_eqD, rng_0, nt_def, nts_len, List.length_range, atI_0, atI_1, atI_2, ixN_0, ixN_1, List.length_map, isi_int_none, isi_int_bool, isi_int_int, isi_int_str, isi_int_list, isi_int_tuple, isi_bool_none, isi_bool_bool, isi_bool_int, isi_bool_str, isi_bool_list, isi_bool_tuple, isi_str_none, isi_str_bool, isi_str_int, isi_str_str, isi_str_list, isi_str_tuple, isi_tuple_none, isi_tuple_bool, isi_tuple_int, isi_tuple_str, isi_tuple_list, isi_tuple_tuple, isi_list_none, isi_list_bool, isi_list_int, isi_list_str, isi_list_list, isi_list_tuple]
        exact hJ
    · have e : ((ringsOf c).map fun r : List Nat => decide (i ∈ r) && decide (j ∈ r)).any id = decide (j ∈ ringOf c i) := by
        rw [List.any_map]
        exact hc.both_in hi
      simp -implicitDefEqProofs -dsimp (disch := (first | assumption | omega)) only [↓wIf_s, ↓wFor_s, ↓wWhile_s, ↓wIC_s, ↓wEqD_s, ↓wAndV_s, ↓wOrV_s, ↓wAnd_s, ↓wOr_s, ↓wIfE_s, ↓wTup_s, ↓wLst_s, ↓wCallP_s, ↓wCallM_s, ↓wAppend_s, ↓wExtend_s, ↓wPop_s, ↓wIxL_s, ↓wIxT_s, ↓wIxA_s, ↓wCatT_s, ↓wCat_s, ↓wAddD_s, ↓wRep_s, ↓wInI_s, ↓wRng1_s, ↓wRng2_s, ↓wRng3_s, ↓wgTup_s, ↓wgLst_s, ↓wgSub_s, ↓wDGet_s, ↓wDPut_s, ↓wDUpd_s, ↓wLstRg_s, ↓wTupRg_s, ↓wTIdx_s, ↓wLIdx_s, ↓wPopAt_s, ↓wChainF_s, ↓wLc_s, ↓wDc_s, ↓wInts_s, ↓wBls_s, ↓wMaxF_s, ↓wMinF_s, ↓wSortedF_s, ↓wLc2_s, ↓wSortSet_s, ↓wZip_s, ↓wRevL_s, ↓wCallI_s, ↓wCallID_s, ↓wCallIK_s, ↓wCallJ_s, ↓wVar_ap, ↓wC_ap, ↓wOp_ap, ↓wUn_ap, ↓wII_ap, ↓wIB_ap, ↓wNeg_ap, ↓wEqI_ap, ↓wIsN_ap, ↓wNotV_ap, ↓wTest_ap, ↓wNot_ap, ↓wNil_ap, ↓wCons_ap, ↓wCB_ap, ↓wFrz_ap, ↓wBM_ap, ↓wBM0_ap, ↓wReverse_ap, ↓wNoPart_ap, ↓wPart_ap, ↓wSl_ap, ↓wSlL_ap, ↓wSlT_ap, ↓wLen_ap, ↓wListOf_ap, ↓wTupleOf_ap, ↓wAbs_ap, ↓wIList_ap, ↓wITup_ap, ↓wName_ap, ↓wgNil_ap, ↓wgCons_ap, ↓wNext_ap, ↓wSeq_ap, ↓wAsg_ap, ↓wDrop_ap, ↓wRet_ap, ↓wRetN_ap, ↓wNever_ap, ↓wBreak_ap, ↓wCont_ap, ↓wPar_ap, ↓wAug_ap, ↓wIsT_ap, ↓wEnumT_ap, ↓wEnum_ap, ↓wDNew_ap, ↓wDIn_ap, ↓wDGet2_ap, ↓wRg1_ap, ↓wRg2_ap, ↓wFrzV_ap, ↓wThen_ap, ↓ifS_t, ↓ifS_f, ↓ifQ_t, ↓ifQ_f, ↓gtB_s, ↓intsB_m, ↓intsB_n, ↓intsB_nil, ↓intsB_1, ↓intsB_2, ↓intsB_3, ↓eqB_bool, ↓eqB_int, ↓eqB_non, Bool.true_beq, Bool.false_beq, ↓inB_s, ↓ret_fz, ↓ret_ls, ↓ret_rf, ret_nts, ret_tnts, ret_int, ret_bool, ret_none, ret_str, ret_rgD, ↓lcN_a, ↓lcO_a, ↓lcM_a, ↓lcP_a, ↓blB_s, ↓blB_nil, ↓blB_1, ↓blB_2, ↓blB_3, ↓sto, ↓frz, stL, isNum_t, Int.reducePow, Int.reduceSub, Int.reduceAdd, Int.reduceMul, vl, vls, its, lsOf, oLs, oL, upL, fzs, keyOf, dkOf, isN, wipeS, ownFree, own_fz, own_un, own_rf, own_ls, own_lb, own_dk, List.map_cons, List.map_nil, List.all_cons, List.all_nil, List.set, List.getD_cons_zero, List.getD_cons_succ, List.getD_nil, List.getElem?_cons_zero, List.getElem?_cons_succ, Option.getD_some, List.getElem?_nil, Option.getD_none, Option.map_some, Option.map_none, Bool.false_eq_true, if_true, if_false, Bool.not_true, Bool.not_false, Bool.and_true, Bool.true_and, Bool.and_self, Bool.and_false, Bool.false_and, Bool.or_true, Bool.true_or, Bool.or_false, Bool.false_or, List.cons_append, List.nil_append, List.append_nil, List.length_cons, List.length_nil, Nat.reduceAdd, Int.reduceToNat, List.eraseIdx, Int.reduceNeg, Int.sub_zero, Int.toNat_natCast, eq_self, decide_true, cl_0, cl_1, cl_2, cl_3, cl_4, cl_5, cl_6, cl_7, cl_8, cl_9, cl_10, cl_11, cl_12, cl_13, sd_true, sd_refl, castL_map, sd_le, sd_lt, sd_eqn, sd_div, sd_mulL, sd_mulR, sd_pow, sd_rg, sd_rg1, sd_mem, repB_1, lb_ex, swp_eq, pr_snoc, pr_len, prD_rev, zips_nts, rep_one, rep_nts, rep_nts0, at_mod, modN, at_nts, ix_nts, ix_len, set_nts, app_nts, app2_nts, rg_snoc, rgD_len, idx_cast, cut_fromN, cut_toN, cut_two, mem_castD, cast_ltD, cast_leD, cast_eqD, rng_0, nt_def, nts_len, List.length_range, atI_0, atI_1, atI_2, ixN_0, ixN_1, List.length_map, isi_int_none, isi_int_bool, isi_int_int, isi_int_str, isi_int_list, isi_int_tuple, isi_bool_none, isi_bool_bool, isi_bool_int, isi_bool_str, isi_bool_list, isi_bool_tuple, isi_str_none, isi_str_bool, isi_str_int, isi_str_str, isi_str_list, isi_str_tuple, isi_tuple_none, isi_tuple_bool, isi_tuple_int, isi_tuple_str, isi_tuple_list, isi_tuple_tuple, isi_list_none, isi_list_bool, isi_list_int, isi_list_str, isi_list_list, isi_list_tuple, e]
      rfl⟩
def pre_law (dl : List D) : Prop := ∃ ns : List Int, dl = [.list (ns.map PyData.int)] ∧ ns.length ≤ 63 ∧ ∀ z ∈ ns, Builtin.Int.intBits z ≤ 1048576
def post_law (dl : List D) (x : AV) : Prop := x = .fz (.bool true)
theorem ok_law {f : Addr} {fd : FuncData} (F : Fun K "law" "law" s_law f fd) (T : Txt mg) (C_dice_L : Cal P w K mg base 1 "_law_dice" (spP 2 pre_dice_L post_dice_L K)) (C_cards_L : Cal P w K mg base 3 "_law_cards" (spM 1 pre_cards_L post_cards_L K)) {T_done : Addr} (C_done : CalD P w K mg base 3 "done" 2 "pins" T_done (spI 3 A_done pre_done post_done K)) (C_rings : Cal P w K mg base 3 "rings" (spP 1 pre_rings post_rings K)) (C_parts : Cal P w K mg base 3 "parts" (spI 3 A_parts pre_parts post_parts K)) (C_alike_L : Cal P w K mg base 6 "_law_alike" (spP 2 (pre_alike_L 6) post_alike_L K)) : FnOk P w K mg base CX0 (6 + 1) f fd ["_law_script"] (spP 1 pre_law post_law K) := by
  exact okP F sc_law rfl fun cdv A outer s H E hr => ⟨_, _, (ass_cons (as_set 1 sc_law.nd (ae_callP C_dice_L hr (aa_cons (av 0) (aa_cons ae_int aa_nil)))) (ass_cons (as_set 2 sc_law.nd (ae_callM C_cards_L hr (aa_cons (av 1) (aa_cons ae_int aa_nil)))) (ass_cons (as_for (ai_range1 T.z_range (aa_cons (ae_callB k_len T.z_len (by decide +kernel) (aa_cons (av 2) aa_nil)) aa_nil)) (ag_name 3 sc_law.nd) (ass_one (as_for (ai_range1 T.z_range (aa_cons (ae_callB k_len T.z_len (by decide +kernel) (aa_cons (av 2) aa_nil)) aa_nil)) (ag_name 4 sc_law.nd) (ass_one (as_if (at_cmp c_ne (av 3) (av 4)) (ass_cons (as_set 5 sc_law.nd (ae_callID C_done hr (aa_cons (av 2) (aa_cons (ae_lst (aa_cons (ae_tup (aa_cons (av 3) (aa_cons (av 4) aa_nil))) aa_nil)) aa_nil)))) (ass_cons (as_set 6 sc_law.nd (ae_op o_sub (ae_callB k_len T.z_len (by decide +kernel) (aa_cons (ae_callP C_rings hr (aa_cons (av 5) aa_nil)) aa_nil)) (ae_callB k_len T.z_len (by decide +kernel) (aa_cons (ae_callP C_rings hr (aa_cons (av 2) aa_nil)) aa_nil)))) (ass_cons (as_if (aw_or (at_not (at_val (ae_callP C_alike_L hr (aa_cons (ae_callI C_parts hr (aa_cons (av 2) (aa_cons (av 3) (aa_cons (av 4) aa_nil)))) (aa_cons (ae_cmp c_eq (av 6) ae_int) aa_nil))))) (aw_or1 (at_cmp c_notIn (av 6) (ae_tup (aa_cons ae_int (aa_cons (ae_neg ae_int) aa_nil)))))).pT (ass_one (as_ret ae_bl)) ass_nil) (ass_one (as_if (aw_or (at_cmp (c_eqD hr) (ae_callI C_parts hr (aa_cons (av 5) (aa_cons (av 4) (aa_cons (av 3) aa_nil)))) (ae_callI C_parts hr (aa_cons (av 2) (aa_cons (av 3) (aa_cons (av 4) aa_nil))))) (aw_or1 (at_cmp (c_neD hr) (ae_callID C_done hr (aa_cons (av 5) (aa_cons (ae_lst (aa_cons (ae_tup (aa_cons (av 4) (aa_cons (av 3) aa_nil))) aa_nil)) aa_nil))) (av 2)))).pT (ass_one (as_ret ae_bl)) ass_nil))))) ass_nil))))) (ass_one (as_ret ae_bl))))), fun dl hl hp => by
    obtain ⟨ns, rfl, hn, hb⟩ := hp
    show (_ : WS) _ [AV.fz (.list (ns.map PyData.int)), .un, .un, .un, .un, .un, .un]
    simp -implicitDefEqProofs -dsimp (disch := (first | assumption | omega)) only [↓wIf_s, ↓wFor_s, ↓wWhile_s, ↓wIC_s, ↓wEqD_s, ↓wAndV_s, ↓wOrV_s, ↓wAnd_s, ↓wOr_s, ↓wIfE_s, ↓wTup_s, ↓wLst_s, ↓wCallP_s, ↓wCallM_s, ↓wAppend_s, ↓wExtend_s, ↓wPop_s, ↓wIxL_s, ↓wIxT_s, ↓wIxA_s, ↓wCatT_s, ↓wCat_s, ↓wAddD_s, ↓wRep_s, ↓wInI_s, ↓wRng1_s, ↓wRng2_s, ↓wRng3_s, ↓wgTup_s, ↓wgLst_s, ↓wgSub_s, ↓wDGet_s, ↓wDPut_s, ↓wDUpd_s, ↓wLstRg_s, ↓wTupRg_s, ↓wTIdx_s, ↓wLIdx_s, ↓wPopAt_s, ↓wChainF_s, ↓wLc_s, ↓wDc_s, ↓wInts_s, ↓wBls_s, ↓wMaxF_s, ↓wMinF_s, ↓wSortedF_s, ↓wLc2_s, ↓wSortSet_s, ↓wZip_s, ↓wRevL_s, ↓wCallI_s, ↓wCallID_s, ↓wCallIK_s, ↓wCallJ_s, ↓wVar_ap, ↓wC_ap, ↓wOp_ap, ↓wUn_ap, ↓wII_ap, ↓wIB_ap, ↓wNeg_ap, ↓wEqI_ap, ↓wIsN_ap, ↓wNotV_ap, ↓wTest_ap, ↓wNot_ap, ↓wNil_ap, ↓wCons_ap, ↓wCB_ap, ↓wFrz_ap, ↓wBM_ap, ↓wBM0_ap, ↓wReverse_ap, ↓wNoPart_ap, ↓wPart_ap, ↓wSl_ap, ↓wSlL_ap, ↓wSlT_ap, ↓wLen_ap, ↓wListOf_ap, ↓wTupleOf_ap, ↓wAbs_ap, ↓wIList_ap, ↓wITup_ap, ↓wName_ap, ↓wgNil_ap, ↓wgCons_ap, ↓wNext_ap, ↓wSeq_ap, ↓wAsg_ap, ↓wDrop_ap, ↓wRet_ap, ↓wRetN_ap, ↓wNever_ap, ↓wBreak_ap, ↓wCont_ap, ↓wPar_ap, ↓wAug_ap, ↓wIsT_ap, ↓wEnumT_ap, ↓wEnum_ap, ↓wDNew_ap, ↓wDIn_ap, ↓wDGet2_ap, ↓wRg1_ap, ↓wRg2_ap, ↓wFrzV_ap, ↓wThen_ap, ↓ifS_t, ↓ifS_f, ↓ifQ_t, ↓ifQ_f, ↓gtB_s, ↓intsB_m, ↓intsB_n, ↓intsB_nil, ↓intsB_1, ↓intsB_2, ↓intsB_3, ↓eqB_bool, ↓eqB_int, ↓eqB_non, Bool.true_beq, Bool.false_beq, ↓inB_s, ↓ret_fz, ↓ret_ls, ↓ret_rf, ret_nts, ret_tnts, ret_int, ret_bool, ret_none, ret_str, ret_rgD, ↓lcN_a, ↓lcO_a, ↓lcM_a, ↓lcP_a, ↓blB_s, ↓blB_nil, ↓blB_1, ↓blB_2, ↓blB_3, ↓sto, ↓frz, stL, isNum_t, Int.reducePow, Int.reduceSub, Int.reduceAdd, Int.reduceMul, vl, vls, its, lsOf, oLs, oL, upL, fzs, keyOf, dkOf, isN, wipeS, ownFree, own_fz, own_un, own_rf, own_ls, own_lb, own_dk, List.map_cons, List.map_nil, List.all_cons, List.all_nil, List.set, List.getD_cons_zero, List.getD_cons_succ, List.getD_nil, List.getElem?_cons_zero, List.getElem?_cons_succ, Option.getD_some, List.getElem?_nil, Option.getD_none, Option.map_some, Option.map_none, Bool.false_eq_true, if_true, if_false, Bool.not_true, Bool.not_false, Bool.and_true, Bool.true_and, Bool.and_self, Bool.and_false, Bool.false_and, Bool.or_true, Bool.true_or, Bool.or_false, Bool.false_or, List.cons_append, List.nil_append, List.append_nil, List.length_cons, List.length_nil, Nat.reduceAdd, Int.reduceToNat, List.eraseIdx, Int.reduceNeg, Int.sub_zero, Int.toNat_natCast, eq_self, decide_true, cl_0, cl_1, cl_2, cl_3, cl_4, cl_5, cl_6, cl_7, cl_8, cl_9, cl_10, cl_11, cl_12, cl_13, sd_true, sd_refl, castL_map, sd_le, sd_lt, sd_eqn, sd_div, sd_mulL, sd_mulR, sd_pow, sd_rg, sd_rg1, sd_mem, repB_1, lb_ex, swp_eq, pr_snoc, pr_len, prD_rev, zips_nts, rep_one, rep_nts, rep_nts0, at_mod, modN, at_nts, ix_nts, ix_len, set_nts, app_nts, app2_nts, rg_snoc, rgD_len, idx_cast, cut_fromN, cut_toN, cut_two, mem_castD, cast_ltD, cast_leD, cast_eqD, rng_0, nt_def, nts_len, List.length_range, atI_0, atI_1, atI_2, ixN_0, ixN_1, List.length_map, isi_int_none, isi_int_bool, isi_int_int, isi_int_str, isi_int_list, isi_int_tuple, isi_bool_none, isi_bool_bool, isi_bool_int, isi_bool_str, isi_bool_list, isi_bool_tuple, isi_str_none, isi_str_bool, isi_str_int, isi_str_str, isi_str_list, isi_str_tuple, isi_tuple_none, isi_tuple_bool, isi_tuple_int, isi_tuple_str, isi_tuple_list, isi_tuple_tuple, isi_list_none, isi_list_bool, isi_list_int, isi_list_str, isi_list_list, isi_list_tuple]
    refine ci_dice_L hn (by decide) (by decide) (fun l hD => ?_)
    simp -implicitDefEqProofs -dsimp (disch := (first | assumption | omega)) only [↓wIf_s, ↓wFor_s, ↓wWhile_s, ↓wIC_s, ↓wEqD_s, ↓wAndV_s, ↓wOrV_s, ↓wAnd_s, ↓wOr_s, ↓wIfE_s, ↓wTup_s, ↓wLst_s, ↓wCallP_s, ↓wCallM_s, ↓wAppend_s, ↓wExtend_s, ↓wPop_s, ↓wIxL_s, ↓wIxT_s, ↓wIxA_s, ↓wCatT_s, ↓wCat_s, ↓wAddD_s, ↓wRep_s, ↓wInI_s, ↓wRng1_s, ↓wRng2_s, ↓wRng3_s, ↓wgTup_s, ↓wgLst_s, ↓wgSub_s, ↓wDGet_s, ↓wDPut_s, ↓wDUpd_s, ↓wLstRg_s, ↓wTupRg_s, ↓wTIdx_s, ↓wLIdx_s, ↓wPopAt_s, ↓wChainF_s, ↓wLc_s, ↓wDc_s, ↓wInts_s, ↓wBls_s, ↓wMaxF_s, ↓wMinF_s, ↓wSortedF_s, ↓wLc2_s, ↓wSortSet_s, ↓wZip_s, ↓wRevL_s, ↓wCallI_s, ↓wCallID_s, ↓wCallIK_s, ↓wCallJ_s, ↓wVar_ap, ↓wC_ap, ↓wOp_ap, ↓wUn_ap, ↓wII_ap, ↓wIB_ap, ↓wNeg_ap, ↓wEqI_ap, ↓wIsN_ap, ↓wNotV_ap, ↓wTest_ap, ↓wNot_ap, ↓wNil_ap, ↓wCons_ap, ↓wCB_ap, ↓wFrz_ap, ↓wBM_ap, ↓wBM0_ap, ↓wReverse_ap, ↓wNoPart_ap, ↓wPart_ap, ↓wSl_ap, ↓wSlL_ap, ↓wSlT_ap, ↓wLen_ap, ↓wListOf_ap, ↓wTupleOf_ap, ↓wAbs_ap, ↓wIList_ap, ↓wITup_ap, ↓wName_ap, ↓wgNil_ap, ↓wgCons_ap, ↓wNext_ap, ↓wSeq_ap, ↓wAsg_ap, ↓wDrop_ap, ↓wRet_ap, ↓wRetN_ap, ↓wNever_ap, ↓wBreak_ap, ↓wCont_ap, ↓wPar_ap, ↓wAug_ap, ↓wIsT_ap, ↓wEnumT_ap, ↓wEnum_ap, ↓wDNew_ap, ↓wDIn_ap, ↓wDGet2_ap, ↓wRg1_ap, ↓wRg2_ap, ↓wFrzV_ap, ↓wThen_ap, ↓ifS_t, ↓ifS_f, ↓ifQ_t, ↓ifQ_f, ↓gtB_s, ↓intsB_m, ↓intsB_n, ↓intsB_nil, ↓intsB_1, ↓intsB_2, ↓intsB_3, ↓eqB_bool, ↓eqB_int, ↓eqB_non, Bool.true_beq, Bool.false_beq, ↓inB_s, ↓ret_fz, ↓ret_ls, ↓ret_rf, ret_nts, ret_tnts, ret_int, ret_bool, ret_none, ret_str, ret_rgD, ↓lcN_a, ↓lcO_a, ↓lcM_a, ↓lcP_a, ↓blB_s, ↓blB_nil, ↓blB_1, ↓blB_2, ↓blB_3, ↓sto, ↓frz, stL, isNum_t, Int.reducePow, Int.reduceSub, Int.reduceAdd, Int.reduceMul, vl, vls, its, lsOf, oLs, oL, upL, fzs, keyOf, dkOf, isN, wipeS, ownFree, own_fz, own_un, own_rf, own_ls, own_lb, own_dk, List.map_cons, List.map_nil, List.all_cons, List.all_nil, List.set, List.getD_cons_zero, List.getD_cons_succ, List.getD_nil, List.getElem?_cons_zero, List.getElem?_cons_succ, Option.getD_some, List.getElem?_nil, Option.getD_none, Option.map_some, Option.map_none, Bool.false_eq_true, if_true, if_false, Bool.not_true, Bool.not_false, Bool.and_true, Bool.true_and, Bool.and_self, Bool.and_false, Bool.false_and, Bool.or_true, Bool.true_or, Bool.or_false, Bool.false_or, List.cons_append, List.nil_append, List.append_nil, List.length_cons, List.length_nil, Nat.reduceAdd, Int.reduceToNat, List.eraseIdx, Int.reduceNeg, Int.sub_zero, Int.toNat_natCast, eq_self, decide_true, cl_0, cl_1, cl_2, cl_3, cl_4, cl_5, cl_6, cl_7, cl_8, cl_9, cl_10, cl_11, cl_12, cl_13, sd_true, sd_refl, castL_map, sd_le, sd_lt, sd_eqn, sd_div, sd_mulL, sd_mulR, sd_pow, sd_rg, sd_rg1, sd_mem, repB_1, lb_ex, swp_eq, pr_snoc, pr_len, prD_rev, zips_nts, rep_one, rep_nts, rep_nts0, at_mod, modN, at_nts, ix_nts, ix_len, set_nts, app_nts, app2_nts, rg_snoc, rgD_len, idx_cast, cut_fromN, cut_toN, cut_two, mem_castD, cast_ltD, cast_leD, cast_eqD, rng_0, nt_def, nts_len, List.length_range, atI_0, atI_1, atI_2, ixN_0, ixN_1, List.length_map, isi_int_none, isi_int_bool, isi_int_int, isi_int_str, isi_int_list, isi_int_tuple, isi_bool_none, isi_bool_bool, isi_bool_int, isi_bool_str, isi_bool_list, isi_bool_tuple, isi_str_none, isi_str_bool, isi_str_int, isi_str_str, isi_str_list, isi_str_tuple, isi_tuple_none, isi_tuple_bool, isi_tuple_int, isi_tuple_str, isi_tuple_list, isi_tuple_tuple, isi_list_none, isi_list_bool, isi_list_int, isi_list_str, isi_list_list, isi_list_tuple]
    refine ci_cards_L 12 hD (by decide) (by decide) (fun l c hD hc hl => ?_)
    have h2 := hc.two
    simp -implicitDefEqProofs -dsimp (disch := (first | assumption | omega)) only [↓wIf_s, ↓wFor_s, ↓wWhile_s, ↓wIC_s, ↓wEqD_s, ↓wAndV_s, ↓wOrV_s, ↓wAnd_s, ↓wOr_s, ↓wIfE_s, ↓wTup_s, ↓wLst_s, ↓wCallP_s, ↓wCallM_s, ↓wAppend_s, ↓wExtend_s, ↓wPop_s, ↓wIxL_s, ↓wIxT_s, ↓wIxA_s, ↓wCatT_s, ↓wCat_s, ↓wAddD_s, ↓wRep_s, ↓wInI_s, ↓wRng1_s, ↓wRng2_s, ↓wRng3_s, ↓wgTup_s, ↓wgLst_s, ↓wgSub_s, ↓wDGet_s, ↓wDPut_s, ↓wDUpd_s, ↓wLstRg_s, ↓wTupRg_s, ↓wTIdx_s, ↓wLIdx_s, ↓wPopAt_s, ↓wChainF_s, ↓wLc_s, ↓wDc_s, ↓wInts_s, ↓wBls_s, ↓wMaxF_s, ↓wMinF_s, ↓wSortedF_s, ↓wLc2_s, ↓wSortSet_s, ↓wZip_s, ↓wRevL_s, ↓wCallI_s, ↓wCallID_s, ↓wCallIK_s, ↓wCallJ_s, ↓wVar_ap, ↓wC_ap, ↓wOp_ap, ↓wUn_ap, ↓wII_ap, ↓wIB_ap, ↓wNeg_ap, ↓wEqI_ap, ↓wIsN_ap, ↓wNotV_ap, ↓wTest_ap, ↓wNot_ap, ↓wNil_ap, ↓wCons_ap, ↓wCB_ap, ↓wFrz_ap, ↓wBM_ap, ↓wBM0_ap, ↓wReverse_ap, ↓wNoPart_ap, ↓wPart_ap, ↓wSl_ap, ↓wSlL_ap, ↓wSlT_ap, ↓wLen_ap, ↓wListOf_ap, ↓wTupleOf_ap, ↓wAbs_ap, ↓wIList_ap, ↓wITup_ap, ↓wName_ap, ↓wgNil_ap, ↓wgCons_ap, ↓wNext_ap, ↓wSeq_ap, ↓wAsg_ap, ↓wDrop_ap, ↓wRet_ap, ↓wRetN_ap, ↓wNever_ap, ↓wBreak_ap, ↓wCont_ap, ↓wPar_ap, ↓wAug_ap, ↓wIsT_ap, ↓wEnumT_ap, ↓wEnum_ap, ↓wDNew_ap, ↓wDIn_ap, ↓wDGet2_ap, ↓wRg1_ap, ↓wRg2_ap, ↓wFrzV_ap, ↓wThen_ap, ↓ifS_t, ↓ifS_f, ↓ifQ_t, ↓ifQ_f, ↓gtB_s, ↓intsB_m, ↓intsB_n, ↓intsB_nil, ↓intsB_1, ↓intsB_2, ↓intsB_3, ↓eqB_bool, ↓eqB_int, ↓eqB_non, Bool.true_beq, Bool.false_beq, ↓inB_s, ↓ret_fz, ↓ret_ls, ↓ret_rf, ret_nts, ret_tnts, ret_int, ret_bool, ret_none, ret_str, ret_rgD, ↓lcN_a, ↓lcO_a, ↓lcM_a, ↓lcP_a, ↓blB_s, ↓blB_nil, ↓blB_1, ↓blB_2, ↓blB_3, ↓sto, ↓frz, stL, isNum_t, Int.reducePow, Int.reduceSub, Int.reduceAdd, Int.reduceMul, vl, vls, its, lsOf, oLs, oL, upL, fzs, keyOf, dkOf, isN, wipeS, ownFree, own_fz, own_un, own_rf, own_ls, own_lb, own_dk, List.map_cons, List.map_nil, List.all_cons, List.all_nil, List.set, List.getD_cons_zero, List.getD_cons_succ, List.getD_nil, List.getElem?_cons_zero, List.getElem?_cons_succ, Option.getD_some, List.getElem?_nil, Option.getD_none, Option.map_some, Option.map_none, Bool.false_eq_true, if_true, if_false, Bool.not_true, Bool.not_false, Bool.and_true, Bool.true_and, Bool.and_self, Bool.and_false, Bool.false_and, Bool.or_true, Bool.true_or, Bool.or_false, Bool.false_or, List.cons_append, List.nil_append, List.append_nil, List.length_cons, List.length_nil, Nat.reduceAdd, Int.reduceToNat, List.eraseIdx, Int.reduceNeg, Int.sub_zero, Int.toNat_natCast, eq_self, decide_true, cl_0, cl_1, cl_2, cl_3, cl_4, cl_5, cl_6, cl_7, cl_8, cl_9, cl_10, cl_11, cl_12, cl_13, sd_true, sd_refl, castL_map, sd_le, sd_lt, sd_eqn, sd_div, sd_mulL, sd_mulR, sd_pow, sd_rg, sd_rg1, sd_mem, repB_1, lb_ex, swp_eq, pr_snoc, pr_len, prD_rev, zips_nts, rep_one, rep_nts, rep_nts0, at_mod, modN, at_nts, ix_nts, ix_len, set_nts, app_nts, app2_nts, rg_snoc, rgD_len, idx_cast, cut_fromN, cut_toN, cut_two, mem_castD, cast_ltD, cast_leD, cast_eqD, rng_0, nt_def, nts_len, List.length_range, atI_0, atI_1, atI_2, ixN_0, ixN_1, List.length_map, isi_int_none, isi_int_bool, isi_int_int, isi_int_str, isi_int_list, isi_int_tuple, isi_bool_none, isi_bool_bool, isi_bool_int, isi_bool_str, isi_bool_list, isi_bool_tuple, isi_str_none, isi_str_bool, isi_str_int, isi_str_str, isi_str_list, isi_str_tuple, isi_tuple_none, isi_tuple_bool, isi_tuple_int, isi_tuple_str, isi_tuple_list, isi_tuple_tuple, isi_list_none, isi_list_bool, isi_list_int, isi_list_str, isi_list_list, isi_list_tuple]
    refine forB_r (fun i ds => ∃ (y z u v : AV), ds = [.fz (.list (ns.map PyData.int)), .ls l, .fz (.tuple (nts c)), y, z, u, v]) ⟨_, _, _, _, rfl⟩ (fun i ds J hi h hJ => ?_) (fun ds h => ?_)
    · obtain ⟨y, z, u, v, rfl⟩ := h
      simp -implicitDefEqProofs -dsimp (disch := (first | assumption | omega)) only [↓wIf_s, ↓wFor_s, ↓wWhile_s, ↓wIC_s, ↓wEqD_s, ↓wAndV_s, ↓wOrV_s, ↓wAnd_s, ↓wOr_s, ↓wIfE_s, ↓wTup_s, ↓wLst_s, ↓wCallP_s, ↓wCallM_s, ↓wAppend_s, ↓wExtend_s, ↓wPop_s, ↓wIxL_s, ↓wIxT_s, ↓wIxA_s, ↓wCatT_s, ↓wCat_s, ↓wAddD_s, ↓wRep_s, ↓wInI_s, ↓wRng1_s, ↓wRng2_s, ↓wRng3_s, ↓wgTup_s, ↓wgLst_s, ↓wgSub_s, ↓wDGet_s, ↓wDPut_s, ↓wDUpd_s, ↓wLstRg_s, ↓wTupRg_s, ↓wTIdx_s, ↓wLIdx_s, ↓wPopAt_s, ↓wChainF_s, ↓wLc_s, ↓wDc_s, ↓wInts_s, ↓wBls_s, ↓wMaxF_s, ↓wMinF_s, ↓wSortedF_s, ↓wLc2_s, ↓wSortSet_s, ↓wZip_s, ↓wRevL_s, ↓wCallI_s, ↓wCallID_s, ↓wCallIK_s, ↓wCallJ_s, ↓wVar_ap, ↓wC_ap, ↓wOp_ap, ↓wUn_ap, ↓wII_ap, ↓wIB_ap, ↓wNeg_ap, ↓wEqI_ap, ↓wIsN_ap, ↓wNotV_ap, ↓wTest_ap, ↓wNot_ap, ↓wNil_ap, ↓wCons_ap, ↓wCB_ap, ↓wFrz_ap, ↓wBM_ap, ↓wBM0_ap, ↓wReverse_ap, ↓wNoPart_ap, ↓wPart_ap, ↓wSl_ap, ↓wSlL_ap, ↓wSlT_ap, ↓wLen_ap, ↓wListOf_ap, ↓wTupleOf_ap, ↓wAbs_ap, ↓wIList_ap, ↓wITup_ap, ↓wName_ap, ↓wgNil_ap, ↓wgCons_ap, ↓wNext_ap, ↓wSeq_ap, ↓wAsg_ap, ↓wDrop_ap, ↓wRet_ap, ↓wRetN_ap, ↓wNever_ap, ↓wBreak_ap, ↓wCont_ap, ↓wPar_ap, ↓wAug_ap, ↓wIsT_ap, ↓wEnumT_ap, ↓wEnum_ap, ↓wDNew_ap, ↓wDIn_ap, ↓wDGet2_ap, ↓wRg1_ap, ↓wRg2_ap, ↓wFrzV_ap, ↓wThen_ap, ↓ifS_t, ↓ifS_f, ↓ifQ_t, ↓ifQ_f, ↓gtB_s, ↓intsB_m, ↓intsB_n, ↓intsB_nil, ↓intsB_1, ↓intsB_2, ↓intsB_3, ↓eqB_bool, ↓eqB_int, ↓eqB_non, Bool.true_beq, Bool.false_beq, ↓inB_s, ↓ret_fz, ↓ret_ls, ↓ret_rf, ret_nts, ret_tnts, ret_int, ret_bool, ret_none, ret_str, ret_rgD, ↓lcN_a, ↓lcO_a, ↓lcM_a, ↓lcP_a, ↓blB_s, ↓blB_nil, ↓blB_1, ↓blB_2, ↓blB_3, ↓sto, ↓frz, stL, isNum_t, Int.reducePow, Int.reduceSub, Int.reduceAdd, Int.reduceMul, vl, vls, its, lsOf, oLs, oL, upL, fzs, keyOf, dkOf, isN, wipeS, ownFree, own_fz, own_un, own_rf, own_ls, own_lb, own_dk, List.map_cons, List.map_nil, List.all_cons, List.all_nil, List.set, List.getD_cons_zero, List.getD_cons_succ, List.getD_nil, List.getElem?_cons_zero, List.getElem?_cons_succ, Option.getD_some, List.getElem?_nil, Option.getD_none, Option.map_some, Option.map_none, Bool.false_eq_true, if_true, if_false, Bool.not_true, Bool.not_false, Bool.and_true, Bool.true_and, Bool.and_self, Bool.and_false, Bool.false_and, Bool.or_true, Bool.true_or, Bool.or_false, Bool.false_or, List.cons_append, List.nil_append, List.append_nil, List.length_cons, List.length_nil, Nat.reduceAdd, Int.reduceToNat, List.eraseIdx, Int.reduceNeg, Int.sub_zero, Int.toNat_natCast, eq_self, decide_true, cl_0, cl_1, cl_2, cl_3, cl_4, cl_5, cl_6, cl_7, cl_8, cl_9, cl_10, cl_11, cl_12, cl_13, sd_true, sd_refl, castL_map, sd_le, sd_lt, sd_eqn, sd_div, sd_mulL, sd_mulR, sd_pow, sd_rg, sd_rg1, sd_mem, repB_1, lb_ex, swp_eq, pr_snoc, pr_len, prD_rev, zips_nts, rep_one, rep_nts, rep_nts0, at_mod, modN, at_nts, ix_nts, ix_len, set_nts, app_nts, app2_nts, rg_snoc, rgD_len, idx_cast, cut_fromN, cut_toN, cut_two, mem_castD, cast_ltD, cast_leD, cast_eqD, rng_0, nt_def, nts_len, List.length_range, atI_0, atI_1, atI_2, ixN_0, ixN_1, List.length_map, isi_int_none, isi_int_bool, isi_int_int, isi_int_str, isi_int_list, isi_int_tuple, isi_bool_none, isi_bool_bool, isi_bool_int, isi_bool_str, isi_bool_list, isi_bool_tuple, isi_str_none, isi_str_bool, isi_str_int, isi_str_str, isi_str_list, isi_str_tuple, isi_tuple_none, isi_tuple_bool, isi_tuple_int, isi_tuple_str, isi_tuple_list, isi_tuple_tuple, isi_list_none, isi_list_bool, isi_list_int, isi_list_str, isi_list_list, isi_list_tuple]
      refine forB_r (fun j ds => ∃ (z u v : AV), ds = [.fz (.list (ns.map PyData.int)), .ls l, .fz (.tuple (nts c)), .fz (.int (i : Int)), z, u, v]) ⟨_, _, _, rfl⟩ (fun j ds J2 hj h hJ2 => ?_) (fun ds h => ?_)
      · obtain ⟨z, u, v, rfl⟩ := h
        simp -implicitDefEqProofs -dsimp (disch := (first | assumption | omega)) only [↓wIf_s, ↓wFor_s, ↓wWhile_s, ↓wIC_s, ↓wEqD_s, ↓wAndV_s, ↓wOrV_s, ↓wAnd_s, ↓wOr_s, ↓wIfE_s, ↓wTup_s, ↓wLst_s, ↓wCallP_s, ↓wCallM_s, ↓wAppend_s, ↓wExtend_s, ↓wPop_s, ↓wIxL_s, ↓wIxT_s, ↓wIxA_s, ↓wCatT_s, ↓wCat_s, ↓wAddD_s, ↓wRep_s, ↓wInI_s, ↓wRng1_s, ↓wRng2_s, ↓wRng3_s, ↓wgTup_s, ↓wgLst_s, ↓wgSub_s, ↓wDGet_s, ↓wDPut_s, ↓wDUpd_s, ↓wLstRg_s, ↓wTupRg_s, ↓wTIdx_s, ↓wLIdx_s, ↓wPopAt_s, ↓wChainF_s, ↓wLc_s, ↓wDc_s, ↓wInts_s, ↓wBls_s, ↓wMaxF_s, ↓wMinF_s, ↓wSortedF_s, ↓wLc2_s, ↓wSortSet_s, ↓wZip_s, ↓wRevL_s, ↓wCallI_s, ↓wCallID_s, ↓wCallIK_s, ↓wCallJ_s, ↓wVar_ap, ↓wC_ap, ↓wOp_ap, ↓wUn_ap, ↓wII_ap, ↓wIB_ap, ↓wNeg_ap, ↓wEqI_ap, ↓wIsN_ap, ↓wNotV_ap, ↓wTest_ap, ↓wNot_ap, ↓wNil_ap, ↓wCons_ap, ↓wCB_ap, ↓wFrz_ap, ↓wBM_ap, ↓wBM0_ap, ↓wReverse_ap, ↓wNoPart_ap, ↓wPart_ap, ↓wSl_ap, ↓wSlL_ap, ↓wSlT_ap, ↓wLen_ap, ↓wListOf_ap, ↓wTupleOf_ap, ↓wAbs_ap, ↓wIList_ap, ↓wITup_ap, ↓wName_ap, ↓wgNil_ap, ↓wgCons_ap, ↓wNext_ap, ↓wSeq_ap, ↓wAsg_ap, ↓wDrop_ap, ↓wRet_ap, ↓wRetN_ap, ↓wNever_ap, ↓wBreak_ap, ↓wCont_ap, ↓wPar_ap, ↓wAug_ap, ↓wIsT_ap, ↓wEnumT_ap, ↓wEnum_ap, ↓wDNew_ap, ↓wDIn_ap, ↓wDGet2_ap, ↓wRg1_ap, ↓wRg2_ap, ↓wFrzV_ap, ↓wThen_ap, ↓ifS_t, ↓ifS_f, ↓ifQ_t, ↓ifQ_f, ↓gtB_s, ↓intsB_m, ↓intsB_n, ↓intsB_nil, ↓intsB_1, ↓intsB_2, ↓intsB_3, ↓eqB_bool, ↓eqB_int, ↓eqB_non, Bool.true_beq, Bool.false_beq, ↓inB_s, ↓ret_fz, ↓ret_ls, ↓ret_rf, ret_nts, ret_tnts, ret_int, ret_bool, ret_none, ret_str, ret_rgD, ↓lcN_a, ↓lcO_a, ↓lcM_a, ↓lcP_a, ↓blB_s, ↓blB_nil, ↓blB_1, ↓blB_2, ↓blB_3, ↓sto, ↓frz, stL, isNum_t, Int.reducePow, Int.reduceSub, Int.reduceAdd, Int.reduceMul, vl, vls, its, lsOf, oLs, oL, upL, fzs, keyOf, dkOf, isN, wipeS, ownFree, own_fz, own_un, own_rf, own_ls, own_lb, own_dk, List.map_cons, List.map_nil, List.all_cons, List.all_nil, List.set, List.getD_cons_zero, List.getD_cons_succ, List.getD_nil, List.getElem?_cons_zero, List.getElem?_cons_succ, Option.getD_some, List.getElem?_nil, Option.getD_none, Option.map_some, Option.map_none, Bool.false_eq_true, if_true, if_false, Bool.not_true, Bool.not_false, Bool.and_true, Bool.true_and, Bool.and_self, Bool.and_false, Bool.false_and, Bool.or_true, Bool.true_or, Bool.or_false, Bool.false_or, List.cons_append, List.nil_append, List.append_nil, List.length_cons, List.length_nil, Nat.reduceAdd, Int.reduceToNat, List.eraseIdx, Int.reduceNeg, Int.sub_zero, Int.toNat_natCast, eq_self, decide_true, cl_0, cl_1, cl_2, cl_3, cl_4, cl_5, cl_6, cl_7, cl_8, cl_9, cl_10, cl_11, cl_12, cl_13, sd_true, sd_refl, castL_map, sd_le, sd_lt, sd_eqn, sd_div, sd_mulL, sd_mulR, sd_pow, sd_rg, sd_rg1, sd_mem, repB_1, lb_ex, swp_eq, pr_snoc, pr_len, prD_rev, zips_nts, rep_one, rep_nts, rep_nts0, at_mod, modN, at_nts, ix_nts, ix_len, set_nts, app_nts, app2_nts, rg_snoc, rgD_len, idx_cast, cut_fromN, cut_toN, cut_two, mem_castD, cast_ltD, cast_leD, cast_eqD, rng_0, nt_def, nts_len, List.length_range, atI_0, atI_1, atI_2, ixN_0, ixN_1, List.length_map, isi_int_none, isi_int_bool, isi_int_int, isi_int_str, isi_int_list, isi_int_tuple, isi_bool_none, isi_bool_bool, isi_bool_int, isi_bool_str, isi_bool_list, isi_bool_tuple, isi_str_none, isi_str_bool, isi_str_int, isi_str_str, isi_str_list, isi_str_tuple, isi_tuple_none, isi_tuple_bool, isi_tuple_int, isi_tuple_str, isi_tuple_list, isi_tuple_tuple, isi_list_none, isi_list_bool, isi_list_int, isi_list_str, isi_list_list, isi_list_tuple]
        by_cases hij : i = j
        · subst hij
          simp -implicitDefEqProofs -dsimp (disch := (first | assumption | omega)) only [↓wIf_s, ↓wFor_s, ↓wWhile_s, ↓wIC_s, ↓wEqD_s, ↓wAndV_s, ↓wOrV_s, ↓wAnd_s, ↓wOr_s, ↓wIfE_s, ↓wTup_s, ↓wLst_s, ↓wCallP_s, ↓wCallM_s, ↓wAppend_s, ↓wExtend_s, ↓wPop_s, ↓wIxL_s, ↓wIxT_s, ↓wIxA_s, ↓wCatT_s, ↓wCat_s, ↓wAddD_s, ↓wRep_s, ↓wInI_s, ↓wRng1_s, ↓wRng2_s, ↓wRng3_s, ↓wgTup_s, ↓wgLst_s, ↓wgSub_s, ↓wDGet_s, ↓wDPut_s, ↓wDUpd_s, ↓wLstRg_s, ↓wTupRg_s, ↓wTIdx_s, ↓wLIdx_s, ↓wPopAt_s, ↓wChainF_s, ↓wLc_s, ↓wDc_s, ↓wInts_s, ↓wBls_s, ↓wMaxF_s, ↓wMinF_s, ↓wSortedF_s, ↓wLc2_s, ↓wSortSet_s, ↓wZip_s, ↓wRevL_s, ↓wCallI_s, ↓wCallID_s, ↓wCallIK_s, ↓wCallJ_s, ↓wVar_ap, ↓wC_ap, ↓wOp_ap, ↓wUn_ap, ↓wII_ap, ↓wIB_ap, ↓wNeg_ap, ↓wEqI_ap, ↓wIsN_ap, ↓wNotV_ap, ↓wTest_ap, ↓wNot_ap, ↓wNil_ap, ↓wCons_ap, ↓wCB_ap, ↓wFrz_ap, ↓wBM_ap, ↓wBM0_ap, ↓wReverse_ap, ↓wNoPart_ap, ↓wPart_ap, ↓wSl_ap, ↓wSlL_ap, ↓wSlT_ap, ↓wLen_ap, ↓wListOf_ap, ↓wTupleOf_ap, ↓wAbs_ap, ↓wIList_ap, ↓wITup_ap, ↓wName_ap, ↓wgNil_ap, ↓wgCons_ap, ↓wNext_ap, ↓wSeq_ap, ↓wAsg_ap, ↓wDrop_ap, ↓wRet_ap, ↓wRetN_ap, ↓wNever_ap, ↓wBreak_ap, ↓wCont_ap, ↓wPar_ap, ↓wAug_ap, ↓wIsT_ap, ↓wEnumT_ap, ↓wEnum_ap, ↓wDNew_ap, ↓wDIn_ap, ↓wDGet2_ap, ↓wRg1_ap, ↓wRg2_ap, ↓wFrzV_ap, ↓wThen_ap, ↓ifS_t, ↓ifS_f, ↓ifQ_t, ↓ifQ_f, ↓gtB_s, ↓intsB_m, ↓intsB_n, ↓intsB_nil, ↓intsB_1, ↓intsB_2, ↓intsB_3, ↓eqB_bool, ↓eqB_int, ↓eqB_non, Bool.true_beq, Bool.false_beq, ↓inB_s, ↓ret_fz, ↓ret_ls, ↓ret_rf, ret_nts, ret_tnts, ret_int, ret_bool, ret_none, ret_str, ret_rgD, ↓lcN_a, ↓lcO_a, ↓lcM_a, ↓lcP_a, ↓blB_s, ↓blB_nil, ↓blB_1, ↓blB_2, ↓blB_3, ↓sto, ↓frz, stL, isNum_t, Int.reducePow, Int.reduceSub, Int.reduceAdd, Int.reduceMul, vl, vls, its, lsOf, oLs, oL, upL, fzs, keyOf, dkOf, isN, wipeS, ownFree, own_fz, own_un, own_rf, own_ls, own_lb, own_dk, List.map_cons, List.map_nil, List.all_cons, List.all_nil, List.set, List.getD_cons_zero, List.getD_cons_succ, List.getD_nil, List.getElem?_cons_zero, List.getElem?_cons_succ, Option.getD_some, List.getElem?_nil, Option.getD_none, Option.map_some, Option.map_none, Bool.false_eq_true, if_true, if_false, Bool.not_true, Bool.not_false, Bool.and_true, Bool.true_and, Bool.and_self, Bool.and_false, Bool.false_and, Bool.or_true, Bool.true_or, Bool.or_false, Bool.false_or, List.cons_append, List.nil_append, List.append_nil, List.length_cons, List.length_nil, Nat.reduceAdd, Int.reduceToNat, List.eraseIdx, Int.reduceNeg, Int.sub_zero, Int.toNat_natCast, eq_self, decide_true, cl_0, cl_1, cl_2, cl_3, cl_4, cl_5, cl_6, cl_7, cl_8, cl_9, cl_10, cl_11, cl_12, cl_13, sd_true, sd_refl, castL_map, sd_le, sd_lt, sd_eqn, sd_div, sd_mulL, sd_mulR, sd_pow, sd_rg, sd_rg1, sd_mem, repB_1, lb_ex, swp_eq, pr_snoc, pr_len, prD_rev, zips_nts, rep_one, rep_nts, rep_nts0, at_mod, modN, at_nts, ix_nts, ix_len, set_nts, app_nts, app2_nts, rg_snoc, rgD_len, idx_cast, cut_fromN, cut_toN, cut_two, mem_castD, cast_ltD, cast_leD, cast_eqD, rng_0, nt_def, nts_len, List.length_range, atI_0, atI_1, atI_2, ixN_0, ixN_1, List.length_map, isi_int_none, isi_int_bool, isi_int_int, isi_int_str, isi_int_list, isi_int_tuple, isi_bool_none, isi_bool_bool, isi_bool_int, isi_bool_str, isi_bool_list, isi_bool_tuple, isi_str_none, isi_str_bool, isi_str_int, isi_str_str, isi_str_list, isi_str_tuple, isi_tuple_none, isi_tuple_bool, isi_tuple_int, isi_tuple_str, isi_tuple_list, isi_tuple_tuple, isi_list_none, isi_list_bool, isi_list_int, isi_list_str, isi_list_list, isi_list_tuple]
          exact hJ2 _ ⟨_, _, _, rfl⟩
        · have hd := hc.swp hi hj
          have hdl := swp_len c i j
          have p0 := pin_nil c.length
          have ok1 : OkX c.length [] [(i, j)] := fun p hp => by
            obtain rfl := List.mem_singleton.mp hp
            exact ⟨hi, hj, hij, by simp, by simp⟩
          have ok2 : OkX (swp c i j).length [] [(j, i)] := fun p hp => by
            obtain rfl := List.mem_singleton.mp hp
            rw [hdl]
            exact ⟨hj, hi, fun e => hij e.symm, by simp, by simp⟩
          have hflip := hc.parts_flip hi hj hij
          have hback : swp (swp c i j) j i = c := by
            rw [swp_comm (by rw [hdl]; exact hj) (by rw [hdl]; exact hi)]
            exact swp_back hi hj
          have hsym : i ∈ ringOf (swp c i j) j ↔ j ∉ ringOf c i := by
            rw [← hflip]
            exact ⟨fun q => hd.ring_symm (by rw [hdl]; exact hj) q, fun q => hd.ring_symm (by rw [hdl]; exact hi) q⟩
          simp -implicitDefEqProofs -dsimp (disch := (first | assumption | omega)) only [↓wIf_s, ↓wFor_s, ↓wWhile_s, ↓wIC_s, ↓wEqD_s, ↓wAndV_s, ↓wOrV_s, ↓wAnd_s, ↓wOr_s, ↓wIfE_s, ↓wTup_s, ↓wLst_s, ↓wCallP_s, ↓wCallM_s, ↓wAppend_s, ↓wExtend_s, ↓wPop_s, ↓wIxL_s, ↓wIxT_s, ↓wIxA_s, ↓wCatT_s, ↓wCat_s, ↓wAddD_s, ↓wRep_s, ↓wInI_s, ↓wRng1_s, ↓wRng2_s, ↓wRng3_s, ↓wgTup_s, ↓wgLst_s, ↓wgSub_s, ↓wDGet_s, ↓wDPut_s, ↓wDUpd_s, ↓wLstRg_s, ↓wTupRg_s, ↓wTIdx_s, ↓wLIdx_s, ↓wPopAt_s, ↓wChainF_s, ↓wLc_s, ↓wDc_s, ↓wInts_s, ↓wBls_s, ↓wMaxF_s, ↓wMinF_s, ↓wSortedF_s, ↓wLc2_s, ↓wSortSet_s, ↓wZip_s, ↓wRevL_s, ↓wCallI_s, ↓wCallID_s, ↓wCallIK_s, ↓wCallJ_s, ↓wVar_ap, ↓wC_ap, ↓wOp_ap, ↓wUn_ap, ↓wII_ap, ↓wIB_ap, ↓wNeg_ap, ↓wEqI_ap, ↓wIsN_ap, ↓wNotV_ap, ↓wTest_ap, ↓wNot_ap, ↓wNil_ap, ↓wCons_ap, ↓wCB_ap, ↓wFrz_ap, ↓wBM_ap, ↓wBM0_ap, ↓wReverse_ap, ↓wNoPart_ap, ↓wPart_ap, ↓wSl_ap, ↓wSlL_ap, ↓wSlT_ap, ↓wLen_ap, ↓wListOf_ap, ↓wTupleOf_ap, ↓wAbs_ap, ↓wIList_ap, ↓wITup_ap, ↓wName_ap, ↓wgNil_ap, ↓wgCons_ap, ↓wNext_ap, ↓wSeq_ap, ↓wAsg_ap, ↓wDrop_ap, ↓wRet_ap, ↓wRetN_ap, ↓wNever_ap, ↓wBreak_ap, ↓wCont_ap, ↓wPar_ap, ↓wAug_ap, ↓wIsT_ap, ↓wEnumT_ap, ↓wEnum_ap, ↓wDNew_ap, ↓wDIn_ap, ↓wDGet2_ap, ↓wRg1_ap, ↓wRg2_ap, ↓wFrzV_ap, ↓wThen_ap, ↓ifS_t, ↓ifS_f, ↓ifQ_t, ↓ifQ_f, ↓gtB_s, ↓intsB_m, ↓intsB_n, ↓intsB_nil, ↓intsB_1, ↓intsB_2, ↓intsB_3, ↓eqB_bool, ↓eqB_int, ↓eqB_non, Bool.true_beq, Bool.false_beq, ↓inB_s, ↓ret_fz, ↓ret_ls, ↓ret_rf, ret_nts, ret_tnts, ret_int, ret_bool, ret_none, ret_str, ret_rgD, ↓lcN_a, ↓lcO_a, ↓lcM_a, ↓lcP_a, ↓blB_s, ↓blB_nil, ↓blB_1, ↓blB_2, ↓blB_3, ↓sto, ↓frz, stL, isNum_t, Int.reducePow, Int.reduceSub, Int.reduceAdd, Int.reduceMul, vl, vls, its, lsOf, oLs, oL, upL, fzs, keyOf, dkOf, isN, wipeS, ownFree, own_fz, own_un, own_rf, own_ls, own_lb, own_dk, List.map_cons, List.map_nil, List.all_cons, List.all_nil, List.set, List.getD_cons_zero, List.getD_cons_succ, List.getD_nil, List.getElem?_cons_zero, List.getElem?_cons_succ, Option.getD_some, List.getElem?_nil, Option.getD_none, Option.map_some, Option.map_none, Bool.false_eq_true, if_true, if_false, Bool.not_true, Bool.not_false, Bool.and_true, Bool.true_and, Bool.and_self, Bool.and_false, Bool.false_and, Bool.or_true, Bool.true_or, Bool.or_false, Bool.false_or, List.cons_append, List.nil_append, List.append_nil, List.length_cons, List.length_nil, Nat.reduceAdd, Int.reduceToNat, List.eraseIdx, Int.reduceNeg, Int.sub_zero, Int.toNat_natCast, eq_self, decide_true, cl_0, cl_1, cl_2, cl_3, cl_4, cl_5, cl_6, cl_7, cl_8, cl_9, cl_10, cl_11, cl_12, cl_13, sd_true, sd_refl, castL_map, sd_le, sd_lt, sd_eqn, sd_div, sd_mulL, sd_mulR, sd_pow, sd_rg, sd_rg1, sd_mem, repB_1, lb_ex, swp_eq, pr_snoc, pr_len, prD_rev, zips_nts, rep_one, rep_nts, rep_nts0, at_mod, modN, at_nts, ix_nts, ix_len, set_nts, app_nts, app2_nts, rg_snoc, rgD_len, idx_cast, cut_fromN, cut_toN, cut_two, mem_castD, cast_ltD, cast_leD, cast_eqD, rng_0, nt_def, nts_len, List.length_range, atI_0, atI_1, atI_2, ixN_0, ixN_1, List.length_map, isi_int_none, isi_int_bool, isi_int_int, isi_int_str, isi_int_list, isi_int_tuple, isi_bool_none, isi_bool_bool, isi_bool_int, isi_bool_str, isi_bool_list, isi_bool_tuple, isi_str_none, isi_str_bool, isi_str_int, isi_str_str, isi_str_list, isi_str_tuple, isi_tuple_none, isi_tuple_bool, isi_tuple_int, isi_tuple_str, isi_tuple_list, isi_tuple_tuple, isi_list_none, isi_list_bool, isi_list_int, isi_list_str, isi_list_list, isi_list_tuple, decide_eq_false hij]
          refine ci_done c [(i, j)] [] hc hl p0 ok1 ?_
          simp -implicitDefEqProofs -dsimp (disch := (first | assumption | omega)) only [↓wIf_s, ↓wFor_s, ↓wWhile_s, ↓wIC_s, ↓wEqD_s, ↓wAndV_s, ↓wOrV_s, ↓wAnd_s, ↓wOr_s, ↓wIfE_s, ↓wTup_s, ↓wLst_s, ↓wCallP_s, ↓wCallM_s, ↓wAppend_s, ↓wExtend_s, ↓wPop_s, ↓wIxL_s, ↓wIxT_s, ↓wIxA_s, ↓wCatT_s, ↓wCat_s, ↓wAddD_s, ↓wRep_s, ↓wInI_s, ↓wRng1_s, ↓wRng2_s, ↓wRng3_s, ↓wgTup_s, ↓wgLst_s, ↓wgSub_s, ↓wDGet_s, ↓wDPut_s, ↓wDUpd_s, ↓wLstRg_s, ↓wTupRg_s, ↓wTIdx_s, ↓wLIdx_s, ↓wPopAt_s, ↓wChainF_s, ↓wLc_s, ↓wDc_s, ↓wInts_s, ↓wBls_s, ↓wMaxF_s, ↓wMinF_s, ↓wSortedF_s, ↓wLc2_s, ↓wSortSet_s, ↓wZip_s, ↓wRevL_s, ↓wCallI_s, ↓wCallID_s, ↓wCallIK_s, ↓wCallJ_s, ↓wVar_ap, ↓wC_ap, ↓wOp_ap, ↓wUn_ap, ↓wII_ap, ↓wIB_ap, ↓wNeg_ap, ↓wEqI_ap, ↓wIsN_ap, ↓wNotV_ap, ↓wTest_ap, ↓wNot_ap, ↓wNil_ap, ↓wCons_ap, ↓wCB_ap, ↓wFrz_ap, ↓wBM_ap, ↓wBM0_ap, ↓wReverse_ap, ↓wNoPart_ap, ↓wPart_ap, ↓wSl_ap, ↓wSlL_ap, ↓wSlT_ap, ↓wLen_ap, ↓wListOf_ap, ↓wTupleOf_ap, ↓wAbs_ap, ↓wIList_ap, ↓wITup_ap, ↓wName_ap, ↓wgNil_ap, ↓wgCons_ap, ↓wNext_ap, ↓wSeq_ap, ↓wAsg_ap, ↓wDrop_ap, ↓wRet_ap, ↓wRetN_ap, ↓wNever_ap, ↓wBreak_ap, ↓wCont_ap, ↓wPar_ap, ↓wAug_ap, ↓wIsT_ap, ↓wEnumT_ap, ↓wEnum_ap, ↓wDNew_ap, ↓wDIn_ap, ↓wDGet2_ap, ↓wRg1_ap, ↓wRg2_ap, ↓wFrzV_ap, ↓wThen_ap, ↓ifS_t, ↓ifS_f, ↓ifQ_t, ↓ifQ_f, ↓gtB_s, ↓intsB_m, ↓intsB_n, ↓intsB_nil, ↓intsB_1, ↓intsB_2, ↓intsB_3, ↓eqB_bool, ↓eqB_int, ↓eqB_non, Bool.true_beq, Bool.false_beq, ↓inB_s, ↓ret_fz, ↓ret_ls, ↓ret_rf, ret_nts, ret_tnts, ret_int, ret_bool, ret_none, ret_str, ret_rgD, ↓lcN_a, ↓lcO_a, ↓lcM_a, ↓lcP_a, ↓blB_s, ↓blB_nil, ↓blB_1, ↓blB_2, ↓blB_3, ↓sto, ↓frz, stL, isNum_t, Int.reducePow, Int.reduceSub, Int.reduceAdd, Int.reduceMul, vl, vls, its, lsOf, oLs, oL, upL, fzs, keyOf, dkOf, isN, wipeS, ownFree, own_fz, own_un, own_rf, own_ls, own_lb, own_dk, List.map_cons, List.map_nil, List.all_cons, List.all_nil, List.set, List.getD_cons_zero, List.getD_cons_succ, List.getD_nil, List.getElem?_cons_zero, List.getElem?_cons_succ, Option.getD_some, List.getElem?_nil, Option.getD_none, Option.map_some, Option.map_none, Bool.false_eq_true, if_true, if_false, Bool.not_true, Bool.not_false, Bool.and_true, Bool.true_and, Bool.and_self, Bool.and_false, Bool.false_and, Bool.or_true, Bool.true_or, Bool.or_false, Bool.false_or, List.cons_append, List.nil_append, List.append_nil, List.length_cons, List.length_nil, Nat.reduceAdd, Int.reduceToNat, List.eraseIdx, Int.reduceNeg, Int.sub_zero, Int.toNat_natCast, eq_self, decide_true, cl_0, cl_1, cl_2, cl_3, cl_4, cl_5, cl_6, cl_7, cl_8, cl_9, cl_10, cl_11, cl_12, cl_13, sd_true, sd_refl, castL_map, sd_le, sd_lt, sd_eqn, sd_div, sd_mulL, sd_mulR, sd_pow, sd_rg, sd_rg1, sd_mem, repB_1, lb_ex, swp_eq, pr_snoc, pr_len, prD_rev, zips_nts, rep_one, rep_nts, rep_nts0, at_mod, modN, at_nts, ix_nts, ix_len, set_nts, app_nts, app2_nts, rg_snoc, rgD_len, idx_cast, cut_fromN, cut_toN, cut_two, mem_castD, cast_ltD, cast_leD, cast_eqD, rng_0, nt_def, nts_len, List.length_range, atI_0, atI_1, atI_2, ixN_0, ixN_1, List.length_map, isi_int_none, isi_int_bool, isi_int_int, isi_int_str, isi_int_list, isi_int_tuple, isi_bool_none, isi_bool_bool, isi_bool_int, isi_bool_str, isi_bool_list, isi_bool_tuple, isi_str_none, isi_str_bool, isi_str_int, isi_str_str, isi_str_list, isi_str_tuple, isi_tuple_none, isi_tuple_bool, isi_tuple_int, isi_tuple_str, isi_tuple_list, isi_tuple_tuple, isi_list_none, isi_list_bool, isi_list_int, isi_list_str, isi_list_list, isi_list_tuple, show doneL c [(i, j)] = swp c i j from rfl]
          refine ci_rings hd (by omega) ?_
          simp -implicitDefEqProofs -dsimp (disch := (first | assumption | omega)) only [↓wIf_s, ↓wFor_s, ↓wWhile_s, ↓wIC_s, ↓wEqD_s, ↓wAndV_s, ↓wOrV_s, ↓wAnd_s, ↓wOr_s, ↓wIfE_s, ↓wTup_s, ↓wLst_s, ↓wCallP_s, ↓wCallM_s, ↓wAppend_s, ↓wExtend_s, ↓wPop_s, ↓wIxL_s, ↓wIxT_s, ↓wIxA_s, ↓wCatT_s, ↓wCat_s, ↓wAddD_s, ↓wRep_s, ↓wInI_s, ↓wRng1_s, ↓wRng2_s, ↓wRng3_s, ↓wgTup_s, ↓wgLst_s, ↓wgSub_s, ↓wDGet_s, ↓wDPut_s, ↓wDUpd_s, ↓wLstRg_s, ↓wTupRg_s, ↓wTIdx_s, ↓wLIdx_s, ↓wPopAt_s, ↓wChainF_s, ↓wLc_s, ↓wDc_s, ↓wInts_s, ↓wBls_s, ↓wMaxF_s, ↓wMinF_s, ↓wSortedF_s, ↓wLc2_s, ↓wSortSet_s, ↓wZip_s, ↓wRevL_s, ↓wCallI_s, ↓wCallID_s, ↓wCallIK_s, ↓wCallJ_s, ↓wVar_ap, ↓wC_ap, ↓wOp_ap, ↓wUn_ap, ↓wII_ap, ↓wIB_ap, ↓wNeg_ap, ↓wEqI_ap, ↓wIsN_ap, ↓wNotV_ap, ↓wTest_ap, ↓wNot_ap, ↓wNil_ap, ↓wCons_ap, ↓wCB_ap, ↓wFrz_ap, ↓wBM_ap, ↓wBM0_ap, ↓wReverse_ap, ↓wNoPart_ap, ↓wPart_ap, ↓wSl_ap, ↓wSlL_ap, ↓wSlT_ap, ↓wLen_ap, ↓wListOf_ap, ↓wTupleOf_ap, ↓wAbs_ap, ↓wIList_ap, ↓wITup_ap, ↓wName_ap, ↓wgNil_ap, ↓wgCons_ap, ↓wNext_ap, ↓wSeq_ap, ↓wAsg_ap, ↓wDrop_ap, ↓wRet_ap, ↓wRetN_ap, ↓wNever_ap, ↓wBreak_ap, ↓wCont_ap, ↓wPar_ap, ↓wAug_ap, ↓wIsT_ap, ↓wEnumT_ap, ↓wEnum_ap, ↓wDNew_ap, ↓wDIn_ap, ↓wDGet2_ap, ↓wRg1_ap, ↓wRg2_ap, ↓wFrzV_ap, ↓wThen_ap, ↓ifS_t, ↓ifS_f, ↓ifQ_t, ↓ifQ_f, ↓gtB_s, ↓intsB_m, ↓intsB_n, ↓intsB_nil, ↓intsB_1, ↓intsB_2, ↓intsB_3, ↓eqB_bool, ↓eqB_int, ↓eqB_non, Bool.true_beq, Bool.false_beq, ↓inB_s, ↓ret_fz, ↓ret_ls, ↓ret_rf, ret_nts, ret_tnts, ret_int, ret_bool, ret_none, ret_str, ret_rgD, ↓lcN_a, ↓lcO_a, ↓lcM_a, ↓lcP_a, ↓blB_s, ↓blB_nil, ↓blB_1, ↓blB_2, ↓blB_3, ↓sto, ↓frz, stL, isNum_t, Int.reducePow, Int.reduceSub, Int.reduceAdd, Int.reduceMul, vl, vls, its, lsOf, oLs, oL, upL, fzs, keyOf, dkOf, isN, wipeS, ownFree, own_fz, own_un, own_rf, own_ls, own_lb, own_dk, List.map_cons, List.map_nil, List.all_cons, List.all_nil, List.set, List.getD_cons_zero, List.getD_cons_succ, List.getD_nil, List.getElem?_cons_zero, List.getElem?_cons_succ, Option.getD_some, List.getElem?_nil, Option.getD_none, Option.map_some, Option.map_none, Bool.false_eq_true, if_true, if_false, Bool.not_true, Bool.not_false, Bool.and_true, Bool.true_and, Bool.and_self, Bool.and_false, Bool.false_and, Bool.or_true, Bool.true_or, Bool.or_false, Bool.false_or, List.cons_append, List.nil_append, List.append_nil, List.length_cons, List.length_nil, Nat.reduceAdd, Int.reduceToNat, List.eraseIdx, Int.reduceNeg, Int.sub_zero, Int.toNat_natCast, eq_self, decide_true, cl_0, cl_1, cl_2, cl_3, cl_4, cl_5, cl_6, cl_7, cl_8, cl_9, cl_10, cl_11, cl_12, cl_13, sd_true, sd_refl, castL_map, sd_le, sd_lt, sd_eqn, sd_div, sd_mulL, sd_mulR, sd_pow, sd_rg, sd_rg1, sd_mem, repB_1, lb_ex, swp_eq, pr_snoc, pr_len, prD_rev, zips_nts, rep_one, rep_nts, rep_nts0, at_mod, modN, at_nts, ix_nts, ix_len, set_nts, app_nts, app2_nts, rg_snoc, rgD_len, idx_cast, cut_fromN, cut_toN, cut_two, mem_castD, cast_ltD, cast_leD, cast_eqD, rng_0, nt_def, nts_len, List.length_range, atI_0, atI_1, atI_2, ixN_0, ixN_1, List.length_map, isi_int_none, isi_int_bool, isi_int_int, isi_int_str, isi_int_list, isi_int_tuple, isi_bool_none, isi_bool_bool, isi_bool_int, isi_bool_str, isi_bool_list, isi_bool_tuple, isi_str_none, isi_str_bool, isi_str_int, isi_str_str, isi_str_list, isi_str_tuple, isi_tuple_none, isi_tuple_bool, isi_tuple_int, isi_tuple_str, isi_tuple_list, isi_tuple_tuple, isi_list_none, isi_list_bool, isi_list_int, isi_list_str, isi_list_list, isi_list_tuple]
          refine ci_rings hc hl ?_
          simp -implicitDefEqProofs -dsimp (disch := (first | assumption | omega)) only [↓wIf_s, ↓wFor_s, ↓wWhile_s, ↓wIC_s, ↓wEqD_s, ↓wAndV_s, ↓wOrV_s, ↓wAnd_s, ↓wOr_s, ↓wIfE_s, ↓wTup_s, ↓wLst_s, ↓wCallP_s, ↓wCallM_s, ↓wAppend_s, ↓wExtend_s, ↓wPop_s, ↓wIxL_s, ↓wIxT_s, ↓wIxA_s, ↓wCatT_s, ↓wCat_s, ↓wAddD_s, ↓wRep_s, ↓wInI_s, ↓wRng1_s, ↓wRng2_s, ↓wRng3_s, ↓wgTup_s, ↓wgLst_s, ↓wgSub_s, ↓wDGet_s, ↓wDPut_s, ↓wDUpd_s, ↓wLstRg_s, ↓wTupRg_s, ↓wTIdx_s, ↓wLIdx_s, ↓wPopAt_s, ↓wChainF_s, ↓wLc_s, ↓wDc_s, ↓wInts_s, ↓wBls_s, ↓wMaxF_s, ↓wMinF_s, ↓wSortedF_s, ↓wLc2_s, ↓wSortSet_s, ↓wZip_s, ↓wRevL_s, ↓wCallI_s, ↓wCallID_s, ↓wCallIK_s, ↓wCallJ_s, ↓wVar_ap, ↓wC_ap, ↓wOp_ap, ↓wUn_ap, ↓wII_ap, ↓wIB_ap, ↓wNeg_ap, ↓wEqI_ap, ↓wIsN_ap, ↓wNotV_ap, ↓wTest_ap, ↓wNot_ap, ↓wNil_ap, ↓wCons_ap, ↓wCB_ap, ↓wFrz_ap, ↓wBM_ap, ↓wBM0_ap, ↓wReverse_ap, ↓wNoPart_ap, ↓wPart_ap, ↓wSl_ap, ↓wSlL_ap, ↓wSlT_ap, ↓wLen_ap, ↓wListOf_ap, ↓wTupleOf_ap, ↓wAbs_ap, ↓wIList_ap, ↓wITup_ap, ↓wName_ap, ↓wgNil_ap, ↓wgCons_ap, ↓wNext_ap, ↓wSeq_ap, ↓wAsg_ap, ↓wDrop_ap, ↓wRet_ap, ↓wRetN_ap, ↓wNever_ap, ↓wBreak_ap, ↓wCont_ap, ↓wPar_ap, ↓wAug_ap, ↓wIsT_ap, ↓wEnumT_ap, ↓wEnum_ap, ↓wDNew_ap, ↓wDIn_ap, ↓wDGet2_ap, ↓wRg1_ap, ↓wRg2_ap, ↓wFrzV_ap, ↓wThen_ap, ↓ifS_t, ↓ifS_f, ↓ifQ_t, ↓ifQ_f, ↓gtB_s, ↓intsB_m, ↓intsB_n, ↓intsB_nil, ↓intsB_1, ↓intsB_2, ↓intsB_3, ↓eqB_bool, ↓eqB_int, ↓eqB_non, Bool.true_beq, Bool.false_beq, ↓inB_s, ↓ret_fz, ↓ret_ls, ↓ret_rf, ret_nts, ret_tnts, ret_int, ret_bool, ret_none, ret_str, ret_rgD, ↓lcN_a, ↓lcO_a, ↓lcM_a, ↓lcP_a, ↓blB_s, ↓blB_nil, ↓blB_1, ↓blB_2, ↓blB_3, ↓sto, ↓frz, stL, isNum_t, Int.reducePow, Int.reduceSub, Int.reduceAdd, Int.reduceMul, vl, vls, its, lsOf, oLs, oL, upL, fzs, keyOf, dkOf, isN, wipeS, ownFree, own_fz, own_un, own_rf, own_ls, own_lb, own_dk, List.map_cons, List.map_nil, List.all_cons, List.all_nil, List.set, List.getD_cons_zero, List.getD_cons_succ, List.getD_nil, List.getElem?_cons_zero, List.getElem?_cons_succ, Option.getD_some, List.getElem?_nil, Option.getD_none, Option.map_some, Option.map_none, Bool.false_eq_true, if_true, if_false, Bool.not_true, Bool.not_false, Bool.and_true, Bool.true_and, Bool.and_self, Bool.and_false, Bool.false_and, Bool.or_true, Bool.true_or, Bool.or_false, Bool.false_or, List.cons_append, List.nil_append, List.append_nil, List.length_cons, List.length_nil, Nat.reduceAdd, Int.reduceToNat, List.eraseIdx, Int.reduceNeg, Int.sub_zero, Int.toNat_natCast, eq_self, decide_true, cl_0, cl_1, cl_2, cl_3, cl_4, cl_5, cl_6, cl_7, cl_8, cl_9, cl_10, cl_11, cl_12, cl_13, sd_true, sd_refl, castL_map, sd_le, sd_lt, sd_eqn, sd_div, sd_mulL, sd_mulR, sd_pow, sd_rg, sd_rg1, sd_mem, repB_1, lb_ex, swp_eq, pr_snoc, pr_len, prD_rev, zips_nts, rep_one, rep_nts, rep_nts0, at_mod, modN, at_nts, ix_nts, ix_len, set_nts, app_nts, app2_nts, rg_snoc, rgD_len, idx_cast, cut_fromN, cut_toN, cut_two, mem_castD, cast_ltD, cast_leD, cast_eqD, rng_0, nt_def, nts_len, List.length_range, atI_0, atI_1, atI_2, ixN_0, ixN_1, List.length_map, isi_int_none, isi_int_bool, isi_int_int, isi_int_str, isi_int_list, isi_int_tuple, isi_bool_none, isi_bool_bool, isi_bool_int, isi_bool_str, isi_bool_list, isi_bool_tuple, isi_str_none, isi_str_bool, isi_str_int, isi_str_str, isi_str_list, isi_str_tuple, isi_tuple_none, isi_tuple_bool, isi_tuple_int, isi_tuple_str, isi_tuple_list, isi_tuple_tuple, isi_list_none, isi_list_bool, isi_list_int, isi_list_str, isi_list_list, isi_list_tuple]
          by_cases hm : j ∈ ringOf c i
          · have e1 := hc.rings_split hi hj hij hm
            have e2 : (((ringsOf (swp c i j)).length : Int) - ((ringsOf c).length : Int)) = 1 := by omega
            refine ci_parts c i j hc hl hi hj hij ?_
            simp -implicitDefEqProofs -dsimp (disch := (first | assumption | omega)) only [↓wIf_s, ↓wFor_s, ↓wWhile_s, ↓wIC_s, ↓wEqD_s, ↓wAndV_s, ↓wOrV_s, ↓wAnd_s, ↓wOr_s, ↓wIfE_s, ↓wTup_s, ↓wLst_s, ↓wCallP_s, ↓wCallM_s, ↓wAppend_s, ↓wExtend_s, ↓wPop_s, ↓wIxL_s, ↓wIxT_s, ↓wIxA_s, ↓wCatT_s, ↓wCat_s, ↓wAddD_s, ↓wRep_s, ↓wInI_s, ↓wRng1_s, ↓wRng2_s, ↓wRng3_s, ↓wgTup_s, ↓wgLst_s, ↓wgSub_s, ↓wDGet_s, ↓wDPut_s, ↓wDUpd_s, ↓wLstRg_s, ↓wTupRg_s, ↓wTIdx_s, ↓wLIdx_s, ↓wPopAt_s, ↓wChainF_s, ↓wLc_s, ↓wDc_s, ↓wInts_s, ↓wBls_s, ↓wMaxF_s, ↓wMinF_s, ↓wSortedF_s, ↓wLc2_s, ↓wSortSet_s, ↓wZip_s, ↓wRevL_s, ↓wCallI_s, ↓wCallID_s, ↓wCallIK_s, ↓wCallJ_s, ↓wVar_ap, ↓wC_ap, ↓wOp_ap, ↓wUn_ap, ↓wII_ap, ↓wIB_ap, ↓wNeg_ap, ↓wEqI_ap, ↓wIsN_ap, ↓wNotV_ap, ↓wTest_ap, ↓wNot_ap, ↓wNil_ap, ↓wCons_ap, ↓wCB_ap, ↓wFrz_ap, ↓wBM_ap, ↓wBM0_ap, ↓wReverse_ap, ↓wNoPart_ap, ↓wPart_ap, ↓wSl_ap, ↓wSlL_ap, ↓wSlT_ap, ↓wLen_ap, ↓wListOf_ap, ↓wTupleOf_ap, ↓wAbs_ap, ↓wIList_ap, ↓wITup_ap, ↓wName_ap, ↓wgNil_ap, ↓wgCons_ap, ↓wNext_ap, ↓wSeq_ap, ↓wAsg_ap, ↓wDrop_ap, ↓wRet_ap, ↓wRetN_ap, ↓wNever_ap, ↓wBreak_ap, ↓wCont_ap, ↓wPar_ap, ↓wAug_ap, ↓wIsT_ap, ↓wEnumT_ap, ↓wEnum_ap, ↓wDNew_ap, ↓wDIn_ap, ↓wDGet2_ap, ↓wRg1_ap, ↓wRg2_ap, ↓wFrzV_ap, ↓wThen_ap, ↓ifS_t, ↓ifS_f, ↓ifQ_t, ↓ifQ_f, ↓gtB_s, ↓intsB_m, ↓intsB_n, ↓intsB_nil, ↓intsB_1, ↓intsB_2, ↓intsB_3, ↓eqB_bool, ↓eqB_int, ↓eqB_non, Bool.true_beq, Bool.false_beq, ↓inB_s, ↓ret_fz, ↓ret_ls, ↓ret_rf, ret_nts, ret_tnts, ret_int, ret_bool, ret_none, ret_str, ret_rgD, ↓lcN_a, ↓lcO_a, ↓lcM_a, ↓lcP_a, ↓blB_s, ↓blB_nil, ↓blB_1, ↓blB_2, ↓blB_3, ↓sto, ↓frz, stL, isNum_t, Int.reducePow, Int.reduceSub, Int.reduceAdd, Int.reduceMul, vl, vls, its, lsOf, oLs, oL, upL, fzs, keyOf, dkOf, isN, wipeS, ownFree, own_fz, own_un, own_rf, own_ls, own_lb, own_dk, List.map_cons, List.map_nil, List.all_cons, List.all_nil, List.set, List.getD_cons_zero, List.getD_cons_succ, List.getD_nil, List.getElem?_cons_zero, List.getElem?_cons_succ, Option.getD_some, List.getElem?_nil, Option.getD_none, Option.map_some, Option.map_none, Bool.false_eq_true, if_true, if_false, Bool.not_true, Bool.not_false, Bool.and_true, Bool.true_and, Bool.and_self, Bool.and_false, Bool.false_and, Bool.or_true, Bool.true_or, Bool.or_false, Bool.false_or, List.cons_append, List.nil_append, List.append_nil, List.length_cons, List.length_nil, Nat.reduceAdd, Int.reduceToNat, List.eraseIdx, Int.reduceNeg, Int.sub_zero, Int.toNat_natCast, eq_self, decide_true, cl_0, cl_1, cl_2, cl_3, cl_4, cl_5, cl_6, cl_7, cl_8, cl_9, cl_10, cl_11, cl_12, cl_13, sd_true, sd_refl, castL_map, sd_le, sd_lt, sd_eqn, sd_div, sd_mulL, sd_mulR, sd_pow, sd_rg, sd_rg1, sd_mem, repB_1, lb_ex, swp_eq, pr_snoc, pr_len, prD_rev, zips_nts, rep_one, rep_nts, rep_nts0, at_mod, modN, at_nts, ix_nts, ix_len, set_nts, app_nts, app2_nts, rg_snoc, rgD_len, idx_cast, cut_fromN, cut_toN, cut_two, mem_castD, cast_ltD, cast_leD, cast_eqD, rng_0, nt_def, nts_len, List.length_range, atI_0, atI_1, atI_2, ixN_0, ixN_1, List.length_map, isi_int_none, isi_int_bool, isi_int_int, isi_int_str, isi_int_list, isi_int_tuple, isi_bool_none, isi_bool_bool, isi_bool_int, isi_bool_str, isi_bool_list, isi_bool_tuple, isi_str_none, isi_str_bool, isi_str_int, isi_str_str, isi_str_list, isi_str_tuple, isi_tuple_none, isi_tuple_bool, isi_tuple_int, isi_tuple_str, isi_tuple_list, isi_tuple_tuple, isi_list_none, isi_list_bool, isi_list_int, isi_list_str, isi_list_list, isi_list_tuple, e2, decide_eq_true hm, decide_eq_true (show (1 : Int) ∈ [(1 : Int), -1] by simp)]
            refine ci_alike_L rfl ?_
            simp -implicitDefEqProofs -dsimp (disch := (first | assumption | omega)) only [↓wIf_s, ↓wFor_s, ↓wWhile_s, ↓wIC_s, ↓wEqD_s, ↓wAndV_s, ↓wOrV_s, ↓wAnd_s, ↓wOr_s, ↓wIfE_s, ↓wTup_s, ↓wLst_s, ↓wCallP_s, ↓wCallM_s, ↓wAppend_s, ↓wExtend_s, ↓wPop_s, ↓wIxL_s, ↓wIxT_s, ↓wIxA_s, ↓wCatT_s, ↓wCat_s, ↓wAddD_s, ↓wRep_s, ↓wInI_s, ↓wRng1_s, ↓wRng2_s, ↓wRng3_s, ↓wgTup_s, ↓wgLst_s, ↓wgSub_s, ↓wDGet_s, ↓wDPut_s, ↓wDUpd_s, ↓wLstRg_s, ↓wTupRg_s, ↓wTIdx_s, ↓wLIdx_s, ↓wPopAt_s, ↓wChainF_s, ↓wLc_s, ↓wDc_s, ↓wInts_s, ↓wBls_s, ↓wMaxF_s, ↓wMinF_s, ↓wSortedF_s, ↓wLc2_s, ↓wSortSet_s, ↓wZip_s, ↓wRevL_s, ↓wCallI_s, ↓wCallID_s, ↓wCallIK_s, ↓wCallJ_s, ↓wVar_ap, ↓wC_ap, ↓wOp_ap, ↓wUn_ap, ↓wII_ap, ↓wIB_ap, ↓wNeg_ap, ↓wEqI_ap, ↓wIsN_ap, ↓wNotV_ap, ↓wTest_ap, ↓wNot_ap, ↓wNil_ap, ↓wCons_ap, ↓wCB_ap, ↓wFrz_ap, ↓wBM_ap, ↓wBM0_ap, ↓wReverse_ap, ↓wNoPart_ap, ↓wPart_ap, ↓wSl_ap, ↓wSlL_ap, ↓wSlT_ap, ↓wLen_ap, ↓wListOf_ap, ↓wTupleOf_ap, ↓wAbs_ap, ↓wIList_ap, ↓wITup_ap, ↓wName_ap, ↓wgNil_ap, ↓wgCons_ap, ↓wNext_ap, ↓wSeq_ap, ↓wAsg_ap, ↓wDrop_ap, ↓wRet_ap, ↓wRetN_ap, ↓wNever_ap, ↓wBreak_ap, ↓wCont_ap, ↓wPar_ap, ↓wAug_ap, ↓wIsT_ap, ↓wEnumT_ap, ↓wEnum_ap, ↓wDNew_ap, ↓wDIn_ap, ↓wDGet2_ap, ↓wRg1_ap, ↓wRg2_ap, ↓wFrzV_ap, ↓wThen_ap, ↓ifS_t, ↓ifS_f, ↓ifQ_t, ↓ifQ_f, ↓gtB_s, ↓intsB_m, ↓intsB_n, ↓intsB_nil, ↓intsB_1, ↓intsB_2, ↓intsB_3, ↓eqB_bool, ↓eqB_int, ↓eqB_non, Bool.true_beq, Bool.false_beq, ↓inB_s, ↓ret_fz, ↓ret_ls, ↓ret_rf, ret_nts, ret_tnts, ret_int, ret_bool, ret_none, ret_str, ret_rgD, ↓lcN_a, ↓lcO_a, ↓lcM_a, ↓lcP_a, ↓blB_s, ↓blB_nil, ↓blB_1, ↓blB_2, ↓blB_3, ↓sto, ↓frz, stL, isNum_t, Int.reducePow, Int.reduceSub, Int.reduceAdd, Int.reduceMul, vl, vls, its, lsOf, oLs, oL, upL, fzs, keyOf, dkOf, isN, wipeS, ownFree, own_fz, own_un, own_rf, own_ls, own_lb, own_dk, List.map_cons, List.map_nil, List.all_cons, List.all_nil, List.set, List.getD_cons_zero, List.getD_cons_succ, List.getD_nil, List.getElem?_cons_zero, List.getElem?_cons_succ, Option.getD_some, List.getElem?_nil, Option.getD_none, Option.map_some, Option.map_none, Bool.false_eq_true, if_true, if_false, Bool.not_true, Bool.not_false, Bool.and_true, Bool.true_and, Bool.and_self, Bool.and_false, Bool.false_and, Bool.or_true, Bool.true_or, Bool.or_false, Bool.false_or, List.cons_append, List.nil_append, List.append_nil, List.length_cons, List.length_nil, Nat.reduceAdd, Int.reduceToNat, List.eraseIdx, Int.reduceNeg, Int.sub_zero, Int.toNat_natCast, eq_self, decide_true, cl_0, cl_1, cl_2, cl_3, cl_4, cl_5, cl_6, cl_7, cl_8, cl_9, cl_10, cl_11, cl_12, cl_13, sd_true, sd_refl, castL_map, sd_le, sd_lt, sd_eqn, sd_div, sd_mulL, sd_mulR, sd_pow, sd_rg, sd_rg1, sd_mem, repB_1, lb_ex, swp_eq, pr_snoc, pr_len, prD_rev, zips_nts, rep_one, rep_nts, rep_nts0, at_mod, modN, at_nts, ix_nts, ix_len, set_nts, app_nts, app2_nts, rg_snoc, rgD_len, idx_cast, cut_fromN, cut_toN, cut_two, mem_castD, cast_ltD, cast_leD, cast_eqD, rng_0, nt_def, nts_len, List.length_range, atI_0, atI_1, atI_2, ixN_0, ixN_1, List.length_map, isi_int_none, isi_int_bool, isi_int_int, isi_int_str, isi_int_list, isi_int_tuple, isi_bool_none, isi_bool_bool, isi_bool_int, isi_bool_str, isi_bool_list, isi_bool_tuple, isi_str_none, isi_str_bool, isi_str_int, isi_str_str, isi_str_list, isi_str_tuple, isi_tuple_none, isi_tuple_bool, isi_tuple_int, isi_tuple_str, isi_tuple_list, isi_tuple_tuple, isi_list_none, isi_list_bool, isi_list_int, isi_list_str, isi_list_list, isi_list_tuple, decide_eq_true (show (1 : Int) ∈ [(1 : Int), -1] by simp), decide_eq_true (show (-1 : Int) ∈ [(1 : Int), -1] by simp)]
            refine ci_parts (swp c i j) j i hd (by omega) (by omega) (by omega) (fun e => hij e.symm) ?_
            simp -implicitDefEqProofs -dsimp (disch := (first | assumption | omega)) only [↓wIf_s, ↓wFor_s, ↓wWhile_s, ↓wIC_s, ↓wEqD_s, ↓wAndV_s, ↓wOrV_s, ↓wAnd_s, ↓wOr_s, ↓wIfE_s, ↓wTup_s, ↓wLst_s, ↓wCallP_s, ↓wCallM_s, ↓wAppend_s, ↓wExtend_s, ↓wPop_s, ↓wIxL_s, ↓wIxT_s, ↓wIxA_s, ↓wCatT_s, ↓wCat_s, ↓wAddD_s, ↓wRep_s, ↓wInI_s, ↓wRng1_s, ↓wRng2_s, ↓wRng3_s, ↓wgTup_s, ↓wgLst_s, ↓wgSub_s, ↓wDGet_s, ↓wDPut_s, ↓wDUpd_s, ↓wLstRg_s, ↓wTupRg_s, ↓wTIdx_s, ↓wLIdx_s, ↓wPopAt_s, ↓wChainF_s, ↓wLc_s, ↓wDc_s, ↓wInts_s, ↓wBls_s, ↓wMaxF_s, ↓wMinF_s, ↓wSortedF_s, ↓wLc2_s, ↓wSortSet_s, ↓wZip_s, ↓wRevL_s, ↓wCallI_s, ↓wCallID_s, ↓wCallIK_s, ↓wCallJ_s, ↓wVar_ap, ↓wC_ap, ↓wOp_ap, ↓wUn_ap, ↓wII_ap, ↓wIB_ap, ↓wNeg_ap, ↓wEqI_ap, ↓wIsN_ap, ↓wNotV_ap, ↓wTest_ap, ↓wNot_ap, ↓wNil_ap, ↓wCons_ap, ↓wCB_ap, ↓wFrz_ap, ↓wBM_ap, ↓wBM0_ap, ↓wReverse_ap, ↓wNoPart_ap, ↓wPart_ap, ↓wSl_ap, ↓wSlL_ap, ↓wSlT_ap, ↓wLen_ap, ↓wListOf_ap, ↓wTupleOf_ap, ↓wAbs_ap, ↓wIList_ap, ↓wITup_ap, ↓wName_ap, ↓wgNil_ap, ↓wgCons_ap, ↓wNext_ap, ↓wSeq_ap, ↓wAsg_ap, ↓wDrop_ap, ↓wRet_ap, ↓wRetN_ap, ↓wNever_ap, ↓wBreak_ap, ↓wCont_ap, ↓wPar_ap, ↓wAug_ap, ↓wIsT_ap, ↓wEnumT_ap, ↓wEnum_ap, ↓wDNew_ap, ↓wDIn_ap, ↓wDGet2_ap, ↓wRg1_ap, ↓wRg2_ap, ↓wFrzV_ap, ↓wThen_ap, ↓ifS_t, ↓ifS_f, ↓ifQ_t, ↓ifQ_f, ↓gtB_s, ↓intsB_m, ↓intsB_n, ↓intsB_nil, ↓intsB_1, ↓intsB_2, ↓intsB_3, ↓eqB_bool, ↓eqB_int, ↓eqB_non, Bool.true_beq, Bool.false_beq, ↓inB_s, ↓ret_fz, ↓ret_ls, ↓ret_rf, ret_nts, ret_tnts, ret_int, ret_bool, ret_none, ret_str, ret_rgD, ↓lcN_a, ↓lcO_a, ↓lcM_a, ↓lcP_a, ↓blB_s, ↓blB_nil, ↓blB_1, ↓blB_2, ↓blB_3, ↓sto, ↓frz, stL, isNum_t, Int.reducePow, Int.reduceSub, Int.reduceAdd, Int.reduceMul, vl, vls, its, lsOf, oLs, oL, upL, fzs, keyOf, dkOf, isN, wipeS, ownFree, own_fz, own_un, own_rf, own_ls, own_lb, own_dk, List.map_cons, List.map_nil, List.all_cons, List.all_nil, List.set, List.getD_cons_zero, List.getD_cons_succ, List.getD_nil, List.getElem?_cons_zero, List.getElem?_cons_succ, Option.getD_some, List.getElem?_nil, Option.getD_none, Option.map_some, Option.map_none, Bool.false_eq_true, if_true, if_false, Bool.not_true, Bool.not_false, Bool.and_true, Bool.true_and, Bool.and_self, Bool.and_false, Bool.false_and, Bool.or_true, Bool.true_or, Bool.or_false, Bool.false_or, List.cons_append, List.nil_append, List.append_nil, List.length_cons, List.length_nil, Nat.reduceAdd, Int.reduceToNat, List.eraseIdx, Int.reduceNeg, Int.sub_zero, Int.toNat_natCast, eq_self, decide_true, cl_0, cl_1, cl_2, cl_3, cl_4, cl_5, cl_6, cl_7, cl_8, cl_9, cl_10, cl_11, cl_12, cl_13, sd_true, sd_refl, castL_map, sd_le, sd_lt, sd_eqn, sd_div, sd_mulL, sd_mulR, sd_pow, sd_rg, sd_rg1, sd_mem, repB_1, lb_ex, swp_eq, pr_snoc, pr_len, prD_rev, zips_nts, rep_one, rep_nts, rep_nts0, at_mod, modN, at_nts, ix_nts, ix_len, set_nts, app_nts, app2_nts, rg_snoc, rgD_len, idx_cast, cut_fromN, cut_toN, cut_two, mem_castD, cast_ltD, cast_leD, cast_eqD, rng_0, nt_def, nts_len, List.length_range, atI_0, atI_1, atI_2, ixN_0, ixN_1, List.length_map, isi_int_none, isi_int_bool, isi_int_int, isi_int_str, isi_int_list, isi_int_tuple, isi_bool_none, isi_bool_bool, isi_bool_int, isi_bool_str, isi_bool_list, isi_bool_tuple, isi_str_none, isi_str_bool, isi_str_int, isi_str_str, isi_str_list, isi_str_tuple, isi_tuple_none, isi_tuple_bool, isi_tuple_int, isi_tuple_str, isi_tuple_list, isi_tuple_tuple, isi_list_none, isi_list_bool, isi_list_int, isi_list_str, isi_list_list, isi_list_tuple]
            refine ci_parts c i j hc hl hi hj hij ?_
            simp -implicitDefEqProofs -dsimp (disch := (first | assumption | omega)) only [↓wIf_s, ↓wFor_s, ↓wWhile_s, ↓wIC_s, ↓wEqD_s, ↓wAndV_s, ↓wOrV_s, ↓wAnd_s, ↓wOr_s, ↓wIfE_s, ↓wTup_s, ↓wLst_s, ↓wCallP_s, ↓wCallM_s, ↓wAppend_s, ↓wExtend_s, ↓wPop_s, ↓wIxL_s, ↓wIxT_s, ↓wIxA_s, ↓wCatT_s, ↓wCat_s, ↓wAddD_s, ↓wRep_s, ↓wInI_s, ↓wRng1_s, ↓wRng2_s, ↓wRng3_s, ↓wgTup_s, ↓wgLst_s, ↓wgSub_s, ↓wDGet_s, ↓wDPut_s, ↓wDUpd_s, ↓wLstRg_s, ↓wTupRg_s, ↓wTIdx_s, ↓wLIdx_s, ↓wPopAt_s, ↓wChainF_s, ↓wLc_s, ↓wDc_s, ↓wInts_s, ↓wBls_s, ↓wMaxF_s, ↓wMinF_s, ↓wSortedF_s, ↓wLc2_s, ↓wSortSet_s, ↓wZip_s, ↓wRevL_s, ↓wCallI_s, ↓wCallID_s, ↓wCallIK_s, ↓wCallJ_s, ↓wVar_ap, ↓wC_ap, ↓wOp_ap, ↓wUn_ap, ↓wII_ap, ↓wIB_ap, ↓wNeg_ap, ↓wEqI_ap, ↓wIsN_ap, ↓wNotV_ap, ↓wTest_ap, ↓wNot_ap, ↓wNil_ap, ↓wCons_ap, ↓wCB_ap, ↓wFrz_ap, ↓wBM_ap, ↓wBM0_ap, ↓wReverse_ap, ↓wNoPart_ap, ↓wPart_ap, ↓wSl_ap, ↓wSlL_ap, ↓wSlT_ap, ↓wLen_ap, ↓wListOf_ap, ↓wTupleOf_ap, ↓wAbs_ap, ↓wIList_ap, ↓wITup_ap, ↓wName_ap, ↓wgNil_ap, ↓wgCons_ap, ↓wNext_ap, ↓wSeq_ap, ↓wAsg_ap, ↓wDrop_ap, ↓wRet_ap, ↓wRetN_ap, ↓wNever_ap, ↓wBreak_ap, ↓wCont_ap, ↓wPar_ap, ↓wAug_ap, ↓wIsT_ap, ↓wEnumT_ap, ↓wEnum_ap, ↓wDNew_ap, ↓wDIn_ap, ↓wDGet2_ap, ↓wRg1_ap, ↓wRg2_ap, ↓wFrzV_ap, ↓wThen_ap, ↓ifS_t, ↓ifS_f, ↓ifQ_t, ↓ifQ_f, ↓gtB_s, ↓intsB_m, ↓intsB_n, ↓intsB_nil, ↓intsB_1, ↓intsB_2, ↓intsB_3, ↓eqB_bool, ↓eqB_int, ↓eqB_non, Bool.true_beq, Bool.false_beq, ↓inB_s, ↓ret_fz, ↓ret_ls, ↓ret_rf, ret_nts, ret_tnts, ret_int, ret_bool, ret_none, ret_str, ret_rgD, ↓lcN_a, ↓lcO_a, ↓lcM_a, ↓lcP_a, ↓blB_s, ↓blB_nil, ↓blB_1, ↓blB_2, ↓blB_3, ↓sto, ↓frz, stL, isNum_t, Int.reducePow, Int.reduceSub, Int.reduceAdd, Int.reduceMul, vl, vls, its, lsOf, oLs, oL, upL, fzs, keyOf, dkOf, isN, wipeS, ownFree, own_fz, own_un, own_rf, own_ls, own_lb, own_dk, List.map_cons, List.map_nil, List.all_cons, List.all_nil, List.set, List.getD_cons_zero, List.getD_cons_succ, List.getD_nil, List.getElem?_cons_zero, List.getElem?_cons_succ, Option.getD_some, List.getElem?_nil, Option.getD_none, Option.map_some, Option.map_none, Bool.false_eq_true, if_true, if_false, Bool.not_true, Bool.not_false, Bool.and_true, Bool.true_and, Bool.and_self, Bool.and_false, Bool.false_and, Bool.or_true, Bool.true_or, Bool.or_false, Bool.false_or, List.cons_append, List.nil_append, List.append_nil, List.length_cons, List.length_nil, Nat.reduceAdd, Int.reduceToNat, List.eraseIdx, Int.reduceNeg, Int.sub_zero, Int.toNat_natCast, eq_self, decide_true, cl_0, cl_1, cl_2, cl_3, cl_4, cl_5, cl_6, cl_7, cl_8, cl_9, cl_10, cl_11, cl_12, cl_13, sd_true, sd_refl, castL_map, sd_le, sd_lt, sd_eqn, sd_div, sd_mulL, sd_mulR, sd_pow, sd_rg, sd_rg1, sd_mem, repB_1, lb_ex, swp_eq, pr_snoc, pr_len, prD_rev, zips_nts, rep_one, rep_nts, rep_nts0, at_mod, modN, at_nts, ix_nts, ix_len, set_nts, app_nts, app2_nts, rg_snoc, rgD_len, idx_cast, cut_fromN, cut_toN, cut_two, mem_castD, cast_ltD, cast_leD, cast_eqD, rng_0, nt_def, nts_len, List.length_range, atI_0, atI_1, atI_2, ixN_0, ixN_1, List.length_map, isi_int_none, isi_int_bool, isi_int_int, isi_int_str, isi_int_list, isi_int_tuple, isi_bool_none, isi_bool_bool, isi_bool_int, isi_bool_str, isi_bool_list, isi_bool_tuple, isi_str_none, isi_str_bool, isi_str_int, isi_str_str, isi_str_list, isi_str_tuple, isi_tuple_none, isi_tuple_bool, isi_tuple_int, isi_tuple_str, isi_tuple_list, isi_tuple_tuple, isi_list_none, isi_list_bool, isi_list_int, isi_list_str, isi_list_list, isi_list_tuple, decide_eq_true hm, decide_eq_false (fun q => hsym.mp q hm)]
            refine ci_done (swp c i j) [(j, i)] [] hd (by omega) (pin_nil _) ok2 ?_
            simp -implicitDefEqProofs -dsimp (disch := (first | assumption | omega)) only [↓wIf_s, ↓wFor_s, ↓wWhile_s, ↓wIC_s, ↓wEqD_s, ↓wAndV_s, ↓wOrV_s, ↓wAnd_s, ↓wOr_s, ↓wIfE_s, ↓wTup_s, ↓wLst_s, ↓wCallP_s, ↓wCallM_s, ↓wAppend_s, ↓wExtend_s, ↓wPop_s, ↓wIxL_s, ↓wIxT_s, ↓wIxA_s, ↓wCatT_s, ↓wCat_s, ↓wAddD_s, ↓wRep_s, ↓wInI_s, ↓wRng1_s, ↓wRng2_s, ↓wRng3_s, ↓wgTup_s, ↓wgLst_s, ↓wgSub_s, ↓wDGet_s, ↓wDPut_s, ↓wDUpd_s, ↓wLstRg_s, ↓wTupRg_s, ↓wTIdx_s, ↓wLIdx_s, ↓wPopAt_s, ↓wChainF_s, ↓wLc_s, ↓wDc_s, ↓wInts_s, ↓wBls_s, ↓wMaxF_s, ↓wMinF_s, ↓wSortedF_s, ↓wLc2_s, ↓wSortSet_s, ↓wZip_s, ↓wRevL_s, ↓wCallI_s, ↓wCallID_s, ↓wCallIK_s, ↓wCallJ_s, ↓wVar_ap, ↓wC_ap, ↓wOp_ap, ↓wUn_ap, ↓wII_ap, ↓wIB_ap, ↓wNeg_ap, ↓wEqI_ap, ↓wIsN_ap, ↓wNotV_ap, ↓wTest_ap, ↓wNot_ap, ↓wNil_ap, ↓wCons_ap, ↓wCB_ap, ↓wFrz_ap, ↓wBM_ap, ↓wBM0_ap, ↓wReverse_ap, ↓wNoPart_ap, ↓wPart_ap, ↓wSl_ap, ↓wSlL_ap, ↓wSlT_ap, ↓wLen_ap, ↓wListOf_ap, ↓wTupleOf_ap, ↓wAbs_ap, ↓wIList_ap, ↓wITup_ap, ↓wName_ap, ↓wgNil_ap, ↓wgCons_ap, ↓wNext_ap, ↓wSeq_ap, ↓wAsg_ap, ↓wDrop_ap, ↓wRet_ap, ↓wRetN_ap, ↓wNever_ap, ↓wBreak_ap, ↓wCont_ap, ↓wPar_ap, ↓wAug_ap, ↓wIsT_ap, ↓wEnumT_ap, ↓wEnum_ap, ↓wDNew_ap, ↓wDIn_ap, ↓wDGet2_ap, ↓wRg1_ap, ↓wRg2_ap, ↓wFrzV_ap, ↓wThen_ap, ↓ifS_t, ↓ifS_f, ↓ifQ_t, ↓ifQ_f, ↓gtB_s, ↓intsB_m, ↓intsB_n, ↓intsB_nil, ↓intsB_1, ↓intsB_2, ↓intsB_3, ↓eqB_bool, ↓eqB_int, ↓eqB_non, Bool.true_beq, Bool.false_beq, ↓inB_s, ↓ret_fz, ↓ret_ls, ↓ret_rf, ret_nts, ret_tnts, ret_int, ret_bool, ret_none, ret_str, ret_rgD, ↓lcN_a, ↓lcO_a, ↓lcM_a, ↓lcP_a, ↓blB_s, ↓blB_nil, ↓blB_1, ↓blB_2, ↓blB_3, ↓sto, ↓frz, stL, isNum_t, Int.reducePow, Int.reduceSub, Int.reduceAdd, Int.reduceMul, vl, vls, its, lsOf, oLs, oL, upL, fzs, keyOf, dkOf, isN, wipeS, ownFree, own_fz, own_un, own_rf, own_ls, own_lb, own_dk, List.map_cons, List.map_nil, List.all_cons, List.all_nil, List.set, List.getD_cons_zero, List.getD_cons_succ, List.getD_nil, List.getElem?_cons_zero, List.getElem?_cons_succ, Option.getD_some, List.getElem?_nil, Option.getD_none, Option.map_some, Option.map_none, Bool.false_eq_true, if_true, if_false, Bool.not_true, Bool.not_false, Bool.and_true, Bool.true_and, Bool.and_self, Bool.and_false, Bool.false_and, Bool.or_true, Bool.true_or, Bool.or_false, Bool.false_or, List.cons_append, List.nil_append, List.append_nil, List.length_cons, List.length_nil, Nat.reduceAdd, Int.reduceToNat, List.eraseIdx, Int.reduceNeg, Int.sub_zero, Int.toNat_natCast, eq_self, decide_true, cl_0, cl_1, cl_2, cl_3, cl_4, cl_5, cl_6, cl_7, cl_8, cl_9, cl_10, cl_11, cl_12, cl_13, sd_true, sd_refl, castL_map, sd_le, sd_lt, sd_eqn, sd_div, sd_mulL, sd_mulR, sd_pow, sd_rg, sd_rg1, sd_mem, repB_1, lb_ex, swp_eq, pr_snoc, pr_len, prD_rev, zips_nts, rep_one, rep_nts, rep_nts0, at_mod, modN, at_nts, ix_nts, ix_len, set_nts, app_nts, app2_nts, rg_snoc, rgD_len, idx_cast, cut_fromN, cut_toN, cut_two, mem_castD, cast_ltD, cast_leD, cast_eqD, rng_0, nt_def, nts_len, List.length_range, atI_0, atI_1, atI_2, ixN_0, ixN_1, List.length_map, isi_int_none, isi_int_bool, isi_int_int, isi_int_str, isi_int_list, isi_int_tuple, isi_bool_none, isi_bool_bool, isi_bool_int, isi_bool_str, isi_bool_list, isi_bool_tuple, isi_str_none, isi_str_bool, isi_str_int, isi_str_str, isi_str_list, isi_str_tuple, isi_tuple_none, isi_tuple_bool, isi_tuple_int, isi_tuple_str, isi_tuple_list, isi_tuple_tuple, isi_list_none, isi_list_bool, isi_list_int, isi_list_str, isi_list_list, isi_list_tuple, show doneL (swp c i j) [(j, i)] = swp (swp c i j) j i from rfl, hback]
            refine eqB_t (cm_nts _) ?_
            simp -implicitDefEqProofs -dsimp (disch := (first | assumption | omega)) only [↓wIf_s, ↓wFor_s, ↓wWhile_s, ↓wIC_s, ↓wEqD_s, ↓wAndV_s, ↓wOrV_s, ↓wAnd_s, ↓wOr_s, ↓wIfE_s, ↓wTup_s, ↓wLst_s, ↓wCallP_s, ↓wCallM_s, ↓wAppend_s, ↓wExtend_s, ↓wPop_s, ↓wIxL_s, ↓wIxT_s, ↓wIxA_s, ↓wCatT_s, ↓wCat_s, ↓wAddD_s, ↓wRep_s, ↓wInI_s, ↓wRng1_s, ↓wRng2_s, ↓wRng3_s, ↓wgTup_s, ↓wgLst_s, ↓wgSub_s, ↓wDGet_s, ↓wDPut_s, ↓wDUpd_s, ↓wLstRg_s, ↓wTupRg_s, ↓wTIdx_s, ↓wLIdx_s, ↓wPopAt_s, ↓wChainF_s, ↓wLc_s, ↓wDc_s, ↓wInts_s, ↓wBls_s, ↓wMaxF_s, ↓wMinF_s, ↓wSortedF_s, ↓wLc2_s, ↓wSortSet_s, ↓wZip_s, ↓wRevL_s, ↓wCallI_s, ↓wCallID_s, ↓wCallIK_s, ↓wCallJ_s, ↓wVar_ap, ↓wC_ap, ↓wOp_ap, ↓wUn_ap, ↓wII_ap, ↓wIB_ap, ↓wNeg_ap, ↓wEqI_ap, ↓wIsN_ap, ↓wNotV_ap, ↓wTest_ap, ↓wNot_ap, ↓wNil_ap, ↓wCons_ap, ↓wCB_ap, ↓wFrz_ap, ↓wBM_ap, ↓wBM0_ap, ↓wReverse_ap, ↓wNoPart_ap, ↓wPart_ap, ↓wSl_ap, ↓wSlL_ap, ↓wSlT_ap, ↓wLen_ap, ↓wListOf_ap, ↓wTupleOf_ap, ↓wAbs_ap, ↓wIList_ap, ↓wITup_ap, ↓wName_ap, ↓wgNil_ap, ↓wgCons_ap, ↓wNext_ap, ↓wSeq_ap, ↓wAsg_ap, ↓wDrop_ap, ↓wRet_ap, ↓wRetN_ap, ↓wNever_ap, ↓wBreak_ap, ↓wCont_ap, ↓wPar_ap, ↓wAug_ap, ↓wIsT_ap, ↓wEnumT_ap, ↓wEnum_ap, ↓wDNew_ap, ↓wDIn_ap, ↓wDGet2_ap, ↓wRg1_ap, ↓wRg2_ap, ↓wFrzV_ap, ↓wThen_ap, ↓ifS_t, ↓ifS_f, ↓ifQ_t, ↓ifQ_f, ↓gtB_s, ↓intsB_m, ↓intsB_n, ↓intsB_nil, ↓intsB_1, ↓intsB_2, ↓intsB_3, ↓eqB_bool, ↓eqB_int, ↓eqB_non, Bool.true_beq, Bool.false_beq, ↓inB_s, ↓ret_fz, ↓ret_ls, ↓ret_rf, ret_nts, ret_tnts, ret_int, ret_bool, ret_none, ret_str, ret_rgD, ↓lcN_a, ↓lcO_a, ↓lcM_a, ↓lcP_a, ↓blB_s, ↓blB_nil, ↓blB_1, ↓blB_2, ↓blB_3, ↓sto, ↓frz, stL, isNum_t, Int.reducePow, Int.reduceSub, Int.reduceAdd, Int.reduceMul, vl, vls, its, lsOf, oLs, oL, upL, fzs, keyOf, dkOf, isN, wipeS, ownFree, own_fz, own_un, own_rf, own_ls, own_lb, own_dk, List.map_cons, List.map_nil, List.all_cons, List.all_nil, List.set, List.getD_cons_zero, List.getD_cons_succ, List.getD_nil, List.getElem?_cons_zero, List.getElem?_cons_succ, Option.getD_some, List.getElem?_nil, Option.getD_none, Option.map_some, Option.map_none, Bool.false_eq_true, if_true, if_false, Bool.not_true, Bool.not_false, Bool.and_true, Bool.true_and, Bool.and_self, Bool.and_false, Bool.false_and, Bool.or_true, Bool.true_or, Bool.or_false, Bool.false_or, List.cons_append, List.nil_append, List.append_nil, List.length_cons, List.length_nil, Nat.reduceAdd, Int.reduceToNat, List.eraseIdx, Int.reduceNeg, Int.sub_zero, Int.toNat_natCast, eq_self, decide_true, cl_0, cl_1, cl_2, cl_3, cl_4, cl_5, cl_6, cl_7, cl_8, cl_9, cl_10, cl_11, cl_12, cl_13, sd_true, sd_refl, castL_map, sd_le, sd_lt, sd_eqn, sd_div, sd_mulL, sd_mulR, sd_pow, sd_rg, sd_rg1, sd_mem, repB_1, lb_ex, swp_eq, pr_snoc, pr_len, prD_rev, zips_nts, rep_one, rep_nts, rep_nts0, at_mod, modN, at_nts, ix_nts, ix_len, set_nts, app_nts, app2_nts, rg_snoc, rgD_len, idx_cast, cut_fromN, cut_toN, cut_two, mem_castD, cast_ltD, cast_leD, cast_eqD, rng_0, nt_def, nts_len, List.length_range, atI_0, atI_1, atI_2, ixN_0, ixN_1, List.length_map, isi_int_none, isi_int_bool, isi_int_int, isi_int_str, isi_int_list, isi_int_tuple, isi_bool_none, isi_bool_bool, isi_bool_int, isi_bool_str, isi_bool_list, isi_bool_tuple, isi_str_none, isi_str_bool, isi_str_int, isi_str_str, isi_str_list, isi_str_tuple, isi_tuple_none, isi_tuple_bool, isi_tuple_int, isi_tuple_str, isi_tuple_list, isi_tuple_tuple, isi_list_none, isi_list_bool, isi_list_int, isi_list_str, isi_list_list, isi_list_tuple]
            exact hJ2 _ ⟨_, _, _, rfl⟩
          · have e1 := hc.rings_join hi hj hij hm
            have e2 : (((ringsOf (swp c i j)).length : Int) - ((ringsOf c).length : Int)) = -1 := by omega
            refine ci_parts c i j hc hl hi hj hij ?_
            simp -implicitDefEqProofs -dsimp (disch := (first | assumption | omega)) only [↓wIf_s, ↓wFor_s, ↓wWhile_s, ↓wIC_s, ↓wEqD_s, ↓wAndV_s, ↓wOrV_s, ↓wAnd_s, ↓wOr_s, ↓wIfE_s, ↓wTup_s, ↓wLst_s, ↓wCallP_s, ↓wCallM_s, ↓wAppend_s, ↓wExtend_s, ↓wPop_s, ↓wIxL_s, ↓wIxT_s, ↓wIxA_s, ↓wCatT_s, ↓wCat_s, ↓wAddD_s, ↓wRep_s, ↓wInI_s, ↓wRng1_s, ↓wRng2_s, ↓wRng3_s, ↓wgTup_s, ↓wgLst_s, ↓wgSub_s, ↓wDGet_s, ↓wDPut_s, ↓wDUpd_s, ↓wLstRg_s, ↓wTupRg_s, ↓wTIdx_s, ↓wLIdx_s, ↓wPopAt_s, ↓wChainF_s, ↓wLc_s, ↓wDc_s, ↓wInts_s, ↓wBls_s, ↓wMaxF_s, ↓wMinF_s, ↓wSortedF_s, ↓wLc2_s, ↓wSortSet_s, ↓wZip_s, ↓wRevL_s, ↓wCallI_s, ↓wCallID_s, ↓wCallIK_s, ↓wCallJ_s, ↓wVar_ap, ↓wC_ap, ↓wOp_ap, ↓wUn_ap, ↓wII_ap, ↓wIB_ap, ↓wNeg_ap, ↓wEqI_ap, ↓wIsN_ap, ↓wNotV_ap, ↓wTest_ap, ↓wNot_ap, ↓wNil_ap, ↓wCons_ap, ↓wCB_ap, ↓wFrz_ap, ↓wBM_ap, ↓wBM0_ap, ↓wReverse_ap, ↓wNoPart_ap, ↓wPart_ap, ↓wSl_ap, ↓wSlL_ap, ↓wSlT_ap, ↓wLen_ap, ↓wListOf_ap, ↓wTupleOf_ap, ↓wAbs_ap, ↓wIList_ap, ↓wITup_ap, ↓wName_ap, ↓wgNil_ap, ↓wgCons_ap, ↓wNext_ap, ↓wSeq_ap, ↓wAsg_ap, ↓wDrop_ap, ↓wRet_ap, ↓wRetN_ap, ↓wNever_ap, ↓wBreak_ap, ↓wCont_ap, ↓wPar_ap, ↓wAug_ap, ↓wIsT_ap, ↓wEnumT_ap, ↓wEnum_ap, ↓wDNew_ap, ↓wDIn_ap, ↓wDGet2_ap, ↓wRg1_ap, ↓wRg2_ap, ↓wFrzV_ap, ↓wThen_ap, ↓ifS_t, ↓ifS_f, ↓ifQ_t, ↓ifQ_f, ↓gtB_s, ↓intsB_m, ↓intsB_n, ↓intsB_nil, ↓intsB_1, ↓intsB_2, ↓intsB_3, ↓eqB_bool, ↓eqB_int, ↓eqB_non, Bool.true_beq, Bool.false_beq, ↓inB_s, ↓ret_fz, ↓ret_ls, ↓ret_rf, ret_nts, ret_tnts, ret_int, ret_bool, ret_none, ret_str, ret_rgD, ↓lcN_a, ↓lcO_a, ↓lcM_a, ↓lcP_a, ↓blB_s, ↓blB_nil, ↓blB_1, ↓blB_2, ↓blB_3, ↓sto, ↓frz, stL, isNum_t, Int.reducePow, Int.reduceSub, Int.reduceAdd, Int.reduceMul, vl, vls, its, lsOf, oLs, oL, upL, fzs, keyOf, dkOf, isN, wipeS, ownFree, own_fz, own_un, own_rf, own_ls, own_lb, own_dk, List.map_cons, List.map_nil, List.all_cons, List.all_nil, List.set, List.getD_cons_zero, List.getD_cons_succ, List.getD_nil, List.getElem?_cons_zero, List.getElem?_cons_succ, Option.getD_some, List.getElem?_nil, Option.getD_none, Option.map_some, Option.map_none, Bool.false_eq_true, if_true, if_false, Bool.not_true, Bool.not_false, Bool.and_true, Bool.true_and, Bool.and_self, Bool.and_false, Bool.false_and, Bool.or_true, Bool.true_or, Bool.or_false, Bool.false_or, List.cons_append, List.nil_append, List.append_nil, List.length_cons, List.length_nil, Nat.reduceAdd, Int.reduceToNat, List.eraseIdx, Int.reduceNeg, Int.sub_zero, Int.toNat_natCast, eq_self, decide_true, cl_0, cl_1, cl_2, cl_3, cl_4, cl_5, cl_6, cl_7, cl_8, cl_9, cl_10, cl_11, cl_12, cl_13, sd_true, sd_refl, castL_map, sd_le, sd_lt, sd_eqn, sd_div, sd_mulL, sd_mulR, sd_pow, sd_rg, sd_rg1, sd_mem, repB_1, lb_ex, swp_eq, pr_snoc, pr_len, prD_rev, zips_nts, rep_one, rep_nts, rep_nts0, at_mod, modN, at_nts, ix_nts, ix_len, set_nts, app_nts, app2_nts, rg_snoc, rgD_len, idx_cast, cut_fromN, cut_toN, cut_two, mem_castD, cast_ltD, cast_leD, cast_eqD, rng_0, nt_def, nts_len, List.length_range, atI_0, atI_1, atI_2, ixN_0, ixN_1, List.length_map, isi_int_none, isi_int_bool, isi_int_int, isi_int_str, isi_int_list, isi_int_tuple, isi_bool_none, isi_bool_bool, isi_bool_int, isi_bool_str, isi_bool_list, isi_bool_tuple, isi_str_none, isi_str_bool, isi_str_int, isi_str_str, isi_str_list, isi_str_tuple, isi_tuple_none, isi_tuple_bool, isi_tuple_int, isi_tuple_str, isi_tuple_list, isi_tuple_tuple, isi_list_none, isi_list_bool, isi_list_int, isi_list_str, isi_list_list, isi_list_tuple, e2, decide_eq_false hm, decide_eq_true (show (-1 : Int) ∈ [(1 : Int), -1] by simp), decide_eq_false (show ¬ ((-1 : Int) = 1) by decide)]
            refine ci_alike_L rfl ?_
            simp -implicitDefEqProofs -dsimp (disch := (first | assumption | omega)) only [↓wIf_s, ↓wFor_s, ↓wWhile_s, ↓wIC_s, ↓wEqD_s, ↓wAndV_s, ↓wOrV_s, ↓wAnd_s, ↓wOr_s, ↓wIfE_s, ↓wTup_s, ↓wLst_s, ↓wCallP_s, ↓wCallM_s, ↓wAppend_s, ↓wExtend_s, ↓wPop_s, ↓wIxL_s, ↓wIxT_s, ↓wIxA_s, ↓wCatT_s, ↓wCat_s, ↓wAddD_s, ↓wRep_s, ↓wInI_s, ↓wRng1_s, ↓wRng2_s, ↓wRng3_s, ↓wgTup_s, ↓wgLst_s, ↓wgSub_s, ↓wDGet_s, ↓wDPut_s, ↓wDUpd_s, ↓wLstRg_s, ↓wTupRg_s, ↓wTIdx_s, ↓wLIdx_s, ↓wPopAt_s, ↓wChainF_s, ↓wLc_s, ↓wDc_s, ↓wInts_s, ↓wBls_s, ↓wMaxF_s, ↓wMinF_s, ↓wSortedF_s, ↓wLc2_s, ↓wSortSet_s, ↓wZip_s, ↓wRevL_s, ↓wCallI_s, ↓wCallID_s, ↓wCallIK_s, ↓wCallJ_s, ↓wVar_ap, ↓wC_ap, ↓wOp_ap, ↓wUn_ap, ↓wII_ap, ↓wIB_ap, ↓wNeg_ap, ↓wEqI_ap, ↓wIsN_ap, ↓wNotV_ap, ↓wTest_ap, ↓wNot_ap, ↓wNil_ap, ↓wCons_ap, ↓wCB_ap, ↓wFrz_ap, ↓wBM_ap, ↓wBM0_ap, ↓wReverse_ap, ↓wNoPart_ap, ↓wPart_ap, ↓wSl_ap, ↓wSlL_ap, ↓wSlT_ap, ↓wLen_ap, ↓wListOf_ap, ↓wTupleOf_ap, ↓wAbs_ap, ↓wIList_ap, ↓wITup_ap, ↓wName_ap, ↓wgNil_ap, ↓wgCons_ap, ↓wNext_ap, ↓wSeq_ap, ↓wAsg_ap, ↓wDrop_ap, ↓wRet_ap, ↓wRetN_ap, ↓wNever_ap, ↓wBreak_ap, ↓wCont_ap, ↓wPar_ap, ↓wAug_ap, ↓wIsT_ap, ↓wEnumT_ap, ↓wEnum_ap, ↓wDNew_ap, ↓wDIn_ap, ↓wDGet2_ap, ↓wRg1_ap, ↓wRg2_ap, ↓wFrzV_ap, ↓wThen_ap, ↓ifS_t, ↓ifS_f, ↓ifQ_t, ↓ifQ_f, ↓gtB_s, ↓intsB_m, ↓intsB_n, ↓intsB_nil, ↓intsB_1, ↓intsB_2, ↓intsB_3, ↓eqB_bool, ↓eqB_int, ↓eqB_non, Bool.true_beq, Bool.false_beq, ↓inB_s, ↓ret_fz, ↓ret_ls, ↓ret_rf, ret_nts, ret_tnts, ret_int, ret_bool, ret_none, ret_str, ret_rgD, ↓lcN_a, ↓lcO_a, ↓lcM_a, ↓lcP_a, ↓blB_s, ↓blB_nil, ↓blB_1, ↓blB_2, ↓blB_3, ↓sto, ↓frz, stL, isNum_t, Int.reducePow, Int.reduceSub, Int.reduceAdd, Int.reduceMul, vl, vls, its, lsOf, oLs, oL, upL, fzs, keyOf, dkOf, isN, wipeS, ownFree, own_fz, own_un, own_rf, own_ls, own_lb, own_dk, List.map_cons, List.map_nil, List.all_cons, List.all_nil, List.set, List.getD_cons_zero, List.getD_cons_succ, List.getD_nil, List.getElem?_cons_zero, List.getElem?_cons_succ, Option.getD_some, List.getElem?_nil, Option.getD_none, Option.map_some, Option.map_none, Bool.false_eq_true, if_true, if_false, Bool.not_true, Bool.not_false, Bool.and_true, Bool.true_and, Bool.and_self, Bool.and_false, Bool.false_and, Bool.or_true, Bool.true_or, Bool.or_false, Bool.false_or, List.cons_append, List.nil_append, List.append_nil, List.length_cons, List.length_nil, Nat.reduceAdd, Int.reduceToNat, List.eraseIdx, Int.reduceNeg, Int.sub_zero, Int.toNat_natCast, eq_self, decide_true, cl_0, cl_1, cl_2, cl_3, cl_4, cl_5, cl_6, cl_7, cl_8, cl_9, cl_10, cl_11, cl_12, cl_13, sd_true, sd_refl, castL_map, sd_le, sd_lt, sd_eqn, sd_div, sd_mulL, sd_mulR, sd_pow, sd_rg, sd_rg1, sd_mem, repB_1, lb_ex, swp_eq, pr_snoc, pr_len, prD_rev, zips_nts, rep_one, rep_nts, rep_nts0, at_mod, modN, at_nts, ix_nts, ix_len, set_nts, app_nts, app2_nts, rg_snoc, rgD_len, idx_cast, cut_fromN, cut_toN, cut_two, mem_castD, cast_ltD, cast_leD, cast_eqD, rng_0, nt_def, nts_len, List.length_range, atI_0, atI_1, atI_2, ixN_0, ixN_1, List.length_map, isi_int_none, isi_int_bool, isi_int_int, isi_int_str, isi_int_list, isi_int_tuple, isi_bool_none, isi_bool_bool, isi_bool_int, isi_bool_str, isi_bool_list, isi_bool_tuple, isi_str_none, isi_str_bool, isi_str_int, isi_str_str, isi_str_list, isi_str_tuple, isi_tuple_none, isi_tuple_bool, isi_tuple_int, isi_tuple_str, isi_tuple_list, isi_tuple_tuple, isi_list_none, isi_list_bool, isi_list_int, isi_list_str, isi_list_list, isi_list_tuple, decide_eq_true (show (1 : Int) ∈ [(1 : Int), -1] by simp), decide_eq_true (show (-1 : Int) ∈ [(1 : Int), -1] by simp)]
            refine ci_parts (swp c i j) j i hd (by omega) (by omega) (by omega) (fun e => hij e.symm) ?_
            simp -implicitDefEqProofs -dsimp (disch := (first | assumption | omega)) only [↓wIf_s, ↓wFor_s, ↓wWhile_s, ↓wIC_s, ↓wEqD_s, ↓wAndV_s, ↓wOrV_s, ↓wAnd_s, ↓wOr_s, ↓wIfE_s, ↓wTup_s, ↓wLst_s, ↓wCallP_s, ↓wCallM_s, ↓wAppend_s, ↓wExtend_s, ↓wPop_s, ↓wIxL_s, ↓wIxT_s, ↓wIxA_s, ↓wCatT_s, ↓wCat_s, ↓wAddD_s, ↓wRep_s, ↓wInI_s, ↓wRng1_s, ↓wRng2_s, ↓wRng3_s, ↓wgTup_s, ↓wgLst_s, ↓wgSub_s, ↓wDGet_s, ↓wDPut_s, ↓wDUpd_s, ↓wLstRg_s, ↓wTupRg_s, ↓wTIdx_s, ↓wLIdx_s, ↓wPopAt_s, ↓wChainF_s, ↓wLc_s, ↓wDc_s, ↓wInts_s, ↓wBls_s, ↓wMaxF_s, ↓wMinF_s, ↓wSortedF_s, ↓wLc2_s, ↓wSortSet_s, ↓wZip_s, ↓wRevL_s, ↓wCallI_s, ↓wCallID_s, ↓wCallIK_s, ↓wCallJ_s, ↓wVar_ap, ↓wC_ap, ↓wOp_ap, ↓wUn_ap, ↓wII_ap, ↓wIB_ap, ↓wNeg_ap, ↓wEqI_ap, ↓wIsN_ap, ↓wNotV_ap, ↓wTest_ap, ↓wNot_ap, ↓wNil_ap, ↓wCons_ap, ↓wCB_ap, ↓wFrz_ap, ↓wBM_ap, ↓wBM0_ap, ↓wReverse_ap, ↓wNoPart_ap, ↓wPart_ap, ↓wSl_ap, ↓wSlL_ap, ↓wSlT_ap, ↓wLen_ap, ↓wListOf_ap, ↓wTupleOf_ap, ↓wAbs_ap, ↓wIList_ap, ↓wITup_ap, ↓wName_ap, ↓wgNil_ap, ↓wgCons_ap, ↓wNext_ap, ↓wSeq_ap, ↓wAsg_ap, ↓wDrop_ap, ↓wRet_ap, ↓wRetN_ap, ↓wNever_ap, ↓wBreak_ap, ↓wCont_ap, ↓wPar_ap, ↓wAug_ap, ↓wIsT_ap, ↓wEnumT_ap, ↓wEnum_ap, ↓wDNew_ap, ↓wDIn_ap, ↓wDGet2_ap, ↓wRg1_ap, ↓wRg2_ap, ↓wFrzV_ap, ↓wThen_ap, ↓ifS_t, ↓ifS_f, ↓ifQ_t, ↓ifQ_f, ↓gtB_s, ↓intsB_m, ↓intsB_n, ↓intsB_nil, ↓intsB_1, ↓intsB_2, ↓intsB_3, ↓eqB_bool, ↓eqB_int, ↓eqB_non, Bool.true_beq, Bool.false_beq, ↓inB_s, ↓ret_fz, ↓ret_ls, ↓ret_rf, ret_nts, ret_tnts, ret_int, ret_bool, ret_none, ret_str, ret_rgD, ↓lcN_a, ↓lcO_a, ↓lcM_a, ↓lcP_a, ↓blB_s, ↓blB_nil, ↓blB_1, ↓blB_2, ↓blB_3, ↓sto, ↓frz, stL, isNum_t, Int.reducePow, Int.reduceSub, Int.reduceAdd, Int.reduceMul, vl, vls, its, lsOf, oLs, oL, upL, fzs, keyOf, dkOf, isN, wipeS, ownFree, own_fz, own_un, own_rf, own_ls, own_lb, own_dk, List.map_cons, List.map_nil, List.all_cons, List.all_nil, List.set, List.getD_cons_zero, List.getD_cons_succ, List.getD_nil, List.getElem?_cons_zero, List.getElem?_cons_succ, Option.getD_some, List.getElem?_nil, Option.getD_none, Option.map_some, Option.map_none, Bool.false_eq_true, if_true, if_false, Bool.not_true, Bool.not_false, Bool.and_true, Bool.true_and, Bool.and_self, Bool.and_false, Bool.false_and, Bool.or_true, Bool.true_or, Bool.or_false, Bool.false_or, List.cons_append, List.nil_append, List.append_nil, List.length_cons, List.length_nil, Nat.reduceAdd, Int.reduceToNat, List.eraseIdx, Int.reduceNeg, Int.sub_zero, Int.toNat_natCast, eq_self, decide_true, cl_0, cl_1, cl_2, cl_3, cl_4, cl_5, cl_6, cl_7, cl_8, cl_9, cl_10, cl_11, cl_12, cl_13, sd_true, sd_refl, castL_map, sd_le, sd_lt, sd_eqn, sd_div, sd_mulL, sd_mulR, sd_pow, sd_rg, sd_rg1, sd_mem, repB_1, lb_ex, swp_eq, pr_snoc, pr_len, prD_rev, zips_nts, rep_one, rep_nts, rep_nts0, at_mod, modN, at_nts, ix_nts, ix_len, set_nts, app_nts, app2_nts, rg_snoc, rgD_len, idx_cast, cut_fromN, cut_toN, cut_two, mem_castD, cast_ltD, cast_leD, cast_eqD, rng_0, nt_def, nts_len, List.length_range, atI_0, atI_1, atI_2, ixN_0, ixN_1, List.length_map, isi_int_none, isi_int_bool, isi_int_int, isi_int_str, isi_int_list, isi_int_tuple, isi_bool_none, isi_bool_bool, isi_bool_int, isi_bool_str, isi_bool_list, isi_bool_tuple, isi_str_none, isi_str_bool, isi_str_int, isi_str_str, isi_str_list, isi_str_tuple, isi_tuple_none, isi_tuple_bool, isi_tuple_int, isi_tuple_str, isi_tuple_list, isi_tuple_tuple, isi_list_none, isi_list_bool, isi_list_int, isi_list_str, isi_list_list, isi_list_tuple]
            refine ci_parts c i j hc hl hi hj hij ?_
            simp -implicitDefEqProofs -dsimp (disch := (first | assumption | omega)) only [↓wIf_s, ↓wFor_s, ↓wWhile_s, ↓wIC_s, ↓wEqD_s, ↓wAndV_s, ↓wOrV_s, ↓wAnd_s, ↓wOr_s, ↓wIfE_s, ↓wTup_s, ↓wLst_s, ↓wCallP_s, ↓wCallM_s, ↓wAppend_s, ↓wExtend_s, ↓wPop_s, ↓wIxL_s, ↓wIxT_s, ↓wIxA_s, ↓wCatT_s, ↓wCat_s, ↓wAddD_s, ↓wRep_s, ↓wInI_s, ↓wRng1_s, ↓wRng2_s, ↓wRng3_s, ↓wgTup_s, ↓wgLst_s, ↓wgSub_s, ↓wDGet_s, ↓wDPut_s, ↓wDUpd_s, ↓wLstRg_s, ↓wTupRg_s, ↓wTIdx_s, ↓wLIdx_s, ↓wPopAt_s, ↓wChainF_s, ↓wLc_s, ↓wDc_s, ↓wInts_s, ↓wBls_s, ↓wMaxF_s, ↓wMinF_s, ↓wSortedF_s, ↓wLc2_s, ↓wSortSet_s, ↓wZip_s, ↓wRevL_s, ↓wCallI_s, ↓wCallID_s, ↓wCallIK_s, ↓wCallJ_s, ↓wVar_ap, ↓wC_ap, ↓wOp_ap, ↓wUn_ap, ↓wII_ap, ↓wIB_ap, ↓wNeg_ap, ↓wEqI_ap, ↓wIsN_ap, ↓wNotV_ap, ↓wTest_ap, ↓wNot_ap, ↓wNil_ap, ↓wCons_ap, ↓wCB_ap, ↓wFrz_ap, ↓wBM_ap, ↓wBM0_ap, ↓wReverse_ap, ↓wNoPart_ap, ↓wPart_ap, ↓wSl_ap, ↓wSlL_ap, ↓wSlT_ap, ↓wLen_ap, ↓wListOf_ap, ↓wTupleOf_ap, ↓wAbs_ap, ↓wIList_ap, ↓wITup_ap, ↓wName_ap, ↓wgNil_ap, ↓wgCons_ap, ↓wNext_ap, ↓wSeq_ap, ↓wAsg_ap, ↓wDrop_ap, ↓wRet_ap, ↓wRetN_ap, ↓wNever_ap, ↓wBreak_ap, ↓wCont_ap, ↓wPar_ap, ↓wAug_ap, ↓wIsT_ap, ↓wEnumT_ap, ↓wEnum_ap, ↓wDNew_ap, ↓wDIn_ap, ↓wDGet2_ap, ↓wRg1_ap, ↓wRg2_ap, ↓wFrzV_ap, ↓wThen_ap, ↓ifS_t, ↓ifS_f, ↓ifQ_t, ↓ifQ_f, ↓gtB_s, ↓intsB_m, ↓intsB_n, ↓intsB_nil, ↓intsB_1, ↓intsB_2, ↓intsB_3, ↓eqB_bool, ↓eqB_int, ↓eqB_non, Bool.true_beq, Bool.false_beq, ↓inB_s, ↓ret_fz, ↓ret_ls, ↓ret_rf, ret_nts, ret_tnts, ret_int, ret_bool, ret_none, ret_str, ret_rgD, ↓lcN_a, ↓lcO_a, ↓lcM_a, ↓lcP_a, ↓blB_s, ↓blB_nil, ↓blB_1, ↓blB_2, ↓blB_3, ↓sto, ↓frz, stL, isNum_t, Int.reducePow, Int.reduceSub, Int.reduceAdd, Int.reduceMul, vl, vls, its, lsOf, oLs, oL, upL, fzs, keyOf, dkOf, isN, wipeS, ownFree, own_fz, own_un, own_rf, own_ls, own_lb, own_dk, List.map_cons, List.map_nil, List.all_cons, List.all_nil, List.set, List.getD_cons_zero, List.getD_cons_succ, List.getD_nil, List.getElem?_cons_zero, List.getElem?_cons_succ, Option.getD_some, List.getElem?_nil, Option.getD_none, Option.map_some, Option.map_none, Bool.false_eq_true, if_true, if_false, Bool.not_true, Bool.not_false, Bool.and_true, Bool.true_and, Bool.and_self, Bool.and_false, Bool.false_and, Bool.or_true, Bool.true_or, Bool.or_false, Bool.false_or, List.cons_append, List.nil_append, List.append_nil, List.length_cons, List.length_nil, Nat.reduceAdd, Int.reduceToNat, List.eraseIdx, Int.reduceNeg, Int.sub_zero, Int.toNat_natCast, eq_self, decide_true, cl_0, cl_1, cl_2, cl_3, cl_4, cl_5, cl_6, cl_7, cl_8, cl_9, cl_10, cl_11, cl_12, cl_13, sd_true, sd_refl, castL_map, sd_le, sd_lt, sd_eqn, sd_div, sd_mulL, sd_mulR, sd_pow, sd_rg, sd_rg1, sd_mem, repB_1, lb_ex, swp_eq, pr_snoc, pr_len, prD_rev, zips_nts, rep_one, rep_nts, rep_nts0, at_mod, modN, at_nts, ix_nts, ix_len, set_nts, app_nts, app2_nts, rg_snoc, rgD_len, idx_cast, cut_fromN, cut_toN, cut_two, mem_castD, cast_ltD, cast_leD, cast_eqD, rng_0, nt_def, nts_len, List.length_range, atI_0, atI_1, atI_2, ixN_0, ixN_1, List.length_map, isi_int_none, isi_int_bool, isi_int_int, isi_int_str, isi_int_list, isi_int_tuple, isi_bool_none, isi_bool_bool, isi_bool_int, isi_bool_str, isi_bool_list, isi_bool_tuple, isi_str_none, isi_str_bool, isi_str_int, isi_str_str, isi_str_list, isi_str_tuple, isi_tuple_none, isi_tuple_bool, isi_tuple_int, isi_tuple_str, isi_tuple_list, isi_tuple_tuple, isi_list_none, isi_list_bool, isi_list_int, isi_list_str, isi_list_list, isi_list_tuple, decide_eq_false hm, decide_eq_true (hsym.mpr hm)]
            refine ci_done (swp c i j) [(j, i)] [] hd (by omega) (pin_nil _) ok2 ?_
            simp -implicitDefEqProofs -dsimp (disch := (first | assumption | omega)) only [↓wIf_s, ↓wFor_s, ↓wWhile_s, ↓wIC_s, ↓wEqD_s, ↓wAndV_s, ↓wOrV_s, ↓wAnd_s, ↓wOr_s, ↓wIfE_s, ↓wTup_s, ↓wLst_s, ↓wCallP_s, ↓wCallM_s, ↓wAppend_s, ↓wExtend_s, ↓wPop_s, ↓wIxL_s, ↓wIxT_s, ↓wIxA_s, ↓wCatT_s, ↓wCat_s, ↓wAddD_s, ↓wRep_s, ↓wInI_s, ↓wRng1_s, ↓wRng2_s, ↓wRng3_s, ↓wgTup_s, ↓wgLst_s, ↓wgSub_s, ↓wDGet_s, ↓wDPut_s, ↓wDUpd_s, ↓wLstRg_s, ↓wTupRg_s, ↓wTIdx_s, ↓wLIdx_s, ↓wPopAt_s, ↓wChainF_s, ↓wLc_s, ↓wDc_s, ↓wInts_s, ↓wBls_s, ↓wMaxF_s, ↓wMinF_s, ↓wSortedF_s, ↓wLc2_s, ↓wSortSet_s, ↓wZip_s, ↓wRevL_s, ↓wCallI_s, ↓wCallID_s, ↓wCallIK_s, ↓wCallJ_s, ↓wVar_ap, ↓wC_ap, ↓wOp_ap, ↓wUn_ap, ↓wII_ap, ↓wIB_ap, ↓wNeg_ap, ↓wEqI_ap, ↓wIsN_ap, ↓wNotV_ap, ↓wTest_ap, ↓wNot_ap, ↓wNil_ap, ↓wCons_ap, ↓wCB_ap, ↓wFrz_ap, ↓wBM_ap, ↓wBM0_ap, ↓wReverse_ap, ↓wNoPart_ap, ↓wPart_ap, ↓wSl_ap, ↓wSlL_ap, ↓wSlT_ap, ↓wLen_ap, ↓wListOf_ap, ↓wTupleOf_ap, ↓wAbs_ap, ↓wIList_ap, ↓wITup_ap, ↓wName_ap, ↓wgNil_ap, ↓wgCons_ap, ↓wNext_ap, ↓wSeq_ap, ↓wAsg_ap, ↓wDrop_ap, ↓wRet_ap, ↓wRetN_ap, ↓wNever_ap, ↓wBreak_ap, ↓wCont_ap, ↓wPar_ap, ↓wAug_ap, ↓wIsT_ap, ↓wEnumT_ap, ↓wEnum_ap, ↓wDNew_ap, ↓wDIn_ap, ↓wDGet2_ap, ↓wRg1_ap, ↓wRg2_ap, ↓wFrzV_ap, ↓wThen_ap, ↓ifS_t, ↓ifS_f, ↓ifQ_t, ↓ifQ_f, ↓gtB_s, ↓intsB_m, ↓intsB_n, ↓intsB_nil, ↓intsB_1, ↓intsB_2, ↓intsB_3, ↓eqB_bool, ↓eqB_int, ↓eqB_non, Bool.true_beq, Bool.false_beq, ↓inB_s, ↓ret_fz, ↓ret_ls, ↓ret_rf, ret_nts, ret_tnts, ret_int, ret_bool, ret_none, ret_str, ret_rgD, ↓lcN_a, ↓lcO_a, ↓lcM_a, ↓lcP_a, ↓blB_s, ↓blB_nil, ↓blB_1, ↓blB_2, ↓blB_3, ↓sto, ↓frz, stL, isNum_t, Int.reducePow, Int.reduceSub, Int.reduceAdd, Int.reduceMul, vl, vls, its, lsOf, oLs, oL, upL, fzs, keyOf, dkOf, isN, wipeS, ownFree, own_fz, own_un, own_rf, own_ls, own_lb, own_dk, List.map_cons, List.map_nil, List.all_cons, List.all_nil, List.set, List.getD_cons_zero, List.getD_cons_succ, List.getD_nil, List.getElem?_cons_zero, List.getElem?_cons_succ, Option.getD_some, List.getElem?_nil, Option.getD_none, Option.map_some, Option.map_none, Bool.false_eq_true, if_true, if_false, Bool.not_true, Bool.not_false, Bool.and_true, Bool.true_and, Bool.and_self, Bool.and_false, Bool.false_and, Bool.or_true, Bool.true_or, Bool.or_false, Bool.false_or, List.cons_append, List.nil_append, List.append_nil, List.length_cons, List.length_nil, Nat.reduceAdd, Int.reduceToNat, List.eraseIdx, Int.reduceNeg, Int.sub_zero, Int.toNat_natCast, eq_self, decide_true, cl_0, cl_1, cl_2, cl_3, cl_4, cl_5, cl_6, cl_7, cl_8, cl_9, cl_10, cl_11, cl_12, cl_13, sd_true, sd_refl, castL_map, sd_le, sd_lt, sd_eqn, sd_div, sd_mulL, sd_mulR, sd_pow, sd_rg, sd_rg1, sd_mem, repB_1, lb_ex, swp_eq, pr_snoc, pr_len, prD_rev, zips_nts, rep_one, rep_nts, rep_nts0, at_mod, modN, at_nts, ix_nts, ix_len, set_nts, app_nts, app2_nts, rg_snoc, rgD_len, idx_cast, cut_fromN, cut_toN, cut_two, mem_castD, cast_ltD, cast_leD, cast_eqD, rng_0, nt_def, nts_len, List.length_range, atI_0, atI_1, atI_2, ixN_0, ixN_1, List.length_map, isi_int_none, isi_int_bool, isi_int_int, isi_int_str, isi_int_list, isi_int_tuple, isi_bool_none, isi_bool_bool, isi_bool_int, isi_bool_str, isi_bool_list, isi_bool_tuple, isi_str_none, isi_str_bool, isi_str_int, isi_str_str, isi_str_list, isi_str_tuple, isi_tuple_none, isi_tuple_bool, isi_tuple_int, isi_tuple_str, isi_tuple_list, isi_tuple_tuple, isi_list_none, isi_list_bool, isi_list_int, isi_list_str, isi_list_list, isi_list_tuple, show doneL (swp c i j) [(j, i)] = swp (swp c i j) j i from rfl, hback]
            refine eqB_t (cm_nts _) ?_
            simp -implicitDefEqProofs -dsimp (disch := (first | assumption | omega)) only [↓wIf_s, ↓wFor_s, ↓wWhile_s, ↓wIC_s, ↓wEqD_s, ↓wAndV_s, ↓wOrV_s, ↓wAnd_s, ↓wOr_s, ↓wIfE_s, ↓wTup_s, ↓wLst_s, ↓wCallP_s, ↓wCallM_s, ↓wAppend_s, ↓wExtend_s, ↓wPop_s, ↓wIxL_s, ↓wIxT_s, ↓wIxA_s, ↓wCatT_s, ↓wCat_s, ↓wAddD_s, ↓wRep_s, ↓wInI_s, ↓wRng1_s, ↓wRng2_s, ↓wRng3_s, ↓wgTup_s, ↓wgLst_s, ↓wgSub_s, ↓wDGet_s, ↓wDPut_s, ↓wDUpd_s, ↓wLstRg_s, ↓wTupRg_s, ↓wTIdx_s, ↓wLIdx_s, ↓wPopAt_s, ↓wChainF_s, ↓wLc_s, ↓wDc_s, ↓wInts_s, ↓wBls_s, ↓wMaxF_s, ↓wMinF_s, ↓wSortedF_s, ↓wLc2_s, ↓wSortSet_s, ↓wZip_s, ↓wRevL_s, ↓wCallI_s, ↓wCallID_s, ↓wCallIK_s, ↓wCallJ_s, ↓wVar_ap, ↓wC_ap, ↓wOp_ap, ↓wUn_ap, ↓wII_ap, ↓wIB_ap, ↓wNeg_ap, ↓wEqI_ap, ↓wIsN_ap, ↓wNotV_ap, ↓wTest_ap, ↓wNot_ap, ↓wNil_ap, ↓wCons_ap, ↓wCB_ap, ↓wFrz_ap, ↓wBM_ap, ↓wBM0_ap, ↓wReverse_ap, ↓wNoPart_ap, ↓wPart_ap, ↓wSl_ap, ↓wSlL_ap, ↓wSlT_ap, ↓wLen_ap, ↓wListOf_ap, ↓wTupleOf_ap, ↓wAbs_ap, ↓wIList_ap, ↓wITup_ap, ↓wName_ap, ↓wgNil_ap, ↓wgCons_ap, ↓wNext_ap, ↓wSeq_ap, ↓wAsg_ap, ↓wDrop_ap, ↓wRet_ap, ↓wRetN_ap, ↓wNever_ap, ↓wBreak_ap, ↓wCont_ap, ↓wPar_ap, ↓wAug_ap, ↓wIsT_ap, ↓wEnumT_ap, ↓wEnum_ap, ↓wDNew_ap, ↓wDIn_ap, ↓wDGet2_ap, ↓wRg1_ap, ↓wRg2_ap, ↓wFrzV_ap, ↓wThen_ap, ↓ifS_t, ↓ifS_f, ↓ifQ_t, ↓ifQ_f, ↓gtB_s, ↓intsB_m, ↓intsB_n, ↓intsB_nil, ↓intsB_1, ↓intsB_2, ↓intsB_3, ↓eqB_bool, ↓eqB_int, ↓eqB_non, Bool.true_beq, Bool.false_beq, ↓inB_s, ↓ret_fz, ↓ret_ls, ↓ret_rf, ret_nts, ret_tnts, ret_int, ret_bool, ret_none, ret_str, ret_rgD, ↓lcN_a, ↓lcO_a, ↓lcM_a, ↓lcP_a, ↓blB_s, ↓blB_nil, ↓blB_1, ↓blB_2, ↓blB_3, ↓sto, ↓frz, stL, isNum_t, Int.reducePow, Int.reduceSub, Int.reduceAdd, Int.reduceMul, vl, vls, its, lsOf, oLs, oL, upL, fzs, keyOf, dkOf, isN, wipeS, ownFree, own_fz, own_un, own_rf, own_ls, own_lb, own_dk, List.map_cons, List.map_nil, List.all_cons, List.all_nil, List.set, List.getD_cons_zero, List.getD_cons_succ, List.getD_nil, List.getElem?_cons_zero, List.getElem?_cons_succ, Option.getD_some, List.getElem?_nil, Option.getD_none, Option.map_some, Option.map_none, Bool.false_eq_true, if_true, if_false, Bool.not_true, Bool.not_false, Bool.and_true, Bool.true_and, Bool.and_self, Bool.and_false, Bool.false_and, Bool.or_true, Bool.true_or, Bool.or_false, Bool.false_or, List.cons_append, List.nil_append, List.append_nil, List.length_cons, List.length_nil, Nat.reduceAdd, Int.reduceToNat, List.eraseIdx, Int.reduceNeg, Int.sub_zero, Int.toNat_natCast, eq_self, decide_true, cl_0, cl_1, cl_2, cl_3, cl_4, cl_5, cl_6, cl_7, cl_8, cl_9, cl_10, cl_11, cl_12, cl_13, sd_true, sd_refl, castL_map, sd_le, sd_lt, sd_eqn, sd_div, sd_mulL, sd_mulR, sd_pow, sd_rg, sd_rg1, sd_mem, repB_1, lb_ex, swp_eq, pr_snoc, pr_len, prD_rev, zips_nts, rep_one, rep_nts, rep_nts0, at_mod, modN, at_nts, ix_nts, ix_len, set_nts, app_nts, app2_nts, rg_snoc, rgD_len, idx_cast, cut_fromN, cut_toN, cut_two, mem_castD, cast_ltD, cast_leD, cast_eqD, rng_0, nt_def, nts_len, List.length_range, atI_0, atI_1, atI_2, ixN_0, ixN_1, List.length_map, isi_int_none, isi_int_bool, isi_int_int, isi_int_str, isi_int_list, isi_int_tuple, isi_bool_none, isi_bool_bool, isi_bool_int, isi_bool_str, isi_bool_list, isi_bool_tuple, isi_str_none, isi_str_bool, isi_str_int, isi_str_str, isi_str_list, isi_str_tuple, isi_tuple_none, isi_tuple_bool, isi_tuple_int, isi_tuple_str, isi_tuple_list, isi_tuple_tuple, isi_list_none, isi_list_bool, isi_list_int, isi_list_str, isi_list_list, isi_list_tuple]
            exact hJ2 _ ⟨_, _, _, rfl⟩
      · obtain ⟨z, u, v, rfl⟩ := h
        simp -implicitDefEqProofs -dsimp (disch := (first | assumption | omega)) only [↓wIf_s, ↓wFor_s, ↓wWhile_s, ↓wIC_s, ↓wEqD_s, ↓wAndV_s, ↓wOrV_s, ↓wAnd_s, ↓wOr_s, ↓wIfE_s, ↓wTup_s, ↓wLst_s, ↓wCallP_s, ↓wCallM_s, ↓wAppend_s, ↓wExtend_s, ↓wPop_s, ↓wIxL_s, ↓wIxT_s, ↓wIxA_s, ↓wCatT_s, ↓wCat_s, ↓wAddD_s, ↓wRep_s, ↓wInI_s, ↓wRng1_s, ↓wRng2_s, ↓wRng3_s, ↓wgTup_s, ↓wgLst_s, ↓wgSub_s, ↓wDGet_s, ↓wDPut_s, ↓wDUpd_s, ↓wLstRg_s, ↓wTupRg_s, ↓wTIdx_s, ↓wLIdx_s, ↓wPopAt_s, ↓wChainF_s, ↓wLc_s, ↓wDc_s, ↓wInts_s, ↓wBls_s, ↓wMaxF_s, ↓wMinF_s, ↓wSortedF_s, ↓wLc2_s, ↓wSortSet_s, ↓wZip_s, ↓wRevL_s, ↓wCallI_s, ↓wCallID_s, ↓wCallIK_s, ↓wCallJ_s, ↓wVar_ap, ↓wC_ap, ↓wOp_ap, ↓wUn_ap, ↓wII_ap, ↓wIB_ap, ↓wNeg_ap, ↓wEqI_ap, ↓wIsN_ap, ↓wNotV_ap, ↓wTest_ap, ↓wNot_ap, ↓wNil_ap, ↓wCons_ap, ↓wCB_ap, ↓wFrz_ap, ↓wBM_ap, ↓wBM0_ap, ↓wReverse_ap, ↓wNoPart_ap, ↓wPart_ap, ↓wSl_ap, ↓wSlL_ap, ↓wSlT_ap, ↓wLen_ap, ↓wListOf_ap, ↓wTupleOf_ap, ↓wAbs_ap, ↓wIList_ap, ↓wITup_ap, ↓wName_ap, ↓wgNil_ap, ↓wgCons_ap, ↓wNext_ap, ↓wSeq_ap, ↓wAsg_ap, ↓wDrop_ap, ↓wRet_ap, ↓wRetN_ap, ↓wNever_ap, ↓wBreak_ap, ↓wCont_ap, ↓wPar_ap, ↓wAug_ap, ↓wIsT_ap, ↓wEnumT_ap, ↓wEnum_ap, ↓wDNew_ap, ↓wDIn_ap, ↓wDGet2_ap, ↓wRg1_ap, ↓wRg2_ap, ↓wFrzV_ap, ↓wThen_ap, ↓ifS_t, ↓ifS_f, ↓ifQ_t, ↓ifQ_f, ↓gtB_s, ↓intsB_m, ↓intsB_n, ↓intsB_nil, ↓intsB_1, ↓intsB_2, ↓intsB_3, ↓eqB_bool, ↓eqB_int, ↓eqB_non, Bool.true_beq, Bool.false_beq, ↓inB_s, ↓ret_fz, ↓ret_ls, ↓ret_rf, ret_nts, ret_tnts, ret_int, ret_bool, ret_none, ret_str, ret_rgD, ↓lcN_a, ↓lcO_a, ↓lcM_a, ↓lcP_a, ↓blB_s, ↓blB_nil, ↓blB_1, ↓blB_2, ↓blB_3, ↓sto, ↓frz, stL, isNum_t, Int.reducePow, Int.reduceSub, Int.reduceAdd, Int.reduceMul, vl, vls, its, lsOf, oLs, oL, upL, fzs, keyOf, dkOf, isN, wipeS, ownFree, own_fz, own_un, own_rf, own_ls, own_lb, own_dk, List.map_cons, List.map_nil, List.all_cons, List.all_nil, List.set, List.getD_cons_zero, List.getD_cons_succ, List.getD_nil, List.getElem?_cons_zero, List.getElem?_cons_succ, Option.getD_some, List.getElem?_nil, Option.getD_none, Option.map_some, Option.map_none, Bool.false_eq_true, if_true, if_false, Bool.not_true, Bool.not_false, Bool.and_true, Bool.true_and, Bool.and_self, Bool.and_false, Bool.false_and, Bool.or_true, Bool.true_or, Bool.or_false, Bool.false_or, List.cons_append, List.nil_append, List.append_nil, List.length_cons, List.length_nil, Nat.reduceAdd, Int.reduceToNat, List.eraseIdx, Int.reduceNeg, Int.sub_zero, Int.toNat_natCast, eq_self, decide_true, cl_0, cl_1, cl_2, cl_3, cl_4, cl_5, cl_6, cl_7, cl_8, cl_9, cl_10, cl_11, cl_12, cl_13, sd_true, sd_refl, castL_map, sd_le, sd_lt, sd_eqn, sd_div, sd_mulL, sd_mulR, sd_pow, sd_rg, sd_rg1, sd_mem, repB_1, lb_ex, swp_eq, pr_snoc, pr_len, prD_rev, zips_nts, rep_one, rep_nts, rep_nts0, at_mod, modN, at_nts, ix_nts, ix_len, set_nts, app_nts, app2_nts, rg_snoc, rgD_len, idx_cast, cut_fromN, cut_toN, cut_two, mem_castD, cast_ltD, cast_leD, cast_eqD, rng_0, nt_def, nts_len, List.length_range, atI_0, atI_1, atI_2, ixN_0, ixN_1, List.length_map, isi_int_none, isi_int_bool, isi_int_int, isi_int_str, isi_int_list, isi_int_tuple, isi_bool_none, isi_bool_bool, isi_bool_int, isi_bool_str, isi_bool_list, isi_bool_tuple, isi_str_none, isi_str_bool, isi_str_int, isi_str_str, isi_str_list, isi_str_tuple, isi_tuple_none, isi_tuple_bool, isi_tuple_int, isi_tuple_str, isi_tuple_list, isi_tuple_tuple, isi_list_none, isi_list_bool, isi_list_int, isi_list_str, isi_list_list, isi_list_tuple]
        exact hJ _ ⟨_, _, _, _, rfl⟩
    · obtain ⟨y, z, u, v, rfl⟩ := h
      simp -implicitDefEqProofs -dsimp (disch := (first | assumption | omega)) only [↓wIf_s, ↓wFor_s, ↓wWhile_s, ↓wIC_s, ↓wEqD_s, ↓wAndV_s, ↓wOrV_s, ↓wAnd_s, ↓wOr_s, ↓wIfE_s, ↓wTup_s, ↓wLst_s, ↓wCallP_s, ↓wCallM_s, ↓wAppend_s, ↓wExtend_s, ↓wPop_s, ↓wIxL_s, ↓wIxT_s, ↓wIxA_s, ↓wCatT_s, ↓wCat_s, ↓wAddD_s, ↓wRep_s, ↓wInI_s, ↓wRng1_s, ↓wRng2_s, ↓wRng3_s, ↓wgTup_s, ↓wgLst_s, ↓wgSub_s, ↓wDGet_s, ↓wDPut_s, ↓wDUpd_s, ↓wLstRg_s, ↓wTupRg_s, ↓wTIdx_s, ↓wLIdx_s, ↓wPopAt_s, ↓wChainF_s, ↓wLc_s, ↓wDc_s, ↓wInts_s, ↓wBls_s, ↓wMaxF_s, ↓wMinF_s, ↓wSortedF_s, ↓wLc2_s, ↓wSortSet_s, ↓wZip_s, ↓wRevL_s, ↓wCallI_s, ↓wCallID_s, ↓wCallIK_s, ↓wCallJ_s, ↓wVar_ap, ↓wC_ap, ↓wOp_ap, ↓wUn_ap, ↓wII_ap, ↓wIB_ap, ↓wNeg_ap, ↓wEqI_ap, ↓wIsN_ap, ↓wNotV_ap, ↓wTest_ap, ↓wNot_ap, ↓wNil_ap, ↓wCons_ap, ↓wCB_ap, ↓wFrz_ap, ↓wBM_ap, ↓wBM0_ap, ↓wReverse_ap, ↓wNoPart_ap, ↓wPart_ap, ↓wSl_ap, ↓wSlL_ap, ↓wSlT_ap, ↓wLen_ap, ↓wListOf_ap, ↓wTupleOf_ap, ↓wAbs_ap, ↓wIList_ap, ↓wITup_ap, ↓wName_ap, ↓wgNil_ap, ↓wgCons_ap, ↓wNext_ap, ↓wSeq_ap, ↓wAsg_ap, ↓wDrop_ap, ↓wRet_ap, ↓wRetN_ap, ↓wNever_ap, ↓wBreak_ap, ↓wCont_ap, ↓wPar_ap, ↓wAug_ap, ↓wIsT_ap, ↓wEnumT_ap, ↓wEnum_ap, ↓wDNew_ap, ↓wDIn_ap, ↓wDGet2_ap, ↓wRg1_ap, ↓wRg2_ap, ↓wFrzV_ap, ↓wThen_ap, ↓ifS_t, ↓ifS_f, ↓ifQ_t, ↓ifQ_f, ↓gtB_s, ↓intsB_m, ↓intsB_n, ↓intsB_nil, ↓intsB_1, ↓intsB_2, ↓intsB_3, ↓eqB_bool, ↓eqB_int, ↓eqB_non, Bool.true_beq, Bool.false_beq, ↓inB_s, ↓ret_fz, ↓ret_ls, ↓ret_rf, ret_nts, ret_tnts, ret_int, ret_bool, ret_none, ret_str, ret_rgD, ↓lcN_a, ↓lcO_a, ↓lcM_a, ↓lcP_a, ↓blB_s, ↓blB_nil, ↓blB_1, ↓blB_2, ↓blB_3, ↓sto, ↓frz, stL, isNum_t, Int.reducePow, Int.reduceSub, Int.reduceAdd, Int.reduceMul, vl, vls, its, lsOf, oLs, oL, upL, fzs, keyOf, dkOf, isN, wipeS, ownFree, own_fz, own_un, own_rf, own_ls, own_lb, own_dk, List.map_cons, List.map_nil, List.all_cons, List.all_nil, List.set, List.getD_cons_zero, List.getD_cons_succ, List.getD_nil, List.getElem?_cons_zero, List.getElem?_cons_succ, Option.getD_some, List.getElem?_nil, Option.getD_none, Option.map_some, Option.map_none, Bool.false_eq_true, if_true, if_false, Bool.not_true, Bool.not_false, Bool.and_true, Bool.true_and, Bool.and_self, Bool.and_false, Bool.false_and, Bool.or_true, Bool.true_or, Bool.or_false, Bool.false_or, List.cons_append, List.nil_append, List.append_nil, List.length_cons, List.length_nil, Nat.reduceAdd, Int.reduceToNat, List.eraseIdx, Int.reduceNeg, Int.sub_zero, Int.toNat_natCast, eq_self, decide_true, cl_0, cl_1, cl_2, cl_3, cl_4, cl_5, cl_6, cl_7, cl_8, cl_9, cl_10, cl_11, cl_12, cl_13, sd_true, sd_refl, castL_map, sd_le, sd_lt, sd_eqn, sd_div, sd_mulL, sd_mulR, sd_pow, sd_rg, sd_rg1, sd_mem, repB_1, lb_ex, swp_eq, pr_snoc, pr_len, prD_rev, zips_nts, rep_one, rep_nts, rep_nts0, at_mod, modN, at_nts, ix_nts, ix_len, set_nts, app_nts, app2_nts, rg_snoc, rgD_len, idx_cast, cut_fromN, cut_toN, cut_two, mem_castD, cast_ltD, cast_leD, cast_eqD, rng_0, nt_def, nts_len, List.length_range, atI_0, atI_1, atI_2, ixN_0, ixN_1, List.length_map, isi_int_none, isi_int_bool, isi_int_int, isi_int_str, isi_int_list, isi_int_tuple, isi_bool_none, isi_bool_bool, isi_bool_int, isi_bool_str, isi_bool_list, isi_bool_tuple, isi_str_none, isi_str_bool, isi_str_int, isi_str_str, isi_str_list, isi_str_tuple, isi_tuple_none, isi_tuple_bool, isi_tuple_int, isi_tuple_str, isi_tuple_list, isi_tuple_tuple, isi_list_none, isi_list_bool, isi_list_int, isi_list_str, isi_list_list, isi_list_tuple]
      rfl⟩
end
theorem law_start {K : PySem.W.Frag} {H : Hp} {a : Addr} {ns : List Int} (hl : ns.length ≤ 63) (hb : ∀ z ∈ ns, Builtin.Int.intBits z ≤ 1048576) (hS : SqL K H a (ns.map V.int)) : spP 1 pre_law post_law K [.ref a] H (fun v _ => v = .bl true) fun _ _ _ => False := by
  have fl : FL K H Any a (ns.map V.int) := by
    rcases hS with hS | hS
    · exact .inl ⟨trivial, hS⟩
    · exact .inr hS
  refine ⟨[.list (ns.map PyData.int)], .cons (.lst fl (Reps.of_ints ns)) .nil, rfl, ⟨ns, rfl, hl, hb⟩, fun v H' x hx _ nv => ?_⟩
  obtain rfl : x = .fz (.bool true) := hx
  exact nv.2.bl_inv
theorem all_mk {l : PySem.W.OpenLaw} {w : World} {K : PySem.W.Frag} {h : Heap} {mg : Str → Option Value} {fa : Addr} (X : K.In h) (G : h.Ns mainGlobals mg) (hfa : mg "law" = some (.ref fa))
    {od0 an0 : Option Addr} {sl0 : Array (Option Value)} {oc0 kV0 dc0 pm0 cd0 ct0 : Value} {f0 : Addr}
    {od1 an1 : Option Addr} {sl1 : Array (Option Value)} {oc1 kV1 dc1 pm1 cd1 ct1 : Value} {f1 : Addr}
    {od2 an2 : Option Addr} {sl2 : Array (Option Value)} {oc2 kV2 dc2 pm2 cd2 ct2 : Value} {f2 : Addr}
    {od3 an3 : Option Addr} {sl3 : Array (Option Value)} {oc3 kV3 dc3 pm3 cd3 ct3 : Value} {f3 : Addr}
    {od4 an4 : Option Addr} {sl4 : Array (Option Value)} {oc4 kV4 dc4 pm4 cd4 ct4 : Value} {f4 : Addr}
    {od5 an5 : Option Addr} {sl5 : Array (Option Value)} {oc5 kV5 dc5 pm5 cd5 ct5 : Value} {f5 : Addr}
    {od6 an6 : Option Addr} {sl6 : Array (Option Value)} {oc6 kV6 dc6 pm6 cd6 ct6 : Value} {f6 : Addr}
    {od7 an7 : Option Addr} {sl7 : Array (Option Value)} {oc7 kV7 dc7 pm7 cd7 ct7 : Value} {f7 : Addr}
    {od8 an8 : Option Addr} {sl8 : Array (Option Value)} {oc8 kV8 dc8 pm8 cd8 ct8 : Value} {f8 : Addr}
    {od9 an9 : Option Addr} {sl9 kl9 : Array (Option Value)} {oc9 dc9 pm9 cd9 ct9 : Value} {f9 kD9 kT9 : Addr} {kn9 : Nat}
    {od10 an10 : Option Addr} {sl10 : Array (Option Value)} {oc10 kV10 dc10 pm10 cd10 ct10 : Value} {f10 : Addr}
    {od11 an11 : Option Addr} {sl11 : Array (Option Value)} {oc11 kV11 dc11 pm11 cd11 ct11 : Value} {f11 : Addr}
    {od12 an12 : Option Addr} {sl12 : Array (Option Value)} {oc12 kV12 dc12 pm12 cd12 ct12 : Value} {f12 : Addr}
    {od13 an13 : Option Addr} {sl13 : Array (Option Value)} {oc13 kV13 dc13 pm13 cd13 ct13 : Value} {f13 : Addr}
    {od14 an14 : Option Addr} {sl14 : Array (Option Value)} {oc14 kV14 dc14 pm14 cd14 ct14 : Value} {f14 : Addr}
    {od15 an15 : Option Addr} {sl15 : Array (Option Value)} {oc15 kV15 dc15 pm15 cd15 ct15 : Value} {f15 : Addr}
    {t0 : Tok}
    {t1 : Tok}
    (a0 : PySem.W.nsIn K mainGlobals "_law_dice" = some (some (.ref f0))) (l0 : K.lookup f0 = some ⟨oc0, od0, .func (PySem.W.fnOf "_law_dice" "_law_dice" (defArgs s_dice_L) (defBody s_dice_L) (defScope s_dice_L) .none kV0 dc0 pm0 an0 cd0 ct0), sl0⟩) (c0 : PySem.W.codeIn K cd0 "_law_dice" = true) (k0 : PySem.W.keepIn K (.ref f0) = true)
    (a1 : PySem.W.nsIn K mainGlobals "_law_off" = some (some (.ref f1))) (l1 : K.lookup f1 = some ⟨oc1, od1, .func (PySem.W.fnOf "_law_off" "_law_off" (defArgs s_off_L) (defBody s_off_L) (defScope s_off_L) .none kV1 dc1 pm1 an1 cd1 ct1), sl1⟩) (c1 : PySem.W.codeIn K cd1 "_law_off" = true) (k1 : PySem.W.keepIn K (.ref f1) = true)
    (a2 : PySem.W.nsIn K mainGlobals "_law_mixed" = some (some (.ref f2))) (l2 : K.lookup f2 = some ⟨oc2, od2, .func (PySem.W.fnOf "_law_mixed" "_law_mixed" (defArgs s_mixed_L) (defBody s_mixed_L) (defScope s_mixed_L) .none kV2 dc2 pm2 an2 cd2 ct2), sl2⟩) (c2 : PySem.W.codeIn K cd2 "_law_mixed" = true) (k2 : PySem.W.keepIn K (.ref f2) = true)
    (a3 : PySem.W.nsIn K mainGlobals "_law_cards" = some (some (.ref f3))) (l3 : K.lookup f3 = some ⟨oc3, od3, .func (PySem.W.fnOf "_law_cards" "_law_cards" (defArgs s_cards_L) (defBody s_cards_L) (defScope s_cards_L) .none kV3 dc3 pm3 an3 cd3 ct3), sl3⟩) (c3 : PySem.W.codeIn K cd3 "_law_cards" = true) (k3 : PySem.W.keepIn K (.ref f3) = true)
    (a4 : PySem.W.nsIn K mainGlobals "is_number" = some (some (.ref f4))) (l4 : K.lookup f4 = some ⟨oc4, od4, .func (PySem.W.fnOf "is_number" "is_number" (defArgs s_is_number) (defBody s_is_number) (defScope s_is_number) .none kV4 dc4 pm4 an4 cd4 ct4), sl4⟩) (c4 : PySem.W.codeIn K cd4 "is_number" = true) (k4 : PySem.W.keepIn K (.ref f4) = true)
    (a5 : PySem.W.nsIn K mainGlobals "need_cards" = some (some (.ref f5))) (l5 : K.lookup f5 = some ⟨oc5, od5, .func (PySem.W.fnOf "need_cards" "need_cards" (defArgs s_need_cards) (defBody s_need_cards) (defScope s_need_cards) .none kV5 dc5 pm5 an5 cd5 ct5), sl5⟩) (c5 : PySem.W.codeIn K cd5 "need_cards" = true) (k5 : PySem.W.keepIn K (.ref f5) = true)
    (a6 : PySem.W.nsIn K mainGlobals "need_pins" = some (some (.ref f6))) (l6 : K.lookup f6 = some ⟨oc6, od6, .func (PySem.W.fnOf "need_pins" "need_pins" (defArgs s_need_pins) (defBody s_need_pins) (defScope s_need_pins) .none kV6 dc6 pm6 an6 cd6 ct6), sl6⟩) (c6 : PySem.W.codeIn K cd6 "need_pins" = true) (k6 : PySem.W.keepIn K (.ref f6) = true)
    (a7 : PySem.W.nsIn K mainGlobals "why_not" = some (some (.ref f7))) (l7 : K.lookup f7 = some ⟨oc7, od7, .func (PySem.W.fnOf "why_not" "why_not" (defArgs s_why_not) (defBody s_why_not) (defScope s_why_not) .none kV7 dc7 pm7 an7 cd7 ct7), sl7⟩) (c7 : PySem.W.codeIn K cd7 "why_not" = true) (k7 : PySem.W.keepIn K (.ref f7) = true)
    (a8 : PySem.W.nsIn K mainGlobals "exchanged" = some (some (.ref f8))) (l8 : K.lookup f8 = some ⟨oc8, od8, .func (PySem.W.fnOf "exchanged" "exchanged" (defArgs s_exchanged) (defBody s_exchanged) (defScope s_exchanged) .none kV8 dc8 pm8 an8 cd8 ct8), sl8⟩) (c8 : PySem.W.codeIn K cd8 "exchanged" = true) (k8 : PySem.W.keepIn K (.ref f8) = true)
    (a9 : PySem.W.nsIn K mainGlobals "done" = some (some (.ref f9))) (l9 : K.lookup f9 = some ⟨oc9, od9, .func (PySem.W.fnOf "done" "done" (defArgs s_done) (defBody s_done) (defScope s_done) .none (.ref kD9) dc9 pm9 an9 cd9 ct9), sl9⟩) (c9 : PySem.W.codeIn K cd9 "done" = true) (k9 : PySem.W.keepIn K (.ref f9) = true) (e9 : PySem.W.nsIn K kD9 "pins" = some (some (.ref kT9))) (u9 : K.lookup kT9 = some ⟨.type "tuple", none, .seq #[] kn9, kl9⟩)
    (a10 : PySem.W.nsIn K mainGlobals "ring_from" = some (some (.ref f10))) (l10 : K.lookup f10 = some ⟨oc10, od10, .func (PySem.W.fnOf "ring_from" "ring_from" (defArgs s_ring_from) (defBody s_ring_from) (defScope s_ring_from) .none kV10 dc10 pm10 an10 cd10 ct10), sl10⟩) (c10 : PySem.W.codeIn K cd10 "ring_from" = true) (k10 : PySem.W.keepIn K (.ref f10) = true)
    (a11 : PySem.W.nsIn K mainGlobals "rings_of" = some (some (.ref f11))) (l11 : K.lookup f11 = some ⟨oc11, od11, .func (PySem.W.fnOf "rings_of" "rings_of" (defArgs s_rings_of) (defBody s_rings_of) (defScope s_rings_of) .none kV11 dc11 pm11 an11 cd11 ct11), sl11⟩) (c11 : PySem.W.codeIn K cd11 "rings_of" = true) (k11 : PySem.W.keepIn K (.ref f11) = true)
    (a12 : PySem.W.nsIn K mainGlobals "rings" = some (some (.ref f12))) (l12 : K.lookup f12 = some ⟨oc12, od12, .func (PySem.W.fnOf "rings" "rings" (defArgs s_rings) (defBody s_rings) (defScope s_rings) .none kV12 dc12 pm12 an12 cd12 ct12), sl12⟩) (c12 : PySem.W.codeIn K cd12 "rings" = true) (k12 : PySem.W.keepIn K (.ref f12) = true)
    (a13 : PySem.W.nsIn K mainGlobals "_law_alike" = some (some (.ref f13))) (l13 : K.lookup f13 = some ⟨oc13, od13, .func (PySem.W.fnOf "_law_alike" "_law_alike" (defArgs s_alike_L) (defBody s_alike_L) (defScope s_alike_L) .none kV13 dc13 pm13 an13 cd13 ct13), sl13⟩) (c13 : PySem.W.codeIn K cd13 "_law_alike" = true) (k13 : PySem.W.keepIn K (.ref f13) = true)
    (a14 : PySem.W.nsIn K mainGlobals "parts" = some (some (.ref f14))) (l14 : K.lookup f14 = some ⟨oc14, od14, .func (PySem.W.fnOf "parts" "parts" (defArgs s_parts) (defBody s_parts) (defScope s_parts) .none kV14 dc14 pm14 an14 cd14 ct14), sl14⟩) (c14 : PySem.W.codeIn K cd14 "parts" = true) (k14 : PySem.W.keepIn K (.ref f14) = true)
    (a15 : PySem.W.nsIn K mainGlobals "law" = some (some (.ref f15))) (l15 : K.lookup f15 = some ⟨oc15, od15, .func (PySem.W.fnOf "law" "law" (defArgs s_law) (defBody s_law) (defScope s_law) .none kV15 dc15 pm15 an15 cd15 ct15), sl15⟩) (c15 : PySem.W.codeIn K cd15 "law" = true) (k15 : PySem.W.keepIn K (.ref f15) = true)
    (z0 : PySem.W.nsIn K mainGlobals "abs" = some none)
    (z1 : PySem.W.nsIn K mainGlobals "all" = some none)
    (z2 : PySem.W.nsIn K mainGlobals "any" = some none)
    (z3 : PySem.W.nsIn K mainGlobals "bool" = some none)
    (z4 : PySem.W.nsIn K mainGlobals "enumerate" = some none)
    (z5 : PySem.W.nsIn K mainGlobals "int" = some none)
    (z6 : PySem.W.nsIn K mainGlobals "isinstance" = some none)
    (z7 : PySem.W.nsIn K mainGlobals "len" = some none)
    (z8 : PySem.W.nsIn K mainGlobals "list" = some none)
    (z9 : PySem.W.nsIn K mainGlobals "range" = some none)
    (z10 : PySem.W.nsIn K mainGlobals "set" = some none)
    (z11 : PySem.W.nsIn K mainGlobals "sorted" = some none)
    (z12 : PySem.W.nsIn K mainGlobals "str" = some none)
    (z13 : PySem.W.nsIn K mainGlobals "tuple" = some none)
    (d0 : PySem.W.nsIn K mainGlobals "LEAST_SEATS" = some (some (.int 2 t0)))
    (d1 : PySem.W.nsIn K mainGlobals "MOST_SEATS" = some (some (.int 12 t1))) :
    ∃ fd : FuncData, (∀ (s : Shared) (v : Value), BindsTo s fd ⟨[v], []⟩ [("_law_script", v)]) ∧ ∀ base : Heap, K.In base → base.Ns mainGlobals mg → FnOk l.prog w K mg base CX0 7 fa fd ["_law_script"] (spP 1 pre_law post_law K) := by
  have e := hfa.symm.trans (PySem.W.mg_of X G a15)
  cases e
  have T : Txt mg := ⟨PySem.W.mg_none_of X G z0, PySem.W.mg_none_of X G z1, PySem.W.mg_none_of X G z2, PySem.W.mg_none_of X G z3, PySem.W.mg_none_of X G z4, PySem.W.mg_none_of X G z5, PySem.W.mg_none_of X G z6, PySem.W.mg_none_of X G z7, PySem.W.mg_none_of X G z8, PySem.W.mg_none_of X G z9, PySem.W.mg_none_of X G z10, PySem.W.mg_none_of X G z11, PySem.W.mg_none_of X G z12, PySem.W.mg_none_of X G z13, ⟨_, PySem.W.mg_of X G d0⟩, ⟨_, PySem.W.mg_of X G d1⟩⟩
  have F_dice_L := fun_mk (st := s_dice_L) l0 c0 k0
  have b_dice_L := F_dice_L.binds (ps := ["_law_script", "_law_k"]) fun _ _ _ _ _ _ us hl => match us, hl with | [_, _], _ => rfl
  have F_off_L := fun_mk (st := s_off_L) l1 c1 k1
  have b_off_L := F_off_L.binds (ps := ["_law_d", "_law_upto"]) fun _ _ _ _ _ _ us hl => match us, hl with | [_, _], _ => rfl
  have F_mixed_L := fun_mk (st := s_mixed_L) l2 c2 k2
  have b_mixed_L := F_mixed_L.binds (ps := ["_law_d", "_law_row"]) fun _ _ _ _ _ _ us hl => match us, hl with | [_, _], _ => rfl
  have F_cards_L := fun_mk (st := s_cards_L) l3 c3 k3
  have b_cards_L := F_cards_L.binds (ps := ["_law_d", "_law_size"]) fun _ _ _ _ _ _ us hl => match us, hl with | [_, _], _ => rfl
  have F_is_number := fun_mk (st := s_is_number) l4 c4 k4
  have b_is_number := F_is_number.binds (ps := ["thing", "low", "high"]) fun _ _ _ _ _ _ us hl => match us, hl with | [_, _, _], _ => rfl
  have F_need_cards := fun_mk (st := s_need_cards) l5 c5 k5
  have b_need_cards := F_need_cards.binds (ps := ["cards"]) fun _ _ _ _ _ _ us hl => match us, hl with | [_], _ => rfl
  have F_need_pins := fun_mk (st := s_need_pins) l6 c6 k6
  have b_need_pins := F_need_pins.binds (ps := ["pins", "many"]) fun _ _ _ _ _ _ us hl => match us, hl with | [_, _], _ => rfl
  have F_why_not := fun_mk (st := s_why_not) l7 c7 k7
  have b_why_not := F_why_not.binds (ps := ["cards", "pins", "two"]) fun _ _ _ _ _ _ us hl => match us, hl with | [_, _, _], _ => rfl
  have F_exchanged := fun_mk (st := s_exchanged) l8 c8 k8
  have b_exchanged := F_exchanged.binds (ps := ["cards", "two"]) fun _ _ _ _ _ _ us hl => match us, hl with | [_, _], _ => rfl
  have F_done := fun_mk (st := s_done) l9 c9 k9
  have FD_done : FunD K "done" "done" (defArgs s_done) (defBody s_done) (defScope s_done) [] [("pins", V.ref kT9)] f9 _ := ⟨⟨oc9, od9, .none, .ref kD9, dc9, pm9, an9, cd9, ct9, sl9, rfl, l9, c9, .inl ⟨rfl, rfl⟩, .inr ⟨kD9, rfl, fun q hq => by
    obtain rfl := List.mem_singleton.mp hq
    exact ⟨_, e9, rfl⟩⟩⟩, k9⟩
  have b_done := FD_done.binds0 (ps := ["cards", "some", "pins"]) 2 (by simp) rfl fun _ _ _ _ _ _ us ks hu hk => match us, hu, ks, hk with | [_, _], _, [_], _ => ⟨_, _, _, _, _, _, rfl, rfl, rfl⟩
  have kb_done : KBn K _ ["cards", "some", "pins"] 2 ["pins"] (fun us ws => us ++ ws) (fun vs zs => vs ++ zs) := ⟨fun s us ws _ l1 l2 => match us, l1, ws, l2 with | [_, _], _, [_], _ => BindsTo.of_eq (fd := PySem.W.fnOf "done" "done" (defArgs s_done) (defBody s_done) (defScope s_done) .none (.ref kD9) dc9 pm9 an9 cd9 ct9) rfl, fun r rz => r.append rz⟩
  have F_ring_from := fun_mk (st := s_ring_from) l10 c10 k10
  have b_ring_from := F_ring_from.binds (ps := ["cards", "seat"]) fun _ _ _ _ _ _ us hl => match us, hl with | [_, _], _ => rfl
  have F_rings_of := fun_mk (st := s_rings_of) l11 c11 k11
  have b_rings_of := F_rings_of.binds (ps := ["cards"]) fun _ _ _ _ _ _ us hl => match us, hl with | [_], _ => rfl
  have F_rings := fun_mk (st := s_rings) l12 c12 k12
  have b_rings := F_rings.binds (ps := ["cards"]) fun _ _ _ _ _ _ us hl => match us, hl with | [_], _ => rfl
  have F_alike_L := fun_mk (st := s_alike_L) l13 c13 k13
  have b_alike_L := F_alike_L.binds (ps := ["_law_found", "_law_due"]) fun _ _ _ _ _ _ us hl => match us, hl with | [_, _], _ => rfl
  have F_parts := fun_mk (st := s_parts) l14 c14 k14
  have b_parts := F_parts.binds (ps := ["cards", "one", "other"]) fun _ _ _ _ _ _ us hl => match us, hl with | [_, _, _], _ => rfl
  have F_law := fun_mk (st := s_law) l15 c15 k15
  refine ⟨PySem.W.fnOf "law" "law" (defArgs s_law) (defBody s_law) (defScope s_law) .none kV15 dc15 pm15 an15 cd15 ct15, fun s v => .of_eq rfl, fun base _ _ => ?_⟩
  have C_dice_L : Cal l.prog w K mg base 1 "_law_dice" (spP 2 pre_dice_L post_dice_L K) := ⟨f0, _, _, ok_dice_L F_dice_L T , PySem.W.mg_of X G a0, F_dice_L.kp, b_dice_L⟩
  have C_off_L : Cal l.prog w K mg base 1 "_law_off" (spM 1 pre_off_L post_off_L K) := ⟨f1, _, _, ok_off_L F_off_L T , PySem.W.mg_of X G a1, F_off_L.kp, b_off_L⟩
  have C_mixed_L : Cal l.prog w K mg base 2 "_law_mixed" (spM 1 pre_mixed_L post_mixed_L K) := ⟨f2, _, _, ok_mixed_L F_mixed_L T C_off_L, PySem.W.mg_of X G a2, F_mixed_L.kp, b_mixed_L⟩
  have C_cards_L : Cal l.prog w K mg base 3 "_law_cards" (spM 1 pre_cards_L post_cards_L K) := ⟨f3, _, _, ok_cards_L F_cards_L T C_off_L C_mixed_L, PySem.W.mg_of X G a3, F_cards_L.kp, b_cards_L⟩
  have C_is_number : Cal l.prog w K mg base 1 "is_number" (spP 3 pre_is_number post_is_number K) := ⟨f4, _, _, ok_is_number F_is_number T , PySem.W.mg_of X G a4, F_is_number.kp, b_is_number⟩
  have C_need_cards : Cal l.prog w K mg base 2 "need_cards" (spP 1 pre_need_cards post_need_cards K) := ⟨f5, _, _, ok_need_cards F_need_cards T C_is_number, PySem.W.mg_of X G a5, F_need_cards.kp, b_need_cards⟩
  have C_need_pins : Cal l.prog w K mg base 2 "need_pins" (spI 2 A_need_pins pre_need_pins post_need_pins K) := ⟨f6, _, _, ok_need_pins F_need_pins T C_is_number, PySem.W.mg_of X G a6, F_need_pins.kp, b_need_pins⟩
  have C_why_not : Cal l.prog w K mg base 2 "why_not" (spI 3 A_why_not pre_why_not post_why_not K) := ⟨f7, _, _, ok_why_not F_why_not T C_is_number, PySem.W.mg_of X G a7, F_why_not.kp, b_why_not⟩
  have C_exchanged : Cal l.prog w K mg base 1 "exchanged" (spI 2 A_exchanged pre_exchanged post_exchanged K) := ⟨f8, _, _, ok_exchanged F_exchanged T , PySem.W.mg_of X G a8, F_exchanged.kp, b_exchanged⟩
  have C_done : CalD l.prog w K mg base 3 "done" 2 "pins" kT9 (spI 3 A_done pre_done post_done K) := ⟨f9, _, _, ok_done F_done T C_need_cards C_need_pins C_why_not C_exchanged, PySem.W.mg_of X G a9, F_done.kp, ⟨_, _, u9, rfl, rfl, rfl⟩, b_done, kb_done⟩
  have C_ring_from : Cal l.prog w K mg base 1 "ring_from" (spP 2 pre_ring_from post_ring_from K) := ⟨f10, _, _, ok_ring_from F_ring_from T , PySem.W.mg_of X G a10, F_ring_from.kp, b_ring_from⟩
  have C_rings_of : Cal l.prog w K mg base 2 "rings_of" (spP 1 pre_rings_of post_rings_of K) := ⟨f11, _, _, ok_rings_of F_rings_of T C_ring_from, PySem.W.mg_of X G a11, F_rings_of.kp, b_rings_of⟩
  have C_rings : Cal l.prog w K mg base 3 "rings" (spP 1 pre_rings post_rings K) := ⟨f12, _, _, ok_rings F_rings T C_need_cards C_rings_of, PySem.W.mg_of X G a12, F_rings.kp, b_rings⟩
  have R_alike_L_0 : Cal l.prog w K mg base 0 "_law_alike" (spP 2 (pre_alike_L 0) post_alike_L K) := ⟨f13, _, _, ⟨fun vs H Q E h => rec0_alike_L h, fun A outer s H args us vs Q E _ _ _ _ h => rec0_alike_L h⟩, PySem.W.mg_of X G a13, F_alike_L.kp, b_alike_L⟩
  have R_alike_L_1 : Cal l.prog w K mg base 1 "_law_alike" (spP 2 (pre_alike_L 1) post_alike_L K) := ⟨f13, _, _, ok_alike_L F_alike_L T R_alike_L_0, PySem.W.mg_of X G a13, F_alike_L.kp, b_alike_L⟩
  have R_alike_L_2 : Cal l.prog w K mg base 2 "_law_alike" (spP 2 (pre_alike_L 2) post_alike_L K) := ⟨f13, _, _, ok_alike_L F_alike_L T R_alike_L_1, PySem.W.mg_of X G a13, F_alike_L.kp, b_alike_L⟩
  have R_alike_L_3 : Cal l.prog w K mg base 3 "_law_alike" (spP 2 (pre_alike_L 3) post_alike_L K) := ⟨f13, _, _, ok_alike_L F_alike_L T R_alike_L_2, PySem.W.mg_of X G a13, F_alike_L.kp, b_alike_L⟩
  have R_alike_L_4 : Cal l.prog w K mg base 4 "_law_alike" (spP 2 (pre_alike_L 4) post_alike_L K) := ⟨f13, _, _, ok_alike_L F_alike_L T R_alike_L_3, PySem.W.mg_of X G a13, F_alike_L.kp, b_alike_L⟩
  have R_alike_L_5 : Cal l.prog w K mg base 5 "_law_alike" (spP 2 (pre_alike_L 5) post_alike_L K) := ⟨f13, _, _, ok_alike_L F_alike_L T R_alike_L_4, PySem.W.mg_of X G a13, F_alike_L.kp, b_alike_L⟩
  have R_alike_L_6 : Cal l.prog w K mg base 6 "_law_alike" (spP 2 (pre_alike_L 6) post_alike_L K) := ⟨f13, _, _, ok_alike_L F_alike_L T R_alike_L_5, PySem.W.mg_of X G a13, F_alike_L.kp, b_alike_L⟩
  have C_alike_L := R_alike_L_6
  have C_parts : Cal l.prog w K mg base 3 "parts" (spI 3 A_parts pre_parts post_parts K) := ⟨f14, _, _, ok_parts F_parts T C_need_cards C_why_not C_rings_of, PySem.W.mg_of X G a14, F_parts.kp, b_parts⟩
  exact ok_law F_law T C_dice_L C_cards_L C_done C_rings C_parts C_alike_L
end SX
open PySem PySem.W PyProof.Rows
set_option maxHeartbeats 0 in
theorem PySem.Challenge.cw_seatcards_k16_whole_rings_parted_or_join_holds : PySem.Challenge.rw_seatcards_k16_whole_rings_parted_or_join.Holds := by
  w_on; o_law; k_head; (case hw => w_witness2)
  k_fill
  refine L2.walk_ofB (l := PySem.Challenge.rw_seatcards_k16_whole_rings_parted_or_join) (n := 63) (k := 7) (x := "_law_script") (CX := fun _ => L2.CX0) (sp := fun w => SX.spP 1 SX.pre_law SX.post_law _) rfl (by decide) rfl ⟨rfl, by decide, by decide⟩ (fun w h Y => PySem.W.kIn_of Y) ?F (fun w H a ns hl hb _ hS => SX.law_start hl hb hS) (fun _ _ _ _ _ h => h)
  case F =>
    intro w mg fa h KX G hmg
    refine' SX.all_mk KX G hmg ?a0 ?l0 ?c0 ?k0 ?a1 ?l1 ?c1 ?k1 ?a2 ?l2 ?c2 ?k2 ?a3 ?l3 ?c3 ?k3 ?a4 ?l4 ?c4 ?k4 ?a5 ?l5 ?c5 ?k5 ?a6 ?l6 ?c6 ?k6 ?a7 ?l7 ?c7 ?k7 ?a8 ?l8 ?c8 ?k8 ?a9 ?l9 ?c9 ?k9 ?e9 ?u9 ?a10 ?l10 ?c10 ?k10 ?a11 ?l11 ?c11 ?k11 ?a12 ?l12 ?c12 ?k12 ?a13 ?l13 ?c13 ?k13 ?a14 ?l14 ?c14 ?k14 ?a15 ?l15 ?c15 ?k15 ?z0 ?z1 ?z2 ?z3 ?z4 ?z5 ?z6 ?z7 ?z8 ?z9 ?z10 ?z11 ?z12 ?z13 ?d0 ?d1
    (case a0 => k_is)
    (case l0 => k_is)
    (case c0 => k_is)
    (case k0 => k_is)
    (case a1 => k_is)
    (case l1 => k_is)
    (case c1 => k_is)
    (case k1 => k_is)
    (case a2 => k_is)
    (case l2 => k_is)
    (case c2 => k_is)
    (case k2 => k_is)
    (case a3 => k_is)
    (case l3 => k_is)
    (case c3 => k_is)
    (case k3 => k_is)
    (case a4 => k_is)
    (case l4 => k_is)
    (case c4 => k_is)
    (case k4 => k_is)
    (case a5 => k_is)
    (case l5 => k_is)
    (case c5 => k_is)
    (case k5 => k_is)
    (case a6 => k_is)
    (case l6 => k_is)
    (case c6 => k_is)
    (case k6 => k_is)
    (case a7 => k_is)
    (case l7 => k_is)
    (case c7 => k_is)
    (case k7 => k_is)
    (case a8 => k_is)
    (case l8 => k_is)
    (case c8 => k_is)
    (case k8 => k_is)
    (case a9 => k_is)
    (case l9 => k_is)
    (case c9 => k_is)
    (case k9 => k_is)
    (case e9 => k_is)
    (case u9 => k_is)
    (case a10 => k_is)
    (case l10 => k_is)
    (case c10 => k_is)
    (case k10 => k_is)
    (case a11 => k_is)
    (case l11 => k_is)
    (case c11 => k_is)
    (case k11 => k_is)
    (case a12 => k_is)
    (case l12 => k_is)
    (case c12 => k_is)
    (case k12 => k_is)
    (case a13 => k_is)
    (case l13 => k_is)
    (case c13 => k_is)
    (case k13 => k_is)
    (case a14 => k_is)
    (case l14 => k_is)
    (case c14 => k_is)
    (case k14 => k_is)
    (case a15 => k_is)
    (case l15 => k_is)
    (case c15 => k_is)
    (case k15 => k_is)
    (case z0 => k_is)
    (case z1 => k_is)
    (case z2 => k_is)
    (case z3 => k_is)
    (case z4 => k_is)
    (case z5 => k_is)
    (case z6 => k_is)
    (case z7 => k_is)
    (case z8 => k_is)
    (case z9 => k_is)
    (case z10 => k_is)
    (case z11 => k_is)
    (case z12 => k_is)
    (case z13 => k_is)
    (case d0 => k_is)
    (case d1 => k_is)
