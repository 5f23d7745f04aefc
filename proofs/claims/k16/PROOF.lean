import PyProof.Rows.All
import Wide.All
import OpenK.AllK
import Wide.FinOn
import HandS.ForMost
import HandS.ForExc
import HandS.Walk
import HandS.Zip
import HandS.TupAny
import HandS.IsInst
import HandS.Deep
import HandS.Conv
import HandS.TupLen
import HandS.DictTup
import HandS.Flow
import HandS.Defaults
import HandS.WordsList
import HandS.Words
import HandS.Exc
import HandS.ExcOwn
import HandS.WordsExc
import HandS.SetFor
import HandS.HeadHook1
import HandS.HeadHook2
import HandS.Iter
import HandS.ForDict
import PyProof.DictMoreH
import KE.SortData
import KE.KDictList
import KE.KDictSum
import HandS.HeadHook3
import HandS.Style
import HandS.DictEq
import HandS.DictComp
import KE.GoesZip
import KE.GoesMore
import HandS.More
import HandS.Text
import HandS.RaiseMore
import KE.IntTextLaws
import HandS.HeadWalk
import HandS.HeadEnd
import HandS.Head0
import HandS.Head1
import HandS.Head2
import PySem.Challenge.RW_carrydrop_k16_steps_written
set_option Elab.async false
set_option linter.all false
set_option maxRecDepth 100000
set_option maxHeartbeats 4000000
/-! DL: values by value (tuples too), a heap of lists, dicts, instances; its judgements lie over HandS's. -/
namespace DL
open PySem PySem.Spec L2

/-! ### values -/
inductive D where
  | non | bl (b : Bool) | int (i : Int) | str (s : Str) | ty (n : String) | tup (ds : List D) | ref (a : Addr)

mutual
def D.beq : D → D → Bool
  | .non, .non => true
  | .bl a, .bl b => a == b
  | .int a, .int b => decide (a = b)
  | .str a, .str b => decide (a = b)
  | .ty a, .ty b => decide (a = b)
  | .ref a, .ref b => decide (a = b)
  | .tup as, .tup bs => D.beqL as bs
  | _, _ => false
def D.beqL : List D → List D → Bool
  | [], [] => true
  | a :: as, b :: bs => D.beq a b && D.beqL as bs
  | _, _ => false
end
mutual
theorem D.beq_iff : ∀ a b : D, D.beq a b = true ↔ a = b
  | .tup as, b => by
    cases b <;> simp [D.beq]
    rename_i bs
    exact D.beqL_iff as bs
  | .non, b => by cases b <;> simp [D.beq]
  | .bl a, b => by cases b <;> simp [D.beq]
  | .int a, b => by cases b <;> simp [D.beq]
  | .str a, b => by cases b <;> simp [D.beq]
  | .ty a, b => by cases b <;> simp [D.beq]
  | .ref a, b => by cases b <;> simp [D.beq]
theorem D.beqL_iff : ∀ as bs : List D, D.beqL as bs = true ↔ as = bs
  | [], bs => by cases bs <;> simp [D.beqL]
  | a :: as, bs => by
    cases bs with
    | nil => simp [D.beqL]
    | cons b bs => simp [D.beqL, D.beq_iff a b, D.beqL_iff as bs]
end
instance : DecidableEq D := fun a b => decidable_of_iff _ (D.beq_iff a b)

/-- a text that Python may have -/
abbrev OkS (x : Str) : Prop := PySem.PyData.strOk x = true

mutual
/-- v stands for d in H: tuples by what they hold -/
def Rel (H : Hp) : D → V → Prop
  | .non, v => v = .non
  | .bl b, v => v = .bl b
  | .int i, v => v = .int i
  | .str s, v => v = .str s ∧ OkS s
  | .ty n, v => v = .ty n
  | .ref a, v => v = .ref a
  | .tup ds, v => ∃ a xs, v = .ref a ∧ H a = some (.tup xs) ∧ RelL H ds xs ∧ ds.length ≤ sizeLine
def RelL (H : Hp) : List D → List V → Prop
  | [], xs => xs = []
  | d :: ds, xs => ∃ x r, xs = x :: r ∧ Rel H d x ∧ RelL H ds r
end

theorem relL_nil {H : Hp} {xs : List V} : RelL H [] xs ↔ xs = [] := Iff.rfl
theorem relL_cons {H : Hp} {d : D} {ds : List D} {x : V} {xs : List V} : RelL H (d :: ds) (x :: xs) ↔ Rel H d x ∧ RelL H ds xs :=
  ⟨fun ⟨y, r, e, h1, h2⟩ => by cases e; exact ⟨h1, h2⟩, fun ⟨h1, h2⟩ => ⟨_, _, rfl, h1, h2⟩⟩
theorem RelL.length {H : Hp} : ∀ {ds : List D} {xs : List V}, RelL H ds xs → ds.length = xs.length
  | [], xs, h => by cases (relL_nil.mp h); rfl
  | d :: ds, xs, h => by
    obtain ⟨x, r, rfl, _, h2⟩ := h
    simp [RelL.length h2]
theorem RelL.get {H : Hp} : ∀ {ds : List D} {xs : List V}, RelL H ds xs → ∀ (i : Nat) {d : D}, ds[i]? = some d → ∃ x, xs[i]? = some x ∧ Rel H d x
  | [], _, _, i, d, e => by simp at e
  | d :: ds, xs, h, 0, d', e => by
    obtain ⟨x, r, rfl, h1, h2⟩ := h
    simp at e
    subst e
    exact ⟨x, rfl, h1⟩
  | d :: ds, xs, h, i + 1, d', e => by
    obtain ⟨x, r, rfl, h1, h2⟩ := h
    obtain ⟨y, e1, e2⟩ := RelL.get h2 i (d := d') (by simpa using e)
    exact ⟨y, by simpa using e1, e2⟩
theorem RelL.append {H : Hp} : ∀ {ds es : List D} {xs ys : List V}, RelL H ds xs → RelL H es ys → RelL H (ds ++ es) (xs ++ ys)
  | [], es, xs, ys, h, k => by
    cases (relL_nil.mp h)
    exact k
  | d :: ds, es, xs, ys, h, k => by
    obtain ⟨x, r, rfl, h1, h2⟩ := h
    exact ⟨x, r ++ ys, rfl, h1, RelL.append h2 k⟩
theorem RelL.one {H : Hp} {d : D} {x : V} (h : Rel H d x) : RelL H [d] [x] := ⟨x, [], rfl, h, rfl⟩
theorem RelL.set {H : Hp} {d : D} {x : V} (hd : Rel H d x) : ∀ {ds : List D} {xs : List V}, RelL H ds xs → ∀ i : Nat, RelL H (ds.set i d) (xs.set i x)
  | [], xs, h, _ => by
    cases (relL_nil.mp h)
    exact rfl
  | e :: ds, xs, h, 0 => by
    obtain ⟨y, r, rfl, h1, h2⟩ := h
    exact ⟨x, r, rfl, hd, h2⟩
  | e :: ds, xs, h, i + 1 => by
    obtain ⟨y, r, rfl, h1, h2⟩ := h
    exact ⟨y, r.set i x, rfl, h1, RelL.set hd h2 i⟩
theorem RelL.erase {H : Hp} : ∀ {ds : List D} {xs : List V}, RelL H ds xs → ∀ i : Nat, RelL H (ds.eraseIdx i) (xs.eraseIdx i)
  | [], xs, h, _ => by
    cases (relL_nil.mp h)
    exact rfl
  | e :: ds, xs, h, 0 => by
    obtain ⟨y, r, rfl, h1, h2⟩ := h
    exact h2
  | e :: ds, xs, h, i + 1 => by
    obtain ⟨y, r, rfl, h1, h2⟩ := h
    exact ⟨y, r.eraseIdx i, rfl, h1, RelL.erase h2 i⟩
theorem RelL.take {H : Hp} : ∀ {ds : List D} {xs : List V}, RelL H ds xs → ∀ i : Nat, RelL H (ds.take i) (xs.take i)
  | [], xs, h, _ => by
    cases (relL_nil.mp h)
    simp [RelL]
  | e :: ds, xs, h, 0 => rfl
  | e :: ds, xs, h, i + 1 => by
    obtain ⟨y, r, rfl, h1, h2⟩ := h
    exact ⟨y, r.take i, rfl, h1, RelL.take h2 i⟩
theorem RelL.drop {H : Hp} : ∀ {ds : List D} {xs : List V}, RelL H ds xs → ∀ i : Nat, RelL H (ds.drop i) (xs.drop i)
  | [], xs, h, _ => by
    cases (relL_nil.mp h)
    simp [RelL]
  | e :: ds, xs, h, 0 => h
  | e :: ds, xs, h, i + 1 => by
    obtain ⟨y, r, rfl, h1, h2⟩ := h
    exact RelL.drop h2 i
theorem RelL.rev {H : Hp} : ∀ {ds : List D} {xs : List V}, RelL H ds xs → RelL H ds.reverse xs.reverse
  | [], xs, h => by
    cases (relL_nil.mp h)
    exact rfl
  | d :: ds, xs, h => by
    obtain ⟨x, r, rfl, h1, h2⟩ := h
    rw [List.reverse_cons, List.reverse_cons]
    exact RelL.append (RelL.rev h2) (.one h1)
theorem RelL.rep {H : Hp} {ds : List D} {xs : List V} (h : RelL H ds xs) : ∀ k : Nat, RelL H (List.replicate k ds).flatten (List.replicate k xs).flatten
  | 0 => rfl
  | k + 1 => by
    rw [List.replicate_succ, List.replicate_succ, List.flatten_cons, List.flatten_cons]
    exact RelL.append h (RelL.rep h k)
theorem RelL.split {H : Hp} : ∀ {ds es : List D} {zs : List V}, RelL H (ds ++ es) zs → ∃ xs ys, zs = xs ++ ys ∧ RelL H ds xs ∧ RelL H es ys
  | [], es, zs, h => ⟨[], zs, rfl, rfl, h⟩
  | d :: ds, es, zs, h => by
    obtain ⟨x, r, rfl, h1, h2⟩ := h
    obtain ⟨xs, ys, rfl, h3, h4⟩ := RelL.split h2
    exact ⟨x :: xs, ys, rfl, ⟨x, xs, rfl, h1, h3⟩, h4⟩

/-- tuples stay -/
structure Kp (H H' : Hp) : Prop where
  tup : ∀ a xs, H a = some (.tup xs) → H' a = some (.tup xs)
  frz : ∀ a o u, H a = some (.frz o u) → H' a = some (.frz o u)
theorem Kp.refl (H : Hp) : Kp H H := ⟨fun _ _ h => h, fun _ _ _ h => h⟩
theorem Kp.trans {H H1 H2 : Hp} (a : Kp H H1) (b : Kp H1 H2) : Kp H H2 := ⟨fun c xs h => b.tup c xs (a.tup c xs h), fun c o u h => b.frz c o u (a.frz c o u h)⟩
mutual
theorem Rel.monoT {H H' : Hp} (k : ∀ a xs, H a = some (.tup xs) → H' a = some (.tup xs)) : ∀ {d : D} {v : V}, Rel H d v → Rel H' d v
  | .non, _, h => h
  | .bl _, _, h => h
  | .int _, _, h => h
  | .str _, _, h => h
  | .ty _, _, h => h
  | .ref _, _, h => h
  | .tup ds, v, ⟨a, xs, e, h1, h2, h3⟩ => ⟨a, xs, e, k _ _ h1, RelL.monoT k h2, h3⟩
theorem RelL.monoT {H H' : Hp} (k : ∀ a xs, H a = some (.tup xs) → H' a = some (.tup xs)) : ∀ {ds : List D} {xs : List V}, RelL H ds xs → RelL H' ds xs
  | [], _, h => h
  | d :: ds, xs, ⟨x, r, e, h1, h2⟩ => ⟨x, r, e, Rel.monoT k h1, RelL.monoT k h2⟩
end
theorem Rel.mono {H H' : Hp} (k : Kp H H') {d : D} {v : V} (h : Rel H d v) : Rel H' d v := h.monoT k.tup
theorem RelL.mono {H H' : Hp} (k : Kp H H') {ds : List D} {xs : List V} (h : RelL H ds xs) : RelL H' ds xs := h.monoT k.tup
/-! ### slots -/
abbrev SD := List (Option D)
def RelS (H : Hp) (σ : St) (sd : SD) : Prop := σ.length = sd.length ∧ ∀ (i : Nat) (d : D), sd[i]? = some (some d) → ∃ v, σ[i]? = some (some v) ∧ Rel H d v
theorem RelS.monoT {H H' : Hp} {σ : St} {sd : SD} (k : ∀ a xs, H a = some (.tup xs) → H' a = some (.tup xs)) (h : RelS H σ sd) : RelS H' σ sd := ⟨h.1, fun i d e => by
  obtain ⟨v, e1, r⟩ := h.2 i d e
  exact ⟨v, e1, r.monoT k⟩⟩
theorem RelS.mono {H H' : Hp} {σ : St} {sd : SD} (k : Kp H H') (h : RelS H σ sd) : RelS H' σ sd := h.monoT k.tup
theorem RelS.set {H : Hp} {σ : St} {sd : SD} {d : D} {v : V} (h : RelS H σ sd) (r : Rel H d v) (i : Nat) : RelS H (σ.set i (some v)) (sd.set i (some d)) := ⟨by simp [h.1], fun j e q => by
  by_cases hj : i = j
  · subst hj
    rw [List.getElem?_set] at q
    by_cases hl : i < sd.length
    · rw [if_pos rfl, if_pos hl] at q
      cases q
      exact ⟨v, by rw [List.getElem?_set_self (by rw [h.1]; exact hl)], r⟩
    · rw [if_pos rfl, if_neg hl] at q
      cases q
  · rw [List.getElem?_set_ne hj] at q
    obtain ⟨u, e1, r1⟩ := h.2 j e q
    exact ⟨u, by rw [List.getElem?_set_ne hj]; exact e1, r1⟩⟩
/-- a slot forgotten -/
theorem RelS.drop {H : Hp} {σ : St} {sd : SD} (h : RelS H σ sd) (i : Nat) (x : Option V) : RelS H (σ.set i x) (sd.set i none) := ⟨by simp [h.1], fun j e q => by
  by_cases hj : i = j
  · subst hj
    rw [List.getElem?_set] at q
    by_cases hl : i < sd.length
    · rw [if_pos rfl, if_pos hl] at q
      cases q
    · rw [if_pos rfl, if_neg hl] at q
      cases q
  · rw [List.getElem?_set_ne hj] at q
    obtain ⟨u, e1, r1⟩ := h.2 j e q
    exact ⟨u, by rw [List.getElem?_set_ne hj]; exact e1, r1⟩⟩

/-! ### the heap -/
inductive DO where
  | lst (xs : List D)
  | rol (xs : List D)
  | dict (t : Bool) (kvs : List (D × D))
  | ldict (t : Bool) (kvs : List (D × D))
  | ins (C : Addr) (ns : List Str) (fs : List D)
abbrev Gp := Addr → Option DO
def put (G : Gp) (a : Addr) (o : DO) : Gp := fun b => if b = a then some o else G b
/-- nothing stands there -/
def Nw (G : Gp) (p : Addr) : Prop := G p = none
theorem put_same {G : Gp} {a : Addr} {o : DO} : put G a o a = some o := by unfold put; rw [if_pos rfl]
theorem put_ne {G : Gp} {a b : Addr} {o : DO} (h : b ≠ a) : put G a o b = G b := by unfold put; rw [if_neg h]
theorem put_put {G : Gp} {a : Addr} {o u : DO} : put (put G a o) a u = put G a u := by
  funext b; unfold put; split <;> rfl

/-- keys -/
def kD : Key → D
  | .inl i => .int i
  | .inr x => .str x
/-- what stands around: the names of a class's attributes, in order; the heap at the def's entry -/
structure Bx where
  H0 : Hp
def RepO (K : PySem.W.Frag) (H : Hp) (a : Addr) : DO → Prop
  | .lst ds => ∃ xs, H a = some (.lst xs) ∧ RelL H ds xs ∧ ds.length ≤ sizeLine
  | .rol ds => ∃ xs, Rd H a (.lst xs) ∧ RelL H ds xs ∧ ds.length ≤ sizeLine
  | .dict false kvs => kvs.length ≤ sizeLine ∧ ∃ ks : List (Key × V), H a = some (.dK ks) ∧ kvs.map (·.1) = ks.map (fun k => kD k.1) ∧ RelL H (kvs.map (·.2)) (ks.map (·.2))
  | .dict true kvs => kvs.length ≤ sizeLine ∧ ∃ ks : List (List Key × V), H a = some (.dT ks) ∧ kvs.map (·.1) = ks.map (fun k => D.tup (k.1.map kD)) ∧ RelL H (kvs.map (·.2)) (ks.map (·.2))
  | .ldict false kvs => kvs.length ≤ sizeLine ∧ ∃ (ob : Obj) (ks : List (Key × V)), H a = some (.frz ob (.dK ks)) ∧ kvs.map (·.1) = ks.map (fun k => kD k.1) ∧ RelL H (kvs.map (·.2)) (ks.map (·.2))
  | .ldict true kvs => kvs.length ≤ sizeLine ∧ ∃ (ob : Obj) (ks : List (List Key × V)), H a = some (.frz ob (.dT ks)) ∧ kvs.map (·.1) = ks.map (fun k => D.tup (k.1.map kD)) ∧ RelL H (kvs.map (·.2)) (ks.map (·.2))
  | .ins C ns ds => ∃ dx fs, H a = some (.ins C dx fs) ∧ fs.map (·.1) = ns.take ds.length ∧ RelL H ds (fs.map (·.2))
structure Rep (K : PySem.W.Frag) (B : Bx) (H : Hp) (G : Gp) : Prop where
  k0 : Kp B.H0 H
  at_ : ∀ a o, G a = some o → RepO K H a o

section
variable {K : PySem.W.Frag} {B : Bx} {H H' : Hp} {G : Gp} {a b p : Addr} {o o' : DO}
theorem Rd.same (e : H' a = H a) {u : HO} (h : Rd H a u) : Rd H' a u := by
  rcases h with h | ⟨ob, h⟩
  · exact .inl (e.trans h)
  · exact .inr ⟨ob, e.trans h⟩
theorem RepO.monoT (e : H' a = H a) (k : ∀ a xs, H a = some (.tup xs) → H' a = some (.tup xs)) : ∀ {o : DO}, RepO K H a o → RepO K H' a o
  | .lst _, ⟨xs, h, r, z⟩ => ⟨xs, e.trans h, r.monoT k, z⟩
  | .rol _, ⟨xs, h, r, z⟩ => ⟨xs, Rd.same e h, r.monoT k, z⟩
  | .dict false _, ⟨z, ks, h, q, r⟩ => ⟨z, ks, e.trans h, q, r.monoT k⟩
  | .dict true _, ⟨z, ks, h, q, r⟩ => ⟨z, ks, e.trans h, q, r.monoT k⟩
  | .ldict false _, ⟨z, ob, ks, h, q, r⟩ => ⟨z, ob, ks, e.trans h, q, r.monoT k⟩
  | .ldict true _, ⟨z, ob, ks, h, q, r⟩ => ⟨z, ob, ks, e.trans h, q, r.monoT k⟩
  | .ins _ _ _, ⟨dx, fs, h, q, r⟩ => ⟨dx, fs, e.trans h, q, r.monoT k⟩
theorem RepO.mono (e : H' a = H a) (k : Kp H H') {o : DO} (h : RepO K H a o) : RepO K H' a o := RepO.monoT e k.tup h
theorem Kp.fresh {u : HO} (n : H p = none) : Kp H (upd H p u) := ⟨fun c xs h => by rw [upd_ne (ne_of_none h n)]; exact h, fun c o v h => by rw [upd_ne (ne_of_none h n)]; exact h⟩
theorem Kp.write {u v : HO} (e : H a = some u) (n : ∀ xs, u ≠ .tup xs) (m : ∀ o x, u ≠ .frz o x := by intro _ _ z; cases z) : Kp H (upd H a v) := ⟨fun c xs h => by
  rw [upd_ne (ne_of h e fun z => n xs z.symm)]
  exact h, fun c o x h => by
  rw [upd_ne (ne_of h e fun z => m o x z.symm)]
  exact h⟩
/-- what is not in the abstract heap below is not in G -/
theorem Rep.gnone (R : Rep K B H G) (n : H p = none) : G p = none := by
  cases e : G p with
  | none => rfl
  | some o =>
    have r := R.at_ p o e
    cases o with
    | lst ds => obtain ⟨xs, h, _⟩ := r; rw [n] at h; cases h
    | rol ds => obtain ⟨xs, h | ⟨_, h⟩, _⟩ := r <;> (rw [n] at h; cases h)
    | dict t kvs => cases t <;> (obtain ⟨_, ks, h, _⟩ := r; rw [n] at h; cases h)
    | ldict t kvs => cases t <;> (obtain ⟨_, _, ks, h, _⟩ := r; rw [n] at h; cases h)
    | ins C ns ds => obtain ⟨dx, fs, h, _⟩ := r; rw [n] at h; cases h
/-- an object off the books is laid (a tuple, an iterator ..) -/
theorem Rep.fresh {u : HO} (R : Rep K B H G) (n : H p = none) : Rep K B (upd H p u) G :=
  ⟨R.k0.trans (.fresh n), fun a o e => RepO.mono (upd_ne fun z => by subst z; rw [R.gnone n] at e; cases e) (.fresh n) (R.at_ a o e)⟩
/-- an object is laid -/
theorem Rep.laid {u : HO} (R : Rep K B H G) (n : H p = none) (h : RepO K (upd H p u) p o) : Rep K B (upd H p u) (put G p o) :=
  ⟨R.k0.trans (.fresh n), fun a o' e => by
    by_cases ha : a = p
    · subst ha
      rw [put_same] at e
      cases e
      exact h
    · rw [put_ne ha] at e
      exact RepO.mono (upd_ne ha) (.fresh n) (R.at_ a o' e)⟩
/-- an object is written -/
theorem Rep.write {u v : HO} (R : Rep K B H G) (e : H a = some u) (n : ∀ xs, u ≠ .tup xs) (h : RepO K (upd H a v) a o) (m : ∀ o x, u ≠ .frz o x := by intro _ _ z; cases z) : Rep K B (upd H a v) (put G a o) :=
  ⟨R.k0.trans (.write e n m), fun b o' q => by
    by_cases ha : b = a
    · subst ha
      rw [put_same] at q
      cases q
      exact h
    · rw [put_ne ha] at q
      exact RepO.mono (upd_ne ha) (.write e n m) (R.at_ b o' q)⟩
/-- part of the books is given up -/
theorem Rep.sub {G' : Gp} (R : Rep K B H G) (h : ∀ a o, G' a = some o → G a = some o) : Rep K B H G' := ⟨R.k0, fun a o e => R.at_ a o (h a o e)⟩
theorem Rel.fresh {u : HO} {d : D} {v : V} (r : Rel H d v) (n : H p = none) : Rel (upd H p u) d v := r.mono (.fresh n)
end

/-! ### judgements -/
abbrev DQ := D → Gp → Prop
abbrev DTE := SD → Gp → DQ → Prop
abbrev DTT := SD → Gp → (Bool → Gp → Prop) → Prop
abbrev DTA := SD → Gp → (List D → Gp → Prop) → Prop
structure DEnds where
  nx : SD → Gp → Prop
  rt : DQ
  bk : SD → Gp → Prop := fun _ _ => False
  ct : SD → Gp → Prop := fun _ _ => False
abbrev DTS := DEnds → SD → Gp → Prop
/-- what is wanted below, by what is wanted here -/
def PostE (K : PySem.W.Frag) (B : Bx) (H : Hp) (Q : DQ) (P : VK) : Prop := ∀ v d H' G', Kp H H' → Rel H' d v → Rep K B H' G' → Q d G' → P v H'
def PostT (K : PySem.W.Frag) (B : Bx) (H : Hp) (Q : Bool → Gp → Prop) (P : Bool → Hp → Prop) : Prop := ∀ b H' G', Kp H H' → Rep K B H' G' → Q b G' → P b H'
def PostA (K : PySem.W.Frag) (B : Bx) (n : Nat) (H : Hp) (Q : List D → Gp → Prop) (P : List V → Hp → Prop) : Prop := ∀ vs ds H' G', ds.length = n → Kp H H' → RelL H' ds vs → Rep K B H' G' → Q ds G' → P vs H'
def PostN (K : PySem.W.Frag) (B : Bx) (H : Hp) (Q : SD → Gp → Prop) (P : St → Hp → Prop) : Prop := ∀ σ' sd' H' G', Kp H H' → RelS H' σ' sd' → Rep K B H' G' → Q sd' G' → P σ' H'
structure PostS (K : PySem.W.Frag) (B : Bx) (H : Hp) (DD : DEnds) (D : Ends) : Prop where
  nx : PostN K B H DD.nx D.nx
  rt : PostE K B H DD.rt D.rt
  bk : PostN K B H DD.bk D.bk
  ct : PostN K B H DD.ct D.ct
structure DE (X : Cx) (B : Bx) (e : Expr) (t : DTE) : Prop where
  ex : ∃ te : TE, PE X e te ∧ ∀ σ H sd G Q P, RelS H σ sd → Rep X.K B H G → t sd G Q → PostE X.K B H Q P → te σ H P
structure DT (X : Cx) (B : Bx) (e : Expr) (t : DTT) : Prop where
  ex : ∃ te : TT, PT X e te ∧ ∀ σ H sd G Q P, RelS H σ sd → Rep X.K B H G → t sd G Q → PostT X.K B H Q P → te σ H P
structure DW (X : Cx) (B : Bx) (e : Expr) (t : DTT) : Prop where
  ex : ∃ te : TT, PW X e te ∧ ∀ σ H sd G Q P, RelS H σ sd → Rep X.K B H G → t sd G Q → PostT X.K B H Q P → te σ H P
structure DA (X : Cx) (B : Bx) (es : List Expr) (t : DTA) : Prop where
  ex : ∃ te : TA, PA X es te ∧ ∀ σ H sd G Q P, RelS H σ sd → Rep X.K B H G → t sd G Q → PostA X.K B es.length H Q P → te σ H P
structure DS (X : Cx) (B : Bx) (st : Stmt) (t : DTS) : Prop where
  ex : ∃ ts : TS, PS X st ts ∧ ∀ σ H sd G DD D, RelS H σ sd → Rep X.K B H G → t DD sd G → PostS X.K B H DD D → ts D σ H
structure DSs (X : Cx) (B : Bx) (st : List Stmt) (t : DTS) : Prop where
  ex : ∃ ts : TS, PSs X st ts ∧ ∀ σ H sd G DD D, RelS H σ sd → Rep X.K B H G → t DD sd G → PostS X.K B H DD D → ts D σ H
theorem DW.dt {X : Cx} {B : Bx} {e : Expr} {t : DTT} (h : DW X B e t) : DT X B e t := let ⟨te, h1, h2⟩ := h.ex; ⟨te, h1.pt, h2⟩
section
variable {K : PySem.W.Frag} {B : Bx} {H H' : Hp}
theorem PostE.mono (k : Kp H H') {Q : DQ} {P : VK} (h : PostE K B H Q P) : PostE K B H' Q P := fun v d H2 G2 k2 => h v d H2 G2 (k.trans k2)
theorem PostT.mono (k : Kp H H') {Q : Bool → Gp → Prop} {P : Bool → Hp → Prop} (h : PostT K B H Q P) : PostT K B H' Q P := fun b H2 G2 k2 => h b H2 G2 (k.trans k2)
theorem PostA.mono (k : Kp H H') {Q : List D → Gp → Prop} {P : List V → Hp → Prop} {n : Nat} (h : PostA K B n H Q P) : PostA K B n H' Q P := fun b c H2 G2 hn k2 => h b c H2 G2 hn (k.trans k2)
theorem PostN.mono (k : Kp H H') {Q : SD → Gp → Prop} {P : St → Hp → Prop} (h : PostN K B H Q P) : PostN K B H' Q P := fun b c H2 G2 k2 => h b c H2 G2 (k.trans k2)
theorem PostS.mono (k : Kp H H') {DD : DEnds} {D : Ends} (h : PostS K B H DD D) : PostS K B H' DD D := ⟨h.nx.mono k, h.rt.mono k, h.bk.mono k, h.ct.mono k⟩
end

/-! ### names, constants -/
def dVar (i : Nat) : DTE := fun sd G Q => match sd[i]? with
  | some (some d) => Q d G
  | _ => False
def dC (d : D) : DTE := fun _ G Q => Q d G
section
variable {X : Cx} {B : Bx} {pos : Pos}
theorem de_of_var {i : Nat} {e : Expr} (h : PE X e (tVar i)) : DE X B e (dVar i) := ⟨tVar i, h, fun σ H sd G Q P hs R t hp => by
  have t' : (match sd[i]? with | some (some d) => Q d G | _ => False) := t
  cases q : sd[i]? with
  | none => rw [q] at t'; exact t'.elim
  | some o =>
    cases o with
    | none => rw [q] at t'; exact t'.elim
    | some d =>
      rw [q] at t'
      obtain ⟨v, e1, r⟩ := hs.2 i d q
      exact ⟨v, e1, hp v d H G (.refl H) r R t'⟩⟩
theorem dv (i : Nat) {x : Str} (hN : X.N[i]? = some x := by rfl) (hv : Vis X.env.scope x := by first | exact Or.inl rfl | exact Or.inr (Or.inl rfl) | exact Or.inr (Or.inr rfl)) (hd : (x == ("__debug__" : Str)) = false := by decide)
    (hcd : (x == ("__classdict__" : Str)) = false := by decide) : DE X B (.Name x pos) (dVar i) := de_of_var (pe_var hN hv hd hcd)
theorem de_of_c {e : Expr} {v : V} {d : D} (h : PE X e (tC v)) (r : ∀ H, Rel H d v) : DE X B e (dC d) := ⟨tC v, h, fun σ H sd G Q P hs R t hp => hp v d H G (.refl H) (r H) R t⟩
theorem de_int {i j} : DE X B (.Constant (.int i) j pos) (dC (.int i)) := de_of_c pe_int fun _ => rfl
theorem de_bl {b j} : DE X B (.Constant (.bool b) j pos) (dC (.bl b)) := de_of_c pe_bl fun _ => rfl
theorem de_non {j} : DE X B (.Constant .none j pos) (dC .non) := de_of_c pe_non fun _ => rfl
theorem de_str {x j} (h : OkS x := by decide +kernel) : DE X B (.Constant (.str x) j pos) (dC (.str x)) := de_of_c pe_str fun _ => ⟨rfl, h⟩
end

/-! ### operators by values -/
abbrev DR1 := D → Gp → DQ → Prop
abbrev DR2 := D → D → Gp → DQ → Prop
def DOp (X : Cx) (B : Bx) (f : Value → Value → Sem Value) (rD : DR2) : Prop :=
  ∃ r : R2, OpR X f r ∧ ∀ H G x y d e Q P, Rel H d x → Rel H e y → Rep X.K B H G → rD d e G Q → PostE X.K B H Q P → r x y H P
def dOp (rD : DR2) (ta tb : DTE) : DTE := fun sd G Q => ta sd G fun d G1 => tb sd G1 fun e G2 => rD d e G2 Q
section
variable {X : Cx} {B : Bx} {a b c : Expr} {ta tb tc : DTE} {pos : Pos} {rD rD' : DR2}
/-- two parts in a row -/
theorem two_parts {ta' tb' : TE} {R : V → V → Hp → Prop} {ta tb : DTE} {RD : D → D → Gp → Prop} {σ : L2.St} {H : Hp} {sd : SD} {G : Gp}
    (ha : ∀ σ H sd G Q P, RelS H σ sd → Rep X.K B H G → ta sd G Q → PostE X.K B H Q P → ta' σ H P)
    (hb : ∀ σ H sd G Q P, RelS H σ sd → Rep X.K B H G → tb sd G Q → PostE X.K B H Q P → tb' σ H P)
    (hs : RelS H σ sd) (R0 : Rep X.K B H G) (t : ta sd G fun d G1 => tb sd G1 fun e G2 => RD d e G2)
    (hr : ∀ x y d e H2 G2, Kp H H2 → Rel H2 d x → Rel H2 e y → Rep X.K B H2 G2 → RD d e G2 → R x y H2) : ta' σ H fun x H1 => tb' σ H1 fun y H2 => R x y H2 := by
  refine ha σ H sd G _ _ hs R0 t fun x d H1 G1 k1 r1 R1 q1 => ?_
  refine hb σ H1 sd G1 _ _ (hs.mono k1) R1 q1 fun y e H2 G2 k2 r2 R2 q2 => ?_
  exact hr x y d e H2 G2 (k1.trans k2) (r1.mono k2) r2 R2 q2
theorem de_op {op : Operator} (ho : DOp X B (binaryOp op) rD) (ha : DE X B a ta) (hb : DE X B b tb) : DE X B (.BinOp a op b pos) (dOp rD ta tb) := by
  obtain ⟨ta', pa, ha⟩ := ha.ex
  obtain ⟨tb', pb, hb⟩ := hb.ex
  obtain ⟨r, ho, hr⟩ := ho
  refine ⟨_, pe_op ho pa pb, fun σ H sd G Q P hs R t hp => ?_⟩
  exact two_parts (R := fun x y H2 => r x y H2 P) ha hb hs R t fun x y d e H2 G2 k r1 r2 R2 q => hr H2 G2 x y d e Q P r1 r2 R2 q (hp.mono k)
theorem de_cmp {op : CmpOp} (ho : DOp X B (compareOp op) rD) (ha : DE X B a ta) (hb : DE X B b tb) (hm : behindInMarks op b = false := by first | exact nobehind _ (by decide) (by decide) | rfl) : DE X B (.Compare a [op] [b] pos) (dOp rD ta tb) := by
  obtain ⟨ta', pa, ha⟩ := ha.ex
  obtain ⟨tb', pb, hb⟩ := hb.ex
  obtain ⟨r, ho, hr⟩ := ho
  refine ⟨_, pe_cmpR ho pa pb hm, fun σ H sd G Q P hs R t hp => ?_⟩
  exact two_parts (R := fun x y H2 => r x y H2 P) ha hb hs R t fun x y d e H2 G2 k r1 r2 R2 q => hr H2 G2 x y d e Q P r1 r2 R2 q (hp.mono k)
end
end DL
set_option Elab.async false
set_option linter.all false
set_option maxRecDepth 100000
set_option maxHeartbeats 4000000
namespace DL
open PySem PySem.Spec L2
/-! ### tests -/
/-- what comes is a bool -/
def dB (Q : Bool → Gp → Prop) : DQ := fun d G => match d with
  | .bl b => Q b G
  | _ => False
def dTest (t : DTE) : DTT := fun sd G Q => t sd G (dB Q)
def dChain (r r' : DR2) (ta tb tc : DTE) : DTE := fun sd G Q => ta sd G fun x G1 => tb sd G1 fun y G2 => r x y G2 (dB fun k G3 => if k = true then tc sd G3 fun z G4 => r' y z G4 Q else Q (.bl false) G3)
def dIfE (c : DTT) (t u : DTE) : DTE := fun sd G Q => c sd G fun b G1 => if b = true then t sd G1 Q else u sd G1 Q
def dAnd (t u : DTT) : DTT := fun sd G Q => t sd G fun c G1 => if c = true then u sd G1 Q else Q false G1
def dOr (t u : DTT) : DTT := fun sd G Q => t sd G fun c G1 => if c = true then Q true G1 else u sd G1 Q
def dNot (t : DTT) : DTT := fun sd G Q => t sd G fun c G1 => Q (!c) G1
/-- and, or, not as values (bools) -/
def dAndV (ta tb : DTE) : DTE := fun sd G Q => ta sd G (dB fun c G1 => if c = true then tb sd G1 Q else Q (.bl false) G1)
def dOrV (ta tb : DTE) : DTE := fun sd G Q => ta sd G (dB fun c G1 => if c = true then Q (.bl true) G1 else tb sd G1 Q)
def dNotV (ta : DTE) : DTE := fun sd G Q => ta sd G (dB fun c G1 => Q (.bl (!c)) G1)
section
variable {X : Cx} {B : Bx} {a b c : Expr} {ta tb tc : DTE} {tA tB tC : DTT} {pos : Pos} {rD rD' : DR2} {rest : List Expr}
theorem post_bl {K : PySem.W.Frag} {H : Hp} {Q : Bool → Gp → Prop} {P : Bool → Hp → Prop} (hp : PostT K B H Q P) : PostE K B H (dB Q) (fun x H' => ∃ k, x = .bl k ∧ P k H') := fun v d H' G' k r R q => by
  cases d with
  | bl b => exact ⟨b, r, hp b H' G' k R q⟩
  | _ => exact (show False from q).elim
theorem post_blC {K : PySem.W.Frag} {H : Hp} {Q : Bool → Gp → Prop} {P : Bool → Hp → Prop} (hp : ∀ b H' G', Kp H H' → Rep K B H' G' → Q b G' → P b H') : PostE K B H (dB Q) (fun x H' => ∃ k, x = .bl k ∧ P k H') := post_bl hp
theorem dt_of_val (h : DE X B a ta) (he : ∀ whole, isTrue a X.env whole = (do let v ← whole; standAt a.pos; holding [v] (truthy v)) := by intro _; rfl) : DT X B a (dTest ta) := by
  obtain ⟨ta', pa, ha⟩ := h.ex
  exact ⟨_, pt_val pa he, fun σ H sd G Q P hs R t hp => ha σ H sd G _ _ hs R t (post_bl hp)⟩
theorem dt_cmp {op : CmpOp} (ho : DOp X B (compareOp op) rD) (ha : DE X B a ta) (hb : DE X B b tb) (hm : behindInMarks op b = false := by first | exact nobehind _ (by decide) (by decide) | rfl) : DT X B (.Compare a [op] [b] pos) (dTest (dOp rD ta tb)) := by
  obtain ⟨ta', pa, ha⟩ := ha.ex
  obtain ⟨tb', pb, hb⟩ := hb.ex
  obtain ⟨r, ho, hr⟩ := ho
  refine ⟨_, pt_cmpR ho pa pb hm, fun σ H sd G Q P hs R t hp => ?_⟩
  exact two_parts (X := X) ha hb hs R t fun x y d e H2 G2 k r1 r2 R2 q => hr H2 G2 x y d e _ _ r1 r2 R2 q (post_bl (hp.mono k))
theorem chain_at {ta' tb' tc' : TE} {r r' : R2} {σ : L2.St} {H : Hp} {sd : SD} {G : Gp} {Q : DQ} {P : VK}
    (ha : ∀ σ H sd G Q P, RelS H σ sd → Rep X.K B H G → ta sd G Q → PostE X.K B H Q P → ta' σ H P)
    (hb : ∀ σ H sd G Q P, RelS H σ sd → Rep X.K B H G → tb sd G Q → PostE X.K B H Q P → tb' σ H P)
    (hc : ∀ σ H sd G Q P, RelS H σ sd → Rep X.K B H G → tc sd G Q → PostE X.K B H Q P → tc' σ H P)
    (hr : ∀ H G x y d e Q P, Rel H d x → Rel H e y → Rep X.K B H G → rD d e G Q → PostE X.K B H Q P → r x y H P)
    (hr' : ∀ H G x y d e Q P, Rel H d x → Rel H e y → Rep X.K B H G → rD' d e G Q → PostE X.K B H Q P → r' x y H P)
    (hs : RelS H σ sd) (R : Rep X.K B H G) (t : dChain rD rD' ta tb tc sd G Q) (hp : PostE X.K B H Q P) : tChain r r' ta' tb' tc' σ H P := by
  refine two_parts (X := X) ha hb hs R t fun x y d e H2 G2 k r1 r2 R2 q => ?_
  refine hr H2 G2 x y d e _ _ r1 r2 R2 q (post_bl fun b H3 G3 k3 R3 q3 => ?_)
  cases b with
  | false => exact hp _ (.bl false) H3 G3 (k.trans k3) rfl R3 q3
  | true =>
    refine hc σ H3 sd G3 _ _ (hs.mono (k.trans k3)) R3 q3 fun w f H4 G4 k4 r4 R4 q4 => ?_
    exact hr' H4 G4 y w e f Q P (r2.mono (k3.trans k4)) r4 R4 q4 (hp.mono ((k.trans k3).trans k4))
theorem de_chain {op op' : CmpOp} (ho : DOp X B (compareOp op) rD) (ho' : DOp X B (compareOp op') rD') (ha : DE X B a ta) (hb : DE X B b tb) (hc : DE X B c tc)
    (hm : lastMarks [op, op'] [b, c] = false := by with_unfolding_all rfl) : DE X B (.Compare a [op, op'] [b, c] pos) (dChain rD rD' ta tb tc) := by
  obtain ⟨ta', pa, ha⟩ := ha.ex
  obtain ⟨tb', pb, hb⟩ := hb.ex
  obtain ⟨tc', pc, hc⟩ := hc.ex
  obtain ⟨r, ho, hr⟩ := ho
  obtain ⟨r', ho', hr'⟩ := ho'
  exact ⟨_, pe_chain ho ho' pa pb pc hm, fun σ H sd G Q P hs R t hp => chain_at (X := X) ha hb hc hr hr' hs R t hp⟩
theorem dt_chain {op op' : CmpOp} (ho : DOp X B (compareOp op) rD) (ho' : DOp X B (compareOp op') rD') (ha : DE X B a ta) (hb : DE X B b tb) (hc : DE X B c tc)
    (hm : lastMarks [op, op'] [b, c] = false := by with_unfolding_all rfl) : DT X B (.Compare a [op, op'] [b, c] pos) (dTest (dChain rD rD' ta tb tc)) := by
  obtain ⟨ta', pa, ha⟩ := ha.ex
  obtain ⟨tb', pb, hb⟩ := hb.ex
  obtain ⟨tc', pc, hc⟩ := hc.ex
  obtain ⟨r, ho, hr⟩ := ho
  obtain ⟨r', ho', hr'⟩ := ho'
  exact ⟨_, pt_chain ho ho' pa pb pc hm, fun σ H sd G Q P hs R t hp => chain_at (X := X) ha hb hc hr hr' hs R t (post_bl hp)⟩
theorem de_if (hc : DT X B c tA) (ha : DE X B a ta) (hb : DE X B b tb) : DE X B (.IfExp c a b pos) (dIfE tA ta tb) := by
  obtain ⟨tc', pc, hc⟩ := hc.ex
  obtain ⟨ta', pa, ha⟩ := ha.ex
  obtain ⟨tb', pb, hb⟩ := hb.ex
  refine ⟨_, pe_ifExp pc pa pb, fun σ H sd G Q P hs R t hp => ?_⟩
  refine hc σ H sd G _ _ hs R t fun k H1 G1 k1 R1 q1 => ?_
  cases k with
  | true => exact ha σ H1 sd G1 Q P (hs.mono k1) R1 q1 (hp.mono k1)
  | false => exact hb σ H1 sd G1 Q P (hs.mono k1) R1 q1 (hp.mono k1)
theorem dw_and1 (ha : DT X B a tA) : DW X B (.BoolOp .And [a] pos) tA := let ⟨ta', pa, ha⟩ := ha.ex; ⟨_, pw_and1 pa, ha⟩
theorem dw_or1 (ha : DT X B a tA) : DW X B (.BoolOp .Or [a] pos) tA := let ⟨ta', pa, ha⟩ := ha.ex; ⟨_, pw_or1 pa, ha⟩
theorem dw_and (ha : DT X B a tA) (hb : DW X B (.BoolOp .And (b :: rest) pos) tB) : DW X B (.BoolOp .And (a :: b :: rest) pos) (dAnd tA tB) := by
  obtain ⟨ta', pa, ha⟩ := ha.ex
  obtain ⟨tb', pb, hb⟩ := hb.ex
  refine ⟨_, pw_and pa pb, fun σ H sd G Q P hs R t hp => ?_⟩
  refine ha σ H sd G _ _ hs R t fun k H1 G1 k1 R1 q1 => ?_
  cases k with
  | true => exact hb σ H1 sd G1 Q P (hs.mono k1) R1 q1 (hp.mono k1)
  | false => exact hp _ _ _ k1 R1 q1
theorem dw_or (ha : DT X B a tA) (hb : DW X B (.BoolOp .Or (b :: rest) pos) tB) : DW X B (.BoolOp .Or (a :: b :: rest) pos) (dOr tA tB) := by
  obtain ⟨ta', pa, ha⟩ := ha.ex
  obtain ⟨tb', pb, hb⟩ := hb.ex
  refine ⟨_, pw_or pa pb, fun σ H sd G Q P hs R t hp => ?_⟩
  refine ha σ H sd G _ _ hs R t fun k H1 G1 k1 R1 q1 => ?_
  cases k with
  | false => exact hb σ H1 sd G1 Q P (hs.mono k1) R1 q1 (hp.mono k1)
  | true => exact hp _ _ _ k1 R1 q1
theorem dt_not (ha : DT X B a tA) : DT X B (.UnaryOp .Not a pos) (dNot tA) := by
  obtain ⟨ta', pa, ha⟩ := ha.ex
  exact ⟨_, pt_not pa, fun σ H sd G Q P hs R t hp => ha σ H sd G _ _ hs R t fun k H1 G1 k1 R1 q1 => hp _ _ _ k1 R1 q1⟩
theorem de_one {op} (h : DE X B a ta) : DE X B (.BoolOp op [a] pos) ta := let ⟨ta', pa, ha⟩ := h.ex; ⟨_, pe_one pa, ha⟩
theorem de_and (ha : DE X B a ta) (hb : DE X B (.BoolOp .And (b :: rest) pos) tb) : DE X B (.BoolOp .And (a :: b :: rest) pos) (dAndV ta tb) := by
  obtain ⟨ta', pa, ha⟩ := ha.ex
  obtain ⟨tb', pb, hb⟩ := hb.ex
  refine ⟨_, pe_and pa pb, fun σ H sd G Q P hs R t hp => ?_⟩
  refine ha σ H sd G _ _ hs R t (post_bl fun k H1 G1 k1 R1 q1 => ?_)
  cases k with
  | true => exact hb σ H1 sd G1 Q P (hs.mono k1) R1 q1 (hp.mono k1)
  | false => exact hp _ (.bl false) _ _ k1 rfl R1 q1
theorem de_or (ha : DE X B a ta) (hb : DE X B (.BoolOp .Or (b :: rest) pos) tb) : DE X B (.BoolOp .Or (a :: b :: rest) pos) (dOrV ta tb) := by
  obtain ⟨ta', pa, ha⟩ := ha.ex
  obtain ⟨tb', pb, hb⟩ := hb.ex
  refine ⟨_, pe_or pa pb, fun σ H sd G Q P hs R t hp => ?_⟩
  refine ha σ H sd G _ _ hs R t (post_bl fun k H1 G1 k1 R1 q1 => ?_)
  cases k with
  | false => exact hb σ H1 sd G1 Q P (hs.mono k1) R1 q1 (hp.mono k1)
  | true => exact hp _ (.bl true) _ _ k1 rfl R1 q1
theorem de_not (ha : DE X B a ta) : DE X B (.UnaryOp .Not a pos) (dNotV ta) := by
  obtain ⟨ta', pa, ha⟩ := ha.ex
  exact ⟨_, pe_not pa, fun σ H sd G Q P hs R t hp => ha σ H sd G _ _ hs R t (post_bl fun k H1 G1 k1 R1 q1 => hp _ (.bl (!k)) _ _ k1 rfl R1 q1)⟩
end

/-! ### statements -/
def dNext : DTS := fun D sd G => D.nx sd G
def dSeq (t u : DTS) : DTS := fun D sd G => t { D with nx := u D } sd G
def dDrop (te : DTE) : DTS := fun D sd G => te sd G fun _ G1 => D.nx sd G1
def dRet (te : DTE) : DTS := fun D sd G => te sd G D.rt
def dRetN : DTS := fun D _ G => D.rt .non G
def dIf (c : DTT) (t u : DTS) : DTS := fun D sd G => c sd G fun b G1 => if b = true then t D sd G1 else u D sd G1
def dNever : DTS := fun _ _ _ => False
def dSkip : DTS := fun D sd G => D.ct sd G
def dBreak : DTS := fun D sd G => D.bk sd G
section
variable {X : Cx} {B : Bx} {st : Stmt} {rest : List Stmt} {t u : DTS} {e : Expr} {te : DTE} {pos : Pos} {tc : DTT}
theorem dss_nil : DSs X B [] dNext := ⟨_, pss_nil, fun σ H sd G DD D hs R t hp => hp.nx σ sd H G (.refl H) hs R t⟩
theorem dss_cons (h1 : DS X B st t) (h2 : DSs X B rest u) : DSs X B (st :: rest) (dSeq t u) := by
  obtain ⟨t', p1, h1⟩ := h1.ex
  obtain ⟨u', p2, h2⟩ := h2.ex
  refine ⟨_, pss_cons p1 p2, fun σ H sd G DD D hs R t hp => ?_⟩
  exact h1 σ H sd G _ _ hs R t ⟨fun σ1 sd1 H1 G1 k1 hs1 R1 q1 => h2 σ1 H1 sd1 G1 DD D hs1 R1 q1 (hp.mono k1), hp.rt, hp.bk, hp.ct⟩
theorem dss_one (h1 : DS X B st t) : DSs X B [st] t := let ⟨t', p1, h1⟩ := h1.ex; ⟨_, pss_one p1, h1⟩
theorem dss_never {sts : List Stmt} : DSs X B sts dNever := ⟨_, pss_never, fun _ _ _ _ _ _ _ _ t _ => t.elim⟩
theorem ds_never : DS X B st dNever := ⟨_, ps_never, fun _ _ _ _ _ _ _ _ t _ => t.elim⟩
theorem ds_pass : DS X B (.Pass pos) dNext := ⟨_, ps_pass, fun σ H sd G DD D hs R t hp => hp.nx σ sd H G (.refl H) hs R t⟩
theorem ds_break : DS X B (.Break pos) dBreak := ⟨_, ps_break, fun σ H sd G DD D hs R t hp => hp.bk σ sd H G (.refl H) hs R t⟩
theorem ds_continue : DS X B (.Continue pos) dSkip := ⟨_, ps_continue, fun σ H sd G DD D hs R t hp => hp.ct σ sd H G (.refl H) hs R t⟩
theorem ds_expr (he : DE X B e te) (hs : swapsWith e none pos.line X.env = pure false := by rfl) : DS X B (.Expr e pos) (dDrop te) := by
  obtain ⟨te', pe, he⟩ := he.ex
  refine ⟨_, ps_expr pe hs, fun σ H sd G DD D hs R t hp => ?_⟩
  exact he σ H sd G _ _ hs R t fun v d H1 G1 k1 r1 R1 q1 => hp.nx σ sd H1 G1 k1 (hs.mono k1) R1 q1
theorem ds_ret (he : DE X B e te) : DS X B (.Return (some e) pos) (dRet te) := by
  obtain ⟨te', pe, he⟩ := he.ex
  exact ⟨_, ps_ret pe, fun σ H sd G DD D hs R t hp => he σ H sd G _ _ hs R t hp.rt⟩
theorem ds_retN : DS X B (.Return none pos) dRetN := ⟨_, ps_retN, fun σ H sd G DD D hs R t hp => hp.rt _ .non H G (.refl H) rfl R t⟩
theorem ds_if {c : Expr} {a b : List Stmt} (hc : DT X B c tc) (ha : DSs X B a t) (hb : DSs X B b u) : DS X B (.If c a b pos) (dIf tc t u) := by
  obtain ⟨tc', pc, hc⟩ := hc.ex
  obtain ⟨t', p1, h1⟩ := ha.ex
  obtain ⟨u', p2, h2⟩ := hb.ex
  refine ⟨_, ps_if pc p1 p2, fun σ H sd G DD D hs R t hp => ?_⟩
  refine hc σ H sd G _ _ hs R t fun k H1 G1 k1 R1 q1 => ?_
  cases k with
  | true => exact h1 σ H1 sd G1 DD D (hs.mono k1) R1 q1 (hp.mono k1)
  | false => exact h2 σ H1 sd G1 DD D (hs.mono k1) R1 q1 (hp.mono k1)
end

/-! ### targets -/
abbrev DTG := D → SD → Gp → (SD → Gp → Prop) → Prop
abbrev DTGs := List D → SD → Gp → (SD → Gp → Prop) → Prop
/-- only the slots ws change -/
def Only (ws : List Nat) (σ σ' : St) : Prop := σ'.length = σ.length ∧ ∀ i, i ∉ ws → σ'[i]? = σ[i]?
theorem Only.refl (ws : List Nat) (σ : St) : Only ws σ σ := ⟨rfl, fun _ _ => rfl⟩
theorem Only.trans {ws : List Nat} {σ σ1 σ2 : St} (a : Only ws σ σ1) (b : Only ws σ1 σ2) : Only ws σ σ2 := ⟨b.1.trans a.1, fun i h => (b.2 i h).trans (a.2 i h)⟩
theorem Only.mono {ws vs : List Nat} {σ σ1 : St} (a : Only ws σ σ1) (h : ∀ i ∈ ws, i ∈ vs) : Only vs σ σ1 := ⟨a.1, fun i q => a.2 i fun z => q (h i z)⟩
def PostG (K : PySem.W.Frag) (B : Bx) (ws : List Nat) (σ : St) (H : Hp) (Q : SD → Gp → Prop) (P : St → Hp → Prop) : Prop := ∀ σ' sd' H' G', Only ws σ σ' → Kp H H' → RelS H' σ' sd' → Rep K B H' G' → Q sd' G' → P σ' H'
theorem PostN.g {K : PySem.W.Frag} {B : Bx} {ws : List Nat} {σ : St} {H : Hp} {Q : SD → Gp → Prop} {P : St → Hp → Prop} (h : PostN K B H Q P) : PostG K B ws σ H Q P := fun a b c d _ => h a b c d
structure DG (X : Cx) (B : Bx) (target : Expr) (ws : List Nat) (t : DTG) : Prop where
  ex : ∃ g : TG, PG X target g ∧ ∀ v d σ H sd G Q P, Rel H d v → RelS H σ sd → Rep X.K B H G → t d sd G Q → PostG X.K B ws σ H Q P → g v σ H P
structure DGs (X : Cx) (B : Bx) (targets : List Expr) (ws : List Nat) (t : DTGs) : Prop where
  ex : ∃ g : TGs, PGs X targets g ∧ ∀ vs ds σ H sd G Q P, RelL H ds vs → RelS H σ sd → Rep X.K B H G → t ds sd G Q → PostG X.K B ws σ H Q P → g vs σ H P
def dgName (i : Nat) : DTG := fun d sd G Q => Q (sd.set i (some d)) G
def dgNil : DTGs := fun ds sd G Q => match ds with
  | [] => Q sd G
  | _ => False
def dgCons (t : DTG) (u : DTGs) : DTGs := fun ds sd G Q => match ds with
  | d :: r => t d sd G fun sd' G' => u r sd' G' Q
  | [] => False
def dgTup (n : Nat) (t : DTGs) : DTG := fun d sd G Q => match d with
  | .tup ds => if ds.length = n then t ds sd G Q else False
  | _ => False
def dAsg (te : DTE) (g : DTG) : DTS := fun D sd G => te sd G fun d G1 => g d sd G1 D.nx
section
variable {X : Cx} {B : Bx} {pos : Pos} {e : Expr} {te : DTE} {g : DTG} {gs : DTGs} {ws vs : List Nat}
theorem dg_name {i : Nat} {x : Str} (hN : X.N.Nodup) (hi : X.N[i]? = some x) (hx : Loc X.env.scope x) (hf : X.fn x = true ∨ X.env.scope.names.lookup x = some .local := by first | exact .inl rfl | exact .inr rfl | assumption) : DG X B (.Name x pos) [i] (dgName i) :=
  ⟨_, pg_name hN hi hx hf, fun v d σ H sd G Q P r hs R t hp => hp _ _ H G ⟨by simp, fun j hj => List.getElem?_set_ne fun z => hj (by simp [z])⟩ (.refl H) (hs.set r i) R t⟩
theorem dgs_nil : DGs X B [] [] dgNil := ⟨_, pgs_nil, fun vs ds σ H sd G Q P r hs R t hp => by
  cases ds with
  | nil => exact ⟨relL_nil.mp r, hp σ sd H G (.refl _ σ) (.refl H) hs R t⟩
  | cons _ _ => exact (show False from t).elim⟩
theorem dgs_cons {es : List Expr} (h1 : DG X B e ws g) (h2 : DGs X B es vs gs) (hs : (assignEach (e :: es) X.env).map (·.2) = assign e X.env :: (assignEach es X.env).map (·.2) := by rfl) : DGs X B (e :: es) (ws ++ vs) (dgCons g gs) := by
  obtain ⟨g', p1, h1⟩ := h1.ex
  obtain ⟨gs', p2, h2⟩ := h2.ex
  refine ⟨_, pgs_cons p1 p2 hs, fun vs ds σ H sd G Q P r hs R t hp => ?_⟩
  cases ds with
  | nil => exact (show False from t).elim
  | cons d ds =>
    obtain ⟨x, xr, rfl, r1, r2⟩ := r
    refine ⟨x, xr, rfl, h1 x d σ H sd G _ _ r1 hs R t fun σ1 sd1 H1 G1 o1 k1 hs1 R1 q1 => ?_⟩
    exact h2 xr ds σ1 H1 sd1 G1 Q P (r2.mono k1) hs1 R1 q1 fun σ2 sd2 H2 G2 o2 k2 hs2 R2 q2 =>
      hp σ2 sd2 H2 G2 ((o1.mono fun i h => List.mem_append_left _ h).trans (o2.mono fun i h => List.mem_append_right _ h)) (k1.trans k2) hs2 R2 q2
theorem dg_tup {es : List Expr} {k n : Nat} (hc : X.calm = true) (h : DGs X B es ws gs) (hn : (assignEach es X.env).length = n := by rfl) (hst : (assignEach es X.env).findIdx? (·.1) = none := by rfl) : DG X B (.Tuple es k pos) ws (dgTup n gs) := by
  obtain ⟨g', p1, h1⟩ := h.ex
  refine ⟨_, pg_tup hc p1 hn hst, fun v d σ H sd G Q P r hs R t hp => ?_⟩
  cases d with
  | tup ds =>
    obtain ⟨a, xs, rfl, e1, r1, z1⟩ := r
    have t' : (if ds.length = n then gs ds sd G Q else False) := t
    by_cases hl : ds.length = n
    · rw [if_pos hl] at t'
      exact ⟨a, xs, rfl, SqT.of e1, by rw [← r1.length]; exact hl, h1 xs ds σ H sd G Q P r1 hs R t' hp⟩
    · rw [if_neg hl] at t'
      exact t'.elim
  | _ => exact (show False from t).elim
theorem ds_asg {tg : Expr} (he : DE X B e te) (hg : DG X B tg ws g) (hs : swapsWithSole [tg] e pos.line X.env = pure false := by rfl) (hw : swappedStores [tg] e X.env = pure none := by rfl)
    (h1 : (assignEach [tg] X.env).map (·.2) = [assign tg X.env] := by rfl) : DS X B (.Assign [tg] e pos) (dAsg te g) := by
  obtain ⟨te', pe, he⟩ := he.ex
  obtain ⟨g', pg, hg⟩ := hg.ex
  refine ⟨_, ps_asg pe pg hs hw h1, fun σ H sd G DD D hs R t hp => ?_⟩
  refine he σ H sd G _ _ hs R t fun v d H1 G1 k1 r1 R1 q1 => ?_
  exact hg v d σ H1 sd G1 _ _ r1 (hs.mono k1) R1 q1 (hp.nx.mono k1).g
theorem ds_set {i : Nat} {x : Str} {pos' : Pos} (hN : X.N.Nodup) (hi : X.N[i]? = some x) (hx : Loc X.env.scope x) (he : DE X B e te) (hs : swapsWith e (some (.Name x pos')) pos.line X.env = pure false := by rfl)
    (hf : X.fn x = true ∨ X.env.scope.names.lookup x = some .local := by first | exact .inl rfl | exact .inr rfl | assumption) : DS X B (.Assign [.Name x pos'] e pos) (dAsg te (dgName i)) := by
  obtain ⟨te', pe, he⟩ := he.ex
  refine ⟨_, ps_set hN hi hx pe hs hf, fun σ H sd G DD D hs R t hp => ?_⟩
  refine he σ H sd G _ _ hs R t fun v d H1 G1 k1 r1 R1 q1 => ?_
  exact hp.nx _ _ H1 G1 k1 ((hs.mono k1).set r1 i) R1 q1
/-- a, b = x, y -/
def dPar (i j : Nat) (ta : DTA) : DTS := fun D sd G => ta sd G fun ds G1 => match ds with
  | [d, e] => D.nx ((sd.set i (some d)).set j (some e)) G1
  | _ => False
theorem ds_par {i j : Nat} {x y : Str} {a b : Expr} {ta : DTA} {px py pt : Pos} {kt k2 pt2} (hc : X.calm = true) (hN : X.N.Nodup) (hi : X.N[i]? = some x) (hj : X.N[j]? = some y) (hij : i ≠ j)
    (hx : X.env.scope.names.lookup x = some .local) (hy : X.env.scope.names.lookup y = some .local) (ha : DA X B [a, b] ta)
    (hw : swappedStores [.Tuple [.Name x px, .Name y py] kt pt] (.Tuple [a, b] k2 pt2) X.env = pure (some [x, y]))
    (hs : swapsWithSole [.Tuple [.Name x px, .Name y py] kt pt] (.Tuple [a, b] k2 pt2) pos.line X.env = pure false := by rfl) :
    DS X B (.Assign [.Tuple [.Name x px, .Name y py] kt pt] (.Tuple [a, b] k2 pt2) pos) (dPar i j ta) := by
  obtain ⟨ta', pa, ha⟩ := ha.ex
  refine ⟨_, ps_par hc hN hi hj hij hx hy pa hw hs, fun σ H sd G DD D hs R t hp => ?_⟩
  refine ha σ H sd G _ _ hs R t fun vs ds H1 G1 _ k1 r1 R1 q1 => ?_
  match ds, q1, r1 with
  | [d, e], q1, r1 =>
    obtain ⟨v, r, rfl, h1, w, r', rfl, h2, h3⟩ := r1
    cases (relL_nil.mp h3)
    exact ⟨v, w, rfl, hp.nx _ _ H1 G1 k1 (((hs.mono k1).set h1 i).set h2 j) R1 q1⟩
  | [], q1, _ => exact (show False from q1).elim
  | [_], q1, _ => exact (show False from q1).elim
  | _ :: _ :: _ :: _, q1, _ => exact (show False from q1).elim
end

/-! ### arguments, displays -/
def daNil : DTA := fun _ G Q => Q [] G
def daCons (ta : DTE) (tr : DTA) : DTA := fun sd G Q => ta sd G fun d G1 => tr sd G1 fun ds G2 => Q (d :: ds) G2
def dTup (t : DTA) : DTE := fun sd G Q => t sd G fun ds G1 => Q (.tup ds) G1
def dLst (t : DTA) : DTE := fun sd G Q => t sd G fun ds G1 => ∀ p, Nw G1 p → Q (.ref p) (put G1 p (.lst ds))
section
variable {X : Cx} {B : Bx} {pos : Pos} {e : Expr} {es : List Expr} {te : DTE} {t : DTA}
theorem da_nil : DA X B [] daNil := ⟨_, pa_nil, fun σ H sd G Q P hs R t hp => hp [] [] H G rfl (.refl H) rfl R t⟩
theorem da_cons (ha : DE X B e te) (hr : DA X B es t) (hs : starEach (e :: es) X.env = (false, eval e X.env) :: starEach es X.env := by rfl) : DA X B (e :: es) (daCons te t) := by
  obtain ⟨te', pe, he⟩ := ha.ex
  obtain ⟨t', pa, ha⟩ := hr.ex
  refine ⟨_, pa_cons pe pa hs, fun σ H sd G Q P hs R t hp => ?_⟩
  refine he σ H sd G _ _ hs R t fun v d H1 G1 k1 r1 R1 q1 => ?_
  refine ha σ H1 sd G1 _ _ (hs.mono k1) R1 q1 fun vs ds H2 G2 n2 k2 r2 R2 q2 => ?_
  exact hp (v :: vs) (d :: ds) H2 G2 (by simp [n2]) (k1.trans k2) (relL_cons.mpr ⟨r1.mono k2, r2⟩) R2 q2
/-- displays are short -/
theorem de_tup {x1} (h : DA X B es t) (hz : es.length ≤ 1000 := by decide) : DE X B (.Tuple es x1 pos) (dTup t) := by
  obtain ⟨t', pa, ha⟩ := h.ex
  refine ⟨_, pe_tup pa, fun σ H sd G Q P hs R t hp => ?_⟩
  refine ha σ H sd G _ _ hs R t fun vs ds H1 G1 n1 k1 r1 R1 q1 => ?_
  refine ⟨by rw [← r1.length, n1]; exact Nat.le_trans hz (by decide), fun p hp1 => ?_⟩
  exact hp _ (.tup ds) _ G1 (k1.trans (.fresh hp1)) ⟨p, vs, rfl, upd_same, r1.mono (.fresh hp1), by rw [n1]; exact Nat.le_trans hz (by decide)⟩ (R1.fresh hp1) q1
theorem de_lst (h : DA X B es t) (hz : es.length ≤ 1000 := by decide) : DE X B (.List es pos) (dLst t) := by
  obtain ⟨t', pa, ha⟩ := h.ex
  refine ⟨_, pe_lst pa, fun σ H sd G Q P hs R t hp => ?_⟩
  refine ha σ H sd G _ _ hs R t fun vs ds H1 G1 n1 k1 r1 R1 q1 => ?_
  refine ⟨by rw [← r1.length, n1]; exact Nat.le_trans hz (by decide), fun p hp1 => ?_⟩
  exact hp _ (.ref p) _ _ (k1.trans (.fresh hp1)) rfl (R1.laid (o := .lst ds) hp1 ⟨vs, upd_same, r1.mono (.fresh hp1), by rw [n1]; exact Nat.le_trans hz (by decide)⟩) (q1 p (R1.gnone hp1))
end

/-! ### the uniform reading -/
def LE (K : PySem.W.Frag) (B : Bx) (t : DTE) : TE := fun σ H P => ∃ sd G Q, RelS H σ sd ∧ Rep K B H G ∧ t sd G Q ∧ PostE K B H Q P
def LT (K : PySem.W.Frag) (B : Bx) (t : DTT) : TT := fun σ H P => ∃ sd G Q, RelS H σ sd ∧ Rep K B H G ∧ t sd G Q ∧ PostT K B H Q P
def LG (K : PySem.W.Frag) (B : Bx) (ws : List Nat) (t : DTG) : TG := fun v σ H P => ∃ d sd G Q, Rel H d v ∧ RelS H σ sd ∧ Rep K B H G ∧ t d sd G Q ∧ PostG K B ws σ H Q P
section
variable {X : Cx} {B : Bx} {e : Expr} {t : DTE} {tt : DTT} {g : DTG} {ws : List Nat}
theorem DE.pe (h : DE X B e t) : PE X e (LE X.K B t) := by
  obtain ⟨te, p, w⟩ := h.ex
  exact ⟨fun pins s σ H Q I ⟨sd, G, Q', h1, h2, h3, h4⟩ => p.run pins s σ H Q I (w σ H sd G Q' Q h1 h2 h3 h4)⟩
theorem DT.pt (h : DT X B e tt) : PT X e (LT X.K B tt) := by
  obtain ⟨te, p, w⟩ := h.ex
  exact ⟨fun pins s σ H Q I ⟨sd, G, Q', h1, h2, h3, h4⟩ => p.run pins s σ H Q I (w σ H sd G Q' Q h1 h2 h3 h4)⟩
theorem DG.pg (h : DG X B e ws g) : PG X e (LG X.K B ws g) := by
  obtain ⟨te, p, w⟩ := h.ex
  exact ⟨fun pins s σ H v u Q I r ⟨d, sd, G, Q', h0, h1, h2, h3, h4⟩ => p.run pins s σ H v u Q I r (w v d σ H sd G Q' Q h0 h1 h2 h3 h4)⟩
end
end DL
set_option Elab.async false
set_option linter.all false
set_option maxRecDepth 100000
set_option maxHeartbeats 4000000
namespace DL
open PySem PySem.Spec L2

/-! ### what a loop walks -/
structure ItsD (K : PySem.W.Frag) (B : Bx) (H1 : Hp) (items : List D) (stay : Gp → Prop) (J : It) : Prop where
  len : items.length ≤ sizeLine
  ex : ∃ (GG : Hp → Prop) (Y : Nat → Hp → V → Hp → Prop), Walk J items.length GG Y ∧ (∀ H G, Kp H1 H → Rep K B H G → stay G → GG H) ∧
    (∀ i H G x H', i < items.length → Kp H1 H → Rep K B H G → stay G → Y i H x H' → ∃ d, items[i]? = some d ∧ Rel H' d x ∧ Kp H H' ∧ Rep K B H' G)
abbrev DTI := SD → Gp → (List D → (Gp → Prop) → Gp → Prop) → Prop
structure DI (X : Cx) (B : Bx) (tg iter : Expr) (t : DTI) : Prop where
  ex : ∃ wi : TI, PI X tg iter wi ∧ ∀ σ H sd G QD R, RelS H σ sd → Rep X.K B H G → t sd G QD →
    (∀ J items stay H1 G1, Kp H H1 → Rep X.K B H1 G1 → ItsD X.K B H1 items stay J → QD items stay G1 → R J H1) → wi σ H R

/-! ### for -/
def dForL (stay : Gp → Prop) (g : DTG) (tb : DTS) (DD : DEnds) : List D → SD → Gp → Prop
  | [], sd, G => DD.nx sd G
  | x :: xs, sd, G => g x sd G fun sd1 G1 => tb { DD with nx := fun sd2 G2 => stay G2 ∧ dForL stay g tb DD xs sd2 G2, ct := fun sd2 G2 => stay G2 ∧ dForL stay g tb DD xs sd2 G2, bk := DD.nx } sd1 G1
def dFor (ti : DTI) (g : DTG) (tb : DTS) : DTS := fun DD sd G => ti sd G fun items stay G1 => stay G1 ∧ dForL stay g tb DD items sd G1
theorem drop_at {α : Type} {l : List α} {i : Nat} {d : α} (h : l[i]? = some d) : l.drop i = d :: l.drop (i + 1) := by
  obtain ⟨hl, e⟩ := List.getElem?_eq_some_iff.mp h
  rw [List.drop_eq_getElem_cons hl, e]
section
variable {X : Cx} {B : Bx} {tg iter : Expr} {body : List Stmt} {ti : DTI} {g : DTG} {tb : DTS} {ws : List Nat} {pos : Pos}
theorem ds_for (hp : PassesOwn (model X.prog X.w) X.A X.env X.xe) (hc : X.calm = true) (hi : DI X B tg iter ti) (hg : DG X B tg ws g) (hb : DSs X B body tb)
    (hs : ∀ x, foldedSetIterable iter X.env x = pure x := by intro _; rfl) : DS X B (.For tg iter body [] pos) (dFor ti g tb) := by
  obtain ⟨wi, pi, hi⟩ := hi.ex
  obtain ⟨g', pg, hg⟩ := hg.ex
  obtain ⟨tb', pb, hb⟩ := hb.ex
  refine ⟨_, ps_for hp hc pi pg pb hs, fun σ H sd G DD D hS R t hP => ?_⟩
  refine hi σ H sd G _ _ hS R t fun J items stay H1 G1 k1 R1 its q => ?_
  obtain ⟨GG, Y, w, link, yld⟩ := its.ex
  refine for_it w (fun i σ' H' => ∃ sd' G', RelS H' σ' sd' ∧ Rep X.K B H' G' ∧ Kp H1 H' ∧ stay G' ∧ dForL stay g tb DD (items.drop i) sd' G')
    ⟨sd, G1, hS.mono k1, R1, .refl H1, q.1, q.2⟩ (fun i σ' H' _ ⟨sd', G', h1, h2, h3, h4, _⟩ => link H' G' h3 h2 h4) ?_ ?_
  · rintro i x σ2 H2 H2' hlt ⟨sd2, G2, h1, h2, h3, h4, h5⟩ y
    obtain ⟨d, e, r, k2, R2⟩ := yld i H2 G2 x H2' hlt h3 h2 h4 y
    rw [drop_at e] at h5
    refine hg x d σ2 H2' sd2 G2 _ _ r (h1.mono k2) R2 h5 fun σ3 sd3 H3 G3 o3 k3 hs3 R3 q3 => ?_
    have kk : Kp H H3 := k1.trans (h3.trans (k2.trans k3))
    refine hb σ3 H3 sd3 G3 _ _ hs3 R3 q3 ⟨fun σ4 sd4 H4 G4 k4 hs4 R4 q4 => ?_, hP.rt.mono kk, hP.nx.mono kk, fun σ4 sd4 H4 G4 k4 hs4 R4 q4 => ?_⟩
    · exact ⟨sd4, G4, hs4, R4, h3.trans (k2.trans (k3.trans k4)), q4.1, q4.2⟩
    · exact ⟨sd4, G4, hs4, R4, h3.trans (k2.trans (k3.trans k4)), q4.1, q4.2⟩
  · rintro σ2 H2 ⟨sd2, G2, h1, h2, h3, h4, h5⟩
    rw [List.drop_length] at h5
    exact hP.nx σ2 sd2 H2 G2 (k1.trans h3) h1 h2 h5
end

/-! ### list comprehensions -/
@[simp] def dwipe (sd : SD) : List Nat → SD
  | [] => sd
  | v :: vs => (dwipe sd vs).set v none
theorem RelS.wipe {H : Hp} {σ : St} {sd : SD} (h : RelS H σ sd) : ∀ vs : List Nat, RelS H (wipe σ vs) (dwipe sd vs)
  | [] => h
  | v :: vs => (RelS.wipe h vs).drop v none
theorem wipe_get (σ : St) (i : Nat) : ∀ vs : List Nat, (wipe σ vs)[i]? = if i ∈ vs then (if i < σ.length then some none else none) else σ[i]?
  | [] => by simp [wipe]
  | v :: vs => by
    unfold wipe
    by_cases hv : v = i
    · subst hv
      rw [List.getElem?_set]
      simp [wipe_length]
    · rw [List.getElem?_set_ne hv, wipe_get σ i vs]
      have hv' : ¬ i = v := fun z => hv z.symm
      simp [List.mem_cons, hv']
theorem wipe_only {σ σ2 : St} {vs : List Nat} (o : Only vs (wipe σ vs) σ2) : wipe σ2 vs = wipe σ vs := by
  have hl : σ2.length = σ.length := o.1.trans (wipe_length σ vs)
  refine List.ext_getElem? fun i => ?_
  rw [wipe_get, hl]
  by_cases h : i ∈ vs
  · rw [if_pos h, wipe_get, if_pos h]
  · rw [if_neg h, o.2 i h]
structure DTs (X : Cx) (B : Bx) (ifs : List Expr) (t : DTT) : Prop where
  pts : PTs X ifs (LT X.K B t)
def dYes : DTT := fun _ G Q => Q true G
theorem dts_nil {X : Cx} {B : Bx} : DTs X B [] dYes := ⟨⟨fun pins s σ H Q I ⟨sd, G, Q', h1, h2, h3, h4⟩ => pts_nil.run pins s σ H Q I (h4 true H G (.refl H) h2 h3)⟩⟩
theorem dts_one {X : Cx} {B : Bx} {c : Expr} {t : DTT} (h : DT X B c t) : DTs X B [c] t := ⟨pts_one h.pt⟩

def dcL (stay : Gp → Prop) (g : DTG) (tt : DTT) (te : DTE) (sdw : SD) (p : Addr) (Q : Gp → Prop) : List D → List D → Gp → Prop
  | [], _, G => Q G
  | x :: xs, acc, G => g x sdw G fun sd2 G2 => tt sd2 G2 fun b G3 =>
      if b = true then te sd2 G3 fun y G4 => G4 p = some (.lst acc) ∧ stay (put G4 p (.lst (acc ++ [y]))) ∧ dcL stay g tt te sdw p Q xs (acc ++ [y]) (put G4 p (.lst (acc ++ [y]))) else stay G3 ∧ dcL stay g tt te sdw p Q xs acc G3
def dComp (ti : DTI) (g : DTG) (tt : DTT) (te : DTE) (vs : List Nat) : DTE := fun sd G Q => ti sd G fun items stay G1 => stay G1 ∧
  ∀ p, Nw G1 p → stay (put G1 p (.lst [])) ∧ dcL stay g tt te (dwipe sd vs) p (Q (.ref p)) items [] (put G1 p (.lst []))
section
variable {X : Cx} {B : Bx} {elt tg iter : Expr} {ifs : List Expr} {scope : Scope} {own : List (Str × Nat)} {pos : Pos} {ti : DTI} {g : DTG} {tt : DTT} {te : DTE} {ws : List Nat}
theorem comp_at {wi : TI} {σ : L2.St} {H : Hp} {sd : SD} {G : Gp} {Q : DQ} {P : VK} {vs : List Nat}
    (hi : ∀ σ H sd G QD R, RelS H σ sd → Rep X.K B H G → ti sd G QD → (∀ J items stay H1 G1, Kp H H1 → Rep X.K B H1 G1 → ItsD X.K B H1 items stay J → QD items stay G1 → R J H1) → wi σ H R)
    (hws : ∀ i ∈ ws, i ∈ vs) (hS : RelS H σ sd) (R : Rep X.K B H G) (t : dComp ti g tt te vs sd G Q) (hP : PostE X.K B H Q P) : tLc wi (LG X.K B ws g) (LT X.K B tt) (LE X.K B te) vs σ H P := by
  refine hi σ H sd G _ _ hS R t fun J items stay H1 G1 k1 R1 its q => ?_
  obtain ⟨GG, Y, w, link, yld⟩ := its.ex
  intro D hD
  have gD := R1.gnone hD
  obtain ⟨q0, q⟩ := q
  obtain ⟨q1, q⟩ := q D gD
  have R2 : Rep X.K B (upd H1 D (.lst [])) (put G1 D (.lst [])) := R1.laid (o := .lst []) hD ⟨[], upd_same, rfl, Nat.zero_le _⟩
  have kD : Kp H1 (upd H1 D (.lst [])) := .fresh hD
  refine lc_it w (fun i H' => ∃ acc G', Rep X.K B H' G' ∧ Kp H1 H' ∧ stay G' ∧ acc.length ≤ i ∧ dcL stay g tt te (dwipe sd vs) D (Q (.ref D)) (items.drop i) acc G')
    ⟨[], _, R2, kD, q1, Nat.le_refl _, q⟩ (fun i H' _ ⟨acc, G', h1, h2, h3, _⟩ => link H' G' h2 h1 h3) ?_ ?_
  · rintro i x H2 H2' hlt ⟨acc, G2, h1, h2, h3, h4, h5⟩ y
    obtain ⟨d, e, r, k2, R3⟩ := yld i H2 G2 x H2' hlt h2 h1 h3 y
    rw [drop_at e] at h5
    have kk : Kp H H2' := k1.trans (h2.trans k2)
    refine ⟨d, dwipe sd vs, G2, _, r, (hS.mono kk).wipe vs, R3, h5, fun σ3 sd3 H3 G3 o3 k3 hs3 R3 q3 => ⟨wipe_only (o3.mono hws), ?_⟩⟩
    refine ⟨sd3, G3, _, hs3, R3, q3, fun b H4 G4 k4 R4 q4 => ?_⟩
    cases b with
    | true =>
      rw [if_pos rfl]
      rw [if_pos rfl] at q4
      refine ⟨sd3, G4, _, hs3.mono k4, R4, q4, fun v f H5 G5 k5 r5 R5 q5 => ?_⟩
      obtain ⟨g5, s5, q5⟩ := q5
      obtain ⟨xs, e5, rl, z5⟩ := R5.at_ D _ g5
      have hz : xs.length < sizeLine := by
        rw [← rl.length]
        exact Nat.lt_of_le_of_lt h4 (Nat.lt_of_lt_of_le hlt its.len)
      have kw : Kp H5 (upd H5 D (.lst (xs ++ [v]))) := .write e5 fun _ z => nomatch z
      refine ⟨xs, e5, hz, acc ++ [f], put G5 D (.lst (acc ++ [f])), R5.write e5 (fun _ z => nomatch z) ⟨_, upd_same, (rl.mono kw).append (.one (r5.mono kw)), by simp [rl.length]; omega⟩, ?_, s5, by simp; omega, q5⟩
      exact h2.trans (k2.trans (k3.trans (k4.trans (k5.trans kw))))
    | false =>
      rw [if_neg (by decide)]
      rw [if_neg (by decide)] at q4
      exact ⟨acc, G4, R4, h2.trans (k2.trans (k3.trans k4)), q4.1, by omega, q4.2⟩
  · rintro H2 ⟨acc, G2, h1, h2, h3, h4, h5⟩
    rw [List.drop_length] at h5
    exact hP (.ref D) (.ref D) H2 G2 (k1.trans h2) rfl h1 h5
theorem de_lc (hc : X.calm = true) (hN : X.N.Nodup) (hi : DI X B tg iter ti) (ok : BlkOk X.N X.env.scope scope own) (hws : ∀ i ∈ ws, i ∈ own.map (·.2))
    (hg : ∀ (s : Shared) (H : Hp) (C : Addr) (cl : List (Str × Addr)) (fp : List Addr), DG (X.blk s H scope (compEnvC scope cl C X.env) fp) B tg ws g)
    (ht : ∀ (s : Shared) (H : Hp) (C : Addr) (cl : List (Str × Addr)) (fp : List Addr), DTs (X.blk s H scope (compEnvC scope cl C X.env) fp) B ifs tt)
    (he : ∀ (s : Shared) (H : Hp) (C : Addr) (cl : List (Str × Addr)) (fp : List Addr), DE (X.blk s H scope (compEnvC scope cl C X.env) fp) B elt te)
    (hs : ∀ x, foldedSetIterable iter X.env x = pure x := by intro _; rfl) : DE X B (.ListComp elt [⟨tg, iter, ifs, 0⟩] scope pos) (dComp ti g tt te (own.map (·.2))) := by
  obtain ⟨wi, pi, hi⟩ := hi.ex
  exact ⟨_, pe_lc (g := LG X.K B ws g) (tt := LT X.K B tt) (te := LE X.K B te) hc hN pi ok (fun s H C cl fp => (hg s H C cl fp).pg) (fun s H C cl fp => (ht s H C cl fp).pts) (fun s H C cl fp => (he s H C cl fp).pe) hs,
    fun σ H sd G Q P hS R t hP => comp_at (X := X) hi hws hS R t hP⟩
theorem ds_setLc {i : Nat} {y : Str} {py spos : Pos} (hc : X.calm = true) (hN : X.N.Nodup) (hy : X.N[i]? = some y) (hyl : X.env.scope.names.lookup y = some .local)
    (hsw : swapsWith (.ListComp elt [⟨tg, iter, ifs, 0⟩] scope pos) (some (.Name y py)) spos.line X.env = pure true) (hi : DI X B tg iter ti) (ok : BlkOk X.N X.env.scope scope own) (hws : ∀ i ∈ ws, i ∈ own.map (·.2))
    (hg : ∀ (s : Shared) (H : Hp) (C : Addr) (cl : List (Str × Addr)) (fp : List Addr), DG (X.blk s H scope (compEnvC scope cl C X.env) fp) B tg ws g)
    (ht : ∀ (s : Shared) (H : Hp) (C : Addr) (cl : List (Str × Addr)) (fp : List Addr), DTs (X.blk s H scope (compEnvC scope cl C X.env) fp) B ifs tt)
    (he : ∀ (s : Shared) (H : Hp) (C : Addr) (cl : List (Str × Addr)) (fp : List Addr), DE (X.blk s H scope (compEnvC scope cl C X.env) fp) B elt te)
    (hs : ∀ x, foldedSetIterable iter X.env x = pure x := by intro _; rfl) : DS X B (.Assign [.Name y py] (.ListComp elt [⟨tg, iter, ifs, 0⟩] scope pos) spos) (dAsg (dComp ti g tt te (own.map (·.2))) (dgName i)) := by
  obtain ⟨wi, pi, hi⟩ := hi.ex
  refine ⟨_, ps_setLc (g := LG X.K B ws g) (tt := LT X.K B tt) (te := LE X.K B te) hc hN hy hyl hsw pi ok (fun s H C cl fp => (hg s H C cl fp).pg) (fun s H C cl fp => (ht s H C cl fp).pts) (fun s H C cl fp => (he s H C cl fp).pe) hs, fun σ H sd G DD D hS R t hP => ?_⟩
  refine comp_at (X := X) hi hws hS R t fun v d H1 G1 k1 r1 R1 q1 => ?_
  exact hP.nx _ _ H1 G1 k1 ((hS.mono k1).set r1 i) R1 q1
end

/-! ### comprehensions that only look -/
def Ext (G G' : Gp) : Prop := ∀ a o, G a = some o → G' a = some o
theorem Ext.refl (G : Gp) : Ext G G := fun _ _ h => h
theorem Ext.trans {G G1 G2 : Gp} (a : Ext G G1) (b : Ext G1 G2) : Ext G G2 := fun c o h => b c o (a c o h)
theorem Ext.put {G : Gp} {p : Addr} {o : DO} (h : G p = none) : Ext G (put G p o) := fun c u e => by
  rw [put_ne (fun z => by rw [z, h] at e; cases e)]
  exact e
/-- one turn: f x = some y: y is put; none: passed by -/
def turnIs (g : DTG) (tt : DTT) (te : DTE) (sdw : SD) (x : D) (G : Gp) (r : Option D) : Prop :=
  ∀ (Qs : D → Gp → Prop) (Qn : Gp → Prop), r.elim (Qn G) (fun y => Qs y G) → g x sdw G fun sd2 G2 => tt sd2 G2 fun b G3 => if b = true then te sd2 G3 Qs else Qn G3
theorem dcL_pure {stay : Gp → Prop} {g : DTG} {tt : DTT} {te : DTE} {sdw : SD} {p : Addr} {Q : Gp → Prop} (f : D → Option D) {G : Gp} (hp : G p = none) (hst : ∀ ys, stay (put G p (.lst ys))) :
    ∀ (items acc : List D), (∀ x ∈ items, ∀ ys, turnIs g tt te sdw x (put G p (.lst ys)) (f x)) → Q (put G p (.lst (acc ++ items.filterMap f))) → dcL stay g tt te sdw p Q items acc (put G p (.lst acc))
  | [], acc, _, q => by simpa [dcL] using q
  | x :: xs, acc, h, q => by
    have ih : ∀ acc', Q (put G p (.lst (acc' ++ xs.filterMap f))) → dcL stay g tt te sdw p Q xs acc' (put G p (.lst acc')) := fun acc' q' => dcL_pure f hp hst xs acc' (fun y hy => h y (List.mem_cons_of_mem _ hy)) q'
    refine h x List.mem_cons_self acc _ _ ?_
    cases e : f x with
    | none =>
      refine ⟨hst _, ih acc ?_⟩
      rw [List.filterMap_cons, e] at q
      exact q
    | some y =>
      rw [List.filterMap_cons, e] at q
      show put G p (DO.lst acc) p = some (DO.lst acc) ∧ stay (put (put G p (DO.lst acc)) p (DO.lst (acc ++ [y]))) ∧ dcL stay g tt te sdw p Q xs (acc ++ [y]) (put (put G p (DO.lst acc)) p (DO.lst (acc ++ [y])))
      rw [put_put]
      exact ⟨put_same, hst _, ih _ (by simpa using q)⟩
end DL
set_option Elab.async false
set_option linter.all false
set_option maxRecDepth 100000
set_option maxHeartbeats 4000000
namespace DL
open PySem PySem.Spec L2

/-! ### what is walked -/
def iSeq (K : PySem.W.Frag) (te : TE) : TI := fun σ H R => te σ H fun x H1 => ∃ a, x = .ref a ∧ (((∃ xs, SqL K H1 a xs) ∧ R (Itl K a) H1) ∨ ((∃ xs, SqT K H1 a xs) ∧ R (Itt K a) H1))
theorem pi_seq {X : Cx} {tg l : Expr} {tl : TE} (hl : PE X l tl) : PI X tg l (iSeq X.K tl) := by
  refine ⟨fun pins s σ H R I h => ?_⟩
  refine thn (hl.run pins s σ H _ I h) fun v s1 ⟨x, H1, I1, r1, q1⟩ => ?_
  obtain ⟨a, e, q1⟩ := q1
  subst e
  cases r1
  rcases q1 with ⟨⟨xs, hq⟩, q⟩ | ⟨⟨xs, hq⟩, q⟩
  · obtain ⟨its, rv, p, hz⟩ := I1.list hq
    refine wpAny_pyIter_list p.isList ?_
    refine ⟨s1.heap.objs.size, [s1.heap.objs.size], _, _, H1, rfl, I1.kept (t' := s1.toks) fun b o e => Heap.get?_push_of_some _ e, turn_list a _, ⟨_, Heap.get?_push_size _ rfl, rfl, rfl⟩, fun b hb => ?_, q⟩
    have e : b = s1.heap.objs.size := by simpa using hb
    subst e
    exact I1.fpOk (Nat.le_refl _) (I1.hok.fresh (Nat.le_refl _))
  · obtain ⟨its, rv, p, hz⟩ := I1.tuple hq
    refine wpAny_pyIter_tuple (show s1.heap.IsTuple a its.toArray from p) ?_
    refine ⟨s1.heap.objs.size, [s1.heap.objs.size], _, _, H1, rfl, I1.kept (t' := s1.toks) fun b o e => Heap.get?_push_of_some _ e, turn_tuple a _, ⟨_, Heap.get?_push_size _ rfl, rfl, rfl⟩, fun b hb => ?_, q⟩
    have e : b = s1.heap.objs.size := by simpa using hb
    subst e
    exact I1.fpOk (Nat.le_refl _) (I1.hok.fresh (Nat.le_refl _))
/-- a list to be read -/
def IsLst (G : Gp) (a : Addr) (ds : List D) : Prop := G a = some (.lst ds) ∨ G a = some (.rol ds)
/-- a list, of it -/
def lstO (o : DO) (P : List D → Prop) : Prop := match o with
  | .lst ds => P ds
  | .rol ds => P ds
  | _ => False
theorem lstO_is {G : Gp} {a : Addr} {o : DO} {P : List D → Prop} (h : G a = some o) (q : lstO o P) : ∃ ds, IsLst G a ds ∧ P ds ∧ (o = .lst ds ∨ o = .rol ds) := by
  cases o with
  | lst ds => exact ⟨ds, .inl h, q, .inl rfl⟩
  | rol ds => exact ⟨ds, .inr h, q, .inr rfl⟩
  | _ => exact (show False from q).elim
def diSeq (te : DTE) : DTI := fun sd G R => te sd G fun d G1 => match d with
  | .tup ds => R ds (fun _ => True) G1
  | .ref a => ∃ o, G1 a = some o ∧ lstO o fun ds => R ds (fun G => G a = some o) G1
  | _ => False
section
variable {X : Cx} {B : Bx} {tg e : Expr} {te : DTE} {ta : DTA} {pos p : Pos}
theorem lstRd {K : PySem.W.Frag} {H : Hp} {G : Gp} {a : Addr} {ds : List D} (R : Rep K B H G) (h : IsLst G a ds) : ∃ xs, Rd H a (.lst xs) ∧ RelL H ds xs ∧ ds.length ≤ sizeLine := by
  rcases h with h | h
  · obtain ⟨xs, h1, h2, h3⟩ := R.at_ a _ h
    exact ⟨xs, .inl h1, h2, h3⟩
  · exact R.at_ a _ h
theorem itsL {K : PySem.W.Frag} {H1 : Hp} {a : Addr} {ds : List D} {o : DO} (ho : o = .lst ds ∨ o = .rol ds) (hz : ds.length ≤ sizeLine) : ItsD K B H1 ds (fun G => G a = some o) (Itl K a) := by
  have rd : ∀ {H : Hp} {G : Gp}, Rep K B H G → G a = some o → ∃ xs, Rd H a (.lst xs) ∧ RelL H ds xs ∧ ds.length ≤ sizeLine := fun {H G} R g => lstRd R (by rcases ho with rfl | rfl <;> simp [IsLst, g])
  refine ⟨hz, fun H => ∃ xs, SqL K H a xs ∧ xs.length = ds.length, fun i H x H' => H' = H ∧ ∀ xs, SqL K H a xs → xs[i]? = some x, ⟨fun i H hi ⟨xs, h1, h2⟩ => ⟨xs, xs[i]'(by omega), h1, by simp [h2, hi]⟩, fun H ⟨xs, h1, h2⟩ => ⟨xs, h1, by omega⟩, fun i H x H' hi _ y => y⟩, ?_, ?_⟩
  · intro H G k R st
    obtain ⟨xs, h1, h2, _⟩ := rd R st
    exact ⟨xs, .inl h1, h2.length.symm⟩
  · rintro i H G x H' hi k R st ⟨rfl, y⟩
    obtain ⟨xs, h1, h2, _⟩ := rd R st
    obtain ⟨v, e1, r⟩ := h2.get i (d := ds[i]) (by simp [hi])
    have e2 := y xs (.inl h1)
    rw [e1] at e2
    cases e2
    exact ⟨ds[i], by simp [hi], r, .refl _, R⟩
theorem di_seq (he : DE X B e te) : DI X B tg e (diSeq te) := by
  obtain ⟨te', pe, he⟩ := he.ex
  refine ⟨_, pi_seq pe, fun σ H sd G QD R hS R0 t hP => ?_⟩
  refine he σ H sd G _ _ hS R0 t fun v d H1 G1 k1 r1 R1 q1 => ?_
  cases d with
  | tup ds =>
    obtain ⟨a, xs, rfl, h1, h2, hz⟩ := r1
    refine ⟨a, rfl, .inr ⟨⟨xs, SqT.of h1⟩, ?_⟩⟩
    refine hP _ ds (fun _ => True) H1 G1 k1 R1 ⟨hz, fun H => SqT X.K H a xs, YAt xs, by rw [h2.length]; exact walk_tup, fun H G k _ _ => SqT.of (k.tup _ _ h1), ?_⟩ q1
    rintro i H G x H' hi k R _ ⟨rfl, y⟩
    obtain ⟨v, e1, r⟩ := h2.get i (d := ds[i]) (by simp [hi])
    rw [e1] at y
    cases y
    exact ⟨ds[i], by simp [hi], r.mono k, .refl _, R⟩
  | ref a =>
    cases r1
    obtain ⟨o, g, q1⟩ := q1
    obtain ⟨ds, q, q1, ho⟩ := lstO_is g q1
    obtain ⟨xs, h1, h2, h3⟩ := lstRd R1 q
    exact ⟨a, rfl, .inl ⟨⟨xs, .inl h1⟩, hP _ ds _ H1 G1 k1 R1 (itsL ho h3) q1⟩⟩
  | _ => exact (show False from q1).elim
/-- range(n) -/
def rngD (lo : Int) (n : Nat) : List D := (List.range n).map fun i => .int (lo + (i : Nat))
def diRng (ta : DTA) : DTI := fun sd G R => ta sd G fun ds G1 => match ds with
  | [.int j] => -(2 ^ 62) ≤ j ∧ j ≤ 1000000 ∧ R (rngD 0 j.toNat) (fun _ => True) G1
  | _ => False
def diRng2 (ta : DTA) : DTI := fun sd G R => ta sd G fun ds G1 => match ds with
  | [.int i, .int j] => (-(2 ^ 62) ≤ i ∧ i ≤ 1000000 ∧ -(2 ^ 62) ≤ j ∧ j ≤ 1000000 ∧ j - i ≤ 1000000) ∧ R (rngD i (j - i).toNat) (fun _ => True) G1
  | _ => False
theorem itsR {K : PySem.W.Frag} {H1 : Hp} {lo : Int} {n : Nat} (hz : n ≤ sizeLine) : ItsD K B H1 (rngD lo n) (fun _ => True) (Itr lo n) := by
  refine ⟨by simpa [rngD] using hz, fun _ => True, YFn fun i => .int (lo + i), by simpa [rngD] using walk_range, fun _ _ _ _ _ => True.intro, ?_⟩
  rintro i H G x H' hi k R _ ⟨rfl, rfl⟩
  have hi' : i < n := by simpa [rngD] using hi
  exact ⟨.int (lo + (i : Nat)), by simp [rngD, hi'], rfl, .refl _, R⟩
theorem di_rng {a : Expr} (hg : Gl X "range") (hm : X.mg "range" = none) (ha : DA X B [a] ta) (hs : starEach [a] X.env = [(false, eval a X.env)] := by rfl) : DI X B tg (.Call (.Name "range" p) [a] [] pos) (diRng ta) := by
  obtain ⟨ta', pa, ha⟩ := ha.ex
  refine ⟨_, pi_range1 hg hm pa hs, fun σ H sd G QD R hS R0 t hP => ?_⟩
  refine ha σ H sd G _ _ hS R0 t fun vs ds H1 G1 _ k1 r1 R1 q1 => ?_
  match ds, q1, r1 with
  | [.int j], q1, r1 =>
    obtain ⟨q2, q3, q4⟩ := q1
    obtain ⟨v, r, rfl, h1, h2⟩ := r1
    cases (relL_nil.mp h2)
    cases h1
    have hz : j.toNat ≤ sizeLine := by rw [sizeLine_eq]; omega
    exact ⟨j, rfl, q2, by omega, hP _ _ _ H1 G1 k1 R1 (itsR hz) q4⟩
theorem di_rng2 {a b : Expr} (hg : Gl X "range") (hm : X.mg "range" = none) (ha : DA X B [a, b] ta) (hs : starEach [a, b] X.env = [(false, eval a X.env), (false, eval b X.env)] := by rfl) (hs2 : starEach [b] X.env = [(false, eval b X.env)] := by rfl) :
    DI X B tg (.Call (.Name "range" p) [a, b] [] pos) (diRng2 ta) := by
  obtain ⟨ta', pa, ha⟩ := ha.ex
  refine ⟨_, pi_range2 hg hm pa hs hs2, fun σ H sd G QD R hS R0 t hP => ?_⟩
  refine ha σ H sd G _ _ hS R0 t fun vs ds H1 G1 _ k1 r1 R1 q1 => ?_
  match ds, q1, r1 with
  | [.int i, .int j], q1, r1 =>
    obtain ⟨⟨q2, q3, q5, q6, q7⟩, q4⟩ := q1
    obtain ⟨v, r, rfl, h1, v', r', rfl, h1', h2⟩ := r1
    cases (relL_nil.mp h2)
    cases h1
    cases h1'
    have hz : (j - i).toNat ≤ sizeLine := by rw [sizeLine_eq]; omega
    exact ⟨i, j, rfl, ⟨q2, by omega, q5, by omega⟩, hP _ _ _ H1 G1 k1 R1 (itsR hz) q4⟩
end
end DL
set_option Elab.async false
set_option linter.all false
set_option maxRecDepth 100000
set_option maxHeartbeats 4000000
namespace DL
open PySem PySem.Spec L2

/-! ### arithmetic -/
def addR : DR2 := fun d e G Q => match d, e with
  | .int i, .int j => Q (.int (i + j)) G
  | .str x, .str y => x.length + y.length ≤ sizeLine ∧ Q (.str (x ++ y)) G
  | .tup x, .tup y => x.length + y.length ≤ sizeLine ∧ Q (.tup (x ++ y)) G
  | .ref a, .ref b => ∃ x y, G a = some (.lst x) ∧ G b = some (.lst y) ∧ x.length + y.length ≤ sizeLine ∧ ∀ p, Nw G p → Q (.ref p) (put G p (.lst (x ++ y)))
  | _, _ => False
def subR : DR2 := fun d e G Q => match d, e with
  | .int i, .int j => Q (.int (i - j)) G
  | _, _ => False
def mulR : DR2 := fun d e G Q => match d, e with
  | .int i, .int j => CMul i j ∧ Q (.int (i * j)) G
  | .ref a, .int k => ∃ x, G a = some (.lst x) ∧ (-(2 ^ 63) ≤ k ∧ k < 2 ^ 63 ∧ x.length * k.toNat ≤ sizeLine) ∧ ∀ p, Nw G p → Q (.ref p) (put G p (.lst (List.replicate k.toNat x).flatten))
  | _, _ => False
def modR : DR2 := fun d e G Q => match d, e with
  | .int i, .int j => 0 < j ∧ Q (.int (i % j)) G
  | _, _ => False
def divR : DR2 := fun d e G Q => match d, e with
  | .int i, .int j => CDiv i j ∧ Q (.int (i / j)) G
  | _, _ => False
def cmpR (p : Int → Int → Bool) : DR2 := fun d e G Q => match d, e with
  | .int i, .int j => Q (.bl (p i j)) G
  | _, _ => False
abbrev ltR := cmpR fun i j => decide (i < j)
abbrev leR := cmpR fun i j => decide (i ≤ j)
abbrev gtR := cmpR fun i j => decide (j < i)
abbrev geR := cmpR fun i j => decide (j ≤ i)
section
variable {X : Cx} {B : Bx}
/-- an operator of two ints -/
theorem dop_int {f : Value → Value → Sem Value} {g : Int → Int → V} {g' : Int → Int → D} {rD : DR2} (h : OpR X f (rI0 g)) (hD : ∀ d e G Q, rD d e G Q → ∃ i j, d = .int i ∧ e = .int j ∧ Q (g' i j) G) (hg : ∀ H i j, Rel H (g' i j) (g i j)) : DOp X B f rD := by
  refine ⟨_, h, fun H G x y d e Q P r1 r2 R q hp => ?_⟩
  obtain ⟨i, j, rfl, rfl, q2⟩ := hD d e G Q q
  cases r1
  cases r2
  exact ⟨i, j, rfl, rfl, hp _ _ H G (.refl H) (hg H i j) R q2⟩
theorem dop_intC {f : Value → Value → Sem Value} {C : Int → Int → Prop} {g : Int → Int → V} {g' : Int → Int → D} {rD : DR2} (h : OpR X f (rI C g)) (hD : ∀ d e G Q, rD d e G Q → ∃ i j, d = .int i ∧ e = .int j ∧ C i j ∧ Q (g' i j) G) (hg : ∀ H i j, Rel H (g' i j) (g i j)) : DOp X B f rD := by
  refine ⟨_, h, fun H G x y d e Q P r1 r2 R q hp => ?_⟩
  obtain ⟨i, j, rfl, rfl, c, q2⟩ := hD d e G Q q
  cases r1
  cases r2
  exact ⟨i, j, rfl, rfl, c, hp _ _ H G (.refl H) (hg H i j) R q2⟩
theorem op_sub : DOp X B (binaryOp .Sub) subR := dop_int (g' := fun i j => .int (i - j)) L2.op_sub (fun d e G Q h => by cases d <;> cases e <;> first | exact (show False from h).elim | exact ⟨_, _, rfl, rfl, h⟩) fun _ _ _ => rfl
theorem op_mod : DOp X B (binaryOp .Mod) modR := dop_intC (g' := fun i j => .int (i % j)) L2.op_mod (fun d e G Q h => by cases d <;> cases e <;> first | exact (show False from h).elim | exact ⟨_, _, rfl, rfl, h⟩) fun _ _ _ => rfl
theorem op_div : DOp X B (binaryOp .FloorDiv) divR := dop_intC (g' := fun i j => .int (i / j)) L2.op_fdiv (fun d e G Q h => by cases d <;> cases e <;> first | exact (show False from h).elim | exact ⟨_, _, rfl, rfl, h⟩) fun _ _ _ => rfl
theorem op_lt : DOp X B (compareOp .Lt) ltR := dop_int (g' := fun i j => .bl (decide (i < j))) L2.op_lt (fun d e G Q h => by cases d <;> cases e <;> first | exact (show False from h).elim | exact ⟨_, _, rfl, rfl, h⟩) fun _ _ _ => rfl
theorem op_le : DOp X B (compareOp .LtE) leR := dop_int (g' := fun i j => .bl (decide (i ≤ j))) L2.op_le (fun d e G Q h => by cases d <;> cases e <;> first | exact (show False from h).elim | exact ⟨_, _, rfl, rfl, h⟩) fun _ _ _ => rfl
theorem op_gt : DOp X B (compareOp .Gt) gtR := dop_int (g' := fun i j => .bl (decide (j < i))) L2.op_gt (fun d e G Q h => by cases d <;> cases e <;> first | exact (show False from h).elim | exact ⟨_, _, rfl, rfl, h⟩) fun _ _ _ => rfl
theorem op_ge : DOp X B (compareOp .GtE) geR := dop_int (g' := fun i j => .bl (decide (j ≤ i))) L2.op_ge (fun d e G Q h => by cases d <;> cases e <;> first | exact (show False from h).elim | exact ⟨_, _, rfl, rfl, h⟩) fun _ _ _ => rfl
theorem okS_append {x y : Str} (hx : OkS x) (hy : OkS y) : OkS (x ++ y) := by
  unfold OkS PyData.strOk at *
  have e : (x ++ y).cps = x.cps ++ y.cps := rfl
  rw [e, Array.all_append, hx, hy]
  rfl
theorem tup_new {K : PySem.W.Frag} {H : Hp} {G : Gp} {p : Addr} {ds : List D} {xs : List V} (n : H p = none) (r : RelL H ds xs) (z : ds.length ≤ sizeLine) (R : Rep K B H G) : Kp H (upd H p (.tup xs)) ∧ Rel (upd H p (.tup xs)) (.tup ds) (.ref p) ∧ Rep K B (upd H p (.tup xs)) G :=
  ⟨.fresh n, ⟨p, xs, rfl, upd_same, r.mono (.fresh n), z⟩, R.fresh n⟩
theorem lst_new {K : PySem.W.Frag} {H : Hp} {G : Gp} {p : Addr} {ds : List D} {xs : List V} (n : H p = none) (r : RelL H ds xs) (z : ds.length ≤ sizeLine) (R : Rep K B H G) : Kp H (upd H p (.lst xs)) ∧ Rep K B (upd H p (.lst xs)) (put G p (.lst ds)) :=
  ⟨.fresh n, R.laid n ⟨xs, upd_same, r.mono (.fresh n), z⟩⟩
theorem lst_at {K : PySem.W.Frag} {H : Hp} {G : Gp} {a : Addr} {ds : List D} (R : Rep K B H G) (h : G a = some (.lst ds)) : ∃ xs, H a = some (.lst xs) ∧ RelL H ds xs ∧ ds.length ≤ sizeLine := R.at_ a _ h
theorem op_add : DOp X B (binaryOp .Add) addR := by
  refine ⟨_, (L2.op_add.or (L2.op_add_str.or (L2.op_catA.or L2.op_cat))), fun H G x y d e Q P r1 r2 R q hp => ?_⟩
  cases d with
  | int i =>
    cases e <;> first | exact (show False from q).elim | skip
    cases r1
    cases r2
    exact .inl ⟨_, _, rfl, rfl, hp _ (.int _) H G (.refl H) rfl R q⟩
  | str i =>
    cases e <;> first | exact (show False from q).elim | skip
    rename_i j
    obtain ⟨rfl, o1⟩ := r1
    obtain ⟨rfl, o2⟩ := r2
    exact .inr (.inl ⟨_, _, rfl, rfl, q.1, hp _ (.str (i ++ j)) H G (.refl H) ⟨rfl, okS_append o1 o2⟩ R q.2⟩)
  | tup ds =>
    cases e <;> first | exact (show False from q).elim | skip
    rename_i es
    obtain ⟨a, xs, rfl, h1, h2, h3⟩ := r1
    obtain ⟨b, ys, rfl, h1', h2', h3'⟩ := r2
    have q' : ds.length + es.length ≤ sizeLine ∧ Q (.tup (ds ++ es)) G := q
    refine .inr (.inr (.inl ⟨a, b, xs, ys, rfl, rfl, SqT.of h1, SqT.of h1', by rw [← h2.length, ← h2'.length]; exact q'.1, fun e => ?_, fun e e2 => ?_, fun _ _ p hn => ?_⟩))
    · have z : ds = [] := List.eq_nil_of_length_eq_zero (by rw [h2.length, e]; rfl)
      subst z
      exact hp _ (.tup es) H G (.refl H) ⟨b, ys, rfl, h1', h2', h3'⟩ R q'.2
    · have z : es = [] := List.eq_nil_of_length_eq_zero (by rw [h2'.length, e2]; rfl)
      subst z
      rw [List.append_nil] at q'
      exact hp _ (.tup ds) H G (.refl H) ⟨a, xs, rfl, h1, h2, h3⟩ R q'.2
    · obtain ⟨k, r, R'⟩ := tup_new hn (h2.append h2') (by rw [List.length_append]; exact q'.1) R
      exact hp _ _ _ G k r R' q'.2
  | ref a =>
    cases e <;> first | exact (show False from q).elim | skip
    rename_i b
    obtain ⟨xd, yd, h1, h2, hz, q⟩ := q
    cases r1
    cases r2
    obtain ⟨xs, e1, r1, _⟩ := lst_at R h1
    obtain ⟨ys, e2, r2, _⟩ := lst_at R h2
    refine .inr (.inr (.inr ⟨a, b, xs, ys, rfl, rfl, e1, e2, by rw [← r1.length, ← r2.length]; exact hz, fun p hn => ?_⟩))
    obtain ⟨k, R'⟩ := lst_new hn (r1.append r2) (by rw [List.length_append]; exact hz) R
    exact hp _ (.ref p) _ _ k rfl R' (q p (R.gnone hn))
  | _ => exact (show False from q).elim
theorem op_mul : DOp X B (binaryOp .Mult) mulR := by
  refine ⟨_, (L2.op_mul.or L2.op_rep), fun H G x y d e Q P r1 r2 R q hp => ?_⟩
  cases d with
  | int i =>
    cases e <;> first | exact (show False from q).elim | skip
    cases r1
    cases r2
    exact .inl ⟨_, _, rfl, rfl, q.1, hp _ (.int _) H G (.refl H) rfl R q.2⟩
  | ref a =>
    cases e <;> first | exact (show False from q).elim | skip
    rename_i k
    obtain ⟨xd, h1, ⟨hz1, hz2, hz⟩, q⟩ := q
    cases r1
    cases r2
    obtain ⟨xs, e1, r1, _⟩ := lst_at R h1
    refine .inr ⟨a, k, xs, rfl, rfl, e1, hz1, hz2, by rw [← r1.length]; exact hz, fun p hn => ?_⟩
    obtain ⟨kp, R'⟩ := lst_new hn (r1.rep k.toNat) (by rw [(r1.rep k.toNat).length]; simp [← r1.length, Nat.mul_comm] at hz ⊢; exact hz) R
    exact hp _ (.ref p) _ _ kp rfl R' (q p (R.gnone hn))
  | _ => exact (show False from q).elim
end
end DL
set_option Elab.async false
set_option linter.all false
set_option maxRecDepth 100000
set_option maxHeartbeats 4000000
namespace DL
open PySem PySem.Spec L2

/-! ### data: no references, a depth -/
def dat : Nat → D → Bool
  | _, .non => true
  | _, .bl _ => true
  | _, .int _ => true
  | _, .str _ => true
  | n + 1, .tup ds => ds.all (dat n)
  | _, _ => false
mutual
def toPD : D → PyData
  | .non => .none
  | .bl b => .bool b
  | .int i => .int i
  | .str s => .str s
  | .tup ds => .tuple (toPDs ds)
  | .ty _ => .none
  | .ref _ => .none
def toPDs : List D → List PyData
  | [] => []
  | d :: ds => toPD d :: toPDs ds
end
theorem toPDs_map : ∀ ds : List D, toPDs ds = ds.map toPD
  | [] => rfl
  | d :: ds => by simp [toPDs, toPDs_map ds]
/-- Python's == of data -/
def peq (d e : D) : Bool := PyData.eqv (toPD d) (toPD e)
def peqL (ds es : List D) : Bool := PyData.eqvAll (ds.map toPD) (es.map toPD)
theorem canLayAll0_iff : ∀ ds : List PyData, PyData.canLayAll0 ds = true ↔ ∀ d ∈ ds, d.canLay0 = true
  | [] => by simp [PyData.canLayAll0]
  | d :: ds => by simp [PyData.canLayAll0, canLayAll0_iff ds]
theorem depthAll_le : ∀ (ds : List PyData) (n : Nat), (∀ d ∈ ds, d.depth ≤ n) → PyData.depthAll ds ≤ n
  | [], n, _ => by simp [PyData.depthAll]
  | d :: ds, n, h => by
    have h1 := h d List.mem_cons_self
    have h2 := depthAll_le ds n fun e he => h e (List.mem_cons_of_mem _ he)
    simp [PyData.depthAll]
    omega
mutual
theorem dat_dp {K : PySem.W.Frag} {H : Hp} : ∀ (d : D) (n : Nat) (v : V), dat n d = true → Rel H d v → Dp K H v (toPD d) ∧ (toPD d).canLay0 = true ∧ (toPD d).depth ≤ n
  | .non, n, v, _, r => by cases r; exact ⟨.non, by simp [toPD, PyData.canLay0], by simp [toPD, PyData.depth]⟩
  | .bl b, n, v, _, r => by cases r; exact ⟨.bl b, by simp [toPD, PyData.canLay0], by simp [toPD, PyData.depth]⟩
  | .int b, n, v, _, r => by cases r; exact ⟨.int b, by simp [toPD, PyData.canLay0], by simp [toPD, PyData.depth]⟩
  | .str b, n, v, _, r => by obtain ⟨rfl, o⟩ := r; exact ⟨.str b, by simpa [toPD, PyData.canLay0] using o, by simp [toPD, PyData.depth]⟩
  | .tup ds, 0, v, h, _ => by cases h
  | .tup ds, n + 1, v, h, r => by
    obtain ⟨a, xs, rfl, h1, h2, _⟩ := r
    have hd : ∀ d ∈ ds, dat n d = true := by simpa [dat, List.all_eq_true] using h
    obtain ⟨q1, q2, q3⟩ := dat_dpL ds n xs hd h2
    refine ⟨.tup (SqT.of h1) q1, ?_, ?_⟩
    · simp only [toPD, PyData.canLay0]
      exact (canLayAll0_iff _).mpr q2
    · have := depthAll_le _ n q3
      simp only [toPD, PyData.depth]
      omega
  | .ty _, n, v, h, _ => by cases n <;> cases h
  | .ref _, n, v, h, _ => by cases n <;> cases h
theorem dat_dpL {K : PySem.W.Frag} {H : Hp} : ∀ (ds : List D) (n : Nat) (xs : List V), (∀ d ∈ ds, dat n d = true) → RelL H ds xs → DpAll K H xs (toPDs ds) ∧ (∀ d ∈ toPDs ds, d.canLay0 = true) ∧ (∀ d ∈ toPDs ds, d.depth ≤ n)
  | [], n, xs, _, r => by cases (relL_nil.mp r); exact ⟨.nil, by simp [toPDs], by simp [toPDs]⟩
  | d :: ds, n, xs, h, r => by
    obtain ⟨x, r, rfl, r1, r2⟩ := r
    obtain ⟨a1, a2, a3⟩ := dat_dp (K := K) d n x (h d List.mem_cons_self) r1
    obtain ⟨b1, b2, b3⟩ := dat_dpL (K := K) ds n r (fun e he => h e (List.mem_cons_of_mem _ he)) r2
    exact ⟨.cons a1 b1, by simp [toPDs]; exact ⟨a2, b2⟩, by simp [toPDs]; exact ⟨a3, b3⟩⟩
end

theorem shaped_of {d : PyData} (h1 : d.canLay0 = true) (h2 : d.depth ≤ 64) : SeqAt.shaped d = true := by
  unfold SeqAt.shaped
  rw [h1, decide_eq_true h2]
  rfl
theorem dat_dp' {K : PySem.W.Frag} {H : Hp} {d : D} {v : V} (h : dat 20 d = true) (r : Rel H d v) : Dp K H v (toPD d) ∧ SeqAt.shaped (toPD d) = true := by
  obtain ⟨h1, h2, h3⟩ := dat_dp (K := K) d 20 v h r
  exact ⟨h1, shaped_of h2 (by omega)⟩
theorem dat_dpL' {K : PySem.W.Frag} {B : Bx} {H : Hp} {G : Gp} {a : Addr} {o : DO} {ds : List D} (R : Rep K B H G) (g : G a = some o) (ho : o = .lst ds ∨ o = .rol ds) (h : ds.all (dat 20) = true) : Dp K H (.ref a) (.list (ds.map toPD)) ∧ SeqAt.shaped (.list (ds.map toPD)) = true := by
  have il : IsLst G a ds := by rcases ho with rfl | rfl <;> simp [IsLst, g]
  obtain ⟨xs, h1, h2, _⟩ := lstRd R il
  obtain ⟨q1, q2, q3⟩ := dat_dpL (K := K) ds 20 xs (by simpa [List.all_eq_true] using h) h2
  rw [toPDs_map] at q1 q2 q3
  refine ⟨.lst (.inl h1) q1, shaped_of ?_ ?_⟩
  · simp only [PyData.canLay0]
    exact (canLayAll0_iff _).mpr q2
  · have := depthAll_le _ 20 q3
    simp only [PyData.depth]
    omega
/-- d == e -/
def eqV (neg : Bool) : DR2 := fun d e G Q => match d, e with
  | .ref a, .ref b => ∃ o, G a = some o ∧ lstO o fun x => ∃ o', G b = some o' ∧ lstO o' fun y => (x.all (dat 20) && y.all (dat 20)) = true ∧ Q (.bl (peqL x y != neg)) G
  | .ref a, e => ∃ o, G a = some o ∧ lstO o fun x => (x.all (dat 20) && dat 20 e) = true ∧ Q (.bl neg) G
  | e, .ref a => ∃ o, G a = some o ∧ lstO o fun x => (x.all (dat 20) && dat 20 e) = true ∧ Q (.bl neg) G
  | d, e => (dat 20 d && dat 20 e) = true ∧ Q (.bl (peq d e != neg)) G
abbrev eqR : DR2 := eqV false
abbrev neR : DR2 := eqV true
/-- .. as data -/
theorem eqV_data {K : PySem.W.Frag} {B : Bx} {H : Hp} {G : Gp} {d e : D} {x y : V} {neg : Bool} {Q : DQ} (r1 : Rel H d x) (r2 : Rel H e y) (R : Rep K B H G) (q : eqV neg d e G Q) :
    ∃ pd pe, Dp K H x pd ∧ Dp K H y pe ∧ SeqAt.shaped pd = true ∧ SeqAt.shaped pe = true ∧ Q (.bl (PyData.eqv pd pe != neg)) G := by
  have lists : ∀ {a : Addr} {e : D} {y : V}, Rel H e y → (∃ o, G a = some o ∧ lstO o fun x => (x.all (dat 20) && dat 20 e) = true ∧ Q (.bl neg) G) →
      ∃ (l : List PyData), Dp K H (.ref a) (.list l) ∧ Dp K H y (toPD e) ∧ SeqAt.shaped (.list l) = true ∧ SeqAt.shaped (toPD e) = true ∧ Q (.bl neg) G := fun {a e y} r ⟨o, g, q⟩ => by
    obtain ⟨ds, il, ⟨h, q⟩, ho⟩ := lstO_is g q
    obtain ⟨z1, z2⟩ := Bool.and_eq_true_iff.mp h
    obtain ⟨a1, a2⟩ := dat_dpL' R g ho z1
    obtain ⟨b1, b2⟩ := dat_dp' (K := K) z2 r
    exact ⟨_, a1, b1, a2, b2, q⟩
  have plain : (dat 20 d && dat 20 e) = true ∧ Q (.bl (peq d e != neg)) G → ∃ pd pe, Dp K H x pd ∧ Dp K H y pe ∧ SeqAt.shaped pd = true ∧ SeqAt.shaped pe = true ∧ Q (.bl (PyData.eqv pd pe != neg)) G := fun ⟨h, q⟩ => by
    obtain ⟨z1, z2⟩ := Bool.and_eq_true_iff.mp h
    obtain ⟨a1, a2⟩ := dat_dp' (K := K) z1 r1
    obtain ⟨b1, b2⟩ := dat_dp' (K := K) z2 r2
    exact ⟨_, _, a1, b1, a2, b2, q⟩
  cases d with
  | ref a =>
    cases r1
    cases e with
    | ref b =>
      cases r2
      obtain ⟨o, g, q⟩ := q
      obtain ⟨ds, il, ⟨o', g', q⟩, ho⟩ := lstO_is g q
      obtain ⟨es, il', ⟨h, q⟩, ho'⟩ := lstO_is g' q
      obtain ⟨z1, z2⟩ := Bool.and_eq_true_iff.mp h
      obtain ⟨a1, a2⟩ := dat_dpL' R g ho z1
      obtain ⟨b1, b2⟩ := dat_dpL' R g' ho' z2
      refine ⟨_, _, a1, b1, a2, b2, ?_⟩
      simpa [PyData.eqv, peqL] using q
    | non => obtain ⟨l, a1, b1, a2, b2, q⟩ := lists r2 q; exact ⟨_, _, a1, b1, a2, b2, by simpa [PyData.eqv, toPD] using q⟩
    | bl _ => obtain ⟨l, a1, b1, a2, b2, q⟩ := lists r2 q; exact ⟨_, _, a1, b1, a2, b2, by simpa [PyData.eqv, toPD] using q⟩
    | int _ => obtain ⟨l, a1, b1, a2, b2, q⟩ := lists r2 q; exact ⟨_, _, a1, b1, a2, b2, by simpa [PyData.eqv, toPD] using q⟩
    | str _ => obtain ⟨l, a1, b1, a2, b2, q⟩ := lists r2 q; exact ⟨_, _, a1, b1, a2, b2, by simpa [PyData.eqv, toPD] using q⟩
    | ty _ => obtain ⟨o, g, q⟩ := q; obtain ⟨ds, il, ⟨h, q⟩, ho⟩ := lstO_is g q; simp [dat] at h
    | tup _ => obtain ⟨l, a1, b1, a2, b2, q⟩ := lists r2 q; exact ⟨_, _, a1, b1, a2, b2, by simpa [PyData.eqv, toPD] using q⟩
  | non =>
    cases e with
    | ref b => cases r2; obtain ⟨l, a1, b1, a2, b2, q⟩ := lists r1 q; exact ⟨_, _, b1, a1, b2, a2, by simpa [PyData.eqv, toPD] using q⟩
    | _ => exact plain q
  | bl _ =>
    cases e with
    | ref b => cases r2; obtain ⟨l, a1, b1, a2, b2, q⟩ := lists r1 q; exact ⟨_, _, b1, a1, b2, a2, by simpa [PyData.eqv, toPD] using q⟩
    | _ => exact plain q
  | int _ =>
    cases e with
    | ref b => cases r2; obtain ⟨l, a1, b1, a2, b2, q⟩ := lists r1 q; exact ⟨_, _, b1, a1, b2, a2, by simpa [PyData.eqv, toPD] using q⟩
    | _ => exact plain q
  | str _ =>
    cases e with
    | ref b => cases r2; obtain ⟨l, a1, b1, a2, b2, q⟩ := lists r1 q; exact ⟨_, _, b1, a1, b2, a2, by simpa [PyData.eqv, toPD] using q⟩
    | _ => exact plain q
  | ty _ =>
    cases e with
    | ref b => obtain ⟨o, g, q⟩ := q; obtain ⟨ds, il, ⟨h, q⟩, ho⟩ := lstO_is g q; simp [dat] at h
    | _ => exact absurd q.1 (by simp [dat])
  | tup _ =>
    cases e with
    | ref b => cases r2; obtain ⟨l, a1, b1, a2, b2, q⟩ := lists r1 q; exact ⟨_, _, b1, a1, b2, a2, by simpa [PyData.eqv, toPD] using q⟩
    | _ => exact plain q
section
variable {X : Cx} {B : Bx}
theorem op_eq (hu : X.A.units + 64 < cLine) : DOp X B (compareOp .Eq) eqR := by
  refine ⟨_, op_eqD hu, fun H G x y d e Q P r1 r2 R q hp => ?_⟩
  obtain ⟨pd, pe, a1, a2, a3, a4, q⟩ := eqV_data r1 r2 R q
  exact ⟨pd, pe, a1, a2, a3, a4, hp _ (.bl _) H G (.refl H) rfl R (by simpa using q)⟩
theorem op_ne (hu : X.A.units + 64 < cLine) : DOp X B (compareOp .NotEq) neR := by
  refine ⟨_, op_neD hu, fun H G x y d e Q P r1 r2 R q hp => ?_⟩
  obtain ⟨pd, pe, a1, a2, a3, a4, q⟩ := eqV_data r1 r2 R q
  exact ⟨pd, pe, a1, a2, a3, a4, hp _ (.bl _) H G (.refl H) rfl R (by simpa using q)⟩
end
/-! == where no bools stand -/
def nob : Nat → D → Bool
  | _, .non => true
  | _, .int _ => true
  | _, .str _ => true
  | n + 1, .tup ds => ds.all (nob n)
  | _, _ => false
mutual
theorem peq_iff : ∀ (d e : D) (n m : Nat), nob n d = true → nob m e = true → (peq d e = true ↔ d = e)
  | .non, e, n, m, h1, h2 => by cases e <;> simp [peq, toPD, PyData.eqv]; all_goals (cases m <;> simp [nob] at h2)
  | .int i, e, n, m, h1, h2 => by cases e <;> simp [peq, toPD, PyData.eqv]; all_goals (cases m <;> simp [nob] at h2)
  | .str i, e, n, m, h1, h2 => by cases e <;> simp [peq, toPD, PyData.eqv]; all_goals (cases m <;> simp [nob] at h2)
  | .tup ds, e, n, m, h1, h2 => by
    cases n with
    | zero => simp [nob] at h1
    | succ n =>
      cases e with
      | tup es =>
        cases m with
        | zero => simp [nob] at h2
        | succ m =>
          have q := peqL_iff ds es n m (by simpa [nob, List.all_eq_true] using h1) (by simpa [nob, List.all_eq_true] using h2)
          simpa [peq, toPD, PyData.eqv, peqL, toPDs_map] using q
      | _ => simp [peq, toPD, PyData.eqv]; all_goals (cases m <;> simp [nob] at h2)
  | .bl _, e, n, m, h1, h2 => by cases n <;> simp [nob] at h1
  | .ty _, e, n, m, h1, h2 => by cases n <;> simp [nob] at h1
  | .ref _, e, n, m, h1, h2 => by cases n <;> simp [nob] at h1
theorem peqL_iff : ∀ (ds es : List D) (n m : Nat), (∀ d ∈ ds, nob n d = true) → (∀ e ∈ es, nob m e = true) → (peqL ds es = true ↔ ds = es)
  | [], es, n, m, h1, h2 => by cases es <;> simp [peqL, PyData.eqvAll]
  | d :: ds, es, n, m, h1, h2 => by
    cases es with
    | nil => simp [peqL, PyData.eqvAll]
    | cons e es =>
      have q1 := peq_iff d e n m (h1 d List.mem_cons_self) (h2 e List.mem_cons_self)
      have q2 := peqL_iff ds es n m (fun x hx => h1 x (List.mem_cons_of_mem _ hx)) (fun x hx => h2 x (List.mem_cons_of_mem _ hx))
      simp only [peqL, List.map_cons, PyData.eqvAll, Bool.and_eq_true, List.cons.injEq]
      exact and_congr q1 q2
end
theorem peq_dec {d e : D} {n m : Nat} (h1 : nob n d = true) (h2 : nob m e = true) : peq d e = decide (d = e) := by
  have q := peq_iff d e n m h1 h2
  cases h : peq d e with
  | true => exact (decide_eq_true (q.mp h)).symm
  | false => exact (decide_eq_false fun z => by rw [q.mpr z] at h; cases h).symm
theorem peqL_dec {ds es : List D} {n m : Nat} (h1 : ∀ d ∈ ds, nob n d = true) (h2 : ∀ d ∈ es, nob m d = true) : peqL ds es = decide (ds = es) := by
  have q := peqL_iff ds es n m h1 h2
  cases h : peqL ds es with
  | true => exact (decide_eq_true (q.mp h)).symm
  | false => exact (decide_eq_false fun z => by rw [q.mpr z] at h; cases h).symm
theorem peq_int (i j : Int) : peq (.int i) (.int j) = decide (i = j) := by simp [peq, toPD, PyData.eqv, Bool.beq_eq_decide_eq]
theorem peq_str (i j : Str) : peq (.str i) (.str j) = decide (i = j) := by simp [peq, toPD, PyData.eqv, Bool.beq_eq_decide_eq]
theorem peqL_nil : peqL [] [] = true := rfl
theorem peqL_cons_nil (d : D) (ds : List D) : peqL (d :: ds) [] = false := rfl
theorem peqL_nil_cons (d : D) (ds : List D) : peqL [] (d :: ds) = false := rfl
theorem peqL_is_nil (ds : List D) : peqL ds [] = ds.isEmpty := by cases ds <;> rfl
end DL
set_option Elab.async false
set_option linter.all false
set_option maxRecDepth 100000
set_option maxHeartbeats 4000000
namespace DL
open PySem PySem.Spec L2

/-! ### dicts -/
def dKey : D → Option Key
  | .int i => some (.inl i)
  | .str s => some (.inr s)
  | _ => none
def dKeys : List D → Option (List Key)
  | [] => some []
  | d :: ds => match dKey d, dKeys ds with
    | some k, some ks => some (k :: ks)
    | _, _ => none
/-- may d be a key of a dict of this kind (true: tuples) -/
def keyOk : Bool → D → Bool
  | false, d => (dKey d).isSome
  | true, .tup ds => (dKeys ds).isSome
  | true, _ => false
theorem dKey_eq {d : D} {k : Key} (h : dKey d = some k) : d = kD k := by
  cases d <;> simp [dKey] at h <;> (subst h; rfl)
theorem dKeys_eq : ∀ {ds : List D} {ks : List Key}, dKeys ds = some ks → ds = ks.map kD
  | [], ks, h => by simp [dKeys] at h; subst h; rfl
  | d :: ds, ks, h => by
    cases h1 : dKey d with
    | none => simp [dKeys, h1] at h
    | some k =>
      cases h2 : dKeys ds with
      | none => simp [dKeys, h1, h2] at h
      | some r =>
        simp [dKeys, h1, h2] at h
        subst h
        rw [dKey_eq h1, dKeys_eq h2]
        rfl
theorem kD_inj {a b : Key} (h : kD a = kD b) : a = b := by
  cases a <;> cases b <;> simp [kD] at h <;> simp [h]
theorem kDs_inj : ∀ {a b : List Key}, a.map kD = b.map kD → a = b
  | [], [], _ => rfl
  | [], _ :: _, h => by simp at h
  | _ :: _, [], h => by simp at h
  | x :: a, y :: b, h => by
    simp only [List.map_cons, List.cons.injEq] at h
    rw [kD_inj h.1, kDs_inj h.2]
theorem rel_kD {H : Hp} {k : Key} {v : V} (r : Rel H (kD k) v) : v = kV k := by
  cases k with
  | inl i => exact r
  | inr s => exact r.1
theorem rel_kDs {H : Hp} : ∀ {ks : List Key} {vs : List V}, RelL H (ks.map kD) vs → vs = ks.map kV
  | [], vs, r => relL_nil.mp r
  | k :: ks, vs, ⟨v, r, e, h1, h2⟩ => by
    rw [e, rel_kD h1, rel_kDs h2]
    rfl
/-- what a dict holds at d -/
def valD (kvs : List (D × D)) (d : D) : Option D := (kvs.find? fun kv => decide (kv.1 = d)).map (·.2)
def putD (kvs : List (D × D)) (d e : D) : List (D × D) := if (kvs.any fun kv => decide (kv.1 = d)) = true then kvs.map (fun kv => if kv.1 = d then (kv.1, e) else kv) else kvs ++ [(d, e)]
def dropD (kvs : List (D × D)) (d : D) : List (D × D) := kvs.filter fun kv => decide (kv.1 ≠ d)
section
variable {κ : Type} [DecidableEq κ] {H : Hp} {f : κ → D} (hf : ∀ a b, f a = f b → a = b)
include hf
theorem find_rel : ∀ {kvs : List (D × D)} {ks : List (κ × V)} (k : κ), kvs.map (·.1) = ks.map (fun q => f q.1) → RelL H (kvs.map (·.2)) (ks.map (·.2)) →
    match valD kvs (f k), valV ks k with
    | some d, some v => Rel H d v
    | none, none => True
    | _, _ => False
  | [], [], k, _, _ => True.intro
  | [], _ :: _, k, h, _ => by simp at h
  | _ :: _, [], k, h, _ => by simp at h
  | (d, e) :: kvs, (q, v) :: ks, k, h, r => by
    simp only [List.map_cons, List.cons.injEq] at h
    obtain ⟨h1, h2⟩ := h
    have r' : RelL H (e :: kvs.map (·.2)) (v :: ks.map (·.2)) := r
    obtain ⟨r1, r2⟩ := relL_cons.mp r'
    have ih := find_rel (kvs := kvs) (ks := ks) k h2 r2
    by_cases hq : q = k
    · subst hq
      simp [valD, valV, List.find?_cons, h1, r1]
    · have hd : ¬ d = f k := fun z => hq (hf _ _ (h1.symm.trans z))
      simpa [valD, valV, List.find?_cons, hd, hq] using ih
end

theorem dk_rel {K : PySem.W.Frag} {B : Bx} {H : Hp} {G : Gp} {a : Addr} {t : Bool} {kvs : List (D × D)} {o : DO} (R : Rep K B H G) (g : G a = some o) (ho : o = .dict t kvs ∨ o = .ldict t kvs) {d : D} {v : V} (r : Rel H d v) (hk : keyOk t d = true) :
    ∃ r : Option V, DGet H a v r ∧ match valD kvs d, r with
      | some d, some v => Rel H d v
      | none, none => True
      | _, _ => False := by
  have x := R.at_ a o g
  cases t with
  | false =>
    obtain ⟨k, hk⟩ := Option.isSome_iff_exists.mp (show (dKey d).isSome = true from hk)
    have e := dKey_eq hk
    subst e
    have ev := rel_kD r
    subst ev
    have x' : ∃ ks : List (Key × V), Rd H a (.dK ks) ∧ kvs.map (·.1) = ks.map (fun k => kD k.1) ∧ RelL H (kvs.map (·.2)) (ks.map (·.2)) := by
      rcases ho with rfl | rfl
      · obtain ⟨_, ks, h1, h2, h3⟩ := x
        exact ⟨ks, .inl h1, h2, h3⟩
      · obtain ⟨_, ob, ks, h1, h2, h3⟩ := x
        exact ⟨ks, .inr ⟨ob, h1⟩, h2, h3⟩
    obtain ⟨ks, h1, h2, h3⟩ := x'
    exact ⟨_, .inl ⟨ks, k, h1, rfl, rfl⟩, find_rel (f := kD) (fun _ _ => kD_inj) k h2 h3⟩
  | true =>
    cases d with
    | tup ds =>
      obtain ⟨k, hk⟩ := Option.isSome_iff_exists.mp (show (dKeys ds).isSome = true from hk)
      have e := dKeys_eq hk
      subst e
      obtain ⟨b, xs, rfl, hb, rl, _⟩ := r
      have ev := rel_kDs rl
      subst ev
      have x' : ∃ ks : List (List Key × V), Rd H a (.dT ks) ∧ kvs.map (·.1) = ks.map (fun k => D.tup (k.1.map kD)) ∧ RelL H (kvs.map (·.2)) (ks.map (·.2)) := by
        rcases ho with rfl | rfl
        · obtain ⟨_, ks, h1, h2, h3⟩ := x
          exact ⟨ks, .inl h1, h2, h3⟩
        · obtain ⟨_, ob, ks, h1, h2, h3⟩ := x
          exact ⟨ks, .inr ⟨ob, h1⟩, h2, h3⟩
      obtain ⟨ks, h1, h2, h3⟩ := x'
      exact ⟨_, .inr ⟨ks, k, b, h1, rfl, hb, rfl⟩, find_rel (f := fun k : List Key => D.tup (k.map kD)) (fun _ _ z => kDs_inj (D.tup.inj z)) k h2 h3⟩
    | _ => exact absurd hk (by simp [keyOk])
/-- a dict, of it -/
def dictO (o : DO) (P : Bool → List (D × D) → Prop) : Prop := match o with
  | .dict t kvs => P t kvs
  | .ldict t kvs => P t kvs
  | _ => False
theorem dictO_is {o : DO} {P : Bool → List (D × D) → Prop} (q : dictO o P) : ∃ t kvs, P t kvs ∧ (o = .dict t kvs ∨ o = .ldict t kvs) := by
  cases o with
  | dict t ds => exact ⟨t, ds, q, .inl rfl⟩
  | ldict t ds => exact ⟨t, ds, q, .inr rfl⟩
  | _ => exact (show False from q).elim

/-! ### in -/
/-- a list or a dict, of either -/
def anyO (o : DO) (P : List D → Prop) (P' : Bool → List (D × D) → Prop) : Prop := match o with
  | .lst ds => P ds
  | .rol ds => P ds
  | .dict t kvs => P' t kvs
  | .ldict t kvs => P' t kvs
  | _ => False
def inR (neg : Bool) : DR2 := fun d e G Q => match e with
  | .tup ds => (ds.all (dat 0) && dat 0 d) = true ∧ Q (.bl (ds.any (fun z => peq z d) != neg)) G
  | .ref a => ∃ o, G a = some o ∧ anyO o (fun ds => (ds.all (dat 20) && dat 20 d) = true ∧ Q (.bl (ds.any (fun z => peq z d) != neg)) G) fun t kvs => keyOk t d = true ∧ Q (.bl ((valD kvs d).isSome != neg)) G
  | .str y => (match d with
    | .str x => Q (.bl (!(Builtin.Str.occurrences y x 0 y.length 1).isEmpty != neg)) G
    | _ => False)
  | _ => False
def rInDct (neg : Bool) : R2 := fun x y H Q => ∃ a o, y = .ref a ∧ DGet H a x o ∧ Q (.bl (o.isSome != neg)) H
section
variable {X : Cx} {B : Bx}
theorem op_in_dct (hu : X.A.units + 1 < cLine) : OpR X (compareOp .In) (rInDct false) := by
  intro pins s σ H x y v u Q I rx ry h
  obtain ⟨a, o, rfl, g, q⟩ := h
  cases ry
  exact d_in hu I g rx fun s' I' => ⟨.bl o.isSome, H, I', rfl, by simpa using q⟩
theorem op_notIn_dct (hu : X.A.units + 1 < cLine) : OpR X (compareOp .NotIn) (rInDct true) := by
  intro pins s σ H x y v u Q I rx ry h
  obtain ⟨a, o, rfl, g, q⟩ := h
  cases ry
  exact d_notIn hu I g rx fun s' I' => ⟨.bl (!o.isSome), H, I', rfl, by simpa using q⟩
theorem flat_rel {H : Hp} {d : D} {v : V} (h : dat 0 d = true) (r : Rel H d v) : flatV v = true := by
  cases d with
  | non => cases r; rfl
  | bl _ => cases r; rfl
  | int _ => cases r; rfl
  | str _ => obtain ⟨rfl, _⟩ := r; rfl
  | _ => simp [dat] at h
theorem flat_rels {H : Hp} : ∀ {ds : List D} {vs : List V}, ds.all (dat 0) = true → RelL H ds vs → vs.all flatV = true
  | [], vs, _, r => by cases (relL_nil.mp r); rfl
  | d :: ds, vs, h, ⟨v, r, e, r1, r2⟩ => by
    subst e
    have h' : dat 0 d = true ∧ ds.all (dat 0) = true := by simpa using h
    simp [flat_rel h'.1 r1, flat_rels h'.2 r2]
theorem eqV_rel {H : Hp} {d e : D} {v u : V} (hd : dat 0 d = true) (he : dat 0 e = true) (r1 : Rel H d v) (r2 : Rel H e u) : L2.eqV v u = peq d e := by
  cases d <;> simp [dat] at hd <;> cases e <;> simp [dat] at he <;> simp only [Rel] at r1 r2 <;> (try obtain ⟨rfl, _⟩ := r1) <;> (try obtain ⟨rfl, _⟩ := r2) <;> (try subst r1) <;> (try subst r2) <;> simp [L2.eqV, peq, toPD, PyData.eqv, Bool.beq_eq_decide_eq]
theorem any_rel {H : Hp} {d : D} {v : V} (hd : dat 0 d = true) (rd : Rel H d v) : ∀ {ds : List D} {vs : List V}, ds.all (dat 0) = true → RelL H ds vs → inV v vs = ds.any fun z => peq z d
  | [], vs, _, r => by cases (relL_nil.mp r); rfl
  | e :: ds, vs, h, ⟨u, r, q, r1, r2⟩ => by
    subst q
    have h' : dat 0 e = true ∧ ds.all (dat 0) = true := by simpa using h
    have ih := any_rel hd rd h'.2 r2
    unfold inV at ih ⊢
    rw [List.any_cons, List.any_cons, ih, eqV_rel h'.1 hd r1 rd]
theorem in_all {K : PySem.W.Frag} {H : Hp} {G : Gp} {d e : D} {x y : V} {neg : Bool} {Q : DQ} {P : VK} (r1 : Rel H d x) (r2 : Rel H e y) (R : Rep K B H G) (q : inR neg d e G Q) (hp : PostE K B H Q P) :
    (∃ p xs, y = .ref p ∧ SqT K H p xs ∧ flatV x = true ∧ xs.all flatV = true ∧ P (.bl (inV x xs != neg)) H) ∨
    (∃ pd ds, Dp K H x pd ∧ Dp K H y (.list ds) ∧ SeqAt.shaped pd = true ∧ SeqAt.shaped (.list ds) = true ∧ P (.bl (ds.any (fun z => PyData.eqv z pd) != neg)) H) ∨
    (∃ a o, y = .ref a ∧ DGet H a x o ∧ P (.bl (o.isSome != neg)) H) ∨
    (∃ i j, x = .str i ∧ y = .str j ∧ P (.bl (!(Builtin.Str.occurrences j i 0 j.length 1).isEmpty != neg)) H) := by
  cases e with
  | tup ds =>
    obtain ⟨a, xs, rfl, h1, h2, h3⟩ := r2
    obtain ⟨h, q⟩ := q
    obtain ⟨z1, z2⟩ := Bool.and_eq_true_iff.mp h
    exact .inl ⟨a, xs, rfl, SqT.of h1, flat_rel z2 r1, flat_rels z1 h2, by rw [any_rel z2 r1 z1 h2]; exact hp _ (.bl _) H G (.refl H) rfl R q⟩
  | ref a =>
    cases r2
    obtain ⟨o, g, q⟩ := q
    have lists : ∀ {ds : List D}, (o = .lst ds ∨ o = .rol ds) → (ds.all (dat 20) && dat 20 d) = true ∧ Q (.bl (ds.any (fun z => peq z d) != neg)) G →
        ∃ pd ds, Dp K H x pd ∧ Dp K H (.ref a) (.list ds) ∧ SeqAt.shaped pd = true ∧ SeqAt.shaped (.list ds) = true ∧ P (.bl (ds.any (fun z => PyData.eqv z pd) != neg)) H := fun {ds} ho ⟨h, q⟩ => by
      obtain ⟨z1, z2⟩ := Bool.and_eq_true_iff.mp h
      obtain ⟨a1, a2⟩ := dat_dpL' R g ho z1
      obtain ⟨b1, b2⟩ := dat_dp' (K := K) z2 r1
      refine ⟨_, _, b1, a1, b2, a2, ?_⟩
      rw [List.any_map]
      exact hp _ (.bl _) H G (.refl H) rfl R q
    have dicts : ∀ {t : Bool} {kvs : List (D × D)}, (o = .dict t kvs ∨ o = .ldict t kvs) → keyOk t d = true ∧ Q (.bl ((valD kvs d).isSome != neg)) G → ∃ o, DGet H a x o ∧ P (.bl (o.isSome != neg)) H := fun {t kvs} ho ⟨h, q⟩ => by
      obtain ⟨r, h1, h2⟩ := dk_rel R g ho r1 h
      refine ⟨r, h1, ?_⟩
      have e : r.isSome = (valD kvs d).isSome := by
        cases h3 : valD kvs d <;> cases r <;> simp_all
      rw [e]
      exact hp _ (.bl _) H G (.refl H) rfl R q
    cases o with
    | lst ds => exact .inr (.inl (lists (.inl rfl) q))
    | rol ds => exact .inr (.inl (lists (.inr rfl) q))
    | dict t kvs => obtain ⟨o, h1, h2⟩ := dicts (.inl rfl) q; exact .inr (.inr (.inl ⟨a, o, rfl, h1, h2⟩))
    | ldict t kvs => obtain ⟨o, h1, h2⟩ := dicts (.inr rfl) q; exact .inr (.inr (.inl ⟨a, o, rfl, h1, h2⟩))
    | ins C ns fs => exact (show False from q).elim
  | str y' =>
    cases d with
    | str x' =>
      obtain ⟨rfl, _⟩ := r1
      obtain ⟨rfl, _⟩ := r2
      exact .inr (.inr (.inr ⟨_, _, rfl, rfl, hp _ (.bl _) H G (.refl H) rfl R q⟩))
    | _ => exact (show False from q).elim
  | _ => exact (show False from q).elim
theorem op_in (hu : X.A.units + 65 < cLine) : DOp X B (compareOp .In) (inR false) := by
  refine ⟨_, (op_in_seq.or ((op_inD hu).or ((op_in_dct (by omega)).or L2.op_in_str))), fun H G x y d e Q P r1 r2 R q hp => ?_⟩
  rcases in_all r1 r2 R q hp with ⟨p, xs, h1, h2, h3, h4, h5⟩ | ⟨pd, ds, h1, h2, h3, h4, h5⟩ | ⟨a, o, h1, h2, h3⟩ | ⟨i, j, h1, h2, h3⟩
  · exact .inl ⟨p, xs, h1, .inr h2, h3, h4, by simpa using h5⟩
  · exact .inr (.inl ⟨pd, ds, h1, h2, h3, h4, by simpa using h5⟩)
  · exact .inr (.inr (.inl ⟨a, o, h1, h2, by simpa using h3⟩))
  · exact .inr (.inr (.inr ⟨i, j, h1, h2, by simpa using h3⟩))
theorem op_notIn (hu : X.A.units + 65 < cLine) : DOp X B (compareOp .NotIn) (inR true) := by
  refine ⟨_, (op_notIn_seq.or ((op_notInD hu).or ((op_notIn_dct (by omega)).or L2.op_notin_str))), fun H G x y d e Q P r1 r2 R q hp => ?_⟩
  rcases in_all r1 r2 R q hp with ⟨p, xs, h1, h2, h3, h4, h5⟩ | ⟨pd, ds, h1, h2, h3, h4, h5⟩ | ⟨a, o, h1, h2, h3⟩ | ⟨i, j, h1, h2, h3⟩
  · exact .inl ⟨p, xs, h1, .inr h2, h3, h4, by simpa using h5⟩
  · exact .inr (.inl ⟨pd, ds, h1, h2, h3, h4, by simpa using h5⟩)
  · exact .inr (.inr (.inl ⟨a, o, h1, h2, by simpa using h3⟩))
  · exact .inr (.inr (.inr ⟨i, j, h1, h2, by simpa using h3⟩))
/-- is None, is not None -/
def isNR (neg : Bool) : DR2 := fun d e G Q => match e with
  | .non => Q (.bl (decide (d = .non) != neg)) G
  | _ => False
theorem non_rel {H : Hp} {d : D} {v : V} (r : Rel H d v) : decide (v = .non) = decide (d = .non) := by
  cases d <;> simp only [Rel] at r
  case str => obtain ⟨rfl, _⟩ := r; simp
  case tup => obtain ⟨a, xs, rfl, _⟩ := r; simp
  all_goals (subst r; simp)
theorem op_isN : DOp X B (compareOp .Is) (isNR false) := by
  refine ⟨_, L2.op_isN, fun H G x y d e Q P r1 r2 R q hp => ?_⟩
  cases e with
  | non => exact ⟨r2, hp _ (.bl _) H G (.refl H) (by rw [non_rel r1]; simp [Rel]) R q⟩
  | _ => exact (show False from q).elim
theorem op_notN : DOp X B (compareOp .IsNot) (isNR true) := by
  refine ⟨_, L2.op_notN, fun H G x y d e Q P r1 r2 R q hp => ?_⟩
  cases e with
  | non => exact ⟨r2, hp _ (.bl _) H G (.refl H) (by rw [non_rel r1]; simp [Rel]) R q⟩
  | _ => exact (show False from q).elim
end
end DL
set_option Elab.async false
set_option linter.all false
set_option maxRecDepth 100000
set_option maxHeartbeats 4000000
namespace DL
open PySem PySem.Spec L2

/-! ### subscripts -/
section
open PyProof.Rows
theorem subD_tail {prog : Program} {w : World} {A : Around} {E : Value → Shared → Prop} {s : Shared} {value slice : Expr} {T id : String} {o i : Value} {Q : Value → Shared → Prop}
    (hl : typeLookup (.type T) "__getitem__" = pure (some (.builtin id))) (hs : subscripted slice false o i = operate [o, i] (getItem o i)) (hT : s.TypeIs o T)
    (h : wpAny (model prog w) A (getItem o i) Q E s) : wpAny (model prog w) A (subscriptTail value slice o i) Q E s := by
  unfold subscriptTail
  refine wpAny_bind ?_
  rw [getitemInPython_of_ne hT.not_modules]
  refine wpAny_bind (wpAny_specialOf hT hl ?_)
  have fin : wpAny (model prog w) A (subscripted slice false o i) (fun r s₃ => wpAny (model prog w) A (letTemporaryGo value o r >>= fun _ => pure r) Q E s₃) E s := by
    rw [hs]
    exact wpAny_operating (wpAny_mono h (fun r s₃ h₃ => wpAny_bind (wpAny_letTemporaryGo (wpAny_pure h₃))) fun _ _ x => x)
  first
    | exact wpAny_pure (wpAny_bind fin)
    | exact wpAny_bind (wpAny_pure (wpAny_bind fin))
    | exact wpAny_bind fin
end
def rIxD : R2 := fun x y H Q => ∃ a v, x = .ref a ∧ DGet H a y (some v) ∧ Q v H
theorem ix_dict {X : Cx} (hu : X.A.units + 1 < cLine) : IxR X rIxD := by
  intro value slice pins s σ H x y v u Q I rx ry h hs
  obtain ⟨a, z, rfl, g, q⟩ := h
  cases rx
  exact subD_tail PySem.F.slot_dict_getitem.lookup hs (dict_typeIs I g) (d_getItem hu I g ry fun w' s3 I3 rw' => ⟨z, H, I3, rw', q⟩)
def ixR : DR2 := fun d e G Q => match d with
  | .tup ds => (match e with
    | .int i => ∃ v, atI ds i = some v ∧ Q v G
    | _ => False)
  | .str z => (match e with
    | .int i => z.length ≤ sizeLine ∧ ∃ c, atI z.cps.toList i = some c ∧ Q (.str ⟨#[c]⟩) G
    | _ => False)
  | .ref a => ∃ o, G a = some o ∧ anyO o (fun ds => ∃ i v, e = .int i ∧ atI ds i = some v ∧ Q v G) fun t kvs => keyOk t e = true ∧ ∃ v, valD kvs e = some v ∧ Q v G
  | _ => False
theorem atI_rel {H : Hp} {ds : List D} {xs : List V} {i : Int} {d : D} (r : RelL H ds xs) (h : atI ds i = some d) : ∃ v, atI xs i = some v ∧ Rel H d v := by
  unfold atI at h ⊢
  rw [← r.length]
  cases e : ixN ds.length i with
  | none => rw [e] at h; cases h
  | some j =>
    rw [e] at h
    exact r.get j h
section
variable {X : Cx} {B : Bx} {a b : Expr} {ta tb : DTE} {pos : Pos}
theorem okS_sign {z : Str} {c : Nat} {i : Int} (h : OkS z) (e : atI z.cps.toList i = some c) : OkS ⟨#[c]⟩ := by
  unfold OkS PyData.strOk at *
  have hm : c ∈ z.cps.toList := by
    unfold atI at e
    cases q : ixN z.cps.toList.length i with
    | none => rw [q] at e; cases e
    | some j =>
      rw [q] at e
      exact List.mem_of_getElem? e
  have := Array.all_eq_true_iff_forall_mem.mp h c (by simpa using hm)
  simpa using this
theorem de_ix (hu : X.A.units + 1 < cLine) (ha : DE X B a ta) (hb : DE X B b tb) (hs : PlainIx b := by exact fun _ _ => rfl) : DE X B (.Subscript a b pos) (dOp ixR ta tb) := by
  obtain ⟨ta', pa, ha⟩ := ha.ex
  obtain ⟨tb', pb, hb⟩ := hb.ex
  refine ⟨_, pe_ix (ix_list.or (ix_tup.or (ix_str.or (ix_dict hu)))) pa pb hs, fun σ H sd G Q P hS R t hp => ?_⟩
  refine two_parts (X := X) ha hb hS R t fun x y d e H2 G2 k r1 r2 R2 q => ?_
  have hp := hp.mono k
  cases d with
  | tup ds =>
    cases e <;> first | exact (show False from q).elim | skip
    obtain ⟨p, xs, rfl, h1, h2, _⟩ := r1
    cases r2
    obtain ⟨v, e, q⟩ := q
    obtain ⟨u, e2, r⟩ := atI_rel h2 e
    exact .inr (.inl ⟨p, xs, _, u, rfl, rfl, SqT.of h1, e2, hp u v H2 G2 (.refl _) r R2 q⟩)
  | str z =>
    cases e <;> first | exact (show False from q).elim | skip
    obtain ⟨rfl, ok⟩ := r1
    cases r2
    obtain ⟨hz, c, e, q⟩ := q
    exact .inr (.inr (.inl ⟨z, _, c, rfl, rfl, hz, e, hp _ (.str ⟨#[c]⟩) H2 G2 (.refl _) ⟨rfl, okS_sign ok e⟩ R2 q⟩))
  | ref p =>
    cases r1
    obtain ⟨o, g, q⟩ := q
    have lists : ∀ {ds : List D}, (o = .lst ds ∨ o = .rol ds) → (∃ i v, e = .int i ∧ atI ds i = some v ∧ Q v G2) → rIxL X.K (.ref p) y H2 P := fun {ds} ho ⟨i, v, e1, e2, qv⟩ => by
      subst e1
      cases r2
      obtain ⟨xs, h1, h2, _⟩ := lstRd R2 (by rcases ho with rfl | rfl <;> simp [IsLst, g] : IsLst G2 p ds)
      obtain ⟨u, e3, r⟩ := atI_rel h2 e2
      exact ⟨p, xs, i, u, rfl, rfl, .inl h1, e3, hp u v H2 G2 (.refl _) r R2 qv⟩
    have dicts : ∀ {t : Bool} {kvs : List (D × D)}, (o = .dict t kvs ∨ o = .ldict t kvs) → (keyOk t e = true ∧ ∃ v, valD kvs e = some v ∧ Q v G2) → rIxD (.ref p) y H2 P := fun {t kvs} ho ⟨h, v, e1, q⟩ => by
      obtain ⟨r, h1, h2⟩ := dk_rel R2 g ho r2 h
      rw [e1] at h2
      cases r with
      | none => exact h2.elim
      | some u => exact ⟨p, u, rfl, h1, hp u v H2 G2 (.refl _) h2 R2 q⟩
    cases o with
    | lst ds => exact .inl (lists (.inl rfl) q)
    | rol ds => exact .inl (lists (.inr rfl) q)
    | dict t kvs => exact .inr (.inr (.inr (dicts (.inl rfl) q)))
    | ldict t kvs => exact .inr (.inr (.inr (dicts (.inr rfl) q)))
    | ins C ns fs => exact (show False from q).elim
  | _ => exact (show False from q).elim
end

/-! ### slices -/
abbrev DTO := SD → Gp → (Option Int → Gp → Prop) → Prop
structure DO' (X : Cx) (B : Bx) (e : Option Expr) (t : DTO) : Prop where
  ex : ∃ te : TO, PO X e te ∧ ∀ σ H sd G Q (P : Option Int → Hp → Prop), RelS H σ sd → Rep X.K B H G → t sd G Q → (∀ o H' G', Kp H H' → Rep X.K B H' G' → Q o G' → P o H') → te σ H P
def doNone : DTO := fun _ G Q => Q none G
def doSome (t : DTE) : DTO := fun sd G Q => t sd G fun d G1 => match d with
  | .int i => Q (some i) G1
  | _ => False
def cutD (xs : List D) (lo hi : Option Int) : List D := (xs.drop (HT.sIx xs.length 0 lo)).take (HT.sIx xs.length xs.length hi - HT.sIx xs.length 0 lo)
def slR : D → Option Int → Option Int → Gp → DQ → Prop := fun d lo hi G Q => match d with
  | .tup ds => Q (.tup (cutD ds lo hi)) G
  | .ref a => ∃ o, G a = some o ∧ lstO o fun ds => ∀ p, Nw G p → Q (.ref p) (put G p (.lst (cutD ds lo hi)))
  | _ => False
def dSl (te : DTE) (tl th : DTO) : DTE := fun sd G Q => te sd G fun d G1 => tl sd G1 fun l G2 => th sd G2 fun u G3 => slR d l u G3 Q
section
variable {X : Cx} {B : Bx} {e : Expr} {te : DTE} {tl th : DTO} {lo hi : Option Expr} {pos p2 : Pos}
theorem do_none : DO' X B none doNone := ⟨_, po_none, fun σ H sd G Q P hS R t hp => hp none H G (.refl H) R t⟩
theorem do_some (h : DE X B e te) : DO' X B (some e) (doSome te) := by
  obtain ⟨te', pe, he⟩ := h.ex
  refine ⟨_, po_some pe, fun σ H sd G Q P hS R t hp => ?_⟩
  refine he σ H sd G _ _ hS R t fun v d H1 G1 k1 r1 R1 q1 => ?_
  cases d with
  | int i => cases r1; exact ⟨i, rfl, hp _ H1 G1 k1 R1 q1⟩
  | _ => exact (show False from q1).elim
theorem cut_rel {H : Hp} {ds : List D} {xs : List V} (r : RelL H ds xs) (lo hi : Option Int) : RelL H (cutD ds lo hi) (cutV xs lo hi) := by
  unfold cutD cutV
  rw [r.length]
  exact (r.drop _).take _
theorem cutD_length (xs : List D) (lo hi : Option Int) : (cutD xs lo hi).length ≤ xs.length := by
  unfold cutD
  rw [List.length_take, List.length_drop]
  omega
theorem cutD_whole {xs : List D} {lo hi : Option Int} (h : HT.sIx xs.length 0 lo = 0 ∧ HT.sIx xs.length xs.length hi = xs.length) : cutD xs lo hi = xs := by
  unfold cutD
  rw [h.1, h.2]
  simp
theorem de_slice (he : DE X B e te) (hl : DO' X B lo tl) (hh : DO' X B hi th) : DE X B (.Subscript e (.Slice lo hi none p2) pos) (dSl te tl th) := by
  obtain ⟨te', pe, he⟩ := he.ex
  obtain ⟨tl', pl, hl⟩ := hl.ex
  obtain ⟨th', ph, hh⟩ := hh.ex
  refine ⟨_, pe_slice (sl_tupA.or sl_list) pe pl ph, fun σ H sd G Q P hS R t hp => ?_⟩
  refine he σ H sd G _ _ hS R t fun v d H1 G1 k1 r1 R1 q1 => ?_
  refine hl σ H1 sd G1 _ _ (hS.mono k1) R1 q1 fun l H2 G2 k2 R2 q2 => ?_
  refine hh σ H2 sd G2 _ _ (hS.mono (k1.trans k2)) R2 q2 fun u H3 G3 k3 R3 q3 => ?_
  have hp := hp.mono (k1.trans (k2.trans k3))
  have r3 := r1.mono (k2.trans k3)
  cases d with
  | tup ds =>
    obtain ⟨p, xs, rfl, h1, h2, hz⟩ := r3
    refine .inl ⟨p, xs, rfl, SqT.of h1, fun hw => ?_, fun _ q hq => ?_⟩
    · have e : cutD ds l u = ds := cutD_whole (by rw [h2.length]; exact hw)
      have q3' : Q (.tup (cutD ds l u)) G3 := q3
      rw [e] at q3'
      exact hp _ (.tup ds) H3 G3 (.refl _) ⟨p, xs, rfl, h1, h2, hz⟩ R3 q3'
    · obtain ⟨k, r, R'⟩ := tup_new hq (cut_rel h2 l u) (Nat.le_trans (cutD_length _ _ _) hz) R3
      exact hp _ _ _ G3 k r R' q3
  | ref a =>
    cases r3
    obtain ⟨o, g, q3⟩ := q3
    obtain ⟨ds, il, q3, ho⟩ := lstO_is g q3
    obtain ⟨xs, h1, h2, hz⟩ := lstRd R3 il
    refine .inr ⟨a, xs, rfl, .inl h1, fun p hn => ?_⟩
    obtain ⟨k, R'⟩ := lst_new hn (cut_rel h2 l u) (Nat.le_trans (cutD_length _ _ _) hz) R3
    exact hp _ (.ref p) _ _ k rfl R' (q3 p (R3.gnone hn))
  | _ => exact (show False from q3).elim
end
end DL
set_option Elab.async false
set_option linter.all false
set_option maxRecDepth 100000
set_option maxHeartbeats 4000000
namespace DL
open PySem PySem.Spec L2

/-! ### o[i] = v -/
section
variable {κ : Type} [DecidableEq κ] {H : Hp} {f : κ → D} (hf : ∀ a b, f a = f b → a = b)
include hf
theorem any_key : ∀ {kvs : List (D × D)} {ks : List (κ × V)} (k : κ), kvs.map (·.1) = ks.map (fun q => f q.1) → (kvs.any fun kv => decide (kv.1 = f k)) = ks.any fun kv => decide (kv.1 = k)
  | [], [], k, _ => rfl
  | [], _ :: _, k, h => by simp at h
  | _ :: _, [], k, h => by simp at h
  | (d, e) :: kvs, (q, v) :: ks, k, h => by
    simp only [List.map_cons, List.cons.injEq] at h
    obtain ⟨h1, h2⟩ := h
    have ih := any_key (kvs := kvs) (ks := ks) k h2
    rw [List.any_cons, List.any_cons, ih]
    by_cases hq : q = k
    · subst hq; simp [h1]
    · have hd : ¬ d = f k := fun z => hq (hf _ _ (h1.symm.trans z))
      simp [hd, hq]
theorem repl_rel {e : D} {v : V} (r : Rel H e v) : ∀ {kvs : List (D × D)} {ks : List (κ × V)} (k : κ), kvs.map (·.1) = ks.map (fun q => f q.1) → RelL H (kvs.map (·.2)) (ks.map (·.2)) →
    (kvs.map fun kv => if kv.1 = f k then (kv.1, e) else kv).map (·.1) = (ks.map fun kv => if kv.1 = k then (kv.1, v) else kv).map (fun q => f q.1) ∧
    RelL H ((kvs.map fun kv => if kv.1 = f k then (kv.1, e) else kv).map (·.2)) ((ks.map fun kv => if kv.1 = k then (kv.1, v) else kv).map (·.2))
  | [], [], k, _, _ => ⟨rfl, rfl⟩
  | [], _ :: _, k, h, _ => by simp at h
  | _ :: _, [], k, h, _ => by simp at h
  | (d, e') :: kvs, (q, u) :: ks, k, h, rl => by
    simp only [List.map_cons, List.cons.injEq] at h
    obtain ⟨h1, h2⟩ := h
    have rl' : RelL H (e' :: kvs.map (·.2)) (u :: ks.map (·.2)) := rl
    obtain ⟨r1, r2⟩ := relL_cons.mp rl'
    obtain ⟨ih1, ih2⟩ := repl_rel r (kvs := kvs) (ks := ks) k h2 r2
    by_cases hq : q = k
    · subst hq
      simp only [List.map_cons, h1, if_true]
      exact ⟨by rw [ih1], relL_cons.mpr ⟨r, ih2⟩⟩
    · have hd : ¬ d = f k := fun z => hq (hf _ _ (h1.symm.trans z))
      simp only [List.map_cons, if_neg hd, if_neg hq]
      exact ⟨by rw [ih1, h1], relL_cons.mpr ⟨r1, ih2⟩⟩
theorem put_rel {e : D} {v : V} (r : Rel H e v) {kvs : List (D × D)} {ks : List (κ × V)} (k : κ) (h : kvs.map (·.1) = ks.map (fun q => f q.1)) (rl : RelL H (kvs.map (·.2)) (ks.map (·.2))) :
    (putD kvs (f k) e).map (·.1) = (putK ks k v).map (fun q => f q.1) ∧ RelL H ((putD kvs (f k) e).map (·.2)) ((putK ks k v).map (·.2)) := by
  unfold putD putK
  rw [any_key hf k h]
  by_cases z : (ks.any fun kv => decide (kv.1 = k)) = true
  · rw [if_pos z, if_pos z]
    exact repl_rel hf r k h rl
  · rw [if_neg z, if_neg z]
    refine ⟨by simp [h], ?_⟩
    rw [List.map_append, List.map_append]
    exact rl.append (.one r)
theorem drop_rel : ∀ {kvs : List (D × D)} {ks : List (κ × V)} (k : κ), kvs.map (·.1) = ks.map (fun q => f q.1) → RelL H (kvs.map (·.2)) (ks.map (·.2)) →
    (dropD kvs (f k)).map (·.1) = (dropK ks k).map (fun q => f q.1) ∧ RelL H ((dropD kvs (f k)).map (·.2)) ((dropK ks k).map (·.2))
  | [], [], k, _, _ => ⟨rfl, rfl⟩
  | [], _ :: _, k, h, _ => by simp at h
  | _ :: _, [], k, h, _ => by simp at h
  | (d, e') :: kvs, (q, u) :: ks, k, h, rl => by
    simp only [List.map_cons, List.cons.injEq] at h
    obtain ⟨h1, h2⟩ := h
    have rl' : RelL H (e' :: kvs.map (·.2)) (u :: ks.map (·.2)) := rl
    obtain ⟨r1, r2⟩ := relL_cons.mp rl'
    obtain ⟨ih1, ih2⟩ := drop_rel (kvs := kvs) (ks := ks) k h2 r2
    unfold dropD dropK at ih1 ih2 ⊢
    by_cases hq : q = k
    · subst hq
      simp only [List.filter_cons, h1, ne_eq, not_true_eq_false, decide_false, Bool.false_eq_true, if_false]
      exact ⟨ih1, ih2⟩
    · have hd : ¬ d = f k := fun z => hq (hf _ _ (h1.symm.trans z))
      simp only [List.filter_cons, ne_eq, hd, hq, not_false_eq_true, decide_true, if_true, List.map_cons]
      exact ⟨by rw [ih1, h1], relL_cons.mpr ⟨r1, ih2⟩⟩
end
theorem putD_length (kvs : List (D × D)) (d e : D) : (putD kvs d e).length ≤ kvs.length + 1 := by
  unfold putD
  split <;> simp
theorem dropD_length (kvs : List (D × D)) (d : D) : (dropD kvs d).length ≤ kvs.length := List.length_filter_le _ _
def setR : D → D → D → Gp → (Gp → Prop) → Prop := fun o i v G Q => match o with
  | .ref a => ∃ ob, G a = some ob ∧ (match ob with
    | .lst ds => ∃ k j, i = .int k ∧ ixN ds.length k = some j ∧ Q (put G a (.lst (ds.set j v)))
    | .dict t kvs => keyOk t i = true ∧ kvs.length < sizeLine ∧ Q (put G a (.dict t (putD kvs i v)))
    | _ => False)
  | _ => False
def rSetD : TSet := fun o i v H Q => ∃ a H', o = .ref a ∧ DPut H a i v H' ∧ Q H'
theorem set_dict {X : Cx} (hu : X.A.units + 1 < cLine) : PSet X rSetD := by
  intro pins s σ H o i v ov iv u Q I ro ri rv h
  obtain ⟨a, H', rfl, g, q⟩ := h
  cases ro
  exact d_setItem hu I g ri rv fun s' I' => ⟨H', I', q⟩
theorem psetOr {X : Cx} {r r' : TSet} (h : PSet X r) (h' : PSet X r') : PSet X (fun o i v H Q => r o i v H Q ∨ r' o i v H Q) := by
  intro pins s σ H o i v ov iv u Q I ro ri rv q
  rcases q with q | q
  · exact h pins s σ H o i v ov iv u Q I ro ri rv q
  · exact h' pins s σ H o i v ov iv u Q I ro ri rv q
def dgSub (to ti : DTE) : DTG := fun v sd G Q => to sd G fun o G1 => ti sd G1 fun i G2 => setR o i v G2 fun G3 => Q sd G3
/-- where the dict's put goes -/
theorem dput_at {K : PySem.W.Frag} {B : Bx} {H : Hp} {G : Gp} {a : Addr} {t : Bool} {kvs : List (D × D)} (R : Rep K B H G) (g : G a = some (.dict t kvs)) {d e : D} {v u : V} (r : Rel H d v) (re : Rel H e u) (hk : keyOk t d = true) (hl : kvs.length < sizeLine) :
    ∃ H', DPut H a v u H' ∧ Kp H H' ∧ Rep K B H' (put G a (.dict t (putD kvs d e))) := by
  have x := R.at_ a _ g
  have hz : (putD kvs d e).length ≤ sizeLine := Nat.le_trans (putD_length _ _ _) hl
  cases t with
  | false =>
    obtain ⟨k, hk⟩ := Option.isSome_iff_exists.mp (show (dKey d).isSome = true from hk)
    have e := dKey_eq hk
    subst e
    have ev := rel_kD r
    subst ev
    obtain ⟨_, ks, h1, h2, h3⟩ := x
    have hl2 : ks.length < sizeLine := by
      have := congrArg List.length h2
      simp at this
      omega
    have kw : Kp H (upd H a (.dK (putK ks k u))) := .write h1 fun _ z => nomatch z
    obtain ⟨q1, q2⟩ := put_rel (f := kD) (fun _ _ => kD_inj) (re.mono kw) k h2 (h3.mono kw)
    exact ⟨_, DPut.k h1 hl2, kw, R.write h1 (fun _ z => nomatch z) ⟨hz, _, upd_same, q1, q2⟩⟩
  | true =>
    cases d with
    | tup ds =>
      obtain ⟨k, hk⟩ := Option.isSome_iff_exists.mp (show (dKeys ds).isSome = true from hk)
      have e := dKeys_eq hk
      subst e
      obtain ⟨b, xs, rfl, hb, rl, _⟩ := r
      have ev := rel_kDs rl
      subst ev
      obtain ⟨_, ks, h1, h2, h3⟩ := x
      have hl2 : ks.length < sizeLine := by
        have := congrArg List.length h2
        simp at this
        omega
      have kw : Kp H (upd H a (.dT (putK ks k u))) := .write h1 fun _ z => nomatch z
      obtain ⟨q1, q2⟩ := put_rel (f := fun k : List Key => D.tup (k.map kD)) (fun _ _ z => kDs_inj (D.tup.inj z)) (re.mono kw) k h2 (h3.mono kw)
      exact ⟨_, DPut.t h1 hb hl2, kw, R.write h1 (fun _ z => nomatch z) ⟨hz, _, upd_same, q1, q2⟩⟩
    | _ => exact absurd hk (by simp [keyOk])
section
variable {X : Cx} {B : Bx} {o i : Expr} {to ti : DTE} {pos : Pos}
theorem dg_sub (hu : X.A.units + 1 < cLine) (ho : DE X B o to) (hi : DE X B i ti)
    (ha : ∀ v, assign (.Subscript o i pos) X.env v = (do
      let ov ← holding [v] (eval o X.env)
      let iv ← holding [v, ov] (eval i X.env)
      standAt pos
      holding [v, ov, iv] (setItem ov iv v)
      release [v, ov, iv] []) := by intro _; rfl) : DG X B (.Subscript o i pos) [] (dgSub to ti) := by
  obtain ⟨to', po, ho⟩ := ho.ex
  obtain ⟨ti', pi, hi⟩ := hi.ex
  refine ⟨_, pg_sub po pi (psetOr set_list (set_dict hu)) ha, fun v d σ H sd G Q P r hS R t hp => ?_⟩
  refine ho σ H sd G _ _ hS R t fun x dx H1 G1 k1 r1 R1 q1 => ?_
  refine hi σ H1 sd G1 _ _ (hS.mono k1) R1 q1 fun y dy H2 G2 k2 r2 R2 q2 => ?_
  have r1 := r1.mono k2
  have rv := r.mono (k1.trans k2)
  cases dx with
  | ref a =>
    cases r1
    obtain ⟨ob, g, q⟩ := q2
    cases ob with
    | lst ds =>
      obtain ⟨k, j, e1, e2, q⟩ := q
      subst e1
      cases r2
      obtain ⟨xs, h1, h2, hz⟩ := lst_at R2 g
      have kw : Kp H2 (upd H2 a (.lst (xs.set j v))) := .write h1 fun _ z => nomatch z
      exact .inl ⟨a, xs, k, j, rfl, rfl, h1, by rw [← h2.length]; exact e2, hp σ sd _ _ (.refl _ σ) (k1.trans (k2.trans kw)) (hS.mono (k1.trans (k2.trans kw)))
        (R2.write (o := .lst (ds.set j d)) h1 (fun _ z => nomatch z) ⟨_, upd_same, RelL.set (rv.mono kw) (h2.mono kw) j, by rw [List.length_set]; exact hz⟩) q⟩
    | dict t kvs =>
      obtain ⟨e1, e2, q⟩ := q
      obtain ⟨H3, g3, k3, R3⟩ := dput_at R2 g r2 rv e1 e2
      exact .inr ⟨a, H3, rfl, g3, hp σ sd H3 _ (.refl _ σ) (k1.trans (k2.trans k3)) (hS.mono (k1.trans (k2.trans k3))) R3 q⟩
    | _ => exact (show False from q).elim
  | _ => exact (show False from q2).elim
end
end DL
set_option Elab.async false
set_option linter.all false
set_option maxRecDepth 100000
set_option maxHeartbeats 4000000
namespace DL
open PySem PySem.Spec L2

/-! ### built-ins called -/
def DCall (X : Cx) (B : Bx) (f : Value) (rD : List D → Gp → DQ → Prop) : Prop :=
  ∃ r : List V → Hp → VK → Prop, CallR X f r ∧ ∀ H G xs ds Q P, RelL H ds xs → Rep X.K B H G → rD ds G Q → PostE X.K B H Q P → r xs H P
def dCB (rD : List D → Gp → DQ → Prop) (t : DTA) : DTE := fun sd G Q => t sd G fun ds G1 => rD ds G1 Q
section
variable {X : Cx} {B : Bx} {x : Str} {id T : String} {e : Expr} {es : List Expr} {p pos : Pos} {t : DTA} {rD : List D → Gp → DQ → Prop}
theorem de_callB (hc : DCall X B (.builtin id) rD) (hg : Gl X x) (hm : X.mg x = none) (hv : bootBuiltins x = some (.builtin id)) (ha : DA X B (e :: es) t)
    (hn : x ≠ "__name__" := by decide) (hd : (x == ("__debug__" : Str)) = false := by decide) (he : starEach (e :: es) X.env = (false, eval e X.env) :: starEach es X.env := by rfl) (hpl : (backTo pos (starEach es X.env)).any (·.1) = false := by rfl) :
    DE X B (.Call (.Name x p) (e :: es) [] pos) (dCB rD t) := by
  obtain ⟨r, hc, hr⟩ := hc
  obtain ⟨t', pa, ha⟩ := ha.ex
  refine ⟨_, pe_callB hc hg hm hv pa hn hd he hpl, fun σ H sd G Q P hS R t hp => ?_⟩
  exact ha σ H sd G _ _ hS R t fun vs ds H1 G1 _ k1 r1 R1 q1 => hr H1 G1 vs ds Q P r1 R1 q1 (hp.mono k1)
theorem de_callTy (hc : DCall X B (.type T) rD) (hg : Gl X x) (hm : X.mg x = none) (hv : bootBuiltins x = some (.type T)) (ha : DA X B (e :: es) t)
    (hn : x ≠ "__name__" := by decide) (hd : (x == ("__debug__" : Str)) = false := by decide) (he : starEach (e :: es) X.env = (false, eval e X.env) :: starEach es X.env := by rfl) (hpl : (backTo pos (starEach es X.env)).any (·.1) = false := by rfl) :
    DE X B (.Call (.Name x p) (e :: es) [] pos) (dCB rD t) := by
  obtain ⟨r, hc, hr⟩ := hc
  obtain ⟨t', pa, ha⟩ := ha.ex
  refine ⟨_, pe_callTy hc hg hm hv pa hn hd he hpl, fun σ H sd G Q P hS R t hp => ?_⟩
  exact ha σ H sd G _ _ hS R t fun vs ds H1 G1 _ k1 r1 R1 q1 => hr H1 G1 vs ds Q P r1 R1 q1 (hp.mono k1)
theorem rel1 {H : Hp} {d : D} {xs : List V} (r : RelL H [d] xs) : ∃ x, xs = [x] ∧ Rel H d x := by
  obtain ⟨x, r, e, h1, h2⟩ := r
  cases (relL_nil.mp h2)
  exact ⟨x, e, h1⟩
theorem rel2 {H : Hp} {d e : D} {xs : List V} (r : RelL H [d, e] xs) : ∃ x y, xs = [x, y] ∧ Rel H d x ∧ Rel H e y := by
  obtain ⟨x, r, e, h1, y, r', e', h2, h3⟩ := r
  cases (relL_nil.mp h3)
  subst e'
  exact ⟨x, y, e, h1, h2⟩
/-- len -/
def lenR : List D → Gp → DQ → Prop := fun ds G Q => match ds with
  | [.tup xs] => Q (.int (xs.length : Nat)) G
  | [.str z] => z.length ≤ sizeLine ∧ Q (.int (z.length : Nat)) G
  | [.ref a] => ∃ o, G a = some o ∧ (match o with
    | .lst ds => Q (.int (ds.length : Nat)) G
    | .rol ds => Q (.int (ds.length : Nat)) G
    | .dict _ kvs => Q (.int (kvs.length : Nat)) G
    | _ => False)
  | _ => False
theorem dc_len : DCall X B (.builtin "len") lenR := by
  refine ⟨_, (call_len.or (call_lenD.or call_len_dT)), fun H G xs ds Q P r R q hp => ?_⟩
  match ds, q, r with
  | [.tup ys], q, r =>
    obtain ⟨x, rfl, rx⟩ := rel1 r
    obtain ⟨a, vs, rfl, h1, h2, _⟩ := rx
    exact .inl ⟨_, vs.length, rfl, .inr ⟨vs, SqT.of h1, rfl⟩, by rw [← h2.length]; exact hp _ (.int _) H G (.refl H) rfl R q⟩
  | [.str z], q, r =>
    obtain ⟨x, rfl, rx⟩ := rel1 r
    obtain ⟨rfl, _⟩ := rx
    exact .inl ⟨_, z.length, rfl, ⟨q.1, rfl⟩, hp _ (.int _) H G (.refl H) rfl R q.2⟩
  | [.ref a], q, r =>
    obtain ⟨x, rfl, rx⟩ := rel1 r
    cases rx
    obtain ⟨o, g, q⟩ := q
    cases o with
    | lst ds =>
      obtain ⟨vs, h1, h2, _⟩ := lstRd R (.inl g)
      exact .inl ⟨_, vs.length, rfl, .inl ⟨vs, .inl h1, rfl⟩, by rw [← h2.length]; exact hp _ (.int _) H G (.refl H) rfl R q⟩
    | rol ds =>
      obtain ⟨vs, h1, h2, _⟩ := lstRd R (.inr g)
      exact .inl ⟨_, vs.length, rfl, .inl ⟨vs, .inl h1, rfl⟩, by rw [← h2.length]; exact hp _ (.int _) H G (.refl H) rfl R q⟩
    | dict t kvs =>
      have z := R.at_ a _ g
      cases t with
      | false =>
        obtain ⟨_, ks, h1, h2, _⟩ := z
        have hl : ks.length = kvs.length := by simpa using (congrArg List.length h2).symm
        exact .inr (.inl ⟨a, ks, rfl, h1, by rw [hl]; exact hp _ (.int _) H G (.refl H) rfl R q⟩)
      | true =>
        obtain ⟨_, ks, h1, h2, _⟩ := z
        have hl : ks.length = kvs.length := by simpa using (congrArg List.length h2).symm
        exact .inr (.inr ⟨a, ks, rfl, h1, by rw [hl]; exact hp _ (.int _) H G (.refl H) rfl R q⟩)
    | _ => exact (show False from q).elim
/-- isinstance(x, T) of a built-in class -/
def tyN (G : Gp) : D → Option String
  | .non => some "NoneType"
  | .bl _ => some "bool"
  | .int _ => some "int"
  | .str _ => some "str"
  | .tup _ => some "tuple"
  | .ref a => (match G a with
    | some (.lst _) => some "list"
    | some (.rol _) => some "list"
    | some (.dict _ _) => some "dict"
    | _ => none)
  | .ty _ => none
@[simp] def isTy (a T : String) : Bool := a == T || (a == "bool" && T == "int")
def tyNames : List String := ["NoneType", "bool", "int", "str", "tuple", "list", "dict"]
theorem kit_all : ∀ a ∈ tyNames, ∀ b ∈ tyNames, kitB a b = some (isTy a b) := by decide +kernel
def isiR : List D → Gp → DQ → Prop := fun ds G Q => match ds with
  | [d, .ty T] => T ∈ tyNames ∧ ∃ a, tyN G d = some a ∧ Q (.bl (isTy a T)) G
  | _ => False
theorem tyN_ok {K : PySem.W.Frag} {H : Hp} {G : Gp} {d : D} {v : V} {a : String} (R : Rep K B H G) (r : Rel H d v) (h : tyN G d = some a) : a ∈ tyNames ∧ TyX K H v (.type a) := by
  cases d with
  | non => cases r; cases h; exact ⟨by decide, .base .non⟩
  | bl b => cases r; cases h; exact ⟨by decide, .base (.bl b)⟩
  | int i => cases r; cases h; exact ⟨by decide, .base (.int i)⟩
  | str s => obtain ⟨rfl, _⟩ := r; cases h; exact ⟨by decide, .base (.str s)⟩
  | tup ds => obtain ⟨p, xs, rfl, h1, _⟩ := r; cases h; exact ⟨by decide, .base (.tup h1)⟩
  | ref p =>
    cases r
    simp only [tyN] at h
    cases g : G p with
    | none => rw [g] at h; cases h
    | some o =>
      rw [g] at h
      cases o with
      | lst ds => cases h; obtain ⟨xs, h1, _⟩ := R.at_ p _ g; exact ⟨by decide, .base (.lst h1)⟩
      | rol ds =>
        cases h
        obtain ⟨xs, h1 | ⟨ob, h1⟩, _⟩ := R.at_ p _ g
        · exact ⟨by decide, .base (.lst h1)⟩
        · exact ⟨by decide, .base (.frz h1)⟩
      | dict t kvs =>
        cases h
        have z := R.at_ p _ g
        cases t with
        | false => obtain ⟨_, ks, h1, _⟩ := z; exact ⟨by decide, .base (.dK h1)⟩
        | true => obtain ⟨_, ks, h1, _⟩ := z; exact ⟨by decide, .base (.dT h1)⟩
      | _ => cases h
  | ty n => cases h
theorem dc_isi : DCall X B (.builtin "isinstance") isiR := by
  refine ⟨_, call_isi, fun H G xs ds Q P r R q hp => ?_⟩
  match ds, q, r with
  | [d, .ty T], q, r =>
    obtain ⟨x, y, rfl, r1, r2⟩ := rel2 r
    cases r2
    obtain ⟨hT, a, h, q⟩ := q
    obtain ⟨hm, ty⟩ := tyN_ok R r1 h
    exact ⟨x, .ty T, .type a, .type T, _, rfl, .ty T, ty, kit_ty (kit_all a hm T hT), hp _ (.bl _) H G (.refl H) rfl R q⟩
theorem de_ty {n : Str} {T : String} (hg : Gl X n) (hm : X.mg n = none) (hv : bootBuiltins n = some (.type T)) (hn : n ≠ "__name__" := by decide) (hd : (n == ("__debug__" : Str)) = false := by decide) : DE X B (.Name n pos) (dC (.ty T)) :=
  de_of_c (pe_bltn (v := .ty T) hg hm hv rfl hn hd) fun _ => rfl
/-- a module's constant -/
theorem de_gint {n : Str} {i : Int} (hg : Gl X n) (hm : ∃ t, X.mg n = some (.int i t)) (hd : (n == ("__debug__" : Str)) = false := by decide) : DE X B (.Name n pos) (dC (.int i)) := by
  obtain ⟨t, hm⟩ := hm
  exact de_of_c (pe_glob (v := .int i) hg hm ⟨t, rfl⟩ hd) fun _ => rfl
theorem de_gstr {n s : Str} (hg : Gl X n) (hm : ∃ t, X.mg n = some (.str s t)) (ok : OkS s := by decide +kernel) (hd : (n == ("__debug__" : Str)) = false := by decide) : DE X B (.Name n pos) (dC (.str s)) := by
  obtain ⟨t, hm⟩ := hm
  exact de_of_c (pe_glob (v := .str s) hg hm ⟨t, rfl⟩ hd) fun _ => ⟨rfl, ok⟩
/-- int(x), str(x), tuple(x), list(x), max(x, y) -/
def intR : List D → Gp → DQ → Prop := fun ds G Q => match ds with
  | [.int i] => Q (.int i) G
  | [.bl b] => Q (.int (if b then 1 else 0)) G
  | _ => False
theorem dc_int : DCall X B (.type "int") intR := by
  refine ⟨_, call_int1, fun H G xs ds Q P r R q hp => ?_⟩
  match ds, q, r with
  | [.int i], q, r =>
    obtain ⟨x, rfl, rx⟩ := rel1 r
    cases rx
    exact .inl ⟨i, rfl, hp _ (.int _) H G (.refl H) rfl R q⟩
  | [.bl b], q, r =>
    obtain ⟨x, rfl, rx⟩ := rel1 r
    cases rx
    exact .inr ⟨b, rfl, hp _ (.int _) H G (.refl H) rfl R q⟩
def tupleR : List D → Gp → DQ → Prop := fun ds G Q => match ds with
  | [.tup ds] => Q (.tup ds) G
  | [.ref a] => ∃ o, G a = some o ∧ lstO o fun ds => Q (.tup ds) G
  | _ => False
theorem dc_tuple : DCall X B (.type "tuple") tupleR := by
  refine ⟨_, call_tuple_of, fun H G xs ds Q P r R q hp => ?_⟩
  match ds, q, r with
  | [.tup ys], q, r =>
    obtain ⟨x, rfl, rx⟩ := rel1 r
    obtain ⟨a, vs, rfl, h1, h2, hz⟩ := rx
    exact ⟨a, vs, rfl, .inr ⟨SqT.of h1, hp _ (.tup ys) H G (.refl H) ⟨a, vs, rfl, h1, h2, hz⟩ R q⟩⟩
  | [.ref a], q, r =>
    obtain ⟨x, rfl, rx⟩ := rel1 r
    cases rx
    obtain ⟨o, g, q⟩ := q
    obtain ⟨ds, il, q, ho⟩ := lstO_is g q
    obtain ⟨vs, h1, h2, hz⟩ := lstRd R il
    refine ⟨a, vs, rfl, .inl ⟨.inl h1, fun p hn => ?_⟩⟩
    obtain ⟨k, r, R'⟩ := tup_new hn h2 hz R
    exact hp _ _ _ G k r R' q
def listR : List D → Gp → DQ → Prop := fun ds G Q => match ds with
  | [.tup ds] => ∀ p, Nw G p → Q (.ref p) (put G p (.lst ds))
  | [.ref a] => ∃ o, G a = some o ∧ lstO o fun ds => ∀ p, Nw G p → Q (.ref p) (put G p (.lst ds))
  | _ => False
theorem dc_list : DCall X B (.type "list") listR := by
  refine ⟨_, call_list_of, fun H G xs ds Q P r R q hp => ?_⟩
  match ds, q, r with
  | [.tup ys], q, r =>
    obtain ⟨x, rfl, rx⟩ := rel1 r
    obtain ⟨a, vs, rfl, h1, h2, hz⟩ := rx
    refine ⟨a, vs, rfl, .inr (SqT.of h1), fun p hn => ?_⟩
    obtain ⟨k, R'⟩ := lst_new hn h2 hz R
    exact hp _ (.ref p) _ _ k rfl R' (q p (R.gnone hn))
  | [.ref a], q, r =>
    obtain ⟨x, rfl, rx⟩ := rel1 r
    cases rx
    obtain ⟨o, g, q⟩ := q
    obtain ⟨ds, il, q, ho⟩ := lstO_is g q
    obtain ⟨vs, h1, h2, hz⟩ := lstRd R il
    refine ⟨a, vs, rfl, .inl (.inl h1), fun p hn => ?_⟩
    obtain ⟨k, R'⟩ := lst_new hn h2 hz R
    exact hp _ (.ref p) _ _ k rfl R' (q p (R.gnone hn))
def maxR : List D → Gp → DQ → Prop := fun ds G Q => match ds with
  | [.int i, .int j] => Q (.int (max i j)) G
  | _ => False
theorem dc_max (hc : X.calm = true) : DCall X B (.builtin "max") maxR := by
  refine ⟨_, call_max2 hc, fun H G xs ds Q P r R q hp => ?_⟩
  match ds, q, r with
  | [.int i, .int j], q, r =>
    obtain ⟨x, y, rfl, r1, r2⟩ := rel2 r
    cases r1
    cases r2
    have e : (if j > i then j else i) = max i j := by omega
    exact ⟨i, j, rfl, hp _ (.int _) H G (.refl H) (by rw [e]; rfl) R q⟩
end
end DL
set_option Elab.async false
set_option linter.all false
set_option maxRecDepth 100000
set_option maxHeartbeats 4000000
namespace DL
open PySem PySem.Spec L2

/-! ### len(set(ints)) -/
/-- the first of equal ones stays -/
def dd (ns : List Int) : List Int := ns.foldl (fun acc x => if acc.any (· == x) then acc else acc ++ [x]) []
theorem dd_go : ∀ (ns acc : List Int), acc.Nodup → (ns.foldl (fun acc x => if acc.any (· == x) then acc else acc ++ [x]) acc).Nodup ∧ ∀ x, x ∈ ns.foldl (fun acc x => if acc.any (· == x) then acc else acc ++ [x]) acc ↔ x ∈ acc ∨ x ∈ ns
  | [], acc, h => ⟨h, by simp⟩
  | n :: ns, acc, h => by
    rw [List.foldl_cons]
    by_cases hn : acc.any (· == n) = true
    · rw [if_pos hn]
      obtain ⟨h1, h2⟩ := dd_go ns acc h
      refine ⟨h1, fun x => ?_⟩
      rw [h2]
      have hm : n ∈ acc := by simpa using hn
      constructor
      · rintro (z | z)
        · exact .inl z
        · exact .inr (List.mem_cons_of_mem _ z)
      · rintro (z | z)
        · exact .inl z
        · rcases List.mem_cons.mp z with rfl | z
          · exact .inl hm
          · exact .inr z
    · rw [if_neg hn]
      have hm : n ∉ acc := by simpa using hn
      obtain ⟨h1, h2⟩ := dd_go ns (acc ++ [n]) (by
        rw [List.nodup_append]
        exact ⟨h, by simp, fun a ha b hb => by
          have e : b = n := by simpa using hb
          rw [e]
          exact fun z => hm (z ▸ ha)⟩)
      refine ⟨h1, fun x => ?_⟩
      rw [h2]
      simp [or_assoc]
theorem dd_nodup (ns : List Int) : (dd ns).Nodup := (dd_go ns [] (by simp)).1
theorem dd_mem (ns : List Int) (x : Int) : x ∈ dd ns ↔ x ∈ ns := ((dd_go ns [] List.nodup_nil).2 x).trans ⟨fun h => h.elim (fun z => nomatch z) id, .inr⟩
theorem dd_length {ns ms : List Int} (h : ms.Nodup) (hm : ∀ x, x ∈ ms ↔ x ∈ ns) : ms.length = (dd ns).length :=
  ((List.perm_ext_iff_of_nodup h (dd_nodup ns)).mpr fun x => (hm x).trans (dd_mem ns x).symm).length_eq
theorem dd_of_nodup {ns : List Int} (h : ns.Nodup) : (dd ns).length = ns.length := (dd_length h fun _ => Iff.rfl).symm
theorem nodup_of_dd {ns : List Int} (h : (dd ns).length = ns.length) : ns.Nodup := by
  have key : ∀ ms : List Int, ¬ ms.Nodup → (dd ms).length < ms.length := by
    intro ms hn
    obtain ⟨x, hx⟩ : ∃ x, 2 ≤ ms.count x := by
      refine Classical.byContradiction fun z => hn ?_
      rw [List.nodup_iff_count]
      intro a
      refine Nat.le_of_not_lt fun q => z ⟨a, q⟩
    have h1 : (dd ms).length ≤ (ms.erase x).length := (dd_nodup ms).length_le_of_subset fun y hy => by
      have hy' := (dd_mem ms y).mp hy
      by_cases e : y = x
      · subst e
        rw [← List.count_pos_iff, List.count_erase_self]
        omega
      · exact (List.mem_erase_of_ne e).mpr hy'
    have hm : x ∈ ms := List.count_pos_iff.mp (by omega)
    rw [List.length_erase_of_mem hm] at h1
    have := List.length_pos_of_mem hm
    omega
  by_cases hn : ns.Nodup
  · exact hn
  · exact absurd h (Nat.ne_of_lt (key ns hn))
theorem firstMet_take (ns : List Int) : ∀ i, i ≤ ns.length → PyProof.Rows.firstMet (fun i => ns.getD i 0) i = dd (ns.take i)
  | 0, _ => rfl
  | i + 1, hi => by
    have e2 : ns.take (i + 1) = ns.take i ++ [ns[i]] := by rw [List.take_add_one, List.getElem?_eq_getElem hi] <;> rfl
    have e1 : ns.getD i 0 = ns[i] := by rw [List.getD_eq_getElem?_getD, List.getElem?_eq_getElem hi] <;> rfl
    rw [PyProof.Rows.firstMet_succ, firstMet_take ns i (Nat.le_of_lt hi), e2, e1]
    unfold dd
    rw [List.foldl_append]
    rfl
def dLenSet (ta : DTE) : DTE := fun sd G Q => ta sd G fun d G1 => ∃ ns : List Int, ns.length ≤ 4000 ∧ Q (.int ((dd ns).length : Nat)) G1 ∧ (match d with
  | .tup ds => ds = ns.map .int
  | .ref a => ∃ o, G1 a = some o ∧ lstO o fun ds => ds = ns.map .int
  | _ => False)
def tLenSetA (K : PySem.W.Frag) (ta : TE) : TE := fun σ H Q => ta σ H fun x H1 => ∃ (l : Addr) (ns : List Int), x = .ref l ∧ (SqL K H1 l (ns.map V.int) ∨ SqT K H1 l (ns.map V.int)) ∧ ns.length ≤ 4000 ∧ Q (.int ((dd ns).length : Nat)) H1
section
open PyProof.Rows
theorem pe_lenSetA {X : Cx} {a : Expr} {ta : TE} {p p2 q pos : Pos} (hg : Gl X "len") (hm : X.mg "len" = none) (hg2 : Gl X "set") (hm2 : X.mg "set" = none) (ha : PE X a ta) (hc : X.calm = true := by rfl)
    (na : starEach [a] X.env = (false, eval a X.env) :: starEach [] X.env := by rfl) : PE X (.Call (.Name "len" p) [.Call (.Name "set" p2) [a] [] q] [] pos) (tLenSetA X.K ta) := by
  refine ⟨fun pins s σ H Q I h => ?_⟩
  refine Call_ (ld_blt I hg hm PySem.boot_len ?_)
  refine PyProof.Rows.callWith_builtin1 (PyProof.Rows.args_cons ?_ rfl) rfl rfl
  refine Call_ (ld_blt I hg2 hm2 (by decide +kernel : bootBuiltins "set" = some (.type "set")) ?_)
  refine PyProof.Rows.callWith_type1 (PyProof.Rows.args_cons (thn (ha.run pins s σ H _ I h) fun v s1 ⟨x, H1, I1, r1, q1⟩ => PyProof.Rows.args_nil ?_) na) na rfl
  obtain ⟨l, ns, rfl, hq, hl, q1⟩ := q1
  cases r1
  rcases hq with hq | hq
  · obtain ⟨its, r, pl, hz⟩ := I1.list hq
    have hlen : its.toArray.size = ns.length := by rw [List.size_toArray, ← r.length, List.length_map]
    refine call_set_list (I1.ok.hd hc) pl.isList (ns := ns) (by simpa using r.ints) (by rw [hlen]; unfold scanBound; omega) fun h' tk hS hk => ?_
    refine PyProof.Rows.args_nil ?_
    rw [hlen, firstMet_take ns ns.length (Nat.le_refl _), List.take_length] at hS
    obtain ⟨o, es, ep, t, ho, hex, hd, _, _, _, hf, hn⟩ := hS
    have I2 : Inv X pins σ H1 { s1 with heap := h', toks := tk } := I1.kept fun b o e => hk b o (Heap.lt_size e) e
    have hdd : (dd ns).length ≤ ns.length := (dd_nodup ns).length_le_of_subset fun y hy => (dd_mem ns y).mp hy
    exact PySem.call_len_set ho hex hd hf (by rw [hn] <;> omega) ⟨.int (dd ns).length, H1, I2.tok _, ⟨_, by rw [hn]⟩, q1⟩
  · obtain ⟨its, r, pl, hz⟩ := I1.tuple hq
    have hit : IntsAre its ns := r.ints
    refine L2.call_set_tupI ns (I1.ok.hd hc) (show s1.heap.IsTuple l its.toArray from pl) (by simpa using hit) (by unfold scanBound; omega) fun h' tk c R1 hcn hk => ?_
    refine PyProof.Rows.args_nil ?_
    obtain ⟨o, es, ep, t, ho, hex, hd, _, nd, hmem, _, hf, hn, _⟩ := R1
    have I2 : Inv X pins σ H1 { s1 with heap := h', toks := tk } := I1.kept fun b o e => hk b o e
    have hc2 : es.size = (dd ns).length := by
      have := dd_length (ns := ns) nd fun x => (hmem x).symm.trans (by simp)
      rw [← this]
      simp
    exact PySem.call_len_set ho hex hd hf (by rw [hn] <;> omega) ⟨.int (dd ns).length, H1, I2.tok _, ⟨_, by rw [hc2]⟩, q1⟩
end
end DL
namespace DL
open PySem PySem.Spec L2
section
variable {X : Cx} {B : Bx} {a : Expr} {ta : DTE} {p p2 q pos : Pos}
theorem rel_ints {H : Hp} : ∀ {ns : List Int} {xs : List V}, RelL H (ns.map D.int) xs → xs = ns.map V.int
  | [], xs, r => relL_nil.mp r
  | n :: ns, xs, ⟨x, r, e, h1, h2⟩ => by
    rw [e, show x = V.int n from h1, rel_ints h2]
    rfl
theorem de_lenSet (hg : Gl X "len") (hm : X.mg "len" = none) (hg2 : Gl X "set") (hm2 : X.mg "set" = none) (ha : DE X B a ta) (hc : X.calm = true := by rfl)
    (na : starEach [a] X.env = (false, eval a X.env) :: starEach [] X.env := by rfl) : DE X B (.Call (.Name "len" p) [.Call (.Name "set" p2) [a] [] q] [] pos) (dLenSet ta) := by
  obtain ⟨ta', pa, ha⟩ := ha.ex
  refine ⟨_, pe_lenSetA hg hm hg2 hm2 pa hc na, fun σ H sd G Q P hS R t hp => ?_⟩
  refine ha σ H sd G _ _ hS R t fun v d H1 G1 k1 r1 R1 q1 => ?_
  obtain ⟨ns, h1, h2, h3⟩ := q1
  cases d with
  | tup ds =>
    have e : ds = ns.map .int := h3
    subst e
    obtain ⟨l, xs, rfl, e1, e2, _⟩ := r1
    cases rel_ints e2
    exact ⟨l, ns, rfl, .inr (SqT.of e1), h1, hp _ (.int _) H1 G1 k1 rfl R1 h2⟩
  | ref l =>
    cases r1
    obtain ⟨o, g, h3⟩ := h3
    obtain ⟨ds, il, e, _⟩ := lstO_is g h3
    subst e
    obtain ⟨xs, e1, e2, _⟩ := lstRd R1 il
    cases rel_ints e2
    exact ⟨l, ns, rfl, .inl (.inl e1), h1, hp _ (.int _) H1 G1 k1 rfl R1 h2⟩
  | _ => exact (show False from h3).elim
/-- list(range(n)) -/
def dListRng (ta : DTE) : DTE := fun sd G Q => ta sd G fun d G1 => match d with
  | .int n => (0 ≤ n ∧ n ≤ 1000000) ∧ ∀ p, Nw G1 p → Q (.ref p) (put G1 p (.lst (rngD 0 n.toNat)))
  | _ => False
theorem rngD_rel {H : Hp} (lo : Int) : ∀ n : Nat, RelL H (rngD lo n) ((List.range n).map fun i => V.int (lo + (i : Nat)))
  | 0 => rfl
  | n + 1 => by
    unfold rngD
    rw [List.range_succ, List.map_append, List.map_append]
    exact (rngD_rel lo n).append (.one rfl)
theorem de_listRng (hc : X.calm = true) (hg0 : Gl X "list") (hm0 : X.mg "list" = none) (hg : Gl X "range") (hm : X.mg "range" = none) (ha : DE X B a ta)
    (na : starEach [a] X.env = (false, eval a X.env) :: starEach [] X.env := by rfl) (na2 : starEach [.Call (.Name "range" p2) [a] [] q] X.env = (false, eval (.Call (.Name "range" p2) [a] [] q) X.env) :: starEach [] X.env := by rfl) :
    DE X B (.Call (.Name "list" p) [.Call (.Name "range" p2) [a] [] q] [] pos) (dListRng ta) := by
  obtain ⟨ta', pa, ha⟩ := ha.ex
  refine ⟨_, pe_listRg hc hg0 hm0 (prg_1 hg hm pa na) na2, fun σ H sd G Q P hS R t hp => ?_⟩
  refine ha σ H sd G _ _ hS R t fun v d H1 G1 k1 r1 R1 q1 => ?_
  cases d with
  | int n =>
    cases r1
    obtain ⟨⟨z1, z2⟩, q1⟩ := q1
    refine ⟨n, rfl, .of_le (by omega) (by omega) (by omega) (by omega), fun p hn => ?_⟩
    have e : rgV 0 n = (List.range n.toNat).map fun i => V.int (0 + (i : Nat)) := by unfold rgV; rw [Int.sub_zero]
    rw [e]
    obtain ⟨k, R'⟩ := lst_new hn (rngD_rel 0 n.toNat) (by simp [rngD, sizeLine_eq]; omega) R1
    exact hp _ (.ref p) _ _ (k1.trans k) rfl R' (q1 p (R1.gnone hn))
  | _ => exact (show False from q1).elim
end

/-! ### methods of built-in types -/
def tyD (T : String) (d : D) (G : Gp) : Prop := match d with
  | .str _ => T = "str"
  | .ref a => ∃ o, G a = some o ∧ (match o with
    | .lst _ => T = "list"
    | .rol _ => T = "list"
    | .dict _ _ => T = "dict"
    | _ => False)
  | _ => False
theorem tyD_ok {K : PySem.W.Frag} {B : Bx} {H : Hp} {G : Gp} {d : D} {v : V} {T : String} (R : Rep K B H G) (r : Rel H d v) (h : tyD T d G) : tyV K T v H := by
  cases d with
  | str s => obtain ⟨rfl, _⟩ := r; exact h
  | ref a =>
    cases r
    obtain ⟨o, g, h⟩ := h
    cases o with
    | lst ds => obtain ⟨xs, h1, _⟩ := R.at_ a _ g; exact .inl ⟨h, xs, .inl (.inl h1)⟩
    | rol ds => obtain ⟨xs, h1, _⟩ := R.at_ a _ g; exact .inl ⟨h, xs, .inl h1⟩
    | dict t kvs =>
      have z := R.at_ a _ g
      cases t with
      | false => obtain ⟨_, ks, h1, _⟩ := z; exact .inr (.inr (.inl ⟨h, .inl ⟨ks, h1⟩⟩))
      | true => obtain ⟨_, ks, h1, _⟩ := z; exact .inr (.inr (.inl ⟨h, .inr ⟨ks, h1⟩⟩))
    | _ => exact (show False from h).elim
  | _ => exact (show False from h).elim
def DMt (X : Cx) (B : Bx) (id : String) (rD : D → List D → Gp → DQ → Prop) : Prop :=
  ∃ r : V → List V → Hp → VK → Prop, MtR X id r ∧ ∀ H G x d xs ds Q P, Rel H d x → RelL H ds xs → Rep X.K B H G → rD d ds G Q → PostE X.K B H Q P → r x xs H P
def dBM (T : String) (rD : D → List D → Gp → DQ → Prop) (to : DTE) (t : DTA) : DTE := fun sd G Q => to sd G fun d G1 => tyD T d G1 ∧ t sd G1 fun ds G2 => rD d ds G2 Q
section
variable {X : Cx} {B : Bx} {o e : Expr} {es : List Expr} {to : DTE} {t : DTA} {name : Str} {apos cpos : Pos} {T id : String} {rD : D → List D → Gp → DQ → Prop}
theorem de_bm0 (pa : PlainAttrs T) (slot : Slot T name id) (hty : typeOf (.builtin id) = pure (.type "method_descriptor")) (hm : DMt X B id rD) (ho : DE X B o to)
    (hbase : attributeBase o name X.env (eval o X.env) = eval o X.env := by rfl) (hline : (apos.endLine == cpos.line) = true := by rfl) : DE X B (.Call (.Attribute o name apos) [] [] cpos) (dBM T rD to daNil) := by
  obtain ⟨r, hm, hr⟩ := hm
  obtain ⟨to', po, ho⟩ := ho.ex
  refine ⟨_, pe_bm0 pa slot hty hm po hbase hline, fun σ H sd G Q P hS R t hp => ?_⟩
  exact ho σ H sd G _ _ hS R t fun v d H1 G1 k1 r1 R1 q1 => ⟨tyD_ok R1 r1 q1.1, hr H1 G1 v d [] [] Q P r1 rfl R1 q1.2 (hp.mono k1)⟩
theorem de_bm (pa : PlainAttrs T) (slot : Slot T name id) (hty : typeOf (.builtin id) = pure (.type "method_descriptor")) (hm : DMt X B id rD) (ho : DE X B o to) (ha : DA X B (e :: es) t)
    (hbase : attributeBase o name X.env (eval o X.env) = eval o X.env := by rfl)
    (hfew : ((backTo cpos (starEach (e :: es) X.env)).all (fun x => !x.1) && (backToKw cpos (keywordEach [] X.env)).all (fun x => x.1.isSome)
      && decide ((e :: es).length + ([] : List Keyword).length + (if ([] : List Keyword).isEmpty then 0 else 1) < 30)) = true := by rfl)
    (hline : (apos.endLine == cpos.line) = true := by rfl) (hs : starEach (e :: es) X.env = (false, eval e X.env) :: starEach es X.env := by rfl) (hplain : (backTo cpos (starEach es X.env)).any (·.1) = false := by rfl) :
    DE X B (.Call (.Attribute o name apos) (e :: es) [] cpos) (dBM T rD to t) := by
  obtain ⟨r, hm, hr⟩ := hm
  obtain ⟨to', po, ho⟩ := ho.ex
  obtain ⟨ta', pa', ha⟩ := ha.ex
  refine ⟨_, pe_bm pa slot hty hm po pa' hbase hfew hline hs hplain, fun σ H sd G Q P hS R t hp => ?_⟩
  refine ho σ H sd G _ _ hS R t fun v d H1 G1 k1 r1 R1 q1 => ⟨tyD_ok R1 r1 q1.1, ?_⟩
  exact ha σ H1 sd G1 _ _ (hS.mono k1) R1 q1.2 fun vs ds H2 G2 _ k2 r2 R2 q2 => hr H2 G2 v d vs ds Q P (r1.mono k2) r2 R2 q2 (hp.mono (k1.trans k2))
def appR : D → List D → Gp → DQ → Prop := fun d ds G Q => match d, ds with
  | .ref a, [y] => ∃ o, G a = some o ∧ (match o with
    | .lst xs => xs.length < sizeLine ∧ Q .non (put G a (.lst (xs ++ [y])))
    | _ => False)
  | _, _ => False
theorem dm_append : DMt X B "list.append" appR := by
  refine ⟨_, mt_append, fun H G x d xs ds Q P r1 r2 R q hp => ?_⟩
  match d, ds, q, r1, r2 with
  | .ref a, [y], q, r1, r2 =>
    cases r1
    obtain ⟨v, ev, rv⟩ := rel1 r2
    subst ev
    obtain ⟨o, g, q⟩ := q
    cases o with
    | lst zs =>
      obtain ⟨vs, h1, h2, hz⟩ := lst_at R g
      have kw : Kp H (upd H a (.lst (vs ++ [v]))) := .write h1 fun _ z => nomatch z
      exact ⟨a, vs, v, rfl, rfl, h1, by rw [← h2.length]; exact q.1, hp _ .non _ _ kw rfl (R.write (o := .lst (zs ++ [y])) h1 (fun _ z => nomatch z) ⟨_, upd_same, (h2.mono kw).append (.one (rv.mono kw)), by rw [List.length_append]; exact q.1⟩) q.2⟩
    | _ => exact (show False from q).elim
def popR : D → List D → Gp → DQ → Prop := fun d ds G Q => match d, ds with
  | .ref a, [.int i] => ∃ o, G a = some o ∧ (match o with
    | .lst xs => 0 ≤ i ∧ ∃ y, xs[i.toNat]? = some y ∧ Q y (put G a (.lst (xs.eraseIdx i.toNat)))
    | _ => False)
  | _, _ => False
theorem dm_popAt : DMt X B "list.pop" popR := by
  refine ⟨_, mt_popAt, fun H G x d xs ds Q P r1 r2 R q hp => ?_⟩
  match d, ds, q, r1, r2 with
  | .ref a, [.int i], q, r1, r2 =>
    cases r1
    obtain ⟨v, ev, rv⟩ := rel1 r2
    subst ev
    cases rv
    obtain ⟨o, g, q⟩ := q
    cases o with
    | lst zs =>
      obtain ⟨hi, y, hy, q⟩ := q
      obtain ⟨vs, h1, h2, hz⟩ := lst_at R g
      obtain ⟨u, hu, ru⟩ := h2.get _ hy
      have hl : i.toNat < vs.length := (List.getElem?_eq_some_iff.mp hu).1
      have hl2 := h2.length
      have h63 := line63
      have kw : Kp H (upd H a (.lst (vs.eraseIdx i.toNat))) := .write h1 fun _ z => nomatch z
      have e : seqIndex? i vs.length = some i.toNat := by
        have q1 : atI vs i = some u := by
          have := atI_nat (xs := vs) (j := i.toNat) hu
          rwa [Int.toNat_of_nonneg hi] at this
        obtain ⟨j, e1, e2, e3, _⟩ := atI_get q1
        have : ixN vs.length i = some i.toNat := by
          unfold ixN
          rw [if_pos hi, if_pos (by omega)]
        exact (ixN_seq this).1
      refine ⟨a, vs, i, i.toNat, u, rfl, rfl, h1, by omega, by omega, e, hu, ?_⟩
      exact hp u y _ _ kw (ru.mono kw) (R.write (o := .lst (zs.eraseIdx i.toNat)) h1 (fun _ z => nomatch z) ⟨_, upd_same, (h2.mono kw).erase _, Nat.le_trans (len_erase _ _) hz⟩) q
    | _ => exact (show False from q).elim
def extR : D → List D → Gp → DQ → Prop := fun d ds G Q => match d, ds with
  | .ref a, [.ref b] => ∃ x y, G a = some (.lst x) ∧ G b = some (.lst y) ∧ x.length + y.length ≤ sizeLine ∧ Q .non (put G a (.lst (x ++ y)))
  | _, _ => False
theorem dm_extend : DMt X B "list.extend" extR := by
  refine ⟨_, mt_extend, fun H G x d xs ds Q P r1 r2 R q hp => ?_⟩
  match d, ds, q, r1, r2 with
  | .ref a, [.ref b], q, r1, r2 =>
    cases r1
    obtain ⟨v, ev, rv⟩ := rel1 r2
    subst ev
    cases rv
    obtain ⟨x, y, g1, g2, hz, q⟩ := q
    obtain ⟨vs, h1, h2, _⟩ := lst_at R g1
    obtain ⟨ws, h1', h2', _⟩ := lst_at R g2
    have kw : Kp H (upd H a (.lst (vs ++ ws))) := .write h1 fun _ z => nomatch z
    exact ⟨a, b, vs, ws, rfl, rfl, h1, h1', by rw [← h2.length, ← h2'.length]; exact hz, hp _ .non _ _ kw rfl (R.write (o := .lst (x ++ y)) h1 (fun _ z => nomatch z) ⟨_, upd_same, (h2.mono kw).append (h2'.mono kw), by rw [List.length_append]; exact hz⟩) q⟩
def clearR : D → List D → Gp → DQ → Prop := fun d ds G Q => match d, ds with
  | .ref a, [] => ∃ o, G a = some o ∧ (match o with
    | .lst _ => Q .non (put G a (.lst []))
    | _ => False)
  | _, _ => False
theorem dm_clear : DMt X B "list.clear" clearR := by
  refine ⟨_, mt_clear, fun H G x d xs ds Q P r1 r2 R q hp => ?_⟩
  match d, ds, q, r1, r2 with
  | .ref a, [], q, r1, r2 =>
    cases r1
    cases (relL_nil.mp r2)
    obtain ⟨o, g, q⟩ := q
    cases o with
    | lst zs =>
      obtain ⟨vs, h1, h2, hz⟩ := lst_at R g
      have kw : Kp H (upd H a (.lst [])) := .write h1 fun _ z => nomatch z
      exact ⟨a, vs, rfl, rfl, h1, hp _ .non _ _ kw rfl (R.write (o := .lst []) h1 (fun _ z => nomatch z) ⟨_, upd_same, rfl, Nat.zero_le _⟩) q⟩
    | _ => exact (show False from q).elim
end
end DL
set_option Elab.async false
set_option linter.all false
set_option maxRecDepth 100000
set_option maxHeartbeats 4000000
namespace DL
open PySem PySem.Spec L2

/-! ### attributes -/
/-- a value stored at the i-th attribute (the next new one) -/
@[simp] def storeF (fs : List D) (i : Nat) (v : D) : List D := if i < fs.length then fs.set i v else fs ++ [v]
def dFld (C : Addr) (ns : List Str) (i : Nat) (ta : DTE) : DTE := fun sd G Q => ta sd G fun d G1 => match d with
  | .ref a => ∃ o, G1 a = some o ∧ (match o with
    | .ins C' ns' fs => C' = C ∧ ns' = ns ∧ ∃ v, fs[i]? = some v ∧ Q v G1
    | _ => False)
  | _ => False
def dsFld (C : Addr) (ns : List Str) (i : Nat) (to te : DTE) : DTS := fun DD sd G => te sd G fun v G1 => to sd G1 fun d G2 => match d with
  | .ref a => ∃ o, G2 a = some o ∧ (match o with
    | .ins C' ns' fs => C' = C ∧ ns' = ns ∧ i ≤ fs.length ∧ DD.nx sd (put G2 a (.ins C ns (storeF fs i v)))
    | _ => False)
  | _ => False
theorem fld_at {H : Hp} {f : Str} : ∀ {names : List Str} {fs : List (Str × V)} {ds : List D} {i : Nat} {d : D}, names.Nodup → fs.map (·.1) = names.take ds.length → RelL H ds (fs.map (·.2)) → names[i]? = some f → ds[i]? = some d →
    ∃ v, fs.lookup f = some v ∧ Rel H d v
  | names, [], ds, i, d, _, _, r, _, h => by
    cases ds with
    | nil => simp at h
    | cons _ _ => obtain ⟨_, _, e, _⟩ := r; simp at e
  | names, (g, u) :: fs, ds, i, d, nd, h1, r, h2, h3 => by
    cases ds with
    | nil => simp at h3
    | cons e ds =>
      obtain ⟨r1, r2⟩ := relL_cons.mp (show RelL H (e :: ds) (u :: fs.map (·.2)) from r)
      cases names with
      | nil => simp at h2
      | cons n names =>
        simp only [List.map_cons, List.length_cons, List.take_succ_cons, List.cons.injEq] at h1
        obtain ⟨rfl, h1⟩ := h1
        cases i with
        | zero =>
          simp at h2 h3
          subst h2 h3
          exact ⟨u, by simp [List.lookup_cons], r1⟩
        | succ i =>
          simp at h2 h3
          have hne : ¬ f = g := fun z => by
            subst z
            exact (List.nodup_cons.mp nd).1 (List.mem_of_getElem? h2)
          obtain ⟨v, e1, e2⟩ := fld_at (List.nodup_cons.mp nd).2 h1 r2 h2 h3
          refine ⟨v, ?_, e2⟩
          rw [List.lookup_cons]
          have : (f == g) = false := by simpa using hne
          rw [this]
          exact e1
theorem putF_at {H : Hp} {f : Str} {v : V} {d : D} (rv : Rel H d v) : ∀ {names : List Str} {fs : List (Str × V)} {ds : List D} {i : Nat}, names.Nodup → fs.map (·.1) = names.take ds.length → RelL H ds (fs.map (·.2)) → names[i]? = some f → i ≤ ds.length →
    (putF f v fs).map (·.1) = names.take (storeF ds i d).length ∧ RelL H (storeF ds i d) ((putF f v fs).map (·.2))
  | names, [], ds, i, nd, h1, r, h2, h3 => by
    cases ds with
    | nil =>
      have hi : i = 0 := by simpa using h3
      subst hi
      cases names with
      | nil => simp at h2
      | cons n names =>
        simp at h2
        subst h2
        exact ⟨by simp [putF, storeF], by simpa [putF, storeF] using RelL.one rv⟩
    | cons _ _ => obtain ⟨_, _, e, _⟩ := r; simp at e
  | names, (g, u) :: fs, ds, i, nd, h1, r, h2, h3 => by
    cases ds with
    | nil =>
      simp at h1
    | cons e ds =>
      obtain ⟨r1, r2⟩ := relL_cons.mp (show RelL H (e :: ds) (u :: fs.map (·.2)) from r)
      cases names with
      | nil => simp at h2
      | cons n names =>
        simp only [List.map_cons, List.length_cons, List.take_succ_cons, List.cons.injEq] at h1
        obtain ⟨rfl, h1⟩ := h1
        cases i with
        | zero =>
          simp at h2
          subst h2
          have e1 : putF g v ((g, u) :: fs) = (g, v) :: fs := by simp [putF]
          rw [e1]
          refine ⟨?_, ?_⟩
          · simp [storeF, h1]
          · simp only [storeF, List.length_cons, Nat.zero_lt_succ, if_true, List.set_cons_zero, List.map_cons]
            exact relL_cons.mpr ⟨rv, r2⟩
        | succ i =>
          simp at h2
          have hne : ¬ g = f := fun z => by
            subst z
            exact (List.nodup_cons.mp nd).1 (List.mem_of_getElem? h2)
          have e1 : putF f v ((g, u) :: fs) = (g, u) :: putF f v fs := by simp [putF, hne]
          obtain ⟨q1, q2⟩ := putF_at rv (List.nodup_cons.mp nd).2 h1 r2 h2 (Nat.le_of_succ_le_succ h3)
          have e2 : storeF (e :: ds) (i + 1) d = e :: storeF ds i d := by
            unfold storeF
            by_cases z : i < ds.length
            · simp [z]
            · simp [z]
          rw [e1, e2]
          refine ⟨by simp [q1], ?_⟩
          exact relL_cons.mpr ⟨r1, q2⟩
section
variable {X : Cx} {B : Bx} {o e value : Expr} {f : Str} {C : Addr} {ns : List Str} {i : Nat} {pos pos' : Pos} {ta to te : DTE}
theorem de_fld (he : DE X B e ta) (cl : Cls X.K C) (na : NoAttr X.K C f) (nd : ns.Nodup) (hi : ns[i]? = some f) (hb : attributeBase e f X.env (eval e X.env) = eval e X.env := by rfl) : DE X B (.Attribute e f pos) (dFld C ns i ta) := by
  obtain ⟨ta', pa, ha⟩ := he.ex
  refine ⟨_, pe_fld pa hb, fun σ H sd G Q P hS R t hp => ?_⟩
  refine ha σ H sd G _ _ hS R t fun v d H1 G1 k1 r1 R1 q1 => ?_
  cases d with
  | ref a =>
    cases r1
    obtain ⟨ob, g, q1⟩ := q1
    cases ob with
    | ins C' ns' ds =>
      obtain ⟨rfl, rfl, w, hw, q1⟩ := q1
      obtain ⟨dx, fs, h1, h2, h3⟩ := R1.at_ a _ g
      obtain ⟨v, hv, rv⟩ := fld_at nd h2 h3 hi hw
      exact ⟨a, C', dx, fs, v, rfl, h1, cl, na, hv, hp v w H1 G1 k1 rv R1 q1⟩
    | _ => exact (show False from q1).elim
  | _ => exact (show False from q1).elim
theorem ds_fld (ho : DE X B o to) (hv : DE X B value te) (cl : Cls X.K C) (na : NoAttr X.K C f) (nd : ns.Nodup) (hi : ns[i]? = some f) (hz : ns.length < 1000) (hs : swapsWith value (some (.Attribute o f pos')) pos.line X.env = pure false := by rfl) :
    DS X B (.Assign [.Attribute o f pos'] value pos) (dsFld C ns i to te) := by
  obtain ⟨to', po, ho⟩ := ho.ex
  obtain ⟨te', pe, he⟩ := hv.ex
  refine ⟨_, ps_fld po pe hs, fun σ H sd G DD D hS R t hp => ?_⟩
  refine he σ H sd G _ _ hS R t fun v d H1 G1 k1 r1 R1 q1 => ?_
  refine ho σ H1 sd G1 _ _ (hS.mono k1) R1 q1 fun x dx H2 G2 k2 r2 R2 q2 => ?_
  cases dx with
  | ref a =>
    cases r2
    obtain ⟨ob, g, q2⟩ := q2
    cases ob with
    | ins C' ns' ds =>
      obtain ⟨rfl, rfl, hl, q2⟩ := q2
      obtain ⟨dx, fs, h1, h2, h3⟩ := R2.at_ a _ g
      have hfl : fs.length < 1000 := by
        have e := congrArg List.length h2
        simp at e
        omega
      have kw : Kp H2 (upd H2 a (.ins C' dx (putF f v fs))) := .write h1 fun _ z => nomatch z
      obtain ⟨p1, p2⟩ := putF_at ((r1.mono k2).mono kw) nd h2 (h3.mono kw) hi hl
      refine ⟨a, C', dx, fs, rfl, h1, cl, na, hfl, ?_⟩
      exact hp.nx σ sd _ _ (k1.trans (k2.trans kw)) (hS.mono (k1.trans (k2.trans kw))) (R2.write (o := .ins C' ns' (storeF ds i d)) h1 (fun _ z => nomatch z) ⟨dx, _, upd_same, p1, p2⟩) q2
    | _ => exact (show False from q2).elim
  | _ => exact (show False from q2).elim
end

/-! ### exceptions wished for, own defs -/
abbrev DXK := Addr → Option (Str × D) → Gp → Prop
abbrev DWX := Addr → Option (Str × D) → SD → Gp → Prop
abbrev DSp := List D → Gp → DQ → DXK → Prop
/-- what an exception bears: nothing, or one attribute -/
def RelX (H : Hp) : Option (Str × D) → Option Addr → Prop
  | none, none => True
  | some y, some dx => ∃ v, H dx = some (.xd [(y.1, v)]) ∧ Rel H y.2 v
  | _, _ => False
structure Wish (X : Cx) (B : Bx) (W : DWX) : Prop where
  ex : ∃ Wv : WX, Takes X Wv ∧ ∀ C x d σ H sd G, RelS H σ sd → Rep X.K B H G → RelX H x d → W C x sd G → Wv (.ref C) d σ H
abbrev W0 : DWX := fun _ _ _ _ => False
theorem wish0 {X : Cx} {B : Bx} : Wish X B W0 := ⟨_, takes0, fun _ _ _ _ _ _ _ _ _ _ z => z⟩
def liftSp (K : PySem.W.Frag) (sp : DSp) : Sp := fun vs H Q E => ∃ ds G QD ED, RelL H ds vs ∧ Rep K ⟨H⟩ H G ∧ sp ds G QD ED ∧ PostE K ⟨H⟩ H QD Q ∧
  (∀ C x d H' G', Kp H H' → Rep K ⟨H⟩ H' G' → RelX H' x d → ED C x G' → E (.ref C) d H')
theorem Rep.rebase {K : PySem.W.Frag} {B : Bx} {H H' : Hp} {G : Gp} (R : Rep K B H G) (k : Kp H' H) : Rep K ⟨H'⟩ H G := ⟨k, R.at_⟩
theorem Rep.back {K : PySem.W.Frag} {B : Bx} {H H' : Hp} {G G' : Gp} (R : Rep K B H G) (R' : Rep K ⟨H⟩ H' G') : Rep K B H' G' := ⟨R.k0.trans R'.k0, R'.at_⟩
def dCall (sp : DSp) (W : DWX) (t : DTA) : DTE := fun sd G Q => t sd G fun ds G1 => sp ds G1 Q fun C x G2 => W C x sd G2
def dMeth (C : Addr) (ns : List Str) (sp : DSp) (W : DWX) (to : DTE) (t : DTA) : DTE := fun sd G Q => to sd G fun d G1 => match d with
  | .ref a => (∃ fs, G1 a = some (.ins C ns fs)) ∧ t sd G1 fun ds G2 => sp (.ref a :: ds) G2 Q fun C x G3 => W C x sd G3
  | _ => False
def dMake (C : Addr) (ns : List Str) (sp : DSp) (W : DWX) (t : DTA) : DTE := fun sd G Q => t sd G fun ds G1 => ∀ a, Nw G1 a → sp (.ref a :: ds) (put G1 a (.ins C ns [])) (fun d G2 => d = .non ∧ Q (.ref a) G2) fun C x G3 => W C x sd G3
section
variable {X : Cx} {B : Bx} {CX : CXT} {k : Nat} {f C : Addr} {fd : FuncData} {ps : List Str} {spv : Sp} {sp : DSp} {E : L2.St → XK} {x m : Str} {p pos apos : Pos} {e o : Expr} {es : List Expr} {ta : TE} {t : TA} {W : DWX} {tD : DTA} {toD : DTE} {ns : List Str}
theorem lift_at {W : DWX} {Wv : WX} {σ : L2.St} {H H1 : Hp} {sd : SD} {G G1 : Gp} {Q : DQ} {P : VK} {ds : List D} {vs : List V} (hS : RelS H1 σ sd)
    (hW : ∀ C x d σ H sd G, RelS H σ sd → Rep X.K B H G → RelX H x d → W C x sd G → Wv (.ref C) d σ H)
    (r : RelL H1 ds vs) (R : Rep X.K B H1 G1) (q : sp ds G1 Q fun C x G2 => W C x sd G2) (hp : PostE X.K B H1 Q P) : liftSp X.K sp vs H1 P (WE Wv σ) :=
  ⟨ds, G1, Q, _, r, R.rebase (.refl H1), q, fun v d H' G' k r' R' q' => hp v d H' G' k r' (R.back R') q', fun C x d H' G' k R' rx w => hW C x d σ H' sd G' (hS.mono k) (R.back R') rx w⟩
theorem de_call (F : FnOk X.prog X.w X.K X.mg X.base (L2.CX X.prog X.w) k f fd ps (liftSp X.K sp)) (hr : Room k X.A) (hg : Gl X x) (hm : X.mg x = some (.ref f)) (hk : PySem.W.keepIn X.K (.ref f) = true) (hb : Binds X.K fd ps [])
    (tk : Wish X B W) (ha : DA X B (e :: es) tD) (hdb : (x == ("__debug__" : Str)) = false := by decide) (he : starEach (e :: es) X.env = (false, eval e X.env) :: starEach es X.env := by rfl) (hpl : (backTo pos (starEach es X.env)).any (·.1) = false := by rfl) :
    DE X B (.Call (.Name x p) (e :: es) [] pos) (dCall sp W tD) := by
  obtain ⟨Wv, tk, hW⟩ := tk.ex
  obtain ⟨t', pa, ha⟩ := ha.ex
  refine ⟨_, pe_callS (E := WE Wv) F hr hg hm hk hb (passAt tk) pa hdb he hpl, fun σ H sd G Q P hS R t hp => ?_⟩
  exact ha σ H sd G _ _ hS R t fun vs ds H1 G1 _ k1 r1 R1 q1 => lift_at (X := X) (H := H) (G := G) (hS.mono k1) hW r1 R1 q1 (hp.mono k1)
def tMethS (C : Addr) (m : Str) (sp : Sp) (E : L2.St → XK) (ta : TE) (t : TA) : TE := fun σ H Q => ta σ H fun x H1 => ∃ a dx fs, x = .ref a ∧ H1 a = some (.ins C dx fs) ∧ fs.lookup m = none ∧
  t σ H1 fun vs H2 => sp (x :: vs) H2 Q (E σ)
theorem pe_methS {pl : Sem Bool} (he : PE X o ta) (c : Cls X.K C) (hm : Meth X.K C m f) (F : FnOk X.prog X.w X.K X.mg X.base CX k f fd ps spv) (hr : Room k X.A) (hb : Binds X.K fd ps []) (hx : ∀ σ, PassesAt CX X σ (E σ)) (ha : PA X (e :: es) t)
    (hst : starEach (e :: es) X.env = (false, eval e X.env) :: starEach es X.env := by rfl) (hpl : (backTo pos (starEach es X.env)).any (·.1) = false := by rfl)
    (ht : eval (.Call (.Attribute o m apos) (e :: es) [] pos) X.env = (do
      let ov ← eval o X.env
      standAt apos.atName
      let (f, first) ← holding [ov] (getMethod ov m pl)
      callWith pos f first (backTo pos (starEach (e :: es) X.env)) (backToKw pos (keywordEach [] X.env))) := by rfl) :
    PE X (.Call (.Attribute o m apos) (e :: es) [] pos) (tMethS C m spv E ta t) := by
  refine ⟨fun pins s σ H Q I h => ?_⟩
  refine PySem.W.methodCall_KW (pl := pl) (thn (he.run pins s σ H _ I h) fun u s1 ⟨x, H1, I1, rx, a, dx, fs, ex, ea, l, q⟩ => ?_) ht
  subst ex
  obtain rfl : u = Value.ref a := rx
  refine getmeth_ok I1 ea c hm l ?_
  refine PySem.W.callWith_K (first := [.ref a]) (h₀ := X.base) I.ok.mod.kin hm.kp (thn (ha.run pos pins s1 σ H1 _ I1 q) fun us s2 ⟨vs, H2, I2, r, q2⟩ => ⟨I2.kIn, ?_⟩) hst hpl
  exact run_fnS (us := .ref a :: us) (vs := .ref a :: vs) F hr hb (hx σ) I2 (.cons rfl r) q2
theorem pe_methS0 {pl : Sem Bool} (he : PE X o ta) (c : Cls X.K C) (hm : Meth X.K C m f) (F : FnOk X.prog X.w X.K X.mg X.base CX k f fd ps spv) (hr : Room k X.A) (hb : Binds X.K fd ps []) (hx : ∀ σ, PassesAt CX X σ (E σ))
    (ht : eval (.Call (.Attribute o m apos) [] [] pos) X.env = (do
      let ov ← eval o X.env
      standAt apos.atName
      let (f, first) ← holding [ov] (getMethod ov m pl)
      callWith pos f first (backTo pos (starEach [] X.env)) (backToKw pos (keywordEach [] X.env))) := by rfl) :
    PE X (.Call (.Attribute o m apos) [] [] pos) (tMethS C m spv E ta tNil) := by
  refine ⟨fun pins s σ H Q I h => ?_⟩
  refine PySem.W.methodCall_KW (pl := pl) (thn (he.run pins s σ H _ I h) fun u s1 ⟨x, H1, I1, rx, a, dx, fs, ex, ea, l, q⟩ => ?_) ht
  subst ex
  obtain rfl : u = Value.ref a := rx
  refine getmeth_ok I1 ea c hm l ?_
  exact PySem.W.callWith_K0 (first := [.ref a]) I1.kIn hm.kp (run_fnS (us := [.ref a]) (vs := [.ref a]) F hr hb (hx σ) I1 (.cons rfl .nil) q)
theorem meth_none {K : PySem.W.Frag} {H : Hp} {a : Addr} {C : Addr} {ds : List D} (h : RepO K H a (.ins C ns ds)) (hm : m ∉ ns) : ∃ dx fs, H a = some (.ins C dx fs) ∧ fs.lookup m = none := by
  obtain ⟨dx, fs, h1, h2, _⟩ := h
  refine ⟨dx, fs, h1, ?_⟩
  rw [List.lookup_eq_none_iff]
  intro q hq
  have : q.1 ∈ ns.take ds.length := by rw [← h2]; exact List.mem_map_of_mem hq
  have hne : ¬ m = q.1 := fun z => hm (z ▸ List.mem_of_mem_take this)
  simpa using hne
theorem de_meth {pl : Sem Bool} (he : DE X B o toD) (c : Cls X.K C) (hm : Meth X.K C m f) (hn : m ∉ ns) (F : FnOk X.prog X.w X.K X.mg X.base (L2.CX X.prog X.w) k f fd ps (liftSp X.K sp)) (hr : Room k X.A) (hb : Binds X.K fd ps []) (tk : Wish X B W) (ha : DA X B (e :: es) tD)
    (hst : starEach (e :: es) X.env = (false, eval e X.env) :: starEach es X.env := by rfl) (hpl : (backTo pos (starEach es X.env)).any (·.1) = false := by rfl)
    (ht : eval (.Call (.Attribute o m apos) (e :: es) [] pos) X.env = (do
      let ov ← eval o X.env
      standAt apos.atName
      let (f, first) ← holding [ov] (getMethod ov m pl)
      callWith pos f first (backTo pos (starEach (e :: es) X.env)) (backToKw pos (keywordEach [] X.env))) := by rfl) :
    DE X B (.Call (.Attribute o m apos) (e :: es) [] pos) (dMeth C ns sp W toD tD) := by
  obtain ⟨Wv, tk, hW⟩ := tk.ex
  obtain ⟨to', po, ho⟩ := he.ex
  obtain ⟨t', pa, ha⟩ := ha.ex
  refine ⟨_, pe_methS (E := WE Wv) po c hm F hr hb (passAt tk) pa hst hpl ht, fun σ H sd G Q P hS R t hp => ?_⟩
  refine ho σ H sd G _ _ hS R t fun v d H1 G1 k1 r1 R1 q1 => ?_
  cases d with
  | ref a =>
    cases r1
    obtain ⟨⟨fs, g⟩, q1⟩ := q1
    obtain ⟨dx, fs', h1, h2⟩ := meth_none (R1.at_ a _ g) hn
    refine ⟨a, dx, fs', rfl, h1, h2, ?_⟩
    refine ha σ H1 sd G1 _ _ (hS.mono k1) R1 q1 fun vs ds H2 G2 _ k2 r2 R2 q2 => ?_
    exact lift_at (X := X) (H := H) (G := G) (hS.mono (k1.trans k2)) hW (relL_cons.mpr ⟨(show Rel H2 (.ref a) (.ref a) from rfl), r2⟩) R2 q2 (hp.mono (k1.trans k2))
  | _ => exact (show False from q1).elim
theorem de_meth0 {pl : Sem Bool} (he : DE X B o toD) (c : Cls X.K C) (hm : Meth X.K C m f) (hn : m ∉ ns) (F : FnOk X.prog X.w X.K X.mg X.base (L2.CX X.prog X.w) k f fd ps (liftSp X.K sp)) (hr : Room k X.A) (hb : Binds X.K fd ps []) (tk : Wish X B W)
    (ht : eval (.Call (.Attribute o m apos) [] [] pos) X.env = (do
      let ov ← eval o X.env
      standAt apos.atName
      let (f, first) ← holding [ov] (getMethod ov m pl)
      callWith pos f first (backTo pos (starEach [] X.env)) (backToKw pos (keywordEach [] X.env))) := by rfl) :
    DE X B (.Call (.Attribute o m apos) [] [] pos) (dMeth C ns sp W toD daNil) := by
  obtain ⟨Wv, tk, hW⟩ := tk.ex
  obtain ⟨to', po, ho⟩ := he.ex
  refine ⟨_, pe_methS0 (E := WE Wv) po c hm F hr hb (passAt tk) ht, fun σ H sd G Q P hS R t hp => ?_⟩
  refine ho σ H sd G _ _ hS R t fun v d H1 G1 k1 r1 R1 q1 => ?_
  cases d with
  | ref a =>
    cases r1
    obtain ⟨⟨fs, g⟩, q1⟩ := q1
    obtain ⟨dx, fs', h1, h2⟩ := meth_none (R1.at_ a _ g) hn
    exact ⟨a, dx, fs', rfl, h1, h2, lift_at (X := X) (H := H) (G := G) (hS.mono k1) hW (relL_cons.mpr ⟨(show Rel H1 (.ref a) (.ref a) from rfl), (show RelL H1 [] [] from rfl)⟩) R1 q1 (hp.mono k1)⟩
  | _ => exact (show False from q1).elim
end
end DL
set_option Elab.async false
set_option linter.all false
set_option maxRecDepth 100000
set_option maxHeartbeats 4000000
namespace DL
open PySem PySem.Spec L2
section
variable {X : Cx} {B : Bx} {CX : CXT} {k : Nat} {f C : Addr} {fd : FuncData} {ps : List Str} {spv : Sp} {sp : DSp} {E : L2.St → XK} {x m : Str} {p pos apos : Pos} {e o : Expr} {es : List Expr} {ta : TE} {t : TA} {W : DWX} {tD : DTA} {ns : List Str}
theorem run_makeS {pins : List (Addr × Obj)} {σ : L2.St} {H : Hp} {s : Shared} {Q : VK} {us : List Value} {vs : List V} (M : Mk X.K C f) (F : FnOk X.prog X.w X.K X.mg X.base CX k f fd ps spv) (hr : Room (k + 1) X.A) (hb : Binds X.K fd ps [])
    (hx : PassesAt CX X σ (E σ)) (I : Inv X pins σ H s) (r : Vals vs us)
    (h : ∀ x dx, H x = none → H dx = none → dx ≠ x → spv (.ref x :: vs) (upd (upd H dx (.own x)) x (.ins C dx [])) (fun v H2 => v = .non ∧ Q (.ref x) H2) (E σ)) :
    wpAny (model X.prog X.w) X.A (call (.ref C) us) (EP X pins σ Q) X.xe s := by
  have hq := h (s.heap.objs.size + 1) s.heap.objs.size (I.hok.fresh (Nat.le_succ _)) (I.hok.fresh (Nat.le_refl _)) (Nat.ne_of_lt (Nat.lt_succ_self _))
  have I2 := Inv.made (C := C) I
  have r2 : Vals (V.ref (s.heap.objs.size + 1) :: vs) (Value.ref (s.heap.objs.size + 1) :: us) := .cons rfl r
  have hl : (Value.ref (s.heap.objs.size + 1) :: us ++ []).length = ps.length := by
    have e := r2.length
    rw [F.len _ _ _ _ hq] at e
    rw [List.append_nil]
    exact e.symm
  have hbb := hb _ (Value.ref (s.heap.objs.size + 1) :: us) I2.kIn hl
  rw [List.append_nil] at hbb
  refine wpAny_call (make_map (f := f) I.kIn M.makes M.init (beq_iff_eq.mp M.fn) (codeAny_mono (F.run _ X.stack _ _ ⟨Value.ref (s.heap.objs.size + 1) :: us, []⟩ (Value.ref (s.heap.objs.size + 1) :: us) _ _ (E σ) (hr.make C us [])
    (I2.env0.make C us []) hbb r2 hq) fun r s' hq' => ?_))
  cases r with
  | error e => exact hx pins _ _ e s' I2 hq'
  | ok fl =>
    cases fl with
    | ret u =>
      obtain ⟨v, H', I3, rv, ev, q3⟩ := I2.after hq'
      subst ev
      exact ⟨rv, ⟨V.ref (s.heap.objs.size + 1), H', I3, rfl, q3⟩⟩
    | next => exact False.elim hq'
    | brk => exact False.elim hq'
    | cont => exact False.elim hq'
def tMakeS (C : Addr) (sp : Sp) (E : L2.St → XK) (t : TA) : TE := fun σ H Q => t σ H fun vs H1 => ∀ x dx, H1 x = none → H1 dx = none → dx ≠ x →
  sp (.ref x :: vs) (upd (upd H1 dx (.own x)) x (.ins C dx [])) (fun v H2 => v = .non ∧ Q (.ref x) H2) (E σ)
theorem pe_makeS (M : Mk X.K C f) (F : FnOk X.prog X.w X.K X.mg X.base CX k f fd ps spv) (hr : Room (k + 1) X.A) (hg : Gl X x) (hm : X.mg x = some (.ref C)) (hb : Binds X.K fd ps []) (hx : ∀ σ, PassesAt CX X σ (E σ))
    (ha : PA X (e :: es) t) (hdb : (x == ("__debug__" : Str)) = false := by decide) (he : starEach (e :: es) X.env = (false, eval e X.env) :: starEach es X.env := by rfl) (hpl : (backTo pos (starEach es X.env)).any (·.1) = false := by rfl) :
    PE X (.Call (.Name x p) (e :: es) [] pos) (tMakeS C spv E t) := by
  refine ⟨fun pins s σ H Q I h => ?_⟩
  refine wpAny_Call_Name_kw (ld_glob I hg hm ?_ hdb)
  refine PySem.W.callWith_K (h₀ := X.base) I.ok.mod.kin M.kp (thn (ha.run pos pins s σ H _ I h) fun us s1 ⟨vs, H1, I1, r, q⟩ => ⟨I1.kIn, ?_⟩) he hpl
  exact run_makeS M F hr hb (hx σ) I1 r q
theorem pe_makeS0 (M : Mk X.K C f) (F : FnOk X.prog X.w X.K X.mg X.base CX k f fd ps spv) (hr : Room (k + 1) X.A) (hg : Gl X x) (hm : X.mg x = some (.ref C)) (hb : Binds X.K fd ps []) (hx : ∀ σ, PassesAt CX X σ (E σ))
    (hdb : (x == ("__debug__" : Str)) = false := by decide) : PE X (.Call (.Name x p) [] [] pos) (tMakeS C spv E tNil) := by
  refine ⟨fun pins s σ H Q I h => ?_⟩
  refine wpAny_Call_Name_kw (ld_glob I hg hm ?_ hdb)
  exact PySem.W.callWith_K0 I.kIn M.kp (run_makeS (us := []) M F hr hb (hx σ) I .nil h)
theorem made_at {Wv : WX} {σ : L2.St} {H1 : Hp} {sd : SD} {G1 : Gp} {Q : DQ} {P : VK} {ds : List D} {vs : List V} (hS : RelS H1 σ sd)
    (hW : ∀ C x d σ H sd G, RelS H σ sd → Rep X.K B H G → RelX H x d → W C x sd G → Wv (.ref C) d σ H)
    (r : RelL H1 ds vs) (R : Rep X.K B H1 G1) (q : ∀ a, Nw G1 a → sp (.ref a :: ds) (put G1 a (.ins C ns [])) (fun d G2 => d = .non ∧ Q (.ref a) G2) fun C x G3 => W C x sd G3) (hp : PostE X.K B H1 Q P)
    (x dx : Addr) (n1 : H1 x = none) (n2 : H1 dx = none) (ne : dx ≠ x) : liftSp X.K sp (.ref x :: vs) (upd (upd H1 dx (.own x)) x (.ins C dx [])) (fun v H2 => v = .non ∧ P (.ref x) H2) (WE Wv σ) := by
  have k1 : Kp H1 (upd H1 dx (.own x)) := .fresh n2
  have n1' : upd H1 dx (.own x) x = none := by rw [upd_ne (Ne.symm ne)]; exact n1
  have k2 : Kp (upd H1 dx (.own x)) (upd (upd H1 dx (.own x)) x (.ins C dx [])) := .fresh n1'
  have R1 : Rep X.K B (upd H1 dx (.own x)) G1 := R.fresh n2
  have R2 : Rep X.K B (upd (upd H1 dx (.own x)) x (.ins C dx [])) (put G1 x (.ins C ns [])) := R1.laid (o := .ins C ns []) n1' ⟨dx, [], upd_same, rfl, rfl⟩
  have kk := k1.trans k2
  refine lift_at (X := X) (H := H1) (G := G1) (hS.mono kk) hW (relL_cons.mpr ⟨(show Rel _ (.ref x) (.ref x) from rfl), r.mono kk⟩) R2 (q x (R.gnone n1)) fun v d H' G' k r' R' q' => ?_
  obtain ⟨rfl, q'⟩ := q'
  exact ⟨r', hp (.ref x) (.ref x) H' G' (kk.trans k) rfl R' q'⟩
theorem de_make (M : Mk X.K C f) (F : FnOk X.prog X.w X.K X.mg X.base (L2.CX X.prog X.w) k f fd ps (liftSp X.K sp)) (hr : Room (k + 1) X.A) (hg : Gl X x) (hm : X.mg x = some (.ref C)) (hb : Binds X.K fd ps []) (tk : Wish X B W)
    (ha : DA X B (e :: es) tD) (hdb : (x == ("__debug__" : Str)) = false := by decide) (he : starEach (e :: es) X.env = (false, eval e X.env) :: starEach es X.env := by rfl) (hpl : (backTo pos (starEach es X.env)).any (·.1) = false := by rfl) :
    DE X B (.Call (.Name x p) (e :: es) [] pos) (dMake C ns sp W tD) := by
  obtain ⟨Wv, tk, hW⟩ := tk.ex
  obtain ⟨t', pa, ha⟩ := ha.ex
  refine ⟨_, pe_makeS (E := WE Wv) M F hr hg hm hb (passAt tk) pa hdb he hpl, fun σ H sd G Q P hS R t hp => ?_⟩
  exact ha σ H sd G _ _ hS R t fun vs ds H1 G1 _ k1 r1 R1 q1 => made_at (X := X) (hS.mono k1) hW r1 R1 q1 (hp.mono k1)
theorem de_make0 (M : Mk X.K C f) (F : FnOk X.prog X.w X.K X.mg X.base (L2.CX X.prog X.w) k f fd ps (liftSp X.K sp)) (hr : Room (k + 1) X.A) (hg : Gl X x) (hm : X.mg x = some (.ref C)) (hb : Binds X.K fd ps []) (tk : Wish X B W)
    (hdb : (x == ("__debug__" : Str)) = false := by decide) : DE X B (.Call (.Name x p) [] [] pos) (dMake C ns sp W daNil) := by
  obtain ⟨Wv, tk, hW⟩ := tk.ex
  refine ⟨_, pe_makeS0 (E := WE Wv) M F hr hg hm hb (passAt tk) hdb, fun σ H sd G Q P hS R t hp => ?_⟩
  exact made_at (X := X) hS hW (show RelL H [] [] from rfl) R t hp
/-- raise X('..') -/
def dRaise (C : Addr) (W : DWX) : DTS := fun _ sd G => W C none sd G
theorem ds_raise {e : Expr} (hc : X.calm = true) (tk : Wish X B W) (he : PMk X e (fun _ H Q => Q (.ref C) none H)) : DS X B (.Raise (some e) none pos) (dRaise C W) := by
  obtain ⟨Wv, tk, hW⟩ := tk.ex
  exact ⟨_, ps_raise hc tk he, fun σ H sd G DD D hS R t hp => hW C none none σ H sd G hS R True.intro t⟩
end

/-! ### a def's body -/
def dstart (N : List Str) (ds : List D) : SD := ds.map some ++ List.replicate (N.length - ds.length) none
theorem relS_start {H : Hp} {N : List Str} : ∀ {ds : List D} {vs : List V}, RelL H ds vs → RelS H (start N vs) (dstart N ds) := fun {ds vs} r => by
  have hl := r.length
  refine ⟨by simp [L2.start, dstart, hl], fun i d e => ?_⟩
  unfold dstart at e
  unfold L2.start
  by_cases hi : i < ds.length
  · rw [List.getElem?_append_left (by simpa using hi)] at e
    rw [List.getElem?_append_left (by simp; omega)]
    rw [List.getElem?_map] at e
    cases q : ds[i]? with
    | none => rw [q] at e; cases e
    | some d' =>
      rw [q] at e
      have : d' = d := by simpa using e
      subst this
      obtain ⟨v, h1, h2⟩ := r.get i q
      exact ⟨v, by simp [h1], h2⟩
  · rw [List.getElem?_append_right (by simpa using Nat.le_of_not_lt hi)] at e
    have := List.mem_of_getElem? e
    simp [List.mem_replicate] at this
section
variable {P : Program} {w : World} {K : PySem.W.Frag} {mg : Str → Option Value} {base : Heap} {x qual : Str} {params : Arguments} {body : List Stmt} {scope : Scope} {f : Addr} {fd : FuncData}
/-- the context of a def's body -/
abbrev Bd (P : Program) (w : World) (K : PySem.W.Frag) (mg : Str → Option Value) (base : Heap) (N : List Str) (qual : Str) (scope : Scope) (f : Addr) (cdv : Value) (A : Around) (outer : List Env) (s : Shared) (H : Hp) (E : XK) : Cx :=
  cxOf (L2.CX P w) P w K mg base N qual scope f cdv A outer s H E
theorem dfn_ok {N ps : List Str} {k : Nat} {sp : DSp} {t : DXK → DTS} (F : FunD K x qual params body scope [] [] f fd) (S : FnScope N ps scope) (len : ∀ ds G Q E, sp ds G Q E → ds.length = ps.length)
    (hpure : ∀ ds G Q E, sp ds G Q E → t E { nx := fun _ G => Q .non G, rt := Q } (dstart N ds) G)
    (hbody : ∀ (cdv : Value) (A : Around) (outer : List Env) (s : Shared) (H : Hp) (E : XK) (ED : DXK), Room k (A.deeper (PyProof.Rows.envOfC qual scope s.heap.objs.size f cdv)) → PassesOwn (model P w) (Bd P w K mg base N qual scope f cdv A outer s H E).A (Bd P w K mg base N qual scope f cdv A outer s H E).env (Bd P w K mg base N qual scope f cdv A outer s H E).xe →
      Wish (Bd P w K mg base N qual scope f cdv A outer s H E) ⟨H⟩ (fun C x _ G => ED C x G) → DSs (Bd P w K mg base N qual scope f cdv A outer s H E) ⟨H⟩ body (t ED)) :
    FnOk P w K mg base (L2.CX P w) (k + 1) f fd ps (liftSp K sp) := by
  refine F.ok S (fun vs H Q E h => ?_) (fun cdv A outer s H vs Q E hr h => ?_)
  · obtain ⟨ds, G, QD, ED, r, R, q, _⟩ := h
    rw [← r.length]
    exact len _ _ _ _ q
  · obtain ⟨ds, G, QD, ED, r, R, q, hq, hx⟩ := h
    have tk : Takes (Bd P w K mg base N qual scope f cdv A outer s H E) (fun cls d _ H => E cls d H) := takes_of rfl rfl rfl rfl
    have wi : Wish (Bd P w K mg base N qual scope f cdv A outer s H E) ⟨H⟩ (fun C x _ G => ED C x G) := ⟨_, tk, fun C x d σ H' sd G' _ R' rx w => hx C x d H' G' R'.k0 R' rx w⟩
    obtain ⟨ts, p, w'⟩ := (hbody cdv A outer s H E ED hr (passes_of (X := Bd P w K mg base N qual scope f cdv A outer s H E) rfl) wi).ex
    refine ⟨ts, p, w' _ H _ G _ _ (relS_start r) R (hpure ds G QD ED q) ⟨fun σ' sd' H' G' k _ R' q' => hq .non .non H' G' k rfl R' q', hq, ?_, ?_⟩⟩
    · intro σ' sd' H' G' _ _ _ z
      exact z.elim
    · intro σ' sd' H' G' _ _ _ z
      exact z.elim
end
end DL
set_option Elab.async false
set_option linter.all false
set_option maxRecDepth 100000
set_option maxHeartbeats 4000000
namespace DL
open PySem PySem.Spec L2

/-! ### callees by name -/
structure Cal (P : Program) (w : World) (K : PySem.W.Frag) (mg : Str → Option Value) (base : Heap) (k : Nat) (x : Str) (sp : DSp) : Prop where
  ex : ∃ f fd ps, FnOk P w K mg base (L2.CX P w) k f fd ps (liftSp K sp) ∧ mg x = some (.ref f) ∧ PySem.W.keepIn K (.ref f) = true ∧ Binds K fd ps []
structure Met (P : Program) (w : World) (K : PySem.W.Frag) (mg : Str → Option Value) (base : Heap) (k : Nat) (C : Addr) (m : Str) (sp : DSp) : Prop where
  ex : ∃ f fd ps, FnOk P w K mg base (L2.CX P w) k f fd ps (liftSp K sp) ∧ Meth K C m f ∧ Binds K fd ps []
structure Mak (P : Program) (w : World) (K : PySem.W.Frag) (mg : Str → Option Value) (base : Heap) (k : Nat) (x : Str) (C : Addr) (sp : DSp) : Prop where
  ex : ∃ f fd ps, FnOk P w K mg base (L2.CX P w) k f fd ps (liftSp K sp) ∧ Mk K C f ∧ mg x = some (.ref C) ∧ Binds K fd ps []
section
variable {X : Cx} {B : Bx} {j k : Nat} {C : Addr} {sp : DSp} {x m : Str} {p pos apos : Pos} {e o : Expr} {es : List Expr} {W : DWX} {tD : DTA} {toD : DTE} {ns : List Str}
theorem ce_call (c : Cal X.prog X.w X.K X.mg X.base k x sp) (hr : Room j X.A) (hk : k ≤ j) (hg : Gl X x) (tk : Wish X B W) (ha : DA X B (e :: es) tD)
    (hdb : (x == ("__debug__" : Str)) = false := by decide) (he : starEach (e :: es) X.env = (false, eval e X.env) :: starEach es X.env := by rfl) (hpl : (backTo pos (starEach es X.env)).any (·.1) = false := by rfl) :
    DE X B (.Call (.Name x p) (e :: es) [] pos) (dCall sp W tD) := by
  obtain ⟨f, fd, ps, F, hm, hkp, hb⟩ := c.ex
  exact de_call F (hr.mono hk) hg hm hkp hb tk ha hdb he hpl
theorem ce_meth {pl : Sem Bool} (he : DE X B o toD) (cl : Cls X.K C) (c : Met X.prog X.w X.K X.mg X.base k C m sp) (hn : m ∉ ns) (hr : Room j X.A) (hk : k ≤ j) (tk : Wish X B W) (ha : DA X B (e :: es) tD)
    (hst : starEach (e :: es) X.env = (false, eval e X.env) :: starEach es X.env := by rfl) (hpl : (backTo pos (starEach es X.env)).any (·.1) = false := by rfl)
    (ht : eval (.Call (.Attribute o m apos) (e :: es) [] pos) X.env = (do
      let ov ← eval o X.env
      standAt apos.atName
      let (f, first) ← holding [ov] (getMethod ov m pl)
      callWith pos f first (backTo pos (starEach (e :: es) X.env)) (backToKw pos (keywordEach [] X.env))) := by rfl) :
    DE X B (.Call (.Attribute o m apos) (e :: es) [] pos) (dMeth C ns sp W toD tD) := by
  obtain ⟨f, fd, ps, F, hm, hb⟩ := c.ex
  exact de_meth he cl hm hn F (hr.mono hk) hb tk ha hst hpl ht
theorem ce_meth0 {pl : Sem Bool} (he : DE X B o toD) (cl : Cls X.K C) (c : Met X.prog X.w X.K X.mg X.base k C m sp) (hn : m ∉ ns) (hr : Room j X.A) (hk : k ≤ j) (tk : Wish X B W)
    (ht : eval (.Call (.Attribute o m apos) [] [] pos) X.env = (do
      let ov ← eval o X.env
      standAt apos.atName
      let (f, first) ← holding [ov] (getMethod ov m pl)
      callWith pos f first (backTo pos (starEach [] X.env)) (backToKw pos (keywordEach [] X.env))) := by rfl) :
    DE X B (.Call (.Attribute o m apos) [] [] pos) (dMeth C ns sp W toD daNil) := by
  obtain ⟨f, fd, ps, F, hm, hb⟩ := c.ex
  exact de_meth0 he cl hm hn F (hr.mono hk) hb tk ht
theorem ce_make (c : Mak X.prog X.w X.K X.mg X.base k x C sp) (hr : Room j X.A) (hk : k + 1 ≤ j) (hg : Gl X x) (tk : Wish X B W) (ha : DA X B (e :: es) tD)
    (hdb : (x == ("__debug__" : Str)) = false := by decide) (he : starEach (e :: es) X.env = (false, eval e X.env) :: starEach es X.env := by rfl) (hpl : (backTo pos (starEach es X.env)).any (·.1) = false := by rfl) :
    DE X B (.Call (.Name x p) (e :: es) [] pos) (dMake C ns sp W tD) := by
  obtain ⟨f, fd, ps, F, M, hm, hb⟩ := c.ex
  exact de_make M F (hr.mono hk) hg hm hb tk ha hdb he hpl
theorem ce_make0 (c : Mak X.prog X.w X.K X.mg X.base k x C sp) (hr : Room j X.A) (hk : k + 1 ≤ j) (hg : Gl X x) (tk : Wish X B W) (hdb : (x == ("__debug__" : Str)) = false := by decide) :
    DE X B (.Call (.Name x p) [] [] pos) (dMake C ns sp W daNil) := by
  obtain ⟨f, fd, ps, F, M, hm, hb⟩ := c.ex
  exact de_make0 M F (hr.mono hk) hg hm hb tk hdb
/-- a negative number written -/
theorem de_neg {i : Int} {kk : Nat} {p1 p2 : Pos} : DE X B (.UnaryOp .USub (.Constant (.int i) kk p1) p2) (dC (.int (-i))) :=
  ⟨_, pe_un un_neg pe_int, fun σ H sd G Q P hs R t hp => ⟨i, rfl, hp _ (.int (-i)) H G (.refl H) rfl R t⟩⟩
end
theorem r64 {k : Nat} {A : Around} (hr : Room k A) : A.units + 64 < cLine := hr.units
theorem r65 {k : Nat} {A : Around} (hr : Room k A) : A.units + 65 < cLine := by have := hr.un; omega
theorem r1 {k : Nat} {A : Around} (hr : Room k A) : A.units + 1 < cLine := by have := hr.un; omega
/-- what stands behind the top -/
structure Said (fa : List He.Fa) (fn : List He.DefD) (K : PySem.W.Frag) (mg : Str → Option Value) : Prop where
  c : He.SaysD fa fn K
  top : ∃ h : Heap, K.In h ∧ h.Ns mainGlobals mg
section
variable {fa : List He.Fa} {fn : List He.DefD} {K : PySem.W.Frag} {mg : Str → Option Value}
theorem Said.glo (S : Said fa fn K mg) (i : Nat) {x : Str} (h : fa[i]? = some (.glo x) := by rfl) : mg x = some (.ref (He.ga K x)) := by
  obtain ⟨hp, X, G⟩ := S.top
  exact He.glo_ok X G (S.c.fact i h)
theorem Said.free (S : Said fa fn K mg) (i : Nat) {x : Str} (h : fa[i]? = some (.free x) := by rfl) : mg x = none := by
  obtain ⟨hp, X, G⟩ := S.top
  exact He.free_ok X G (S.c.fact i h)
theorem Said.int (S : Said fa fn K mg) (i : Nat) {x : Str} {n : Int} (h : fa[i]? = some (.int x n) := by rfl) : ∃ t, mg x = some (.int n t) := by
  obtain ⟨hp, X, G⟩ := S.top
  exact He.int_ok X G (S.c.fact i h)
theorem Said.str (S : Said fa fn K mg) (i : Nat) {x z : Str} (h : fa[i]? = some (.str x z) := by rfl) : ∃ t, mg x = some (.str z t) := by
  obtain ⟨hp, X, G⟩ := S.top
  exact He.str_ok X G (S.c.fact i h)
theorem Said.cls (S : Said fa fn K mg) (i : Nat) {x : Str} (h : fa[i]? = some (.cls x) := by rfl) : Cls K (He.ga K x) := He.cls_ok (S.c.fact i h)
theorem Said.noat (S : Said fa fn K mg) (i : Nat) {x f : Str} (h : fa[i]? = some (.noat x f) := by rfl) : NoAttr K (He.ga K x) f := He.noat_ok (S.c.fact i h)
theorem Said.meth (S : Said fa fn K mg) (i : Nat) {x m : Str} (h : fa[i]? = some (.meth x m) := by rfl) : Meth K (He.ga K x) m (He.ma K (He.ga K x) m) := He.meth_ok (S.c.fact i h)
theorem Said.mkr (S : Said fa fn K mg) (i : Nat) {x : Str} (h : fa[i]? = some (.mkr x) := by rfl) : Mk K (He.ga K x) (He.ma K (He.ga K x) "__init__") := He.mkr_ok (S.c.fact i h)
/-- X('..') made, to be raised -/
theorem Said.exc (S : Said fa fn K mg) (i j : Nat) {x : Str} (h : fa[i]? = some (.exc x) := by rfl) (hg : fa[j]? = some (.glo x) := by rfl) {X : Cx} {m : Str} {n : Nat} {p p2 pos : Pos} (eK : X.K = K) (em : X.mg = mg) (gl : Gl X x) (hdb : (x == ("__debug__" : Str)) = false := by decide) :
    PMk X (.Call (.Name x p) [.Constant (.str m) n p2] [] pos) (fun _ H Q => Q (.ref (He.ga K x)) none H) := by
  subst eK em
  obtain ⟨h1, h2, h3, h4⟩ := He.exc_ok (S.c.fact i h)
  exact pmk_own PySem.F.excBase_ValueError h1 (S.glo j hg) h2 (raises_own h3 h4) gl hdb
end
end DL
set_option Elab.async false
set_option linter.all false
set_option maxRecDepth 100000
set_option maxHeartbeats 4000000
namespace DL
open PySem PySem.Spec L2

/-! ### the script's first use: a def of the laws, read by itself -/
abbrev rMod : R2 := rI (fun _ j => 0 < j) fun i j => .int (i % j)
abbrev rMul : R2 := rI CMul fun i j => .int (i * j)
abbrev rAdd : R2 := rI0 fun i j => .int (i + j)
abbrev rGt : R2 := rI0 fun i j => .bl (decide (j < i))
abbrev rLen0 (K : PySem.W.Frag) : List V → Hp → VK → Prop := fun xs H Q => ∃ x n, xs = [x] ∧ LenV K x H n ∧ Q (.int (n : Nat)) H
abbrev rInt1 : List V → Hp → VK → Prop := fun xs H Q => (∃ i, xs = [.int i] ∧ Q (.int i) H) ∨ ∃ k, xs = [.bl k] ∧ Q (.int (if k then 1 else 0)) H
abbrev rList1 (K : PySem.W.Frag) : List V → Hp → VK → Prop := fun xs H Q => ∃ p ys, xs = [.ref p] ∧ (SqL K H p ys ∨ SqT K H p ys) ∧ ∀ l, H l = none → Q (.ref l) (upd H l (.lst ys))
def rawBegun (K : PySem.W.Frag) : TS :=
  tSeq (tAsg (tC (.int 0)) (gName 1)) (tSeq (tFor (iSeq K (tVar 0)) (gName 2)
    (tAsg (tOp rMod (tOp rAdd (tOp rAdd (tOp rMul (tVar 1) (tC (.int 48271))) (tOp rMul (tOp rMod (tVar 2) (tC (.int 2147483647))) (tC (.int 69621)))) (tC (.int 11))) (tC (.int 2147483647))) (gName 1)))
    (tRet (tLst (tCons (tCB (rList1 K) (tCons (tVar 0) tNil)) (tCons (tOp rMul (tVar 1) (tCB rInt1 (tCons (tOp rGt (tCB (rLen0 K) (tCons (tVar 0) tNil)) (tC (.int 2))) tNil))) tNil)))))
def spBegun (K : PySem.W.Frag) : Sp := fun vs H Q _ => ∃ (a : Addr) (ns : List Int), vs = [.ref a] ∧ SqL K H a (ns.map V.int) ∧ ns.length ≤ 63 ∧
  ∀ (s : Int) (p q : Addr), 0 ≤ s → s < 2147483647 → H p = none → q ≠ p → H q = none → Q (.ref q) (upd (upd H p (.lst (ns.map V.int))) q (.lst [.ref p, .int s]))
theorem pure_begun {K : PySem.W.Frag} {x y z : Str} (vs : List V) (H : Hp) (Q : VK) (E : XK) (h : spBegun K vs H Q E) : rawBegun K { nx := fun _ H' => Q .non H', rt := Q } (start [x, y, z] vs) H := by
  obtain ⟨a, ns, rfl, hS, hl, hQ⟩ := h
  show tFor (iSeq K (tVar 0)) (gName 2) _ _ _ _
  refine ⟨_, rfl, a, rfl, .inl ⟨⟨_, hS⟩, ?_⟩⟩
  refine for_it (walk_list (xs := ns.map V.int)) (fun i σ' H' => H' = H ∧ ∃ (w : Option V) (s : Int), σ' = [some (.ref a), some (.int s), w] ∧ 0 ≤ s ∧ s < 2147483647) ⟨rfl, none, 0, rfl, by decide, by decide⟩ (fun i σ' H' _ h => by obtain ⟨rfl, _⟩ := h; exact hS) ?_ ?_
  · rintro i v σ' H1 H2 hi ⟨rfl, w, s, rfl, h0, h1⟩ ⟨rfl, hv⟩
    obtain ⟨n, -, hn⟩ : ∃ n, ns[i]? = some n ∧ V.int n = v := by simpa using hv
    subst hn
    refine ⟨_, rfl, _, _, rfl, rfl, Or.inr ⟨by decide, by decide⟩, ?_⟩
    refine ⟨_, rfl, _, _, rfl, rfl, (show (0:Int) < 2147483647 by decide), _, _, rfl, rfl, Or.inr ⟨by decide, by decide⟩, _, _, rfl, rfl, _, _, rfl, rfl, _, _, rfl, rfl, (show (0:Int) < 2147483647 by decide), ?_⟩
    refine ⟨rfl, some (.int n), _, rfl, ?_, ?_⟩
    · exact Int.emod_nonneg _ (by decide)
    · exact Int.emod_lt_of_pos _ (by decide)
  · rintro σ' H1 ⟨rfl, w, s, rfl, h0, h1⟩
    refine ⟨_, rfl, a, ns.map V.int, rfl, .inl hS, fun p hp => ?_⟩
    have hS' : SqL K (upd H1 p (.lst (ns.map V.int))) a (ns.map V.int) := by
      rcases hS with hS | hS
      · refine .inl ?_
        have hn : a ≠ p := fun z => by
          rw [z] at hS
          rcases hS with e | ⟨_, e⟩ <;> (rw [hp] at e; cases e)
        rcases hS with e | ⟨o, e⟩
        · exact .inl (by rw [upd_ne hn]; exact e)
        · exact .inr ⟨o, by rw [upd_ne hn]; exact e⟩
      · exact .inr hS
    refine ⟨_, rfl, _, rfl, _, _, rfl, .inl ⟨_, hS', rfl⟩, _, _, rfl, rfl, .inr ⟨_, rfl, ?_⟩⟩
    have fin : ∀ j : Int, 0 ≤ j → j ≤ 1 → CMul s j ∧ ([V.ref p, .int (s * j)].length ≤ sizeLine ∧ ∀ q, upd H1 p (.lst (ns.map V.int)) q = none → Q (.ref q) (upd (upd H1 p (.lst (ns.map V.int))) q (.lst [V.ref p, .int (s * j)]))) := fun j j0 j1 => by
      refine ⟨.inr ⟨by omega, by omega⟩, (show 2 ≤ sizeLine by decide), fun q hq => ?_⟩
      have hne : q ≠ p := fun z => by
        rw [z, upd_same] at hq
        cases hq
      rw [upd_ne hne] at hq
      have : j = 0 ∨ j = 1 := by omega
      rcases this with rfl | rfl
      · exact hQ (s * 0) p q (by omega) (by omega) hp hne hq
      · exact hQ (s * 1) p q (by omega) (by omega) hp hne hq
    cases decide ((2 : Int) < ((ns.map V.int).length : Nat)) with
    | true => exact ⟨s, 1, rfl, rfl, fin 1 (by decide) (by decide)⟩
    | false => exact ⟨s, 0, rfl, rfl, fin 0 (by decide) (by decide)⟩
/-! ### a box of draws -/
/-- at b: the numbers left, at l, and what was stirred -/
def Box (G : Gp) (b l : Addr) : Prop := l ≠ b ∧ ∃ (ns : List Int) (s : Int), G b = some (.lst [.ref l, .int s]) ∧ G l = some (.lst (ns.map D.int)) ∧ 0 ≤ s ∧ s < 2147483647
def spLaw (K : PySem.W.Frag) : Sp := fun vs H Q E => ∃ (a : Addr) (ns : List Int), vs = [.ref a] ∧ SqL K H a (ns.map V.int) ∧ ns.length ≤ 63 ∧ ∀ v H', v = .bl true → Q v H'
/-- a law's body: its first statement makes the box -/
theorem law_ok {P : Program} {w : World} {K : PySem.W.Frag} {mg : Str → Option Value} {base : Heap} {x qual : Str} {params : Arguments} {st : Stmt} {body : List Stmt} {scope : Scope} {f : Addr} {fd : FuncData} {N ps : List Str} {k : Nat} {t : DTS}
    (F : FunD K x qual params (st :: body) scope [] [] f fd) (S : FnScope N ps scope) (hps : ps.length = 1)
    (hpure : ∀ b l G sd, Box G b l → (∀ a, a ≠ b → a ≠ l → G a = none) → sd[1]? = some (some (.ref b)) → sd.length = N.length → t { nx := fun _ _ => False, rt := fun d _ => d = .bl true } sd G) (hN : 2 ≤ N.length)
    (h1 : ∀ (cdv : Value) (A : Around) (outer : List Env) (s : Shared) (H : Hp) (E : XK), Room k (A.deeper (PyProof.Rows.envOfC qual scope s.heap.objs.size f cdv)) →
      PS (Bd P w K mg base N qual scope f cdv A outer s H E) st (tAsg (tCallS (spBegun K) (WE fun _ _ _ _ => False) (tCons (tVar 0) tNil)) (gName 1)))
    (hbody : ∀ (cdv : Value) (A : Around) (outer : List Env) (s : Shared) (H : Hp) (E : XK), Room k (A.deeper (PyProof.Rows.envOfC qual scope s.heap.objs.size f cdv)) → PassesOwn (model P w) (Bd P w K mg base N qual scope f cdv A outer s H E).A (Bd P w K mg base N qual scope f cdv A outer s H E).env (Bd P w K mg base N qual scope f cdv A outer s H E).xe →
      Wish (Bd P w K mg base N qual scope f cdv A outer s H E) ⟨H⟩ W0 → DSs (Bd P w K mg base N qual scope f cdv A outer s H E) ⟨H⟩ body t) :
    FnOk P w K mg base (L2.CX P w) (k + 1) f fd ps (spLaw K) := by
  refine F.ok S (fun vs H Q E h => ?_) (fun cdv A outer s H vs Q E hr h => ?_)
  · obtain ⟨a, ns, rfl, _⟩ := h
    rw [hps]
    rfl
  · obtain ⟨a, ns, rfl, hS, hl, hQ⟩ := h
    obtain ⟨ts, p, w'⟩ := (hbody cdv A outer s H E hr (passes_of (X := Bd P w K mg base N qual scope f cdv A outer s H E) rfl) wish0).ex
    refine ⟨_, pss_cons (h1 cdv A outer s H E hr) p, ?_⟩
    have hlen : (start N [V.ref a]).length = N.length := by
      simp [L2.start]
      omega
    refine ⟨.ref a, by simp [L2.start], a, ns, rfl, hS, hl, fun sd p q h0 h1 hp hqp hq => ?_⟩
    have k1 : Kp H (upd H p (.lst (ns.map V.int))) := .fresh hp
    have hq' : upd H p (.lst (ns.map V.int)) q = none := by rw [upd_ne hqp]; exact hq
    have k2 : Kp (upd H p (.lst (ns.map V.int))) (upd (upd H p (.lst (ns.map V.int))) q (.lst [.ref p, .int sd])) := .fresh hq'
    have ri : ∀ H' : Hp, RelL H' (ns.map D.int) (ns.map V.int) := fun H' => by
      clear hS hl k1 hq' k2
      induction ns with
      | nil => exact rfl
      | cons n ns ih => exact ⟨_, _, rfl, rfl, ih⟩
    have R0 : Rep K ⟨H⟩ H (fun _ => none) := ⟨.refl H, fun a o e => nomatch e⟩
    have R1 : Rep K ⟨H⟩ (upd H p (.lst (ns.map V.int))) (put (fun _ => none) p (.lst (ns.map D.int))) := R0.laid (o := .lst _) hp ⟨_, upd_same, ri _, by rw [List.length_map, sizeLine_eq]; omega⟩
    have R2 : Rep K ⟨H⟩ (upd (upd H p (.lst (ns.map V.int))) q (.lst [.ref p, .int sd])) (put (put (fun _ => none) p (.lst (ns.map D.int))) q (.lst [.ref p, .int sd])) := R1.laid (o := .lst _) hq' ⟨_, upd_same, ⟨_, _, rfl, rfl, _, _, rfl, rfl, rfl⟩, by simp [sizeLine_eq]⟩
    have hsl : (start N [V.ref a]).length = (List.replicate N.length (none : Option D)).length := by rw [hlen, List.length_replicate]
    refine w' ((start N [V.ref a]).set 1 (some (.ref q))) _ ((List.replicate N.length none).set 1 (some (.ref q))) _ { nx := fun _ _ => False, rt := fun d _ => d = .bl true } _ ?_ R2 ?_ ?_
    · refine RelS.set (v := .ref q) (d := .ref q) ⟨hsl, fun i d e => ?_⟩ rfl 1
      have := List.mem_of_getElem? e
      simp [List.mem_replicate] at this
    · refine hpure q p _ _ ⟨hqp.symm, ns, sd, put_same, by rw [put_ne hqp.symm, put_same], h0, h1⟩ (fun a ha hl => by rw [put_ne ha, put_ne hl]) (by rw [List.getElem?_set_self (by rw [List.length_replicate]; omega)]) (by simp)
    · refine ⟨fun _ _ _ _ _ _ _ z => z.elim, fun v d H' G' _ r _ e => ?_, fun _ _ _ _ _ _ _ z => z.elim, fun _ _ _ _ _ _ _ z => z.elim⟩
      subst e
      exact hQ _ _ (by exact r)
theorem hCX {P : Program} : ∀ (w : World) (H : Hp) (s : Shared) (e : Value) (s' : Shared), L2.CX P w [] H s (fun _ _ _ => False) e s' → False := fun w H s e s' h => by
  obtain ⟨_, _, _, _, _, _, _, _, _, _, _, _, z⟩ := h
  exact z
end DL
set_option Elab.async false
set_option linter.all false
set_option maxRecDepth 100000
set_option maxHeartbeats 4000000
namespace DL
open PySem PySem.Spec L2

/-! ### the program's classes -/
structure Cs where
  cEnd : Addr
  cCarry : Addr
  cHall : Addr
  cWorld : Addr
  cRecord : Addr
  cCarryError : Addr
  cBadOffers : Addr
  cBadEnds : Addr
  cNoThing : Addr
  cHeld : Addr
  cNoRoom : Addr
  cFallen : Addr
  cNoHand : Addr
  cNoEnd : Addr
  cBadWish : Addr
  cBusy : Addr
  cBadLog : Addr
  cBadText : Addr
def cs (K : PySem.W.Frag) : Cs := ⟨He.ga K "End", He.ga K "Carry", He.ga K "Hall", He.ga K "World", He.ga K "Record", He.ga K "CarryError", He.ga K "BadOffers", He.ga K "BadEnds", He.ga K "NoThing", He.ga K "Held", He.ga K "NoRoom", He.ga K "Fallen", He.ga K "NoHand", He.ga K "NoEnd", He.ga K "BadWish", He.ga K "Busy", He.ga K "BadLog", He.ga K "BadText"⟩
def nEnd : List Str := ["name", "knows", "things", "made", "lifted", "frozen", "coming", "kept", "told", "seen", "left", "edits", "rises", "is_down"]
def nCarry : List Str := ["number", "by", "source", "thing", "wish", "stage", "edit", "kinds", "above", "turn", "would", "goal", "kind", "worth", "ends", "kept"]
def nHall : List Str := ["ends", "carries", "holds", "leaves", "rises", "told"]
def nWorld : List Str := ["hall", "ends", "road"]
def nRecord : List Str := ["where", "was"]
theorem ndEnd : nEnd.Nodup := by decide +kernel
theorem ndCarry : nCarry.Nodup := by decide +kernel
theorem ndHall : nHall.Nodup := by decide +kernel
theorem ndWorld : nWorld.Nodup := by decide +kernel
theorem ndRecord : nRecord.Nodup := by decide +kernel

/-! ### promises -/
abbrev wx (E : DXK) : DWX := fun C x _ G => E C x G
def sp0 (f : Gp → DQ → DXK → Prop) : DSp := fun ds G Q E => ds = [] ∧ f G Q E
def sp1 (f : D → Gp → DQ → DXK → Prop) : DSp := fun ds G Q E => ∃ a, ds = [a] ∧ f a G Q E
def sp2 (f : D → D → Gp → DQ → DXK → Prop) : DSp := fun ds G Q E => ∃ a b, ds = [a, b] ∧ f a b G Q E
def sp3 (f : D → D → D → Gp → DQ → DXK → Prop) : DSp := fun ds G Q E => ∃ a b c, ds = [a, b, c] ∧ f a b c G Q E
def sp4 (f : D → D → D → D → Gp → DQ → DXK → Prop) : DSp := fun ds G Q E => ∃ a b c d, ds = [a, b, c, d] ∧ f a b c d G Q E
def sp5 (f : D → D → D → D → D → Gp → DQ → DXK → Prop) : DSp := fun ds G Q E => ∃ a b c d e, ds = [a, b, c, d, e] ∧ f a b c d e G Q E
def sp6 (f : D → D → D → D → D → D → Gp → DQ → DXK → Prop) : DSp := fun ds G Q E => ∃ a b c d e g, ds = [a, b, c, d, e, g] ∧ f a b c d e g G Q E
def sp7 (f : D → D → D → D → D → D → D → Gp → DQ → DXK → Prop) : DSp := fun ds G Q E => ∃ a b c d e g h, ds = [a, b, c, d, e, g, h] ∧ f a b c d e g h G Q E
theorem sp0_len {f} : ∀ ds G Q E, sp0 f ds G Q E → ds.length = 0 := fun _ _ _ _ ⟨e, _⟩ => by rw [e]; rfl
theorem sp1_len {f} : ∀ ds G Q E, sp1 f ds G Q E → ds.length = 1 := fun _ _ _ _ ⟨_, e, _⟩ => by rw [e]; rfl
theorem sp2_len {f} : ∀ ds G Q E, sp2 f ds G Q E → ds.length = 2 := fun _ _ _ _ ⟨_, _, e, _⟩ => by rw [e]; rfl
theorem sp3_len {f} : ∀ ds G Q E, sp3 f ds G Q E → ds.length = 3 := fun _ _ _ _ ⟨_, _, _, e, _⟩ => by rw [e]; rfl
theorem sp4_len {f} : ∀ ds G Q E, sp4 f ds G Q E → ds.length = 4 := fun _ _ _ _ ⟨_, _, _, _, e, _⟩ => by rw [e]; rfl
theorem sp5_len {f} : ∀ ds G Q E, sp5 f ds G Q E → ds.length = 5 := fun _ _ _ _ ⟨_, _, _, _, _, e, _⟩ => by rw [e]; rfl
theorem sp6_len {f} : ∀ ds G Q E, sp6 f ds G Q E → ds.length = 6 := fun _ _ _ _ ⟨_, _, _, _, _, _, e, _⟩ => by rw [e]; rfl
theorem sp7_len {f} : ∀ ds G Q E, sp7 f ds G Q E → ds.length = 7 := fun _ _ _ _ ⟨_, _, _, _, _, _, _, e, _⟩ => by rw [e]; rfl
end DL
set_option Elab.async false
set_option linter.all false
set_option maxRecDepth 100000
set_option maxHeartbeats 4000000
namespace DL
open PySem PySem.Spec L2

/-! ### loops, comprehensions: by what stays -/
theorem forL_ind {stay : Gp → Prop} {g : DTG} {tb : DTS} {DD : DEnds} {items : List D} (I : Nat → SD → Gp → Prop) (hst : ∀ i sd G, I i sd G → stay G)
    (step : ∀ i x sd G (K : SD → Gp → Prop), items[i]? = some x → I i sd G → (∀ sd2 G2, I (i + 1) sd2 G2 → K sd2 G2) → g x sd G fun sd1 G1 => tb { DD with nx := fun sd2 G2 => stay G2 ∧ K sd2 G2, ct := fun sd2 G2 => stay G2 ∧ K sd2 G2, bk := DD.nx } sd1 G1)
    (fin : ∀ sd G, I items.length sd G → DD.nx sd G) {sd : SD} {G : Gp} (h0 : I 0 sd G) : stay G ∧ dForL stay g tb DD items sd G := by
  refine ⟨hst 0 _ _ h0, ?_⟩
  suffices h : ∀ (ys : List D) (i : Nat) sd G, items.drop i = ys → i ≤ items.length → I i sd G → dForL stay g tb DD ys sd G from h items 0 sd G rfl (Nat.zero_le _) h0
  intro ys
  induction ys with
  | nil =>
    intro i sd G e hi hI
    have : items.length ≤ i := List.drop_eq_nil_iff.mp e
    have : i = items.length := Nat.le_antisymm hi this
    subst this
    exact fin _ _ hI
  | cons y ys ih =>
    intro i sd G e hi hI
    have hlt : i < items.length := by
      rcases Nat.lt_or_ge i items.length with h | h
      · exact h
      · rw [List.drop_eq_nil_iff.mpr h] at e
        cases e
    have e1 : items[i]? = some y := by
      have := List.getElem?_drop (xs := items) (i := i) (j := 0)
      rw [e] at this
      simpa using this.symm
    have e2 : items.drop (i + 1) = ys := by
      have := List.drop_drop (i := 1) (j := i) (l := items)
      rw [e] at this
      simpa [Nat.add_comm] using this.symm
    exact step i y sd G _ e1 hI fun sd2 G2 h2 => ih (i + 1) sd2 G2 e2 hlt h2
theorem dComp_pure {ti : DTI} {g : DTG} {tt : DTT} {te : DTE} {vs : List Nat} {sd : SD} {G : Gp} {Q : DQ} {items : List D} {stay : Gp → Prop} (f : D → Option D) (hti : ∀ R : List D → (Gp → Prop) → Gp → Prop, R items stay G → ti sd G R)
    (hst0 : stay G) (hst : ∀ p ys, G p = none → stay (put G p (.lst ys))) (ht : ∀ p ys x, G p = none → x ∈ items → turnIs g tt te (dwipe sd vs) x (put G p (.lst ys)) (f x))
    (q : ∀ p, Nw G p → Q (.ref p) (put G p (.lst (items.filterMap f)))) : dComp ti g tt te vs sd G Q := by
  refine hti _ ⟨hst0, fun p hp => ⟨hst p _ hp, ?_⟩⟩
  exact dcL_pure f hp (fun ys => hst p ys hp) items [] (fun x hx ys => ht p ys x hp hx) (by simpa using q p hp)
/-! ### for simp: readings run from their head; what follows is left alone until it is met -/

@[simp] theorem sp1_app {f : D → Gp → DQ → DXK → Prop} {a : D} {G Q E} : sp1 f [a] G Q E = f a G Q E := propext ⟨fun ⟨_, e, h⟩ => by cases e; exact h, fun h => ⟨_, rfl, h⟩⟩
@[simp] theorem sp2_app {f : D → D → Gp → DQ → DXK → Prop} {a b : D} {G Q E} : sp2 f [a, b] G Q E = f a b G Q E := propext ⟨fun ⟨_, _, e, h⟩ => by cases e; exact h, fun h => ⟨_, _, rfl, h⟩⟩
@[simp] theorem sp3_app {f : D → D → D → Gp → DQ → DXK → Prop} {a b c : D} {G Q E} : sp3 f [a, b, c] G Q E = f a b c G Q E := propext ⟨fun ⟨_, _, _, e, h⟩ => by cases e; exact h, fun h => ⟨_, _, _, rfl, h⟩⟩
@[simp] theorem sp4_app {f : D → D → D → D → Gp → DQ → DXK → Prop} {a b c d : D} {G Q E} : sp4 f [a, b, c, d] G Q E = f a b c d G Q E := propext ⟨fun ⟨_, _, _, _, e, h⟩ => by cases e; exact h, fun h => ⟨_, _, _, _, rfl, h⟩⟩
@[simp] theorem sp5_app {f : D → D → D → D → D → Gp → DQ → DXK → Prop} {a b c d e : D} {G Q E} : sp5 f [a, b, c, d, e] G Q E = f a b c d e G Q E := propext ⟨fun ⟨_, _, _, _, _, e, h⟩ => by cases e; exact h, fun h => ⟨_, _, _, _, _, rfl, h⟩⟩
@[simp] theorem sp6_app {f : D → D → D → D → D → D → Gp → DQ → DXK → Prop} {a b c d e g : D} {G Q E} : sp6 f [a, b, c, d, e, g] G Q E = f a b c d e g G Q E := propext ⟨fun ⟨_, _, _, _, _, _, e, h⟩ => by cases e; exact h, fun h => ⟨_, _, _, _, _, _, rfl, h⟩⟩
@[simp] theorem sp7_app {f : D → D → D → D → D → D → D → Gp → DQ → DXK → Prop} {a b c d e g h : D} {G Q E} : sp7 f [a, b, c, d, e, g, h] G Q E = f a b c d e g h G Q E := propext ⟨fun ⟨_, _, _, _, _, _, _, e, h⟩ => by cases e; exact h, fun h => ⟨_, _, _, _, _, _, _, rfl, h⟩⟩
@[simp] theorem dstart_app {N : List Str} {ds : List D} : dstart N ds = ds.map some ++ List.replicate (N.length - ds.length) none := (rfl)
@[simp] theorem rep0 {α : Type} {x : α} : List.replicate 0 x = [] := (rfl)
@[simp] theorem repS {α : Type} {x : α} {n : Nat} : List.replicate (n + 1) x = x :: List.replicate n x := (rfl)

theorem charNat_inj {a b : Char} (h : a.toNat = b.toNat) : a = b := Char.ext (UInt32.toNat_inj.mp h)
theorem mapNat_inj : ∀ {a b : List Char}, a.map Char.toNat = b.map Char.toNat → a = b
  | [], [], _ => rfl
  | [], _ :: _, h => by simp at h
  | _ :: _, [], h => by simp at h
  | x :: a, y :: b, h => by
    simp only [List.map_cons, List.cons.injEq] at h
    rw [charNat_inj h.1, mapNat_inj h.2]
@[simp] theorem ofString_inj {s t : String} : (Str.ofString s = Str.ofString t) = (s = t) := propext ⟨fun h => by
  rw [Str.ofString_eq_toList, Str.ofString_eq_toList] at h
  have h2 : s.toList.map Char.toNat = t.toList.map Char.toNat := by simpa using h
  exact String.toList_inj.mp (mapNat_inj h2), fun h => by rw [h]⟩
/-- what a term must not be looked into for -/
structure Tg {α : Sort u} (a : α) : Type where
  mk ::
def iteP (c : Bool) (A B : Prop) (ta : Tg A) (tb : Tg B) : Prop := if c = true then A else B
@[simp] theorem iteP_true {A B : Prop} {ta : Tg A} {tb : Tg B} : iteP true A B ta tb = A := by simp [iteP]
@[simp] theorem iteP_false {A B : Prop} {ta : Tg A} {tb : Tg B} : iteP false A B ta tb = B := by simp [iteP]
theorem iteP_of {c : Bool} {A B : Prop} {ta : Tg A} {tb : Tg B} (h1 : c = true → A) (h2 : c = false → B) : iteP c A B ta tb := by cases c; exact h2 rfl; exact h1 rfl
def slotD (o : Option (Option D)) (G : Gp) (Q : DQ) : Prop := match o with
  | some (some d) => Q d G
  | _ => False
theorem slotD_congr {o o' : Option (Option D)} {G : Gp} {Q : DQ} (h : o = o') : slotD o G Q = slotD o' G Q := by rw [h]
@[simp] theorem slotD_some {d : D} {G Q} : slotD (some (some d)) G Q = Q d G := (rfl)
def optD (o : Option D) (G : Gp) (Q : DQ) (tq : Tg Q) : Prop := ∃ v, o = some v ∧ Q v G
@[simp] theorem optD_some {d : D} {G Q tq} : optD (some d) G Q tq = Q d G := by simp [optD]
theorem optD_of {o : Option D} {d : D} {G : Gp} {Q : DQ} {tq} (h : o = some d) (q : Q d G) : optD o G Q tq := ⟨d, h, q⟩
def callP (sp : DSp) (ds : List D) (G : Gp) (Q : DQ) (E : DXK) (ts : Tg sp) (tq : Tg Q) (te : Tg E) : Prop := sp ds G Q E
theorem call1 {f : D → Gp → DQ → DXK → Prop} {a : D} {G Q E} {ts tq te} (h : f a G Q E) : callP (sp1 f) [a] G Q E ts tq te := ⟨_, rfl, h⟩
theorem call2 {f : D → D → Gp → DQ → DXK → Prop} {a b : D} {G Q E} {ts tq te} (h : f a b G Q E) : callP (sp2 f) [a, b] G Q E ts tq te := ⟨_, _, rfl, h⟩
theorem call3 {f : D → D → D → Gp → DQ → DXK → Prop} {a b c : D} {G Q E} {ts tq te} (h : f a b c G Q E) : callP (sp3 f) [a, b, c] G Q E ts tq te := ⟨_, _, _, rfl, h⟩
theorem call4 {f : D → D → D → D → Gp → DQ → DXK → Prop} {a b c d : D} {G Q E} {ts tq te} (h : f a b c d G Q E) : callP (sp4 f) [a, b, c, d] G Q E ts tq te := ⟨_, _, _, _, rfl, h⟩
theorem call5 {f : D → D → D → D → D → Gp → DQ → DXK → Prop} {a b c d e : D} {G Q E} {ts tq te} (h : f a b c d e G Q E) : callP (sp5 f) [a, b, c, d, e] G Q E ts tq te := ⟨_, _, _, _, _, rfl, h⟩
theorem call6 {f : D → D → D → D → D → D → Gp → DQ → DXK → Prop} {a b c d e g : D} {G Q E} {ts tq te} (h : f a b c d e g G Q E) : callP (sp6 f) [a, b, c, d, e, g] G Q E ts tq te := ⟨_, _, _, _, _, _, rfl, h⟩
theorem call7 {f : D → D → D → D → D → D → D → Gp → DQ → DXK → Prop} {a b c d e g k : D} {G Q E} {ts tq te} (h : f a b c d e g k G Q E) : callP (sp7 f) [a, b, c, d, e, g, k] G Q E ts tq te := ⟨_, _, _, _, _, _, _, rfl, h⟩
def loopP (items : List D) (stay : Gp → Prop) (g : DTG) (tb : DTS) (DD : DEnds) (sd : SD) (G : Gp) (t1 : Tg stay) (t2 : Tg g) (t3 : Tg tb) (t4 : Tg DD) : Prop := stay G ∧ dForL stay g tb DD items sd G
def compP (t : DTE) (sd : SD) (G : Gp) (Q : DQ) (tt : Tg t) (tq : Tg Q) : Prop := t sd G Q
/-- a part with a name of its own -/
def dN (t : DTE) : DTE := t
@[simp ↓] theorem dN_app {t : DTE} {sd G Q} : dN t sd G Q = compP t sd G Q ⟨⟩ ⟨⟩ := (rfl)
def tupP (n : Nat) (t : DTGs) (d : D) (sd : SD) (G : Gp) (Q : SD → Gp → Prop) : Prop := match d with
  | .tup ds => if ds.length = n then t ds sd G Q else False
  | _ => False
theorem tupP_congr {n : Nat} {t : DTGs} {d d' : D} {sd : SD} {G : Gp} {Q : SD → Gp → Prop} (h : d = d') : tupP n t d sd G Q = tupP n t d' sd G Q := by rw [h]
def dBP (Q : Bool → Gp → Prop) (d : D) (G : Gp) : Prop := match d with
  | .bl b => Q b G
  | _ => False
@[simp ↓] theorem dVar_app {i sd G Q} : dVar i sd G Q = slotD (sd[i]?) G Q := by
  unfold dVar slotD
  exact (rfl)
@[simp ↓] theorem dC_app {d sd G Q} : dC d sd G Q = Q d G := (rfl)
@[simp ↓] theorem dOp_app {r ta tb sd G Q} : dOp r ta tb sd G Q = ta sd G fun d G1 => tb sd G1 fun e G2 => r d e G2 Q := (rfl)
theorem dB_congr {Q : Bool → Gp → Prop} {d d' : D} {G : Gp} (h : d = d') : dB Q d G = dB Q d' G := by rw [h]
@[simp] theorem dB_bl {Q : Bool → Gp → Prop} {b : Bool} {G : Gp} : dB Q (.bl b) G = Q b G := (rfl)
@[simp ↓] theorem dTest_app {t sd G} {Q : Bool → Gp → Prop} : dTest t sd G Q = t sd G (dB Q) := (rfl)
@[simp ↓] theorem dChain_app {r r' ta tb tc sd G Q} : dChain r r' ta tb tc sd G Q = ta sd G fun x G1 => tb sd G1 fun y G2 => r x y G2 (dB fun k G3 => iteP k (tc sd G3 fun z G4 => r' y z G4 Q) (Q (.bl false) G3) ⟨⟩ ⟨⟩) := (rfl)
@[simp ↓] theorem dIfE_app {c t u sd G Q} : dIfE c t u sd G Q = c sd G fun b G1 => iteP b (t sd G1 Q) (u sd G1 Q) ⟨⟩ ⟨⟩ := (rfl)
@[simp ↓] theorem dAnd_app {t u : DTT} {sd G} {Q : Bool → Gp → Prop} : dAnd t u sd G Q = t sd G fun c G1 => iteP c (u sd G1 Q) (Q false G1) ⟨⟩ ⟨⟩ := (rfl)
@[simp ↓] theorem dOr_app {t u : DTT} {sd G} {Q : Bool → Gp → Prop} : dOr t u sd G Q = t sd G fun c G1 => iteP c (Q true G1) (u sd G1 Q) ⟨⟩ ⟨⟩ := (rfl)
@[simp ↓] theorem dNot_app {t : DTT} {sd G} {Q : Bool → Gp → Prop} : dNot t sd G Q = t sd G fun c G1 => Q (!c) G1 := (rfl)
@[simp ↓] theorem dAndV_app {ta tb sd G Q} : dAndV ta tb sd G Q = ta sd G (dB fun c G1 => iteP c (tb sd G1 Q) (Q (.bl false) G1) ⟨⟩ ⟨⟩) := (rfl)
@[simp ↓] theorem dOrV_app {ta tb sd G Q} : dOrV ta tb sd G Q = ta sd G (dB fun c G1 => iteP c (Q (.bl true) G1) (tb sd G1 Q) ⟨⟩ ⟨⟩) := (rfl)
@[simp ↓] theorem dNotV_app {ta sd G Q} : dNotV ta sd G Q = ta sd G (dB fun c G1 => Q (.bl (!c)) G1) := (rfl)
@[simp ↓] theorem dNext_app {n r b c} {sd G} : dNext ⟨n, r, b, c⟩ sd G = n sd G := (rfl)
@[simp ↓] theorem dSeq_app {t u} {n r b c} {sd G} : dSeq t u ⟨n, r, b, c⟩ sd G = t ⟨u ⟨n, r, b, c⟩, r, b, c⟩ sd G := (rfl)
@[simp ↓] theorem dDrop_app {te} {n r b c} {sd G} : dDrop te ⟨n, r, b, c⟩ sd G = te sd G fun _ G1 => n sd G1 := (rfl)
@[simp ↓] theorem dRet_app {te} {n r b c} {sd G} : dRet te ⟨n, r, b, c⟩ sd G = te sd G r := (rfl)
@[simp ↓] theorem dRetN_app {n r b c} {sd G} : dRetN ⟨n, r, b, c⟩ sd G = r .non G := (rfl)
@[simp ↓] theorem dIf_app {tc t u} {n r b c} {sd G} : dIf tc t u ⟨n, r, b, c⟩ sd G = tc sd G fun k G1 => iteP k (t ⟨n, r, b, c⟩ sd G1) (u ⟨n, r, b, c⟩ sd G1) ⟨⟩ ⟨⟩ := (rfl)
@[simp ↓] theorem dSkip_app {n r b c} {sd G} : dSkip ⟨n, r, b, c⟩ sd G = c sd G := (rfl)
@[simp ↓] theorem dBreak_app {n r b c} {sd G} : dBreak ⟨n, r, b, c⟩ sd G = b sd G := (rfl)
@[simp ↓] theorem dgName_app {i d sd G} {Q : SD → Gp → Prop} : dgName i d sd G Q = Q (sd.set i (some d)) G := (rfl)
@[simp ↓] theorem dgNil_app {sd G} {Q : SD → Gp → Prop} : dgNil [] sd G Q = Q sd G := (rfl)
@[simp ↓] theorem dgCons_app {t u d r sd G} {Q : SD → Gp → Prop} : dgCons t u (d :: r) sd G Q = t d sd G fun sd' G' => u r sd' G' Q := (rfl)
@[simp ↓] theorem dgTup_app {n t d sd G} {Q : SD → Gp → Prop} : dgTup n t d sd G Q = tupP n t d sd G Q := (rfl)
@[simp] theorem tupP_tup {n t ds sd G} {Q : SD → Gp → Prop} (h : ds.length = n) : tupP n t (.tup ds) sd G Q = t ds sd G Q := by
  simp only [tupP]
  rw [if_pos h]
@[simp ↓] theorem dAsg_app {te g} {n r b c} {sd G} : dAsg te g ⟨n, r, b, c⟩ sd G = te sd G fun d G1 => g d sd G1 n := (rfl)
def parP (i j : Nat) (ds : List D) (D : DEnds) (sd : SD) (G1 : Gp) : Prop := match ds with
  | [d, e] => D.nx ((sd.set i (some d)).set j (some e)) G1
  | _ => False
@[simp ↓] theorem dPar_app {i j ta} {n r b c} {sd G} : dPar i j ta ⟨n, r, b, c⟩ sd G = ta sd G fun ds G1 => parP i j ds ⟨n, r, b, c⟩ sd G1 := (rfl)
@[simp ↓] theorem parP_2 {i j d e} {n r b c} {sd G} : parP i j [d, e] ⟨n, r, b, c⟩ sd G = n ((sd.set i (some d)).set j (some e)) G := (rfl)
@[simp ↓] theorem daNil_app {sd G} {Q : List D → Gp → Prop} : daNil sd G Q = Q [] G := (rfl)
@[simp ↓] theorem daCons_app {ta tr sd G} {Q : List D → Gp → Prop} : daCons ta tr sd G Q = ta sd G fun d G1 => tr sd G1 fun ds G2 => Q (d :: ds) G2 := (rfl)
@[simp ↓] theorem dTup_app {t sd G Q} : dTup t sd G Q = t sd G fun ds G1 => Q (.tup ds) G1 := (rfl)
@[simp ↓] theorem dLst_app {t sd G Q} : dLst t sd G Q = t sd G fun ds G1 => ∀ p, Nw G1 p → Q (.ref p) (put G1 p (.lst ds)) := (rfl)
@[simp ↓] theorem dFor_app {ti g tb} {DD : DEnds} {sd G} : dFor ti g tb DD sd G = ti sd G fun items stay G1 => loopP items stay g tb DD sd G1 ⟨⟩ ⟨⟩ ⟨⟩ ⟨⟩ := (rfl)
@[simp ↓] theorem dYes_app {sd G} {Q : Bool → Gp → Prop} : dYes sd G Q = Q true G := (rfl)
@[simp ↓] theorem doNone_app {sd G} {Q : Option Int → Gp → Prop} : doNone sd G Q = Q none G := (rfl)
def intP (d : D) (G : Gp) (Q : Option Int → Gp → Prop) : Prop := match d with
  | .int i => Q (some i) G
  | _ => False
theorem intP_congr {d d' : D} {G : Gp} {Q : Option Int → Gp → Prop} (h : d = d') : intP d G Q = intP d' G Q := by rw [h]
@[simp] theorem intP_int {i : Int} {G} {Q : Option Int → Gp → Prop} : intP (.int i) G Q = Q (some i) G := (rfl)
@[simp ↓] theorem doSome_app {t sd G} {Q : Option Int → Gp → Prop} : doSome t sd G Q = t sd G fun d G1 => intP d G1 Q := (rfl)
@[simp ↓] theorem dSl_app {te tl th sd G Q} : dSl te tl th sd G Q = te sd G fun d G1 => tl sd G1 fun l G2 => th sd G2 fun u G3 => slR d l u G3 Q := (rfl)
@[simp ↓] theorem dgSub_app {to ti v sd G} {Q : SD → Gp → Prop} : dgSub to ti v sd G Q = to sd G fun o G1 => ti sd G1 fun i G2 => setR o i v G2 fun G3 => Q sd G3 := (rfl)
@[simp ↓] theorem dCB_app {rD t sd G Q} : dCB rD t sd G Q = t sd G fun ds G1 => rD ds G1 Q := (rfl)
@[simp ↓] theorem dBM_app {T rD to t sd G Q} : dBM T rD to t sd G Q = to sd G fun d G1 => tyD T d G1 ∧ t sd G1 fun ds G2 => rD d ds G2 Q := (rfl)
@[simp ↓] theorem dCall_app {sp W t sd G Q} : dCall sp W t sd G Q = t sd G fun ds G1 => callP sp ds G1 Q (fun C x G2 => W C x sd G2) ⟨⟩ ⟨⟩ ⟨⟩ := (rfl)
@[simp ↓] theorem dMake_app {C ns sp W t sd G Q} : dMake C ns sp W t sd G Q = t sd G fun ds G1 => ∀ a, Nw G1 a → callP sp (.ref a :: ds) (put G1 a (.ins C ns [])) (fun d G2 => d = .non ∧ Q (.ref a) G2) (fun C x G3 => W C x sd G3) ⟨⟩ ⟨⟩ ⟨⟩ := (rfl)
@[simp ↓] theorem dRaise_app {C W} {n r b c} {sd G} : dRaise C W ⟨n, r, b, c⟩ sd G = W C none sd G := (rfl)
/-- isinstance -/
def isiO (o : Option String) (T : String) (G : Gp) (Q : DQ) : Prop := ∃ a, o = some a ∧ Q (.bl (isTy a T)) G
theorem isiO_congr {o o' : Option String} {T : String} {G : Gp} {Q : DQ} (h : o = o') : isiO o T G Q = isiO o' T G Q := by rw [h]
@[simp] theorem isiO_some {a T : String} {G Q} : isiO (some a) T G Q = Q (.bl (isTy a T)) G := by simp [isiO]
@[simp ↓] theorem isiR_app {d : D} {T : String} {G Q} : isiR [d, .ty T] G Q = (T ∈ tyNames ∧ isiO (tyN G d) T G Q) := (rfl)
theorem loop_ind {stay : Gp → Prop} {g : DTG} {tb : DTS} {DD : DEnds} {items : List D} (I : Nat → SD → Gp → Prop) (hst : ∀ i sd G, I i sd G → stay G)
    (step : ∀ i x sd G (K : SD → Gp → Prop), items[i]? = some x → I i sd G → (∀ sd2 G2, I (i + 1) sd2 G2 → K sd2 G2) → g x sd G fun sd1 G1 => tb { DD with nx := fun sd2 G2 => stay G2 ∧ K sd2 G2, ct := fun sd2 G2 => stay G2 ∧ K sd2 G2, bk := DD.nx } sd1 G1)
    (fin : ∀ sd G, I items.length sd G → DD.nx sd G) {sd : SD} {G : Gp} (h0 : I 0 sd G) {t1 t2 t3 t4} : loopP items stay g tb DD sd G t1 t2 t3 t4 := forL_ind I hst step fin h0
@[simp] theorem tyN_non {G : Gp} : tyN G .non = some "NoneType" := (rfl)
@[simp] theorem tyN_bl {G : Gp} {b : Bool} : tyN G (.bl b) = some "bool" := (rfl)
@[simp] theorem tyN_int {G : Gp} {b : Int} : tyN G (.int b) = some "int" := (rfl)
@[simp] theorem tyN_str {G : Gp} {b : Str} : tyN G (.str b) = some "str" := (rfl)
@[simp] theorem tyN_tup {G : Gp} {b : List D} : tyN G (.tup b) = some "tuple" := (rfl)
@[simp] theorem tyN_ty {G : Gp} {b : String} : tyN G (.ty b) = none := (rfl)
theorem tyN_lst {G : Gp} {p : Addr} {xs : List D} (h : G p = some (.lst xs)) : tyN G (.ref p) = some "list" := by simp [tyN, h]
theorem tyN_dict {G : Gp} {p : Addr} {t : Bool} {xs : List (D × D)} (h : G p = some (.dict t xs)) : tyN G (.ref p) = some "dict" := by simp [tyN, h]
theorem tyN_ref {G : Gp} {p : Addr} {a : String} (h : tyN G (.ref p) = some a) : a = "list" ∨ a = "dict" := by
  simp only [tyN] at h
  split at h <;> simp at h <;> simp [← h]
theorem tyN_ext {G G' : Gp} {d : D} {a : String} (e : Ext G G') (h : tyN G d = some a) : tyN G' d = some a := by
  cases d <;> try exact h
  rename_i p
  simp only [tyN] at h ⊢
  cases g : G p with
  | none => rw [g] at h; cases h
  | some o => rw [g] at h; rw [e p o g]; exact h
@[simp] theorem memTy {x : String} : (x ∈ tyNames) = (x = "NoneType" ∨ x = "bool" ∨ x = "int" ∨ x = "str" ∨ x = "tuple" ∨ x = "list" ∨ x = "dict") := by simp [tyNames]

theorem eqV_congr {neg : Bool} {d d' e e' : D} {G : Gp} {Q : DQ} (h : d = d') (h2 : e = e') : eqV neg d e G Q = eqV neg d' e' G Q := by rw [h, h2]
theorem inR_congr {neg : Bool} {d d' e e' : D} {G : Gp} {Q : DQ} (h : d = d') (h2 : e = e') : inR neg d e G Q = inR neg d' e' G Q := by rw [h, h2]
theorem isNR_congr {neg : Bool} {d d' e e' : D} {G : Gp} {Q : DQ} (h : d = d') (h2 : e = e') : isNR neg d e G Q = isNR neg d' e' G Q := by rw [h, h2]
theorem addR_congr {d d' e e' : D} {G : Gp} {Q : DQ} (h : d = d') (h2 : e = e') : addR d e G Q = addR d' e' G Q := by rw [h, h2]
theorem subR_congr {d d' e e' : D} {G : Gp} {Q : DQ} (h : d = d') (h2 : e = e') : subR d e G Q = subR d' e' G Q := by rw [h, h2]
theorem mulR_congr {d d' e e' : D} {G : Gp} {Q : DQ} (h : d = d') (h2 : e = e') : mulR d e G Q = mulR d' e' G Q := by rw [h, h2]
theorem modR_congr {d d' e e' : D} {G : Gp} {Q : DQ} (h : d = d') (h2 : e = e') : modR d e G Q = modR d' e' G Q := by rw [h, h2]
theorem divR_congr {d d' e e' : D} {G : Gp} {Q : DQ} (h : d = d') (h2 : e = e') : divR d e G Q = divR d' e' G Q := by rw [h, h2]
theorem cmpR_congr {p : Int → Int → Bool} {d d' e e' : D} {G : Gp} {Q : DQ} (h : d = d') (h2 : e = e') : cmpR p d e G Q = cmpR p d' e' G Q := by rw [h, h2]
theorem ixR_congr {d d' e e' : D} {G : Gp} {Q : DQ} (h : d = d') (h2 : e = e') : ixR d e G Q = ixR d' e' G Q := by rw [h, h2]
theorem lenR_congr {ds ds' : List D} {G : Gp} {Q : DQ} (h : ds = ds') : lenR ds G Q = lenR ds' G Q := by rw [h]
theorem intR_congr {ds ds' : List D} {G : Gp} {Q : DQ} (h : ds = ds') : intR ds G Q = intR ds' G Q := by rw [h]
theorem maxR_congr {ds ds' : List D} {G : Gp} {Q : DQ} (h : ds = ds') : maxR ds G Q = maxR ds' G Q := by rw [h]
theorem tupleR_congr {ds ds' : List D} {G : Gp} {Q : DQ} (h : ds = ds') : tupleR ds G Q = tupleR ds' G Q := by rw [h]
theorem listR_congr {ds ds' : List D} {G : Gp} {Q : DQ} (h : ds = ds') : listR ds G Q = listR ds' G Q := by rw [h]
theorem isiR_congr {ds ds' : List D} {G : Gp} {Q : DQ} (h : ds = ds') : isiR ds G Q = isiR ds' G Q := by rw [h]
theorem slR_congr {d d' : D} {lo lo' hi hi' : Option Int} {G : Gp} {Q : DQ} (h : d = d') (h1 : lo = lo') (h2 : hi = hi') : slR d lo hi G Q = slR d' lo' hi' G Q := by rw [h, h1, h2]
theorem setR_congr {d d' i i' v v' : D} {G : Gp} {Q : Gp → Prop} (h : d = d') (h1 : i = i') (h2 : v = v') : setR d i v G Q = setR d' i' v' G Q := by rw [h, h1, h2]
theorem appR_congr {d d' : D} {ds ds' : List D} {G : Gp} {Q : DQ} (h : d = d') (h2 : ds = ds') : appR d ds G Q = appR d' ds' G Q := by rw [h, h2]
theorem popR_congr {d d' : D} {ds ds' : List D} {G : Gp} {Q : DQ} (h : d = d') (h2 : ds = ds') : popR d ds G Q = popR d' ds' G Q := by rw [h, h2]
theorem extR_congr {d d' : D} {ds ds' : List D} {G : Gp} {Q : DQ} (h : d = d') (h2 : ds = ds') : extR d ds G Q = extR d' ds' G Q := by rw [h, h2]
/-! ### readings, by what stands where -/
@[simp] theorem addR_int {i j : Int} {G Q} : addR (.int i) (.int j) G Q = Q (.int (i + j)) G := (rfl)
@[simp] theorem addR_str {i j : Str} {G Q} : addR (.str i) (.str j) G Q = (i.length + j.length ≤ sizeLine ∧ Q (.str (i ++ j)) G) := (rfl)
@[simp] theorem addR_tup {i j : List D} {G Q} : addR (.tup i) (.tup j) G Q = (i.length + j.length ≤ sizeLine ∧ Q (.tup (i ++ j)) G) := (rfl)
def addO (o o' : Option DO) (G : Gp) (Q : DQ) : Prop := ∃ x y, o = some (.lst x) ∧ o' = some (.lst y) ∧ x.length + y.length ≤ sizeLine ∧ ∀ p, Nw G p → Q (.ref p) (put G p (.lst (x ++ y)))
theorem addO_congr {o p o' p' : Option DO} {G : Gp} {Q : DQ} (h0 : o = o') (h1 : p = p') : addO o p G Q = addO o' p' G Q := by rw [h0, h1]
@[simp] theorem addR_ref {a b : Addr} {G Q} : addR (.ref a) (.ref b) G Q = addO (G a) (G b) G Q := (rfl)
@[simp] theorem addO_lst {x y : List D} {G Q} : addO (some (.lst x)) (some (.lst y)) G Q = (x.length + y.length ≤ sizeLine ∧ ∀ p, Nw G p → Q (.ref p) (put G p (.lst (x ++ y)))) := by simp [addO]
@[simp] theorem subR_int {i j : Int} {G Q} : subR (.int i) (.int j) G Q = Q (.int (i - j)) G := (rfl)
@[simp] theorem mulR_int {i j : Int} {G Q} : mulR (.int i) (.int j) G Q = (CMul i j ∧ Q (.int (i * j)) G) := (rfl)
def mulO (o : Option DO) (k : Int) (G : Gp) (Q : DQ) : Prop := ∃ x, o = some (.lst x) ∧ (-(2 ^ 63) ≤ k ∧ k < 2 ^ 63 ∧ x.length * k.toNat ≤ sizeLine) ∧ ∀ p, Nw G p → Q (.ref p) (put G p (.lst (List.replicate k.toNat x).flatten))
theorem mulO_congr {o o' : Option DO} {k : Int} {G : Gp} {Q : DQ} (h0 : o = o') : mulO o k G Q = mulO o' k G Q := by rw [h0]
@[simp] theorem mulR_ref {a : Addr} {k : Int} {G Q} : mulR (.ref a) (.int k) G Q = mulO (G a) k G Q := (rfl)
@[simp] theorem mulO_lst {x : List D} {k : Int} {G Q} : mulO (some (.lst x)) k G Q = ((-(2 ^ 63) ≤ k ∧ k < 2 ^ 63 ∧ x.length * k.toNat ≤ sizeLine) ∧ ∀ p, Nw G p → Q (.ref p) (put G p (.lst (List.replicate k.toNat x).flatten))) := by simp [mulO]
@[simp] theorem modR_int {i j : Int} {G Q} : modR (.int i) (.int j) G Q = (0 < j ∧ Q (.int (i % j)) G) := (rfl)
@[simp] theorem divR_int {i j : Int} {G Q} : divR (.int i) (.int j) G Q = (CDiv i j ∧ Q (.int (i / j)) G) := (rfl)
@[simp] theorem cmpR_int {p : Int → Int → Bool} {i j : Int} {G Q} : cmpR p (.int i) (.int j) G Q = Q (.bl (p i j)) G := (rfl)
@[simp] theorem isNR_non {neg : Bool} {d : D} {G Q} : isNR neg d .non G Q = Q (.bl (decide (d = .non) != neg)) G := (rfl)
@[simp] theorem lenR_tup {xs : List D} {G Q} : lenR [.tup xs] G Q = Q (.int (xs.length : Nat)) G := (rfl)
@[simp] theorem lenR_str {z : Str} {G Q} : lenR [.str z] G Q = (z.length ≤ sizeLine ∧ Q (.int (z.length : Nat)) G) := (rfl)
def lenO (o : Option DO) (G : Gp) (Q : DQ) : Prop := ∃ o', o = some o' ∧ (match o' with
    | .lst ds => Q (.int (ds.length : Nat)) G
    | .rol ds => Q (.int (ds.length : Nat)) G
    | .dict _ kvs => Q (.int (kvs.length : Nat)) G
    | _ => False)
theorem lenO_congr {o o' : Option DO} {G : Gp} {Q : DQ} (h0 : o = o') : lenO o G Q = lenO o' G Q := by rw [h0]
@[simp] theorem lenR_ref {a : Addr} {G Q} : lenR [.ref a] G Q = lenO (G a) G Q := (rfl)
@[simp] theorem lenO_lst {xs : List D} {G Q} : lenO (some (.lst xs)) G Q = Q (.int (xs.length : Nat)) G := by simp [lenO]
@[simp] theorem lenO_dict {t : Bool} {xs : List (D × D)} {G Q} : lenO (some (.dict t xs)) G Q = Q (.int (xs.length : Nat)) G := by simp [lenO]
@[simp ↓] theorem ixR_tup {xs : List D} {i : Int} {G Q} : ixR (.tup xs) (.int i) G Q = optD (atI xs i) G Q ⟨⟩ := (rfl)
@[simp] theorem ixR_str {z : Str} {i : Int} {G Q} : ixR (.str z) (.int i) G Q = (z.length ≤ sizeLine ∧ ∃ c, atI z.cps.toList i = some c ∧ Q (.str ⟨#[c]⟩) G) := (rfl)
def ixO (o : Option DO) (e : D) (G : Gp) (Q : DQ) : Prop := ∃ o', o = some o' ∧ anyO o' (fun ds => ∃ i v, e = .int i ∧ atI ds i = some v ∧ Q v G) fun t kvs => keyOk t e = true ∧ ∃ v, valD kvs e = some v ∧ Q v G
theorem ixO_congr {o o' : Option DO} {e e' : D} {G : Gp} {Q : DQ} (h0 : o = o') (h1 : e = e') : ixO o e G Q = ixO o' e' G Q := by rw [h0, h1]
@[simp] theorem ixR_ref {a : Addr} {e : D} {G Q} : ixR (.ref a) e G Q = ixO (G a) e G Q := (rfl)
@[simp] theorem ixO_lst {xs : List D} {i : Int} {G Q} : ixO (some (.lst xs)) (.int i) G Q = optD (atI xs i) G Q ⟨⟩ := by simp [ixO, anyO, optD]
@[simp] theorem ixO_dict {t : Bool} {xs : List (D × D)} {e : D} {G Q} : ixO (some (.dict t xs)) e G Q = (keyOk t e = true ∧ optD (valD xs e) G Q ⟨⟩) := by simp [ixO, anyO, optD]
@[simp] theorem ixO_ldict {t : Bool} {xs : List (D × D)} {e : D} {G Q} : ixO (some (.ldict t xs)) e G Q = (keyOk t e = true ∧ optD (valD xs e) G Q ⟨⟩) := by simp [ixO, anyO, optD]
@[simp] theorem slR_tup {xs : List D} {lo hi : Option Int} {G Q} : slR (.tup xs) lo hi G Q = Q (.tup (cutD xs lo hi)) G := (rfl)
def slO (o : Option DO) (lo hi : Option Int) (G : Gp) (Q : DQ) : Prop := ∃ o', o = some o' ∧ lstO o' fun ds => ∀ p, Nw G p → Q (.ref p) (put G p (.lst (cutD ds lo hi)))
theorem slO_congr {o o' : Option DO} {lo lo' hi hi' : Option Int} {G : Gp} {Q : DQ} (h0 : o = o') (h1 : lo = lo') (h2 : hi = hi') : slO o lo hi G Q = slO o' lo' hi' G Q := by rw [h0, h1, h2]
@[simp] theorem slR_ref {a : Addr} {lo hi : Option Int} {G Q} : slR (.ref a) lo hi G Q = slO (G a) lo hi G Q := (rfl)
@[simp] theorem slO_lst {xs : List D} {lo hi : Option Int} {G Q} : slO (some (.lst xs)) lo hi G Q = ∀ p, Nw G p → Q (.ref p) (put G p (.lst (cutD xs lo hi))) := by simp [slO, lstO]
def natO (o : Option Nat) (Q : Nat → Prop) : Prop := ∃ j, o = some j ∧ Q j
theorem natO_congr {o o' : Option Nat} {Q : Nat → Prop} (h : o = o') : natO o Q = natO o' Q := by rw [h]
@[simp] theorem natO_some {j : Nat} {Q : Nat → Prop} : natO (some j) Q = Q j := by simp [natO]
def setO (o : Option DO) (a : Addr) (i v : D) (G : Gp) (Q : Gp → Prop) : Prop := ∃ ob, o = some ob ∧ (match ob with
    | .lst ds => ∃ k j, i = .int k ∧ ixN ds.length k = some j ∧ Q (put G a (.lst (ds.set j v)))
    | .dict t kvs => keyOk t i = true ∧ kvs.length < sizeLine ∧ Q (put G a (.dict t (putD kvs i v)))
    | _ => False)
theorem setO_congr {o o' : Option DO} {a : Addr} {i i' v v' : D} {G : Gp} {Q : Gp → Prop} (h0 : o = o') (h1 : i = i') (h2 : v = v') : setO o a i v G Q = setO o' a i' v' G Q := by rw [h0, h1, h2]
@[simp] theorem setR_ref {a : Addr} {i v : D} {G} {Q : Gp → Prop} : setR (.ref a) i v G Q = setO (G a) a i v G Q := (rfl)
@[simp] theorem setO_lst {xs : List D} {a : Addr} {k : Int} {v : D} {G} {Q : Gp → Prop} : setO (some (.lst xs)) a (.int k) v G Q = natO (ixN xs.length k) (fun j => Q (put G a (.lst (xs.set j v)))) := by simp [setO, natO]
@[simp] theorem setO_dict {t : Bool} {xs : List (D × D)} {a : Addr} {i v : D} {G} {Q : Gp → Prop} : setO (some (.dict t xs)) a i v G Q = (keyOk t i = true ∧ xs.length < sizeLine ∧ Q (put G a (.dict t (putD xs i v)))) := by simp [setO]
def appO (o : Option DO) (a : Addr) (y : D) (G : Gp) (Q : DQ) : Prop := ∃ o', o = some o' ∧ (match o' with
    | .lst xs => xs.length < sizeLine ∧ Q .non (put G a (.lst (xs ++ [y])))
    | _ => False)
theorem appO_congr {o o' : Option DO} {a : Addr} {y y' : D} {G : Gp} {Q : DQ} (h0 : o = o') (h1 : y = y') : appO o a y G Q = appO o' a y' G Q := by rw [h0, h1]
@[simp] theorem appR_ref {a : Addr} {y : D} {G Q} : appR (.ref a) [y] G Q = appO (G a) a y G Q := (rfl)
@[simp] theorem appO_lst {xs : List D} {a : Addr} {y : D} {G Q} : appO (some (.lst xs)) a y G Q = (xs.length < sizeLine ∧ Q .non (put G a (.lst (xs ++ [y])))) := by simp [appO]
def popO (o : Option DO) (a : Addr) (i : Int) (G : Gp) (Q : DQ) : Prop := ∃ o', o = some o' ∧ (match o' with
    | .lst xs => 0 ≤ i ∧ ∃ y, xs[i.toNat]? = some y ∧ Q y (put G a (.lst (xs.eraseIdx i.toNat)))
    | _ => False)
theorem popO_congr {o o' : Option DO} {a : Addr} {i i' : Int} {G : Gp} {Q : DQ} (h0 : o = o') (h1 : i = i') : popO o a i G Q = popO o' a i' G Q := by rw [h0, h1]
@[simp] theorem popR_ref {a : Addr} {i : Int} {G Q} : popR (.ref a) [.int i] G Q = popO (G a) a i G Q := (rfl)
@[simp] theorem popO_lst {xs : List D} {a : Addr} {i : Int} {G Q} : popO (some (.lst xs)) a i G Q = (0 ≤ i ∧ optD (xs[i.toNat]?) (put G a (.lst (xs.eraseIdx i.toNat))) Q ⟨⟩) := by simp [popO, optD]
def extO (o o' : Option DO) (a : Addr) (G : Gp) (Q : DQ) : Prop := ∃ x y, o = some (.lst x) ∧ o' = some (.lst y) ∧ x.length + y.length ≤ sizeLine ∧ Q .non (put G a (.lst (x ++ y)))
theorem extO_congr {o o' p p' : Option DO} {a : Addr} {G : Gp} {Q : DQ} (h0 : o = o') (h1 : p = p') : extO o p a G Q = extO o' p' a G Q := by rw [h0, h1]
@[simp] theorem extR_ref {a b : Addr} {G Q} : extR (.ref a) [.ref b] G Q = extO (G a) (G b) a G Q := (rfl)
@[simp] theorem extO_lst {x y : List D} {a : Addr} {G Q} : extO (some (.lst x)) (some (.lst y)) a G Q = (x.length + y.length ≤ sizeLine ∧ Q .non (put G a (.lst (x ++ y)))) := by simp [extO]
@[simp] theorem intR_int {i : Int} {G Q} : intR [.int i] G Q = Q (.int i) G := (rfl)
@[simp] theorem maxR_int {i j : Int} {G Q} : maxR [.int i, .int j] G Q = Q (.int (max i j)) G := (rfl)
@[simp] theorem tupleR_tup {xs : List D} {G Q} : tupleR [.tup xs] G Q = Q (.tup xs) G := (rfl)
def tupleO (o : Option DO) (G : Gp) (Q : DQ) : Prop := ∃ o', o = some o' ∧ lstO o' fun ds => Q (.tup ds) G
theorem tupleO_congr {o o' : Option DO} {G : Gp} {Q : DQ} (h0 : o = o') : tupleO o G Q = tupleO o' G Q := by rw [h0]
@[simp] theorem tupleR_ref {a : Addr} {G Q} : tupleR [.ref a] G Q = tupleO (G a) G Q := (rfl)
@[simp] theorem tupleO_lst {xs : List D} {G Q} : tupleO (some (.lst xs)) G Q = Q (.tup xs) G := by simp [tupleO, lstO]
@[simp] theorem listR_tup {xs : List D} {G Q} : listR [.tup xs] G Q = ∀ p, Nw G p → Q (.ref p) (put G p (.lst xs)) := (rfl)
def listO (o : Option DO) (G : Gp) (Q : DQ) : Prop := ∃ o', o = some o' ∧ lstO o' fun ds => ∀ p, Nw G p → Q (.ref p) (put G p (.lst ds))
theorem listO_congr {o o' : Option DO} {G : Gp} {Q : DQ} (h0 : o = o') : listO o G Q = listO o' G Q := by rw [h0]
@[simp] theorem listR_ref {a : Addr} {G Q} : listR [.ref a] G Q = listO (G a) G Q := (rfl)
@[simp] theorem listO_lst {xs : List D} {G Q} : listO (some (.lst xs)) G Q = ∀ p, Nw G p → Q (.ref p) (put G p (.lst xs)) := by simp [listO, lstO]
def lrngD (d : D) (G1 : Gp) (Q : DQ) : Prop := match d with
  | .int n => (0 ≤ n ∧ n ≤ 1000000) ∧ ∀ p, Nw G1 p → Q (.ref p) (put G1 p (.lst (rngD 0 n.toNat)))
  | _ => False
theorem lrngD_congr {d d' : D} {G : Gp} {Q : DQ} (h0 : d = d') : lrngD d G Q = lrngD d' G Q := by rw [h0]
@[simp] theorem lrngD_int {n : Int} {G1 Q} : lrngD (.int n) G1 Q = ((0 ≤ n ∧ n ≤ 1000000) ∧ ∀ p, Nw G1 p → Q (.ref p) (put G1 p (.lst (rngD 0 n.toNat)))) := (rfl)
@[simp ↓] theorem dListRng_app {ta : DTE} {sd G Q} : dListRng ta sd G Q = ta sd G fun d G1 => lrngD d G1 Q := (rfl)
def seqD (d : D) (G : Gp) (R : List D → (Gp → Prop) → Gp → Prop) : Prop := match d with
  | .tup ds => R ds (fun _ => True) G
  | .ref a => ∃ o, G a = some o ∧ lstO o fun ds => R ds (fun G => G a = some o) G
  | _ => False
theorem seqD_congr {d d' : D} {G : Gp} {R : List D → (Gp → Prop) → Gp → Prop} (h0 : d = d') : seqD d G R = seqD d' G R := by rw [h0]
@[simp ↓] theorem diSeq_app {te : DTE} {sd G R} : diSeq te sd G R = te sd G fun d G1 => seqD d G1 R := (rfl)
@[simp] theorem seqD_tup {ds : List D} {G R} : seqD (.tup ds) G R = R ds (fun _ => True) G := (rfl)
def seqO (o : Option DO) (a : Addr) (G : Gp) (R : List D → (Gp → Prop) → Gp → Prop) : Prop := ∃ o', o = some o' ∧ lstO o' fun ds => R ds (fun G => G a = some o') G
theorem seqO_congr {o o' : Option DO} {a : Addr} {G : Gp} {R : List D → (Gp → Prop) → Gp → Prop} (h0 : o = o') : seqO o a G R = seqO o' a G R := by rw [h0]
@[simp] theorem seqD_ref {a : Addr} {G R} : seqD (.ref a) G R = seqO (G a) a G R := (rfl)
@[simp] theorem seqO_lst {xs : List D} {a : Addr} {G R} : seqO (some (.lst xs)) a G R = R xs (fun G => G a = some (.lst xs)) G := by simp [seqO, lstO]
def rngL (ds : List D) (G : Gp) (R : List D → (Gp → Prop) → Gp → Prop) : Prop := match ds with
  | [.int j] => -(2 ^ 62) ≤ j ∧ j ≤ 1000000 ∧ R (rngD 0 j.toNat) (fun _ => True) G
  | _ => False
theorem rngL_congr {ds ds' : List D} {G : Gp} {R : List D → (Gp → Prop) → Gp → Prop} (h0 : ds = ds') : rngL ds G R = rngL ds' G R := by rw [h0]
@[simp ↓] theorem diRng_app {te : DTA} {sd G R} : diRng te sd G R = te sd G fun d G1 => rngL d G1 R := (rfl)
@[simp] theorem rngL_int {j : Int} {G R} : rngL [.int j] G R = (-(2 ^ 62) ≤ j ∧ j ≤ 1000000 ∧ R (rngD 0 j.toNat) (fun _ => True) G) := (rfl)
def rng2L (ds : List D) (G : Gp) (R : List D → (Gp → Prop) → Gp → Prop) : Prop := match ds with
  | [.int i, .int j] => (-(2 ^ 62) ≤ i ∧ i ≤ 1000000 ∧ -(2 ^ 62) ≤ j ∧ j ≤ 1000000 ∧ j - i ≤ 1000000) ∧ R (rngD i (j - i).toNat) (fun _ => True) G
  | _ => False
theorem rng2L_congr {ds ds' : List D} {G : Gp} {R : List D → (Gp → Prop) → Gp → Prop} (h0 : ds = ds') : rng2L ds G R = rng2L ds' G R := by rw [h0]
@[simp ↓] theorem diRng2_app {te : DTA} {sd G R} : diRng2 te sd G R = te sd G fun d G1 => rng2L d G1 R := (rfl)
@[simp] theorem rng2L_int {i j : Int} {G R} : rng2L [.int i, .int j] G R = ((-(2 ^ 62) ≤ i ∧ i ≤ 1000000 ∧ -(2 ^ 62) ≤ j ∧ j ≤ 1000000 ∧ j - i ≤ 1000000) ∧ R (rngD i (j - i).toNat) (fun _ => True) G) := (rfl)
def fldD (C : Addr) (ns : List Str) (i : Nat) (d : D) (G : Gp) (Q : DQ) : Prop := match d with
  | .ref a => ∃ o, G a = some o ∧ (match o with
    | .ins C' ns' fs => C' = C ∧ ns' = ns ∧ ∃ v, fs[i]? = some v ∧ Q v G
    | _ => False)
  | _ => False
theorem fldD_congr {C : Addr} {ns : List Str} {i : Nat} {d d' : D} {G : Gp} {Q : DQ} (h0 : d = d') : fldD C ns i d G Q = fldD C ns i d' G Q := by rw [h0]
@[simp ↓] theorem dFld_app {C ns i ta sd G Q} : dFld C ns i ta sd G Q = ta sd G fun d G1 => fldD C ns i d G1 Q := (rfl)
def fldO (C : Addr) (ns : List Str) (i : Nat) (o : Option DO) (G : Gp) (Q : DQ) : Prop := ∃ o', o = some o' ∧ (match o' with
    | .ins C' ns' fs => C' = C ∧ ns' = ns ∧ ∃ v, fs[i]? = some v ∧ Q v G
    | _ => False)
theorem fldO_congr {C : Addr} {ns : List Str} {i : Nat} {o o' : Option DO} {G : Gp} {Q : DQ} (h0 : o = o') : fldO C ns i o G Q = fldO C ns i o' G Q := by rw [h0]
@[simp] theorem fldD_ref {C ns i a G Q} : fldD C ns i (.ref a) G Q = fldO C ns i (G a) G Q := (rfl)
@[simp] theorem fldO_ins {C ns i fs G Q} : fldO C ns i (some (.ins C ns fs)) G Q = optD (fs[i]?) G Q ⟨⟩ := by simp [fldO, optD]
def sfldD (C : Addr) (ns : List Str) (i : Nat) (d v : D) (G : Gp) (Q : Gp → Prop) : Prop := match d with
  | .ref a => ∃ o, G a = some o ∧ (match o with
    | .ins C' ns' fs => C' = C ∧ ns' = ns ∧ i ≤ fs.length ∧ Q (put G a (.ins C ns (storeF fs i v)))
    | _ => False)
  | _ => False
theorem sfldD_congr {C : Addr} {ns : List Str} {i : Nat} {d d' v v' : D} {G : Gp} {Q : Gp → Prop} (h0 : d = d') (h1 : v = v') : sfldD C ns i d v G Q = sfldD C ns i d' v' G Q := by rw [h0, h1]
@[simp ↓] theorem dsFld_app {C ns i to te} {n r b c} {sd G} : dsFld C ns i to te ⟨n, r, b, c⟩ sd G = te sd G fun v G1 => to sd G1 fun d G2 => sfldD C ns i d v G2 fun G3 => n sd G3 := (rfl)
def sfldO (C : Addr) (ns : List Str) (i : Nat) (o : Option DO) (a : Addr) (v : D) (G : Gp) (Q : Gp → Prop) : Prop := ∃ o', o = some o' ∧ (match o' with
    | .ins C' ns' fs => C' = C ∧ ns' = ns ∧ i ≤ fs.length ∧ Q (put G a (.ins C ns (storeF fs i v)))
    | _ => False)
theorem sfldO_congr {C : Addr} {ns : List Str} {i : Nat} {o o' : Option DO} {a : Addr} {v v' : D} {G : Gp} {Q : Gp → Prop} (h0 : o = o') (h1 : v = v') : sfldO C ns i o a v G Q = sfldO C ns i o' a v' G Q := by rw [h0, h1]
@[simp] theorem sfldD_ref {C ns i a v G} {Q : Gp → Prop} : sfldD C ns i (.ref a) v G Q = sfldO C ns i (G a) a v G Q := (rfl)
@[simp] theorem sfldO_ins {C ns i fs a v G} {Q : Gp → Prop} : sfldO C ns i (some (.ins C ns fs)) a v G Q = (i ≤ fs.length ∧ Q (put G a (.ins C ns (storeF fs i v)))) := by simp [sfldO]
def methD (C : Addr) (ns : List Str) (d : D) (G : Gp) (P : Prop) : Prop := match d with
  | .ref a => (∃ fs, G a = some (.ins C ns fs)) ∧ P
  | _ => False
theorem methD_congr {C : Addr} {ns : List Str} {d d' : D} {G : Gp} {P : Prop} (h0 : d = d') : methD C ns d G P = methD C ns d' G P := by rw [h0]
@[simp ↓] theorem dMeth_app {C ns sp W to t sd G Q} : dMeth C ns sp W to t sd G Q = to sd G fun d G1 => methD C ns d G1 (t sd G1 fun ds G2 => callP sp (d :: ds) G2 Q (fun C x G3 => W C x sd G3) ⟨⟩ ⟨⟩ ⟨⟩) := by
  unfold dMeth methD
  congr 1
  funext d G1
  cases d <;> rfl
def methO (C : Addr) (ns : List Str) (o : Option DO) : Prop := ∃ fs, o = some (.ins C ns fs)
@[simp] theorem methD_ref {C ns a G P} : methD C ns (.ref a) G P = (methO C ns (G a) ∧ P) := (rfl)
@[simp] theorem methO_ins {C ns fs} : methO C ns (some (.ins C ns fs)) = True := by simp [methO]
def inO (neg : Bool) (d : D) (o : Option DO) (G : Gp) (Q : DQ) : Prop := ∃ o', o = some o' ∧ anyO o' (fun ds => (ds.all (dat 20) && dat 20 d) = true ∧ Q (.bl (ds.any (fun z => peq z d) != neg)) G) fun t kvs => keyOk t d = true ∧ Q (.bl ((valD kvs d).isSome != neg)) G
theorem inO_congr {neg : Bool} {d d' : D} {o o' : Option DO} {G : Gp} {Q : DQ} (h0 : d = d') (h1 : o = o') : inO neg d o G Q = inO neg d' o' G Q := by rw [h0, h1]
@[simp] theorem inR_tup {neg : Bool} {d : D} {ds : List D} {G Q} : inR neg d (.tup ds) G Q = ((ds.all (dat 0) && dat 0 d) = true ∧ Q (.bl (ds.any (fun z => peq z d) != neg)) G) := (rfl)
@[simp] theorem inR_ref {neg : Bool} {d : D} {a : Addr} {G Q} : inR neg d (.ref a) G Q = inO neg d (G a) G Q := (rfl)
@[simp] theorem inO_lst {neg : Bool} {d : D} {ds : List D} {G Q} : inO neg d (some (.lst ds)) G Q = ((ds.all (dat 20) && dat 20 d) = true ∧ Q (.bl (ds.any (fun z => peq z d) != neg)) G) := by simp [inO, anyO]
@[simp] theorem inO_dict {neg t : Bool} {d : D} {kvs} {G Q} : inO neg d (some (.dict t kvs)) G Q = (keyOk t d = true ∧ Q (.bl ((valD kvs d).isSome != neg)) G) := by simp [inO, anyO]
@[simp] theorem inO_ldict {neg t : Bool} {d : D} {kvs} {G Q} : inO neg d (some (.ldict t kvs)) G Q = (keyOk t d = true ∧ Q (.bl ((valD kvs d).isSome != neg)) G) := by simp [inO, anyO]
def lensetD (d : D) (G : Gp) (Q : DQ) : Prop := ∃ ns : List Int, ns.length ≤ 4000 ∧ Q (.int ((dd ns).length : Nat)) G ∧ (match d with
  | .tup ds => ds = ns.map .int
  | .ref a => ∃ o, G a = some o ∧ lstO o fun ds => ds = ns.map .int
  | _ => False)
theorem lensetD_congr {d d' : D} {G : Gp} {Q : DQ} (h0 : d = d') : lensetD d G Q = lensetD d' G Q := by rw [h0]
@[simp ↓] theorem dLenSet_app {ta sd G Q} : dLenSet ta sd G Q = ta sd G fun d G1 => lensetD d G1 Q := (rfl)
theorem map_int_inj {a b : List Int} (h : a.map D.int = b.map D.int) : a = b := by
  induction a generalizing b with
  | nil => cases b <;> simp at h ⊢
  | cons x a ih => cases b with
    | nil => simp at h
    | cons y b => simp at h; rw [h.1, ih h.2]
@[simp] theorem lensetD_tup {ns : List Int} {G Q} : lensetD (.tup (ns.map .int)) G Q = (ns.length ≤ 4000 ∧ Q (.int ((dd ns).length : Nat)) G) :=
  propext ⟨fun ⟨ms, h1, h2, h3⟩ => by cases map_int_inj h3; exact ⟨h1, h2⟩, fun ⟨h1, h2⟩ => ⟨ns, h1, h2, rfl⟩⟩
def lensetO (o : Option DO) (G : Gp) (Q : DQ) : Prop := ∃ ns : List Int, ns.length ≤ 4000 ∧ Q (.int ((dd ns).length : Nat)) G ∧ ∃ o', o = some o' ∧ lstO o' fun ds => ds = ns.map .int
theorem lensetO_congr {o o' : Option DO} {G : Gp} {Q : DQ} (h0 : o = o') : lensetO o G Q = lensetO o' G Q := by rw [h0]
@[simp] theorem lensetD_ref {a : Addr} {G Q} : lensetD (.ref a) G Q = lensetO (G a) G Q := (rfl)
@[simp] theorem lensetO_lst {ns : List Int} {G Q} : lensetO (some (.lst (ns.map .int))) G Q = (ns.length ≤ 4000 ∧ Q (.int ((dd ns).length : Nat)) G) :=
  propext ⟨fun ⟨ms, h1, h2, o, e, h3⟩ => by cases e; cases map_int_inj h3; exact ⟨h1, h2⟩, fun ⟨h1, h2⟩ => ⟨ns, h1, h2, _, rfl, rfl⟩⟩
def tyO (T : String) (o : Option DO) : Prop := ∃ o', o = some o' ∧ (match o' with
    | .lst _ => T = "list"
    | .rol _ => T = "list"
    | .dict _ _ => T = "dict"
    | _ => False)
@[simp] theorem tyD_ref {T : String} {a : Addr} {G} : tyD T (.ref a) G = tyO T (G a) := (rfl)
@[simp] theorem tyD_str {T : String} {a : Str} {G} : tyD T (.str a) G = (T = "str") := (rfl)
@[simp] theorem tyO_lst {T : String} {xs : List D} : tyO T (some (.lst xs)) = (T = "list") := by simp [tyO]
@[simp] theorem tyO_dict {T : String} {t : Bool} {xs : List (D × D)} : tyO T (some (.dict t xs)) = (T = "dict") := by simp [tyO]
theorem tyD_lst {a : Addr} {xs : List D} {G : Gp} (h : G a = some (.lst xs)) : tyD "list" (.ref a) G = True := by simp [tyD, h]
@[simp] theorem ixN_0 {n : Nat} (h : 0 < n) : ixN n 0 = some 0 := by simp [ixN, h]
@[simp] theorem ixN_1 {n : Nat} (h : 1 < n) : ixN n 1 = some 1 := by
  have : (1 : Int) < n := by omega
  simp [ixN, this]
theorem eqV_nil {G : Gp} {a b : Addr} {xs : List D} {neg : Bool} {Q : DQ} (h1 : G a = some (.lst xs)) (h2 : G b = some (.lst [])) : eqV neg (.ref a) (.ref b) G Q = (xs.all (dat 20) = true ∧ Q (.bl (xs.isEmpty != neg)) G) := by
  simp only [eqV, h1, h2, lstO]
  cases xs <;> simp [peqL, PyData.eqvAll, PyData.eqv]
@[simp] theorem eqV_int {G : Gp} {i j : Int} {neg : Bool} {Q : DQ} : eqV neg (.int i) (.int j) G Q = Q (.bl (decide (i = j) != neg)) G := by
  simp [eqV, dat, peq_int]
@[simp] theorem eqV_str {G : Gp} {i j : Str} {neg : Bool} {Q : DQ} : eqV neg (.str i) (.str j) G Q = Q (.bl (decide (i = j) != neg)) G := by
  simp [eqV, dat, peq_str]
@[simp] theorem eqV_bl {G : Gp} {i j : Bool} {neg : Bool} {Q : DQ} : eqV neg (.bl i) (.bl j) G Q = Q (.bl ((i == j) != neg)) G := by
  simp [eqV, dat, peq, toPD, PyData.eqv]
@[simp] theorem eqV_tup_nil {G : Gp} {x : D} {xs : List D} {neg : Bool} {Q : DQ} : eqV neg (.tup (x :: xs)) (.tup []) G Q = (dat 20 (.tup (x :: xs)) = true ∧ Q (.bl (false != neg)) G) := by
  simp [eqV, dat, peq, toPD, toPDs, PyData.eqv, PyData.eqvAll]
@[simp] theorem eqV_non_int {G : Gp} {j : Int} {neg : Bool} {Q : DQ} : eqV neg .non (.int j) G Q = Q (.bl (false != neg)) G := by
  simp [eqV, dat, peq, toPD, PyData.eqv]
@[simp] theorem eqV_int_non {G : Gp} {j : Int} {neg : Bool} {Q : DQ} : eqV neg (.int j) .non G Q = Q (.bl (false != neg)) G := by
  simp [eqV, dat, peq, toPD, PyData.eqv]
@[simp] theorem eqV_non {G : Gp} {neg : Bool} {Q : DQ} : eqV neg .non .non G Q = Q (.bl (true != neg)) G := by
  simp [eqV, dat, peq, toPD, PyData.eqv]
@[simp] theorem atI_0 {α : Type} {x : α} {xs : List α} : atI (x :: xs) 0 = some x := by simp [atI, ixN]
@[simp] theorem atI_1 {α : Type} {x y : α} {xs : List α} : atI (x :: y :: xs) 1 = some y := by
  have : (1 : Int) < (xs.length : Int) + 1 + 1 := by omega
  simp [atI, ixN, this]
@[simp] theorem atI_2 {α : Type} {x y z : α} {xs : List α} : atI (x :: y :: z :: xs) 2 = some z := by
  have : (2 : Int) < (xs.length : Int) + 1 + 1 + 1 := by omega
  simp [atI, ixN, this]
@[simp] theorem atI_3 {α : Type} {x y z u : α} {xs : List α} : atI (x :: y :: z :: u :: xs) 3 = some u := by
  have : (3 : Int) < (xs.length : Int) + 1 + 1 + 1 + 1 := by omega
  simp [atI, ixN, this]
@[simp] theorem atI_4 {α : Type} {x y z u v : α} {xs : List α} : atI (x :: y :: z :: u :: v :: xs) 4 = some v := by
  have : (4 : Int) < (xs.length : Int) + 1 + 1 + 1 + 1 + 1 := by omega
  simp [atI, ixN, this]
@[simp] theorem atI_5 {α : Type} {x y z u v w : α} {xs : List α} : atI (x :: y :: z :: u :: v :: w :: xs) 5 = some w := by
  have : (5 : Int) < (xs.length : Int) + 1 + 1 + 1 + 1 + 1 + 1 := by omega
  simp [atI, ixN, this]
theorem atI_nat {α : Type} {xs : List α} {i : Nat} (h : i < xs.length) : atI xs (i : Int) = some (xs[i]) := by
  simp [atI, ixN, h]
theorem dat_int {n : Nat} {i : Int} : dat n (.int i) = true := by cases n <;> rfl
theorem dat_str {n : Nat} {i : Str} : dat n (.str i) = true := by cases n <;> rfl
theorem dat_bl {n : Nat} {i : Bool} : dat n (.bl i) = true := by cases n <;> rfl
theorem dat_non {n : Nat} : dat n .non = true := by cases n <;> rfl
theorem put_at {G : Gp} {a b : Addr} {o : DO} : put G a o b = if b = a then some o else G b := rfl
theorem ne_fr {G : Gp} {a p : Addr} {o : DO} (h : G a = some o) (hp : G p = none) : a ≠ p := fun z => by rw [z, hp] at h; cases h
/-- if b then .. -/
theorem ite_bl {b c : Bool} {Q : DQ} {G : Gp} (h : Q (.bl (b && c)) G) : if b = true then Q (.bl c) G else Q (.bl false) G := by
  cases b <;> simpa using h
theorem put_none {G : Gp} {a b : Addr} {o : DO} (h : put G a o b = none) : b ≠ a ∧ a ≠ b ∧ G b = none := by
  by_cases hb : b = a
  · subst hb
    rw [put_same] at h
    cases h
  · rw [put_ne hb] at h
    exact ⟨hb, Ne.symm hb, h⟩
theorem nw_put {G : Gp} {a b : Addr} {o : DO} : Nw (put G a o) b = (¬ b = a ∧ ¬ a = b ∧ Nw G b) := propext ⟨fun h => put_none h, fun h => by unfold Nw; rw [put_ne h.1]; exact h.2.2⟩
theorem Nw.ne {G : Gp} {a p : Addr} {o : DO} (h : G a = some o) (hp : Nw G p) : ¬ a = p ∧ ¬ p = a := ⟨ne_fr h hp, (ne_fr h hp).symm⟩
/-- x == [] of a new list -/
theorem eq_new {G : Gp} {a : Addr} {xs : List D} {neg : Bool} {Q : DQ} (h1 : G a = some (.lst xs)) (hd : xs.all (dat 20) = true) (q : ∀ p, Nw G p → Q (.bl (xs.isEmpty != neg)) (put G p (.lst []))) : ∀ p, Nw G p → eqV neg (.ref a) (.ref p) (put G p (.lst [])) Q := fun p hp => by
  rw [eqV_nil (by rw [put_ne (ne_fr h1 hp)]; exact h1) put_same]
  exact ⟨hd, q p hp⟩
theorem Ext.of_put {G G' : Gp} {p : Addr} {o : DO} (h : Ext G G') (hp : G' p = none) : Ext G (DL.put G' p o) := h.trans (Ext.put hp)
theorem all_ints {n : Nat} (ns : List Int) : (ns.map D.int).all (dat n) = true := by
  rw [List.all_eq_true]
  intro x hx
  obtain ⟨i, _, rfl⟩ := List.mem_map.mp hx
  exact dat_int
end DL
set_option Elab.async false
set_option linter.all false
set_option maxRecDepth 100000
set_option maxHeartbeats 4000000
namespace DL
open PySem PySem.Spec L2

/-! ### a dict locked while it is walked -/
def dLock (t : DTS) : DTS := fun DD sd G => ∃ a b kvs, G a = some (.dict b kvs) ∧
  t ⟨fun sd' G' => G' a = some (.ldict b kvs) ∧ DD.nx sd' (put G' a (.dict b kvs)), fun v G' => G' a = some (.ldict b kvs) ∧ DD.rt v (put G' a (.dict b kvs)),
    fun sd' G' => G' a = some (.ldict b kvs) ∧ DD.bk sd' (put G' a (.dict b kvs)), fun sd' G' => G' a = some (.ldict b kvs) ∧ DD.ct sd' (put G' a (.dict b kvs))⟩ sd (put G a (.ldict b kvs))
def dLockE (t : DTE) : DTE := fun sd G Q => ∃ a b kvs, G a = some (.dict b kvs) ∧ t sd (put G a (.ldict b kvs)) fun v G' => G' a = some (.ldict b kvs) ∧ Q v (put G' a (.dict b kvs))
section
variable {K : PySem.W.Frag} {B : Bx} {H H' : Hp} {G G' : Gp} {a : Addr} {b : Bool} {kvs : List (D × D)} {od : Obj} {u : HO}
theorem locks (R : Rep K B H G) (g : G a = some (.dict b kvs)) : ∃ u, H a = some u ∧ Mut (some u) ∧ (∀ xs, u ≠ .tup xs) ∧ (∀ o v, u ≠ .frz o v) ∧ (∀ od, Kp H (upd H a (.frz od u)) ∧ Rep K B (upd H a (.frz od u)) (put G a (.ldict b kvs))) := by
  have r := R.at_ a _ g
  cases b with
  | false =>
    obtain ⟨z, ks, h1, h2, h3⟩ := r
    refine ⟨_, h1, trivial, fun _ => nofun, fun _ _ => nofun, fun od => ?_⟩
    have k : Kp H (upd H a (.frz od (.dK ks))) := .write h1 fun _ => nofun
    exact ⟨k, R.write (o := .ldict false kvs) h1 (fun _ => nofun) ⟨z, od, ks, upd_same, h2, h3.mono k⟩⟩
  | true =>
    obtain ⟨z, ks, h1, h2, h3⟩ := r
    refine ⟨_, h1, trivial, fun _ => nofun, fun _ _ => nofun, fun od => ?_⟩
    have k : Kp H (upd H a (.frz od (.dT ks))) := .write h1 fun _ => nofun
    exact ⟨k, R.write (o := .ldict true kvs) h1 (fun _ => nofun) ⟨z, od, ks, upd_same, h2, h3.mono k⟩⟩
theorem unlocks (R : Rep K B H G) (hu : H a = some u) (n : ∀ xs, u ≠ .tup xs) (m : ∀ o v, u ≠ .frz o v) (k : Kp (upd H a (.frz od u)) H') (R' : Rep K B H' G') (g : G' a = some (.ldict b kvs)) :
    H' a = some (.frz od u) ∧ (∀ c xs, H' c = some (.tup xs) → upd H' a u c = some (.tup xs)) ∧ Kp H (upd H' a u) ∧ Rep K B (upd H' a u) (put G' a (.dict b kvs)) := by
  have e1 : H' a = some (.frz od u) := k.frz a od u upd_same
  have kt : ∀ c xs, H' c = some (.tup xs) → upd H' a u c = some (.tup xs) := fun c xs h => by
    rw [upd_ne (fun z => by rw [z, e1] at h; cases h)]
    exact h
  have kp : Kp H (upd H' a u) := ⟨fun c xs h => by
    have hc : c ≠ a := fun z => by rw [z, hu] at h; cases h; exact n _ rfl
    rw [upd_ne hc]
    exact k.tup c xs (by rw [upd_ne hc]; exact h), fun c o v h => by
    have hc : c ≠ a := fun z => by rw [z, hu] at h; cases h; exact m _ _ rfl
    rw [upd_ne hc]
    exact k.frz c o v (by rw [upd_ne hc]; exact h)⟩
  refine ⟨e1, kt, kp, R.k0.trans kp, fun c o' q => ?_⟩
  by_cases hc : c = a
  · subst hc
    rw [put_same] at q
    cases q
    have r := R'.at_ c _ g
    cases b with
    | false =>
      obtain ⟨z, ob, ks, h1, h2, h3⟩ := r
      rw [e1] at h1
      cases h1
      exact ⟨z, ks, upd_same, h2, h3.monoT kt⟩
    | true =>
      obtain ⟨z, ob, ks, h1, h2, h3⟩ := r
      rw [e1] at h1
      cases h1
      exact ⟨z, ks, upd_same, h2, h3.monoT kt⟩
  · rw [put_ne hc] at q
    exact RepO.monoT (upd_ne hc) kt (R'.at_ c o' q)
variable {X : Cx}
theorem ds_lock {st : Stmt} {t : DTS} (h : DS X B st t) : DS X B st (dLock t) := by
  obtain ⟨ts, p, w⟩ := h.ex
  refine ⟨_, ps_lock p, fun σ H sd G DD D hS R ⟨a, b, kvs, g, q⟩ hP => ?_⟩
  obtain ⟨u, hu, mu, n, m, hl⟩ := locks R g
  refine ⟨a, u, hu, mu, fun od => ?_⟩
  obtain ⟨k1, R1⟩ := hl od
  refine w σ _ sd _ _ _ (hS.mono k1) R1 q ⟨fun σ' sd' H' G' k hS' R' q' => ?_, fun v d H' G' k r' R' q' => ?_, fun σ' sd' H' G' k hS' R' q' => ?_, fun σ' sd' H' G' k hS' R' q' => ?_⟩
  · obtain ⟨e1, kt, kp, R2⟩ := unlocks R hu n m k R' q'.1
    exact ⟨e1, hP.nx _ _ _ _ kp (hS'.monoT kt) R2 q'.2⟩
  · obtain ⟨e1, kt, kp, R2⟩ := unlocks R hu n m k R' q'.1
    exact ⟨e1, hP.rt _ _ _ _ kp (r'.monoT kt) R2 q'.2⟩
  · obtain ⟨e1, kt, kp, R2⟩ := unlocks R hu n m k R' q'.1
    exact ⟨e1, hP.bk _ _ _ _ kp (hS'.monoT kt) R2 q'.2⟩
  · obtain ⟨e1, kt, kp, R2⟩ := unlocks R hu n m k R' q'.1
    exact ⟨e1, hP.ct _ _ _ _ kp (hS'.monoT kt) R2 q'.2⟩
theorem de_lock {e : Expr} {t : DTE} (h : DE X B e t) : DE X B e (dLockE t) := by
  obtain ⟨ts, p, w⟩ := h.ex
  refine ⟨_, pe_lock p, fun σ H sd G Q P hS R ⟨a, b, kvs, g, q⟩ hP => ?_⟩
  obtain ⟨u, hu, mu, n, m, hl⟩ := locks R g
  refine ⟨a, u, hu, mu, fun od => ?_⟩
  obtain ⟨k1, R1⟩ := hl od
  refine w σ _ sd _ _ _ (hS.mono k1) R1 q fun v d H' G' k r' R' q' => ?_
  obtain ⟨e1, kt, kp, R2⟩ := unlocks R hu n m k R' q'.1
  exact ⟨e1, hP _ _ _ _ kp (r'.monoT kt) R2 q'.2⟩
end

/-! ### for k in d; d.values() -/
def ldO (o : Option DO) (P : Bool → List (D × D) → Prop) : Prop := ∃ b kvs, o = some (.ldict b kvs) ∧ P b kvs
theorem ldO_congr {o o' : Option DO} {P : Bool → List (D × D) → Prop} (h0 : o = o') : ldO o P = ldO o' P := by rw [h0]
@[simp] theorem ldO_is {b kvs P} : ldO (some (.ldict b kvs)) P = P b kvs := propext ⟨fun ⟨_, _, e, h⟩ => by cases e; exact h, fun h => ⟨_, _, rfl, h⟩⟩
def intKey : D → Bool
  | .int _ => true
  | .tup ds => decide (ds.length ≤ 1000) && ds.all fun d => match d with
    | .int _ => true
    | _ => false
  | _ => false
def diKeys (te : DTE) : DTI := fun sd G R => te sd G fun d G1 => match d with
  | .ref a => ldO (G1 a) fun b kvs => kvs.all (fun kv => intKey kv.1) = true ∧ R (kvs.map (·.1)) (fun G => G a = some (.ldict b kvs)) G1
  | _ => False
def diVals (te : DTE) : DTI := fun sd G R => te sd G fun d G1 => match d with
  | .ref a => ldO (G1 a) fun b kvs => b = false ∧ R (kvs.map (·.2)) (fun G => G a = some (.ldict b kvs)) G1
  | _ => False
def keysD (d : D) (G1 : Gp) (R : List D → (Gp → Prop) → Gp → Prop) : Prop := match d with
  | .ref a => ldO (G1 a) fun b kvs => kvs.all (fun kv => intKey kv.1) = true ∧ R (kvs.map (·.1)) (fun G => G a = some (.ldict b kvs)) G1
  | _ => False
def valsD (d : D) (G1 : Gp) (R : List D → (Gp → Prop) → Gp → Prop) : Prop := match d with
  | .ref a => ldO (G1 a) fun b kvs => b = false ∧ R (kvs.map (·.2)) (fun G => G a = some (.ldict b kvs)) G1
  | _ => False
theorem keysD_congr {d d' : D} {G : Gp} {R : List D → (Gp → Prop) → Gp → Prop} (h0 : d = d') : keysD d G R = keysD d' G R := by rw [h0]
theorem valsD_congr {d d' : D} {G : Gp} {R : List D → (Gp → Prop) → Gp → Prop} (h0 : d = d') : valsD d G R = valsD d' G R := by rw [h0]
@[simp ↓] theorem diKeys_app {te sd G R} : diKeys te sd G R = te sd G fun d G1 => keysD d G1 R := (rfl)
@[simp ↓] theorem diVals_app {te sd G R} : diVals te sd G R = te sd G fun d G1 => valsD d G1 R := (rfl)
@[simp] theorem keysD_ref {a G R} : keysD (.ref a) G R = ldO (G a) fun b kvs => kvs.all (fun kv => intKey kv.1) = true ∧ R (kvs.map (·.1)) (fun G => G a = some (.ldict b kvs)) G := (rfl)
@[simp] theorem valsD_ref {a G R} : valsD (.ref a) G R = ldO (G a) fun b kvs => b = false ∧ R (kvs.map (·.2)) (fun G => G a = some (.ldict b kvs)) G := (rfl)
section
variable {X : Cx} {B : Bx} {tg e : Expr} {te : DTE} {ta : DTA} {pos p apos cpos : Pos}
theorem frz_same {K : PySem.W.Frag} {H1 H : Hp} {a : Addr} {ob ob' : Obj} {u v : HO} (h1 : H1 a = some (.frz ob u)) (k : Kp H1 H) (h2 : H a = some (.frz ob' v)) : ob' = ob ∧ v = u := by
  have := k.frz _ _ _ h1
  rw [this] at h2
  cases h2
  exact ⟨rfl, rfl⟩
theorem kD_rel {H : Hp} {k : Key} (h : intKey (kD k) = true) : Rel H (kD k) (kV k) := by
  cases k with
  | inl i => rfl
  | inr x => cases h
theorem kDs_rel {H : Hp} : ∀ {ks : List Key}, ((ks.map kD).all fun d => match d with | .int _ => true | _ => false) = true → RelL H (ks.map kD) (ks.map kV)
  | [], _ => rfl
  | k :: ks, h => by
    cases k with
    | inl i => exact ⟨_, _, rfl, rfl, kDs_rel (ks := ks) (by simpa [kD] using h)⟩
    | inr x => simp [kD] at h
theorem di_keys (he : DE X B e te) : DI X B tg e (diKeys te) := by
  obtain ⟨te', pe, he⟩ := he.ex
  refine ⟨_, pi_keys pe, fun σ H sd G QD R hS R0 t hP => ?_⟩
  refine he σ H sd G _ _ hS R0 t fun v d H1 G1 k1 r1 R1 q1 => ?_
  cases d with
  | ref a =>
    cases r1
    obtain ⟨b, kvs, g, hall, q1⟩ := q1
    rw [List.all_eq_true] at hall
    have r := R1.at_ a _ g
    cases b with
    | false =>
      obtain ⟨z, ob, ks, h1, h2, h3⟩ := r
      refine ⟨a, ob, rfl, .inl ⟨ks, h1, hP _ _ _ H1 G1 k1 R1 ⟨by simpa using z, fun H => H a = some (.frz ob (.dK ks)), fun i H x H' => H' = H ∧ ∃ k v, ks[i]? = some (k, v) ∧ x = kV k, ?_, fun H G k _ _ => k.frz _ _ _ h1, ?_⟩ q1⟩⟩
      · have hl : ks.length = (kvs.map (·.1)).length := by simpa using (congrArg List.length h2).symm
        rw [← hl]
        exact walk_keys
      · rintro i H G x H' hi k R _ ⟨rfl, key, v, e1, rfl⟩
        have e2 : (kvs.map (·.1))[i]? = some (kD key) := by rw [h2, List.getElem?_map, e1]; rfl
        refine ⟨_, e2, kD_rel ?_, .refl _, R⟩
        have := List.mem_of_getElem? e2
        obtain ⟨kv, hm, e3⟩ := List.mem_map.mp this
        rw [← e3]
        exact hall kv hm
    | true =>
      obtain ⟨z, ob, ks, h1, h2, h3⟩ := r
      refine ⟨a, ob, rfl, .inr ⟨ks, h1, hP _ _ _ H1 G1 k1 R1 ⟨by simpa using z, fun H => H a = some (.frz ob (.dT ks)), fun i H x H' => H' = H ∧ ∃ (k : List Key) (v : V) (q : Addr), ks[i]? = some (k, v) ∧ x = .ref q ∧ H q = some (.tup (k.map kV)), ?_, fun H G k _ _ => k.frz _ _ _ h1, ?_⟩ q1⟩⟩
      · have hl : ks.length = (kvs.map (·.1)).length := by simpa using (congrArg List.length h2).symm
        rw [← hl]
        exact walk_keysT
      · rintro i H G x H' hi k R _ ⟨rfl, key, v, q, e1, rfl, hq⟩
        have e2 : (kvs.map (·.1))[i]? = some (.tup (key.map kD)) := by rw [h2, List.getElem?_map, e1]; rfl
        have := List.mem_of_getElem? e2
        obtain ⟨kv, hm, e3⟩ := List.mem_map.mp this
        have hk : intKey (.tup (key.map kD)) = true := by rw [← e3]; exact hall kv hm
        simp only [intKey, Bool.and_eq_true, decide_eq_true_eq] at hk
        exact ⟨_, e2, ⟨q, _, rfl, hq, kDs_rel hk.2, Nat.le_trans hk.1 (by decide)⟩, .refl _, R⟩
  | _ => exact (show False from q1).elim
theorem di_vals (he : DE X B e te) (hbase : attributeBase e "values" X.env (eval e X.env) = eval e X.env := by rfl) (hline : (apos.endLine == cpos.line) = true := by rfl) : DI X B tg (.Call (.Attribute e "values" apos) [] [] cpos) (diVals te) := by
  obtain ⟨te', pe, he⟩ := he.ex
  refine ⟨_, pi_values pe hbase hline, fun σ H sd G QD R hS R0 t hP => ?_⟩
  refine he σ H sd G _ _ hS R0 t fun v d H1 G1 k1 r1 R1 q1 => ?_
  cases d with
  | ref a =>
    cases r1
    obtain ⟨b, kvs, g, rfl, q1⟩ := q1
    obtain ⟨z, ob, ks, h1, h2, h3⟩ := R1.at_ a _ g
    refine ⟨a, ob, ks, rfl, h1, hP _ _ _ H1 G1 k1 R1 ⟨by simpa using z, fun H => H a = some (.frz ob (.dK ks)), fun i H x H' => H' = H ∧ ∃ k, ks[i]? = some (k, x), ?_, fun H G k _ _ => k.frz _ _ _ h1, ?_⟩ q1⟩
    · have hl : ks.length = (kvs.map (·.2)).length := by simpa using (congrArg List.length h2).symm
      rw [← hl]
      exact walk_values
    · rintro i H G x H' hi k R st ⟨rfl, key, e1⟩
      obtain ⟨z', ob', ks', h1', h2', h3'⟩ := R.at_ a _ st
      have := frz_same (K := X.K) h1 k h1'
      cases this.2
      obtain ⟨y, e2, r⟩ := h3'.get i (d := (kvs.map (·.2))[i]) (List.getElem?_eq_getElem hi)
      rw [List.getElem?_map, e1] at e2
      cases e2
      exact ⟨_, List.getElem?_eq_getElem hi, r, .refl _, R⟩
  | _ => exact (show False from q1).elim
/-- enumerate(list) -/
def enumD (xs : List D) : List D := xs.mapIdx fun i x => .tup [.int (i : Nat), x]
def diEnum (ta : DTA) : DTI := fun sd G R => ta sd G fun ds G1 => match ds with
  | [.ref a] => ∃ o, G1 a = some o ∧ lstO o fun xs => R (enumD xs) (fun G => G a = some o) G1
  | _ => False
def enumL (ds : List D) (G1 : Gp) (R : List D → (Gp → Prop) → Gp → Prop) : Prop := match ds with
  | [.ref a] => ∃ o, G1 a = some o ∧ lstO o fun xs => R (enumD xs) (fun G => G a = some o) G1
  | _ => False
theorem yPair_new {K : PySem.W.Frag} {H H' : Hp} {G : Gp} {fx fy : Nat → Option V} {i : Nat} {v : V} {dx dy : D} {x y : V} (h : YPair fx fy i H v H') (ex : fx i = some x) (ey : fy i = some y) (rx : Rel H dx x) (ry : Rel H dy y) (R : Rep K B H G) :
    Rel H' (.tup [dx, dy]) v ∧ Kp H H' ∧ Rep K B H' G := by
  obtain ⟨T, x', y', rfl, hT, rfl, e1, e2⟩ := h
  rw [ex] at e1
  rw [ey] at e2
  cases e1
  cases e2
  have k : Kp H (upd H T (.tup [x, y])) := .fresh hT
  exact ⟨⟨T, _, rfl, upd_same, ⟨_, _, rfl, rx.mono k, _, _, rfl, ry.mono k, rfl⟩, by simp [sizeLine_eq]⟩, k, R.fresh hT⟩
theorem enumD_at {xs : List D} {i : Nat} {d : D} (h : xs[i]? = some d) : (enumD xs)[i]? = some (.tup [.int (i : Nat), d]) := by
  simp [enumD, List.getElem?_mapIdx, h]
theorem di_enum {elts : List Expr} {kk : Nat} {tpos : Pos} (hg : Gl X "enumerate") (hm : X.mg "enumerate" = none) (ha : DA X B [e] ta) (hs : starEach [e] X.env = [(false, eval e X.env)] := by rfl) :
    DI X B (.Tuple elts kk tpos) (.Call (.Name "enumerate" p) [e] [] pos) (diEnum ta) := by
  obtain ⟨ta', pa, ha⟩ := ha.ex
  refine ⟨_, pi_enum hg hm pa hs, fun σ H sd G QD R hS R0 t hP => ?_⟩
  refine ha σ H sd G _ _ hS R0 t fun vs ds H1 G1 _ k1 r1 R1 q1 => ?_
  match ds, q1, r1 with
  | [.ref a], q1, r1 =>
    obtain ⟨v, rfl, rv⟩ := rel1 r1
    cases rv
    obtain ⟨o, g, q1⟩ := q1
    obtain ⟨xs, il, q1, ho⟩ := lstO_is g q1
    obtain ⟨vs, h1, h2, h3⟩ := lstRd R1 il
    have rd : ∀ {H : Hp} {G : Gp}, Rep X.K B H G → G a = some o → ∃ xs', Rd H a (.lst xs') ∧ RelL H xs xs' ∧ xs.length ≤ sizeLine := fun {H G} R g => lstRd R (by rcases ho with rfl | rfl <;> simp [IsLst, g])
    refine ⟨a, vs, rfl, .inl h1, hP _ _ _ H1 G1 k1 R1 ⟨by simpa [enumD] using h3, fun H => ∃ xs', SqL X.K H a xs' ∧ xs'.length = xs.length, fun i H x H' => ∀ xs' : List V, SqL X.K H a xs' → YPair (fun i => some (.int (i : Nat))) (fun i => xs'[i]?) i H x H', ?_, ?_, ?_⟩ q1⟩
    · have hl : (enumD xs).length = xs.length := by simp [enumD]
      rw [hl]
      refine ⟨fun i H hi ⟨xs', h, e⟩ => (walk_enum (xs := xs')).goes i H (by omega) h, fun H ⟨xs', h, e⟩ => by rw [← e]; exact (walk_enum (xs := xs')).stops H h, fun i H v H' hi _ y xs' h' => ?_⟩
      obtain ⟨T, x, e1, e2, e3, e4⟩ := y
      exact ⟨T, .int (i : Nat), x, e1, e2, e3, rfl, e4 xs' h'⟩
    · intro H G k R st
      obtain ⟨xs', h1, h2, _⟩ := rd R st
      exact ⟨xs', .inl h1, h2.length.symm⟩
    · intro i H G x H' hi k R st y
      obtain ⟨xs', h1, h2, _⟩ := rd R st
      have hi' : i < xs.length := by simpa [enumD] using hi
      obtain ⟨v, e1, r⟩ := h2.get i (d := xs[i]) (List.getElem?_eq_getElem hi')
      obtain ⟨a1, a2, a3⟩ := yPair_new (dx := .int (i : Nat)) (dy := xs[i]) (y xs' (.inl h1)) rfl e1 rfl r R
      exact ⟨_, enumD_at (List.getElem?_eq_getElem hi'), a1, a2, a3⟩
/-- the signs of a text -/
def signsD (z : Str) : List D := z.cps.toList.map fun c => .str ⟨#[c]⟩
def diStr (te : DTE) : DTI := fun sd G R => te sd G fun d G1 => match d with
  | .str z => z.length ≤ sizeLine ∧ R (signsD z) (fun _ => True) G1
  | _ => False
theorem di_str (he : DE X B e te) : DI X B tg e (diStr te) := by
  obtain ⟨te', pe, he⟩ := he.ex
  refine ⟨_, pi_str pe, fun σ H sd G QD R hS R0 t hP => ?_⟩
  refine he σ H sd G _ _ hS R0 t fun v d H1 G1 k1 r1 R1 q1 => ?_
  cases d with
  | str z =>
    obtain ⟨rfl, ok⟩ := r1
    obtain ⟨hz, q1⟩ := q1
    have hl : (signsD z).length = z.cps.size := by simp [signsD]
    refine ⟨z, rfl, hP _ _ _ H1 G1 k1 R1 ⟨by rw [hl]; exact hz, fun _ => True, _, by rw [hl]; exact walk_str, fun _ _ _ _ _ => trivial, ?_⟩ q1⟩
    rintro i H G x H' hi k R _ ⟨rfl, c, e1, rfl⟩
    refine ⟨.str ⟨#[c]⟩, by simp [signsD, e1], ⟨rfl, ?_⟩, .refl _, R⟩
    have hi' : i < z.cps.toList.length := by simpa [signsD] using hi
    refine okS_sign (i := (i : Nat)) ok ?_
    have e2 : z.cps.toList[i]? = some c := by simpa using e1
    rw [atI_nat hi', ← List.getElem?_eq_getElem hi', e2]
  | _ => exact (show False from q1).elim
end
@[simp ↓] theorem diEnum_app {te sd G R} : diEnum te sd G R = te sd G fun d G1 => enumL d G1 R := (rfl)
def enumO (o : Option DO) (a : Addr) (G1 : Gp) (R : List D → (Gp → Prop) → Gp → Prop) : Prop := ∃ o', o = some o' ∧ lstO o' fun xs => R (enumD xs) (fun G => G a = some o') G1
@[simp] theorem enumL_ref {a G R} : enumL [.ref a] G R = enumO (G a) a G R := (rfl)
@[simp] theorem enumO_lst {xs a G R} : enumO (some (.lst xs)) a G R = R (enumD xs) (fun G => G a = some (.lst xs)) G := by simp [enumO, lstO]
def strD (d : D) (G1 : Gp) (R : List D → (Gp → Prop) → Gp → Prop) : Prop := match d with
  | .str z => z.length ≤ sizeLine ∧ R (signsD z) (fun _ => True) G1
  | _ => False
theorem strD_congr {d d' : D} {G : Gp} {R : List D → (Gp → Prop) → Gp → Prop} (h0 : d = d') : strD d G R = strD d' G R := by rw [h0]
theorem enumL_congr {ds ds' : List D} {G : Gp} {R : List D → (Gp → Prop) → Gp → Prop} (h0 : ds = ds') : enumL ds G R = enumL ds' G R := by rw [h0]
theorem enumO_congr {o o' : Option DO} {a : Addr} {G : Gp} {R : List D → (Gp → Prop) → Gp → Prop} (h0 : o = o') : enumO o a G R = enumO o' a G R := by rw [h0]
@[simp] theorem strD_str {z G R} : strD (.str z) G R = (z.length ≤ sizeLine ∧ R (signsD z) (fun _ => True) G) := (rfl)
@[simp ↓] theorem diStr_app {te sd G R} : diStr te sd G R = te sd G fun d G1 => strD d G1 R := (rfl)
theorem dLock_congr {t : DTS} {DD : DEnds} {sd sd' : SD} {G : Gp} (h : sd = sd') : dLock t DD sd G = dLock t DD sd' G := by rw [h]
theorem dLockE_congr {t : DTE} {sd sd' : SD} {G : Gp} {Q : DQ} (h : sd = sd') : dLockE t sd G Q = dLockE t sd' G Q := by rw [h]
theorem dLockE_of {t : DTE} {sd : SD} {G : Gp} {Q : DQ} {a : Addr} {b : Bool} {kvs : List (D × D)} (g : G a = some (.dict b kvs)) (h : t sd (put G a (.ldict b kvs)) fun v G' => G' a = some (.ldict b kvs) ∧ Q v (put G' a (.dict b kvs))) : dLockE t sd G Q := ⟨a, b, kvs, g, h⟩
theorem dLock_of {t : DTS} {n r b' c} {sd : SD} {G : Gp} {a : Addr} {b : Bool} {kvs : List (D × D)} (g : G a = some (.dict b kvs))
    (h : t ⟨fun sd' G' => G' a = some (.ldict b kvs) ∧ n sd' (put G' a (.dict b kvs)), fun v G' => G' a = some (.ldict b kvs) ∧ r v (put G' a (.dict b kvs)),
    fun sd' G' => G' a = some (.ldict b kvs) ∧ b' sd' (put G' a (.dict b kvs)), fun sd' G' => G' a = some (.ldict b kvs) ∧ c sd' (put G' a (.dict b kvs))⟩ sd (put G a (.ldict b kvs))) : dLock t ⟨n, r, b', c⟩ sd G := ⟨a, b, kvs, g, h⟩
end DL
set_option Elab.async false
set_option linter.all false
set_option maxRecDepth 100000
set_option maxHeartbeats 4000000
namespace DL
open PySem PySem.Spec L2

/-! ### d.get, d.pop -/
section
variable {X : Cx} {B : Bx}
theorem mt_get (hu : X.A.units + 1 < cLine) : MtR X "dict.get" (fun x xs H Q => ∃ a y r, x = .ref a ∧ DGet H a y r ∧ ((xs = [y] ∧ Q (r.getD .non) H) ∨ ∃ z, xs = [y, z] ∧ Q (r.getD z) H)) := by
  rintro pins s σ H x xs v us Q I rx rxs ⟨a, y, r, rfl, g, ⟨rfl, q⟩ | ⟨z, rfl, q⟩⟩
  · cases rx
    obtain ⟨u, rfl, ru⟩ := vals1 rxs
    exact d_get1 hu I g ru fun w' s3 I3 rw' => ⟨_, H, I3, rw', q⟩
  · cases rx
    obtain ⟨u, u2, rfl, ru, ru2⟩ := vals2 rxs
    exact d_get2 hu I g ru ru2 fun w' s3 I3 rw' => ⟨_, H, I3, rw', q⟩
theorem mt_popK : MtR X "dict.pop" (fun x xs H Q => ∃ (a : Addr) (kvs : List (Key × V)) (k : Key), x = .ref a ∧ H a = some (.dK kvs) ∧ ((xs = [kV k] ∧ ∃ v, valV kvs k = some v ∧ Q v (upd H a (.dK (dropK kvs k)))) ∨
    ∃ z, xs = [kV k, z] ∧ (∀ v, valV kvs k = some v → Q v (upd H a (.dK (dropK kvs k)))) ∧ (valV kvs k = none → Q z H))) := by
  rintro pins s σ H x xs v us Q I rx rxs ⟨a, kvs, k, rfl, ea, ⟨rfl, w, l, q⟩ | ⟨z, rfl, q1, q2⟩⟩
  · cases rx
    obtain ⟨u, rfl, ru⟩ := vals1 rxs
    exact d_pop I ea ru l (.inl rfl) fun w' s3 I3 rw' => ⟨_, _, I3, rw', q⟩
  · cases rx
    obtain ⟨u, u2, rfl, ru, ru2⟩ := vals2 rxs
    cases l : valV kvs k with
    | some w => exact d_pop I ea ru l (.inr ⟨u2, rfl⟩) fun w' s4 I4 rw' => ⟨w, _, I4, rw', q1 w l⟩
    | none => exact d_popD I ea ru l fun s4 I4 => ⟨z, H, I4, ru2, q2 l⟩
theorem mt_popT1 (hc : X.calm = true) (hu : X.A.units + 1 < cLine) : MtR X "dict.pop" (fun x xs H Q => ∃ (a : Addr) (kvs : List (List L2.Key × V)) (k : List L2.Key) (b : Addr) (v : V), x = .ref a ∧ xs = [.ref b] ∧ H a = some (.dT kvs) ∧ H b = some (.tup (k.map kV)) ∧
    valV kvs k = some v ∧ Q v (upd H a (.dT (dropK kvs k)))) := by
  rintro pins s σ H x xs v us Q I rx rxs ⟨a, kvs, k, b, v0, rfl, rfl, ha, hb, ev, q⟩
  cases rx
  obtain ⟨u1, rfl, r1⟩ := vals1 rxs
  cases r1
  obtain ⟨z, hd, xs', rel, dd⟩ := dt_of I.hok ha
  have hz : xs'.length ≤ sizeLine := by rw [← Paired.length rel]; exact z
  refine call_meetsIn PySem.F.slot_dict_pop dd.typeIs PySem.F.entry_dict_pop (PySem.F.args_dict_pop_2 _ _) (meetsH_dict_pop (tupleKind (mixKind X.prog X.w)) a b hd [] (.inl rfl))
    ⟨tupleKind_room_in1 hu, k, xs', key_of I.hok hb, dd, hz, fun p hp h' dd' hs => ?_, fun hn tk => ?_⟩
  · have r := rel.val k
    rw [hp, ev] at r
    obtain ⟨o, es, ep, hq, h2, h3, h4, _, h5⟩ := dd'
    have I2 : Inv X pins σ (upd H a (.dT (dropK kvs k))) { s with heap := h', toks := s.toks + (tupleKind (mixKind X.prog X.w)).draws k } :=
      d_write I (by rw [ha]; exact True.intro) hs ⟨o, hq⟩ ⟨Nat.le_trans (dropK_le kvs k) z, hd, _, (L2.DX.KT_drop k rel).keeps (fun c ys ec => (by rw [upd_ne (ne_of ec ha (fun z => nomatch z))]; exact ec)), o, es, ep, hq, h2, h3, h4, h5⟩
    show EP X pins σ Q p.2 _
    exact ⟨v0, _, I2, r, q⟩
  · have r := rel.val k
    rw [hn, ev] at r
    exact (show False from r).elim
def getR : D → List D → Gp → DQ → Prop := fun d ds G Q => match d with
  | .ref a => ∃ t kvs, (G a = some (.dict t kvs) ∨ G a = some (.ldict t kvs)) ∧ (match ds with
    | [k] => keyOk t k = true ∧ Q ((valD kvs k).getD .non) G
    | [k, z] => keyOk t k = true ∧ Q ((valD kvs k).getD z) G
    | _ => False)
  | _ => False
theorem dm_get (hu : X.A.units + 1 < cLine) : DMt X B "dict.get" getR := by
  refine ⟨_, mt_get hu, fun H G x d xs ds Q P r1 r2 R q hp => ?_⟩
  cases d with
  | ref a =>
    cases r1
    obtain ⟨t, kvs, g, q⟩ := q
    obtain ⟨o, ho, g⟩ : ∃ o, (o = .dict t kvs ∨ o = .ldict t kvs) ∧ G a = some o := by
      rcases g with g | g
      · exact ⟨_, .inl rfl, g⟩
      · exact ⟨_, .inr rfl, g⟩
    match ds, q, r2 with
    | [k], q, r2 =>
      obtain ⟨y, rfl, ry⟩ := rel1 r2
      obtain ⟨hk, q⟩ := q
      obtain ⟨r, dg, m⟩ := dk_rel R g ho ry hk
      refine ⟨a, y, r, rfl, dg, .inl ⟨rfl, ?_⟩⟩
      cases e : valD kvs k with
      | none =>
        rw [e] at m q
        cases r with
        | none => exact hp _ .non H G (.refl H) rfl R q
        | some _ => exact (show False from m).elim
      | some w =>
        rw [e] at m q
        cases r with
        | none => exact (show False from m).elim
        | some v => exact hp _ w H G (.refl H) m R q
    | [k, z], q, r2 =>
      obtain ⟨y, v2, rfl, ry, rz⟩ := rel2 r2
      obtain ⟨hk, q⟩ := q
      obtain ⟨r, dg, m⟩ := dk_rel R g ho ry hk
      refine ⟨a, y, r, rfl, dg, .inr ⟨v2, rfl, ?_⟩⟩
      cases e : valD kvs k with
      | none =>
        rw [e] at m q
        cases r with
        | none => exact hp _ z H G (.refl H) rz R q
        | some _ => exact (show False from m).elim
      | some w =>
        rw [e] at m q
        cases r with
        | none => exact (show False from m).elim
        | some v => exact hp _ w H G (.refl H) m R q
    | [], q, _ => exact (show False from q).elim
    | _ :: _ :: _ :: _, q, _ => exact (show False from q).elim
  | _ => exact (show False from q).elim
def dpopR : D → List D → Gp → DQ → Prop := fun d ds G Q => match d with
  | .ref a => ∃ t kvs, G a = some (.dict t kvs) ∧ (match ds with
    | [k] => keyOk t k = true ∧ ∃ v, valD kvs k = some v ∧ Q v (put G a (.dict t (dropD kvs k)))
    | [k, z] => keyOk t k = true ∧ (match valD kvs k with
      | some v => Q v (put G a (.dict t (dropD kvs k)))
      | none => Q z G)
    | _ => False)
  | _ => False
theorem dm_pop (hc : X.calm = true) (hu : X.A.units + 1 < cLine) : DMt X B "dict.pop" dpopR := by
  refine ⟨_, (mt_popK.or ((mt_popT1 hc hu).or (L2.DX.mt_popT hu))), fun H G x d xs ds Q P r1 r2 R q hp => ?_⟩
  cases d with
  | ref a =>
    cases r1
    obtain ⟨t, kvs, g, q⟩ := q
    have st := R.at_ a _ g
    cases t with
    | false =>
      obtain ⟨z, ks, h1, h2, h3⟩ := st
      have fin : ∀ {k : D} {key : Key} {v : V} {w : D}, k = kD key → valD kvs k = some w → valV ks key = some v → Q w (put G a (.dict false (dropD kvs k))) → P v (upd H a (.dK (dropK ks key))) := fun {k key v w} ek e1 e2 q => by
        subst ek
        have m := find_rel (f := kD) (fun _ _ => kD_inj) key h2 h3
        rw [e1, e2] at m
        have kw : Kp H (upd H a (.dK (dropK ks key))) := .write h1 fun _ => nofun
        obtain ⟨d1, d2⟩ := drop_rel (f := kD) (fun _ _ => kD_inj) key h2 h3
        exact hp v w _ _ kw (Rel.mono kw m) (R.write (o := .dict false (dropD kvs (kD key))) h1 (fun _ => nofun) ⟨Nat.le_trans (dropD_length _ _) z, _, upd_same, d1, d2.mono kw⟩) q
      have look : ∀ key, match valD kvs (kD key), valV ks key with | some d, some v => Rel H d v | none, none => True | _, _ => False := fun key => find_rel (f := kD) (fun _ _ => kD_inj) key h2 h3
      match ds, q, r2 with
      | [k], q, r2 =>
        obtain ⟨y, rfl, ry⟩ := rel1 r2
        obtain ⟨hk, w, e1, q⟩ := q
        obtain ⟨key, hk⟩ := Option.isSome_iff_exists.mp (show (dKey k).isSome = true from hk)
        have e := dKey_eq hk
        subst e
        have ev := rel_kD ry
        subst ev
        have m := look key
        rw [e1] at m
        cases e2 : valV ks key with
        | none => rw [e2] at m; exact (show False from m).elim
        | some v => exact .inl ⟨a, ks, key, rfl, h1, .inl ⟨rfl, v, e2, fin rfl e1 e2 q⟩⟩
      | [k, zz], q, r2 =>
        obtain ⟨y, v2, rfl, ry, rz⟩ := rel2 r2
        obtain ⟨hk, q⟩ := q
        obtain ⟨key, hk⟩ := Option.isSome_iff_exists.mp (show (dKey k).isSome = true from hk)
        have e := dKey_eq hk
        subst e
        have ev := rel_kD ry
        subst ev
        have m := look key
        refine .inl ⟨a, ks, key, rfl, h1, .inr ⟨v2, rfl, fun v e2 => ?_, fun e2 => ?_⟩⟩
        · rw [e2] at m
          cases e1 : valD kvs (kD key) with
          | none => rw [e1] at m; exact (show False from m).elim
          | some w =>
            rw [e1] at q
            exact fin rfl e1 e2 q
        · rw [e2] at m
          cases e1 : valD kvs (kD key) with
          | some w => rw [e1] at m; exact (show False from m).elim
          | none =>
            rw [e1] at q
            exact hp v2 zz H G (.refl H) rz R q
      | [], q, _ => exact (show False from q).elim
      | _ :: _ :: _ :: _, q, _ => exact (show False from q).elim
    | true =>
      obtain ⟨z, ks, h1, h2, h3⟩ := st
      have inj : ∀ a b : List Key, D.tup (a.map kD) = D.tup (b.map kD) → a = b := fun _ _ z => kDs_inj (D.tup.inj z)
      have fin : ∀ {k : D} {key : List Key} {v : V} {w : D}, k = .tup (key.map kD) → valD kvs k = some w → valV ks key = some v → Q w (put G a (.dict true (dropD kvs k))) → P v (upd H a (.dT (dropK ks key))) := fun {k key v w} ek e1 e2 q => by
        subst ek
        have m := find_rel (f := fun k : List Key => D.tup (k.map kD)) inj key h2 h3
        rw [e1, e2] at m
        have kw : Kp H (upd H a (.dT (dropK ks key))) := .write h1 fun _ => nofun
        obtain ⟨d1, d2⟩ := drop_rel (f := fun k : List Key => D.tup (k.map kD)) inj key h2 h3
        exact hp v w _ _ kw (Rel.mono kw m) (R.write (o := .dict true (dropD kvs (.tup (key.map kD)))) h1 (fun _ => nofun) ⟨Nat.le_trans (dropD_length _ _) z, _, upd_same, d1, d2.mono kw⟩) q
      have look : ∀ key : List Key, match valD kvs (.tup (key.map kD)), valV ks key with | some d, some v => Rel H d v | none, none => True | _, _ => False := fun key => find_rel (f := fun k : List Key => D.tup (k.map kD)) inj key h2 h3
      have keyed : ∀ {k : D} {y : V}, keyOk true k = true → Rel H k y → ∃ (key : List Key) (b : Addr), k = .tup (key.map kD) ∧ y = .ref b ∧ H b = some (.tup (key.map kV)) := fun {k y} hk ry => by
        cases k with
        | tup ds =>
          obtain ⟨key, hk⟩ := Option.isSome_iff_exists.mp (show (dKeys ds).isSome = true from hk)
          have e := dKeys_eq hk
          subst e
          obtain ⟨b, xs, rfl, hb, rl, _⟩ := ry
          have ev := rel_kDs rl
          subst ev
          exact ⟨key, b, rfl, rfl, hb⟩
        | _ => exact absurd hk (by simp [keyOk])
      match ds, q, r2 with
      | [k], q, r2 =>
        obtain ⟨y, rfl, ry⟩ := rel1 r2
        obtain ⟨hk, w, e1, q⟩ := q
        obtain ⟨key, b, rfl, rfl, hb⟩ := keyed hk ry
        have m := look key
        rw [e1] at m
        cases e2 : valV ks key with
        | none => rw [e2] at m; exact (show False from m).elim
        | some v => exact .inr (.inl ⟨a, ks, key, b, v, rfl, rfl, h1, hb, e2, fin rfl e1 e2 q⟩)
      | [k, zz], q, r2 =>
        obtain ⟨y, v2, rfl, ry, rz⟩ := rel2 r2
        obtain ⟨hk, q⟩ := q
        obtain ⟨key, b, rfl, rfl, hb⟩ := keyed hk ry
        have m := look key
        refine .inr (.inr ⟨a, ks, key, b, v2, rfl, rfl, h1, hb, fun v e2 => ?_, fun e2 => ?_⟩)
        · rw [e2] at m
          cases e1 : valD kvs (.tup (key.map kD)) with
          | none => rw [e1] at m; exact (show False from m).elim
          | some w =>
            rw [e1] at q
            exact fin rfl e1 e2 q
        · rw [e2] at m
          cases e1 : valD kvs (.tup (key.map kD)) with
          | some w => rw [e1] at m; exact (show False from m).elim
          | none =>
            rw [e1] at q
            exact hp v2 zz H G (.refl H) rz R q
      | [], q, _ => exact (show False from q).elim
      | _ :: _ :: _ :: _, q, _ => exact (show False from q).elim
  | _ => exact (show False from q).elim
/-! ### {} -/
def dNewD (t : Bool) : DTE := fun _ G Q => ∀ p, Nw G p → Q (.ref p) (put G p (.dict t []))
theorem de_newDK {pos : Pos} : DE X B (.Dict [] [] pos) (dNewD false) := ⟨_, pe_dnewK, fun σ H sd G Q P hS R t hp p hn =>
  hp _ (.ref p) _ _ (.fresh hn) rfl (R.laid (o := .dict false []) hn ⟨Nat.zero_le _, [], upd_same, rfl, rfl⟩) (t p (R.gnone hn))⟩
theorem de_newDT {pos : Pos} : DE X B (.Dict [] [] pos) (dNewD true) := ⟨_, pe_dnewT, fun σ H sd G Q P hS R t hp p hn =>
  hp _ (.ref p) _ _ (.fresh hn) rfl (R.laid (o := .dict true []) hn ⟨Nat.zero_le _, [], upd_same, rfl, rfl⟩) (t p (R.gnone hn))⟩
end
@[simp ↓] theorem dNewD_app {t sd G Q} : dNewD t sd G Q = ∀ p, Nw G p → Q (.ref p) (put G p (.dict t [])) := (rfl)
def getO (o : Option DO) (ds : List D) (G : Gp) (Q : DQ) : Prop := ∃ t kvs, (o = some (.dict t kvs) ∨ o = some (.ldict t kvs)) ∧ (match ds with
    | [k] => keyOk t k = true ∧ Q ((valD kvs k).getD .non) G
    | [k, z] => keyOk t k = true ∧ Q ((valD kvs k).getD z) G
    | _ => False)
theorem getR_congr {d d' : D} {ds ds' : List D} {G : Gp} {Q : DQ} (h0 : d = d') (h1 : ds = ds') : getR d ds G Q = getR d' ds' G Q := by rw [h0, h1]
theorem dpopR_congr {d d' : D} {ds ds' : List D} {G : Gp} {Q : DQ} (h0 : d = d') (h1 : ds = ds') : dpopR d ds G Q = dpopR d' ds' G Q := by rw [h0, h1]
theorem getO_congr {o o' : Option DO} {ds ds' : List D} {G : Gp} {Q : DQ} (h0 : o = o') (h1 : ds = ds') : getO o ds G Q = getO o' ds' G Q := by rw [h0, h1]
@[simp] theorem getR_ref {a ds G Q} : getR (.ref a) ds G Q = getO (G a) ds G Q := (rfl)
@[simp] theorem getO_1 {t kvs k G Q} : getO (some (.dict t kvs)) [k] G Q = (keyOk t k = true ∧ Q ((valD kvs k).getD .non) G) :=
  propext ⟨fun ⟨_, _, e, h⟩ => by rcases e with e | e <;> cases e; exact h, fun h => ⟨_, _, .inl rfl, h⟩⟩
@[simp] theorem getO_2 {t kvs k z G Q} : getO (some (.dict t kvs)) [k, z] G Q = (keyOk t k = true ∧ Q ((valD kvs k).getD z) G) :=
  propext ⟨fun ⟨_, _, e, h⟩ => by rcases e with e | e <;> cases e; exact h, fun h => ⟨_, _, .inl rfl, h⟩⟩
def dpopO (o : Option DO) (a : Addr) (ds : List D) (G : Gp) (Q : DQ) : Prop := ∃ t kvs, o = some (.dict t kvs) ∧ (match ds with
    | [k] => keyOk t k = true ∧ ∃ v, valD kvs k = some v ∧ Q v (put G a (.dict t (dropD kvs k)))
    | [k, z] => keyOk t k = true ∧ (match valD kvs k with
      | some v => Q v (put G a (.dict t (dropD kvs k)))
      | none => Q z G)
    | _ => False)
theorem dpopO_congr {o o' : Option DO} {a : Addr} {ds ds' : List D} {G : Gp} {Q : DQ} (h0 : o = o') (h1 : ds = ds') : dpopO o a ds G Q = dpopO o' a ds' G Q := by rw [h0, h1]
def elseD (o : Option D) (G1 : Gp) (z : D) (G : Gp) (Q : DQ) : Prop := match o with
  | some v => Q v G1
  | none => Q z G
theorem elseD_congr {o o' : Option D} {G1 : Gp} {z : D} {G : Gp} {Q : DQ} (h0 : o = o') : elseD o G1 z G Q = elseD o' G1 z G Q := by rw [h0]
@[simp] theorem elseD_some {v G1 z G Q} : elseD (some v) G1 z G Q = Q v G1 := (rfl)
@[simp] theorem elseD_none {G1 z G Q} : elseD none G1 z G Q = Q z G := (rfl)
@[simp] theorem dpopR_ref {a ds G Q} : dpopR (.ref a) ds G Q = dpopO (G a) a ds G Q := (rfl)
@[simp] theorem dpopO_1 {t kvs a k G Q} : dpopO (some (.dict t kvs)) a [k] G Q = (keyOk t k = true ∧ optD (valD kvs k) (put G a (.dict t (dropD kvs k))) Q ⟨⟩) :=
  propext ⟨fun ⟨_, _, e, h⟩ => by cases e; exact h, fun h => ⟨_, _, rfl, h⟩⟩
@[simp] theorem dpopO_2 {t kvs a k z G Q} : dpopO (some (.dict t kvs)) a [k, z] G Q = (keyOk t k = true ∧ elseD (valD kvs k) (put G a (.dict t (dropD kvs k))) z G Q) :=
  propext ⟨fun ⟨_, _, e, h⟩ => by cases e; exact h, fun h => ⟨_, _, rfl, h⟩⟩
@[simp] theorem keyOk_int {i : Int} : keyOk false (.int i) = true := (rfl)
@[simp] theorem keyOk_str {i : Str} : keyOk false (.str i) = true := (rfl)
@[simp] theorem keyOk_pair {i j : Int} : keyOk true (.tup [.int i, .int j]) = true := (rfl)
end DL
set_option Elab.async false
set_option linter.all false
set_option maxRecDepth 100000
set_option maxHeartbeats 4000000
namespace DL
open PySem PySem.Spec L2
open PySem.W (AllAlike Sortable dataLe EachIs)

/-! ### sorted -/
theorem each_of_vals {R : Value → PyData × V → Prop} : ∀ {bs : List (PyData × V)} {us : List Value}, Vals (bs.map (·.2)) us → (∀ b ∈ bs, ∀ u, RelV b.2 u → R u b) → EachIs R us bs
  | [], us, r, _ => by
    cases r
    exact .nil
  | b :: bs, us, r, h => by
    cases r with
    | cons r1 r2 => exact .cons (h b (by simp) _ r1) (each_of_vals r2 fun c hc => h c (by simp [hc]))
theorem vals_of_each : ∀ {bs : List (PyData × V)} {us : List Value}, EachIs (fun u b => RelV b.2 u) us bs → Vals (bs.map (·.2)) us
  | [], us, r => by
    cases r
    exact .nil
  | b :: bs, us, r => by
    cases r with
    | cons r1 r2 => exact .cons r1 (vals_of_each r2)
def rSortA (K : PySem.W.Frag) : List V → Hp → VK → Prop := fun xs H Q => ∃ (a : Addr) (bs : List (PyData × V)), xs = [.ref a] ∧ SqL K H a (bs.map (·.2)) ∧ (∀ b ∈ bs, Dp K H b.2 b.1 ∧ b.1.depth ≤ 20) ∧ AllAlike (bs.map (·.1)) ∧ Sortable (bs.map (·.1)) ∧ bs.length ≤ sizeLine ∧
  ∀ p, H p = none → Q (.ref p) (upd H p (.lst ((bs.mergeSort (dataLe false (·.1))).map (·.2))))
section
variable {X : Cx} {B : Bx}
theorem cr_sortA (hu : X.A.units + 64 < cLine) : CallR X (.builtin "sorted") (rSortA X.K) := by
  intro pins s σ H xs us Q I r h
  obtain ⟨a, bs, rfl, hs, hd, hal, hk, hz, q⟩ := h
  obtain ⟨its, rv, hl, hz'⟩ := I.list hs
  obtain ⟨u, rfl, ru⟩ := vals1 r
  obtain rfl : u = Value.ref a := ru
  have e : EachIs (fun u b => RelV b.2 u) its bs := each_of_vals rv fun b _ u r => r
  have er : EachIs (fun v b => ∃ as, Reads s.heap v b.1 as) its bs := each_of_vals rv fun b hb u r => Dp.reads I _ _ _ (hd b hb).1 r
  refine PySem.W.sorted_data (enc := fun b : PyData × V => b.1) (R := fun u b => RelV b.2 u) hl.isList e er hal hk hz (fun b hb => by have := (hd b hb).2; omega) fun out hlen eo => ?_
  refine ⟨.ref (s.heap.objs.size + 1), upd H (s.heap.objs.size + 1) (.lst ((bs.mergeSort (dataLe false (·.1))).map (·.2))), I.laid (t' := s.toks) (fun b o e => PyProof.Rows.sortedAll_old e) (Nat.le_succ _) ?_, rfl, q _ (I.hok.fresh (Nat.le_succ _))⟩
  obtain ⟨n, hn⟩ := PyProof.Rows.sortedAll_at s.heap its (List.toArray out)
  exact ⟨by rw [List.length_map, List.length_mergeSort]; exact hz, out, n, vals_of_each eo, hn⟩
/-- the data in their order -/
def sortD (xs : List D) : List D := xs.mergeSort (dataLe false toPD)
def srtOk (xs : List D) : Prop := xs.all (dat 20) = true ∧ AllAlike (xs.map toPD) ∧ Sortable (xs.map toPD)
def srtR : List D → Gp → DQ → Prop := fun ds G Q => match ds with
  | [.ref a] => ∃ o, G a = some o ∧ lstO o fun xs => srtOk xs ∧ ∀ p, Nw G p → Q (.ref p) (put G p (.lst (sortD xs)))
  | _ => False
theorem relL_zip {K : PySem.W.Frag} {H : Hp} : ∀ {ds : List D} {vs : List V}, RelL H ds vs → (∀ d ∈ ds, dat 20 d = true) → ∃ bs : List (D × V), bs.map (·.1) = ds ∧ bs.map (·.2) = vs ∧ (∀ b ∈ bs, Rel H b.1 b.2 ∧ dat 20 b.1 = true)
  | [], vs, r, _ => by
    cases (relL_nil.mp r)
    exact ⟨[], rfl, rfl, by simp⟩
  | d :: ds, vs, r, h => by
    obtain ⟨x, r', rfl, h1, h2⟩ := r
    obtain ⟨bs, e1, e2, e3⟩ := relL_zip (K := K) h2 fun d hd => h d (by simp [hd])
    refine ⟨(d, x) :: bs, by simp [e1], by simp [e2], ?_⟩
    intro b hb
    rcases List.mem_cons.mp hb with rfl | hb
    · exact ⟨h1, h d (by simp)⟩
    · exact e3 b hb
theorem relL_pairs {H : Hp} : ∀ {bs : List (D × V)}, (∀ b ∈ bs, Rel H b.1 b.2) → RelL H (bs.map (·.1)) (bs.map (·.2))
  | [], _ => rfl
  | b :: bs, h => ⟨_, _, rfl, h b (by simp), relL_pairs fun c hc => h c (by simp [hc])⟩
theorem dc_sorted (hu : X.A.units + 64 < cLine) : DCall X B (.builtin "sorted") srtR := by
  refine ⟨_, cr_sortA hu, fun H G xs ds Q P r R q hp => ?_⟩
  match ds, q, r with
  | [.ref a], q, r =>
    obtain ⟨x, rfl, rx⟩ := rel1 r
    cases rx
    obtain ⟨o, g, q⟩ := q
    obtain ⟨xs, il, ⟨⟨hk1, hk2, hk3⟩, q⟩, ho⟩ := lstO_is g q
    obtain ⟨vs, h1, h2, h3⟩ := lstRd R il
    obtain ⟨bs, rfl, rfl, hb⟩ := relL_zip (K := X.K) h2 (List.all_eq_true.mp hk1)
    have em : ((bs.map fun b => (toPD b.1, b.2)).mergeSort (dataLe false (·.1))).map (·.2) = (bs.mergeSort (dataLe false fun b => toPD b.1)).map (·.2) := by
      have := List.map_mergeSort (r := dataLe false fun b : D × V => toPD b.1) (s := dataLe false fun b : PyData × V => b.1) (f := fun b : D × V => (toPD b.1, b.2)) (l := bs) (fun _ _ _ _ => rfl)
      rw [← this, List.map_map]
      rfl
    have ed : (bs.mergeSort (dataLe false fun b => toPD b.1)).map (·.1) = sortD (bs.map (·.1)) := List.map_mergeSort (fun _ _ _ _ => rfl)
    refine ⟨a, bs.map fun b => (toPD b.1, b.2), rfl, .inl (by rw [List.map_map]; exact h1), fun b hb' => ?_, by rw [List.map_map] at hk2 ⊢; exact hk2, by rw [List.map_map] at hk3 ⊢; exact hk3, by simpa using h3, fun p hn => ?_⟩
    · obtain ⟨c, hc, rfl⟩ := List.mem_map.mp hb'
      obtain ⟨r1, r2⟩ := hb c hc
      obtain ⟨d1, d2, d3⟩ := dat_dp (K := X.K) c.1 20 c.2 r2 r1
      exact ⟨d1, d3⟩
    · rw [em]
      have rs : RelL H ((bs.mergeSort (dataLe false fun b => toPD b.1)).map (·.1)) ((bs.mergeSort (dataLe false fun b => toPD b.1)).map (·.2)) := relL_pairs fun b hb' => (hb b (List.mem_mergeSort.mp hb')).1
      rw [ed] at rs
      obtain ⟨k, R'⟩ := lst_new hn rs (by simp [sortD]; simpa using h3) R
      exact hp _ (.ref p) _ _ k rfl R' (q p (R.gnone hn))
end
@[simp] theorem srtR_ref {a : Addr} {G Q} : srtR [.ref a] G Q = (∃ o, G a = some o ∧ lstO o fun xs => srtOk xs ∧ ∀ p, Nw G p → Q (.ref p) (put G p (.lst (sortD xs)))) := (rfl)

/-! ### sorted of what a dict shows -/
mutual
theorem reads_lt {h : Heap} : ∀ {v : Value} {d : PyData} {as : List Addr}, Reads h v d as → ∀ a ∈ as, a < h.objs.size
  | _, _, _, .none, a, m => nomatch m
  | _, _, _, .bool _, a, m => nomatch m
  | _, _, _, .int _ _, a, m => nomatch m
  | _, _, _, .str _ _, a, m => nomatch m
  | _, _, _, .list h1 _ _ h4, a, m => by
    rcases List.mem_cons.mp m with rfl | m
    · exact Heap.lt_size h1
    · exact readsAll_lt h4 a m
  | _, _, _, .tuple _ _ _ h4, a, m => readsAll_lt h4 a m
  | _, _, _, .dict h1 _ _ h4 h5, a, m => by
    rcases List.mem_append.mp m with m | m
    · rcases List.mem_cons.mp m with rfl | m
      · exact Heap.lt_size h1
      · exact readsAll_lt h4 a m
    · exact readsAll_lt h5 a m
theorem readsAll_lt {h : Heap} : ∀ {vs : List Value} {ds : List PyData} {as : List Addr}, ReadsAll h vs ds as → ∀ a ∈ as, a < h.objs.size
  | _, _, _, .nil, a, m => nomatch m
  | _, _, _, .cons h1 h2, a, m => by
    rcases List.mem_append.mp m with m | m
    · exact reads_lt h1 a m
    · exact readsAll_lt h2 a m
end
section
open PyProof.Rows
variable {prog : Program} {w : World} {d : Addr} {es : Array DictEntry} {ep : Nat}
/-- a dict, whatever its keys: its keys -/
theorem kdl_raw (lo : (d == sysModules) = false) : PySem.W.KdlSrc prog w "dict" d d es.size (fun i v => ∃ en, es[i]? = some en ∧ v = en.key) (fun h => DT.Raw h d es ep) where
  type := fun _ hm => hm.typeIs
  there := fun _ hm => ⟨hm.lt, hm.lt⟩
  keep := fun _ _ hm hk => hm.at' fun o e => hk d (.inl rfl) o e
  notList := by decide
  notTuple := by decide
  hint := fun _ _ _ _ hm hq => PySem.W.kdl_hint_dict hm.typeIs hq
  iter := fun A s hh hm => by
    obtain ⟨o, ho, hc, hdat⟩ := id hm
    have hlt := hm.lt
    refine ⟨_, fun i h => h.IsKeyIter s.heap.objs.size d i es.size ep ∧ DT.Raw h d es ep, fun E Q hq => iter_keys lo ho hc hdat hq, ?_, ⟨⟨_, Heap.get?_push_size _ rfl, rfl, rfl⟩, hm.push _⟩⟩
    refine ⟨fun b hb => by simp at hb; simp [hb], fun i h h' st hk => ⟨st.1.at fun o e => hk s.heap.objs.size (by simp) o e, st.2.at' fun o e => hk d (by simp) o e⟩, fun i s' Q E hi st hQ => ?_, fun s' Q E st hQ => ?_, fun _ _ _ _ st hQ => wpAny_pyIter_keyiter st.1 hQ⟩
    · obtain ⟨od, hod, _, hdd⟩ := st.2
      refine next_key_item st.1 hod hdd rfl (Array.getElem?_eq_getElem hi) fun h' hit' hs' => ?_
      exact hQ _ h' s'.toks ⟨_, Array.getElem?_eq_getElem hi, rfl⟩ ⟨hit', st.2.at' fun o e => hs'.extBut d o (Nat.ne_of_lt hlt) e⟩ fun b o hb e => hs'.extBut b o (fun h => hb (by simp [h])) e
    · obtain ⟨od, hod, _, hdd⟩ := st.2
      exact next_key_end hh st.1 hod hdd rfl (Nat.le_refl _) fun h' he' => hQ h' s'.toks fun b o hb e => he' b o (fun h => hb (by simp [h])) e
end
section
variable {X : Cx} {pins : List (Addr × Obj)} {σ : L2.St} {H : Hp} {s : Shared} {Q : VK} {T : String} {r d : Addr} {n : Nat} {P : Nat → Value → Prop} {OK : Heap → Prop}
theorem sort_src (K : PySem.W.KdlSrc X.prog X.w T r d n P OK) (hc : X.calm = true) (hok : OK s.heap) (hn : n ≤ sizeLine) (I : L2.Inv X pins σ H s) (hu : X.A.units + 64 < cLine)
    (hP : ∀ acc : List Value, acc.length = n → (∀ (j : Nat) v, acc[j]? = some v → P j v) → ∃ bs : List (PyData × V), Vals (bs.map (·.2)) acc ∧ (∀ b ∈ bs, Dp X.K H b.2 b.1 ∧ b.1.depth ≤ 20) ∧ AllAlike (bs.map (·.1)) ∧ Sortable (bs.map (·.1)) ∧
      ∀ p, H p = none → Q (.ref p) (upd H p (.lst ((bs.mergeSort (dataLe false (·.1))).map (·.2))))) :
    wpAny (model X.prog X.w) X.A (call (.builtin "sorted") [.ref r]) (EP X pins σ Q) X.xe s := by
  refine Calls.call_function_entry PyProof.Rows.kind_sorted PyProof.Rows.plain_sorted PyProof.Rows.entry_sorted (PyProof.Rows.args_sorted1 _) ?_
  unfold Builtin.«sorted»
  refine wpAny_bind (m := checkCount "sorted" 1 1 _) (wpAny_pure ?_)
  refine wpAny_bind (PySem.W.kdu_collect (A := X.A.in1) K (I.ok.hd hc) hok hn fun h' tk acc hk hacc => ?_)
  have hal : acc.toList.length = n := by rw [Array.length_toList, hacc.1]
  obtain ⟨bs, rv, hd, hall, hsrt, q⟩ := hP acc.toList hal fun j v e => hacc.2 j v (by rw [← Array.getElem?_toList]; exact e)
  have I1 : L2.Inv X pins σ H { s with heap := h', toks := tk } := I.kept hk
  refine wpAny_bind (wpAny_newList ?_ (by rw [hal]; exact hn))
  have hoL : (h'.push (PyProof.Rows.seqObj "list" acc.toList.toArray 0)).get? h'.objs.size = some (PyProof.Rows.seqObj "list" acc.toList.toArray 0) := Heap.get?_push_size _ rfl
  show wpAny _ _ _ _ _ { s with heap := h'.push (PyProof.Rows.seqObj "list" acc.toList.toArray 0), toks := tk }
  have e : EachIs (fun u b => RelV b.2 u) acc.toList bs := each_of_vals rv fun b _ u r => r
  have er : EachIs (fun v b => ∃ as, Reads (h'.push (PyProof.Rows.seqObj "list" acc.toList.toArray 0)) v b.1 as ∧ h'.objs.size ∉ as) acc.toList bs := each_of_vals rv fun b hb u r => by
    obtain ⟨as, rd⟩ := Dp.reads I1 _ _ _ (hd b hb).1 r
    exact ⟨as, PyProof.Rows.Reads.keeps (fun b o e => Heap.get?_push_of_some _ e) rd, fun m => Nat.lt_irrefl _ (reads_lt rd _ m)⟩
  have hbl : bs.length = n := by
    have e1 : (bs.map (·.2)).length = acc.toList.length := rv.length
    rw [List.length_map] at e1
    omega
  refine wpAny_bind (wpAny_holding (PySem.W.list_sort_data (s := { s with heap := h'.push (PyProof.Rows.seqObj "list" acc.toList.toArray 0), toks := tk }) (enc := fun b : PyData × V => b.1) (R := fun u b => RelV b.2 u) hoL e er hall hsrt (by omega)
    (fun b hb => by have := (hd b hb).2; show X.A.units + 1 + 1 + _ < cLine; omega) fun out hlen eo => ?_))
  obtain ⟨e', he'⟩ := PyProof.Rows.sortedHeap_at (vs := acc.toList) (out := List.toArray out) hoL
  refine wpAny_pure ⟨_, rfl, .ref h'.objs.size, upd H h'.objs.size (.lst ((bs.mergeSort (dataLe false (·.1))).map (·.2))), I1.laid (t' := tk) (fun b u e => ?_) (Nat.le_refl _)
    (show ObjOk X.prog X.w _ _ _ (.lst _) from ⟨by rw [List.length_map, List.length_mergeSort]; omega, out, e', vals_of_each eo, he'⟩), rfl, q _ (I1.hok.fresh (Nat.le_refl _))⟩
  have hb : b < h'.objs.size := Heap.lt_size e
  rw [PyProof.Rows.sortedHeap_old (Nat.ne_of_lt hb) (by rw [PyProof.Rows.size_push']; exact Nat.lt_succ_of_lt hb)]
  exact Heap.get?_push_of_some _ e
end

theorem build {H : Hp} : ∀ {kd : List D} {acc : List Value}, kd.length = acc.length → (∀ (j : Nat) d v, kd[j]? = some d → acc[j]? = some v → ∃ x : V, RelV x v ∧ Rel H d x) → ∃ vs : List V, Vals vs acc ∧ RelL H kd vs
  | [], [], _, _ => ⟨[], .nil, rfl⟩
  | [], _ :: _, h, _ => by simp at h
  | _ :: _, [], h, _ => by simp at h
  | d :: kd, v :: acc, h, f => by
    obtain ⟨x, r1, r2⟩ := f 0 d v rfl rfl
    obtain ⟨vs, r3, r4⟩ := build (H := H) (kd := kd) (acc := acc) (by simpa using h) fun j d v h1 h2 => f (j + 1) d v (by simpa using h1) (by simpa using h2)
    exact ⟨x :: vs, .cons r1 r3, x, vs, rfl, r2, r4⟩
/-- data with their values, sorted -/
theorem sort_fin {K : PySem.W.Frag} {H : Hp} {kd : List D} {vs : List V} (h2 : RelL H kd vs) (hk : srtOk kd) : ∃ bs : List (PyData × V), bs.map (·.2) = vs ∧ (∀ b ∈ bs, Dp K H b.2 b.1 ∧ b.1.depth ≤ 20) ∧ AllAlike (bs.map (·.1)) ∧ Sortable (bs.map (·.1)) ∧
    RelL H (sortD kd) ((bs.mergeSort (dataLe false (·.1))).map (·.2)) := by
  obtain ⟨hk1, hk2, hk3⟩ := hk
  obtain ⟨bs, rfl, rfl, hb⟩ := relL_zip (K := K) h2 (List.all_eq_true.mp hk1)
  have em : ((bs.map fun b => (toPD b.1, b.2)).mergeSort (dataLe false (·.1))).map (·.2) = (bs.mergeSort (dataLe false fun b => toPD b.1)).map (·.2) := by
    have := List.map_mergeSort (r := dataLe false fun b : D × V => toPD b.1) (s := dataLe false fun b : PyData × V => b.1) (f := fun b : D × V => (toPD b.1, b.2)) (l := bs) (fun _ _ _ _ => rfl)
    rw [← this, List.map_map]
    rfl
  have ed : (bs.mergeSort (dataLe false fun b => toPD b.1)).map (·.1) = sortD (bs.map (·.1)) := List.map_mergeSort (fun _ _ _ _ => rfl)
  refine ⟨bs.map fun b => (toPD b.1, b.2), by rw [List.map_map]; rfl, fun b hb' => ?_, by rw [List.map_map] at hk2 ⊢; exact hk2, by rw [List.map_map] at hk3 ⊢; exact hk3, ?_⟩
  · obtain ⟨c, hc, rfl⟩ := List.mem_map.mp hb'
    obtain ⟨r1, r2⟩ := hb c hc
    obtain ⟨d1, d2, d3⟩ := dat_dp (K := K) c.1 20 c.2 r2 r1
    exact ⟨d1, d3⟩
  · rw [em]
    have rs : RelL H ((bs.mergeSort (dataLe false fun b => toPD b.1)).map (·.1)) ((bs.mergeSort (dataLe false fun b => toPD b.1)).map (·.2)) := relL_pairs fun b hb' => (hb b (List.mem_mergeSort.mp hb')).1
    rw [ed] at rs
    exact rs
section
variable {X : Cx} {B : Bx}
/-- sorted(d): its keys -/
def rSortK (K : PySem.W.Frag) : List V → Hp → VK → Prop := fun xs H Q => ∃ (B : Bx) (G : Gp) (a : Addr) (t : Bool) (kvs : List (D × D)), xs = [.ref a] ∧ Rep K B H G ∧ (G a = some (.dict t kvs) ∨ G a = some (.ldict t kvs)) ∧ kvs.all (fun kv => intKey kv.1) = true ∧ srtOk (kvs.map (·.1)) ∧
  ∀ p vs, H p = none → RelL H (sortD (kvs.map (·.1))) vs → Q (.ref p) (upd H p (.lst vs))
theorem cr_sortK (hc : X.calm = true) (hu : X.A.units + 64 < cLine) : CallR X (.builtin "sorted") (rSortK X.K) := by
  intro pins s σ H xs us Q I r h
  obtain ⟨B, G, a, t, kvs, rfl, R, g, hall, hk, q⟩ := h
  obtain ⟨u, rfl, ru⟩ := vals1 r
  obtain rfl : u = Value.ref a := ru
  rw [List.all_eq_true] at hall
  have fin : ∀ (acc : List Value), acc.length = kvs.length → (∀ (j : Nat) d v, (kvs.map (·.1))[j]? = some d → acc[j]? = some v → ∃ x : V, RelV x v ∧ Rel H d x) → ∃ bs : List (PyData × V), Vals (bs.map (·.2)) acc ∧ (∀ b ∈ bs, Dp X.K H b.2 b.1 ∧ b.1.depth ≤ 20) ∧ AllAlike (bs.map (·.1)) ∧ Sortable (bs.map (·.1)) ∧
      ∀ p, H p = none → Q (.ref p) (upd H p (.lst ((bs.mergeSort (dataLe false (·.1))).map (·.2)))) := fun acc hl f => by
    obtain ⟨vs, v1, v2⟩ := build (H := H) (kd := kvs.map (·.1)) (acc := acc) (by simpa using hl.symm) f
    obtain ⟨bs, b1, b2, b3, b4, b5⟩ := sort_fin (K := X.K) v2 hk
    exact ⟨bs, by rw [b1]; exact v1, b2, b3, b4, fun p hp => q p _ hp b5⟩
  cases t with
  | false =>
    obtain ⟨z, ks, h1, h2⟩ : kvs.length ≤ sizeLine ∧ ∃ ks : List (Key × V), Rd H a (.dK ks) ∧ kvs.map (·.1) = ks.map (fun k => kD k.1) := by
      rcases g with g | g
      · obtain ⟨z, ks, h1, h2, _⟩ := R.at_ a _ g
        exact ⟨z, ks, .inl h1, h2⟩
      · obtain ⟨z, ob, ks, h1, h2, _⟩ := R.at_ a _ g
        exact ⟨z, ks, .inr ⟨ob, h1⟩, h2⟩
    obtain ⟨z', lo, vs, rel, dd⟩ := dk_rd I.hok h1
    obtain ⟨ep, hat⟩ := dd.dictAt
    have l1 : ks.length = vs.length := rel.length
    have l2 : kvs.length = ks.length := by simpa using congrArg List.length h2
    refine sort_src (PySem.W.kdl_dict (knd := mixKind X.prog X.w) (kvs := vs) (ep := ep) lo) hc hat (by omega) I hu fun acc hl hP => fin acc (by omega) fun j d v hd hv => ?_
    obtain ⟨k, x, e1, e2⟩ := hP j v hv
    have e3 : (vs.map (·.1))[j]? = some k := by rw [List.getElem?_map, e1]; rfl
    rw [← rel.keys] at e3
    have e4 : (ks.map fun k => kD k.1)[j]? = some (kD k) := by
      rw [List.getElem?_map] at e3 ⊢
      cases e5 : ks[j]? with
      | none => rw [e5] at e3; cases e3
      | some y => rw [e5] at e3; cases e3; rfl
    rw [h2, e4] at hd
    cases hd
    refine ⟨kV k, relV_key e2, kD_rel ?_⟩
    have hm := List.mem_of_getElem? e4
    rw [← h2] at hm
    obtain ⟨kv, hm, e6⟩ := List.mem_map.mp hm
    rw [← e6]
    exact hall kv hm
  | true =>
    obtain ⟨z, ks, h1, h2⟩ : kvs.length ≤ sizeLine ∧ ∃ ks : List (List Key × V), Rd H a (.dT ks) ∧ kvs.map (·.1) = ks.map (fun k => D.tup (k.1.map kD)) := by
      rcases g with g | g
      · obtain ⟨z, ks, h1, h2, _⟩ := R.at_ a _ g
        exact ⟨z, ks, .inl h1, h2⟩
      · obtain ⟨z, ob, ks, h1, h2, _⟩ := R.at_ a _ g
        exact ⟨z, ks, .inr ⟨ob, h1⟩, h2⟩
    obtain ⟨z', lo, xs', rel, o, es, ep, ho, hx, hdat, hes, his, hn⟩ := dt_rd I.hok h1
    have l1 : ks.length = xs'.length := Paired.length rel
    have l2 : kvs.length = ks.length := by simpa using congrArg List.length h2
    have l3 : es.size = xs'.length := size_of_entries hes
    refine sort_src (kdl_raw (es := es) (ep := ep) lo) hc ⟨o, ho, hx, hdat⟩ (by omega) I hu fun acc hl hP => fin acc (by omega) fun j d v hd hv => ?_
    obtain ⟨en, e1, rfl⟩ := hP j v hv
    have hj : j < ks.length := by
      have := (Array.getElem?_eq_some_iff.mp e1).1
      omega
    obtain ⟨b, hb, p1, p2, p3⟩ := paired_get rel (i := j) (a := ks[j]) (List.getElem?_eq_getElem hj)
    have e2 := entry_at hes j
    rw [hb] at e2
    have e3 : es[j]? = some (entryOfKey (tupleKind (mixKind X.prog X.w)) b) := e2
    rw [e1] at e3
    cases e3
    have e4 : (ks.map fun k => D.tup (k.1.map kD))[j]? = some (.tup (ks[j].1.map kD)) := by rw [List.getElem?_map, List.getElem?_eq_getElem hj]; rfl
    rw [h2, e4] at hd
    cases hd
    have hm := List.mem_of_getElem? e4
    rw [← h2] at hm
    obtain ⟨kv, hm, e6⟩ := List.mem_map.mp hm
    have hk' : intKey (.tup (ks[j].1.map kD)) = true := by rw [← e6]; exact hall kv hm
    simp only [intKey, Bool.and_eq_true, decide_eq_true_eq] at hk'
    exact ⟨.ref b.2.1, rfl, b.2.1, _, rfl, p2, kDs_rel hk'.2, Nat.le_trans hk'.1 (by decide)⟩
def srtO (o : Option DO) (G : Gp) (Q : DQ) : Prop := ∃ o', o = some o' ∧ anyO o' (fun xs => srtOk xs ∧ ∀ p, Nw G p → Q (.ref p) (put G p (.lst (sortD xs)))) fun _ kvs => kvs.all (fun kv => intKey kv.1) = true ∧ srtOk (kvs.map (·.1)) ∧ ∀ p, Nw G p → Q (.ref p) (put G p (.lst (sortD (kvs.map (·.1)))))
def sortedR : List D → Gp → DQ → Prop := fun ds G Q => match ds with
  | [.ref a] => srtO (G a) G Q
  | _ => False
theorem dc_sortedA (hc : X.calm = true) (hu : X.A.units + 64 < cLine) : DCall X B (.builtin "sorted") sortedR := by
  obtain ⟨r, h1, h2⟩ := dc_sorted (X := X) (B := B) hu
  refine ⟨_, h1.or (cr_sortK hc hu), fun H G xs ds Q P r R q hp => ?_⟩
  match ds, q, r with
  | [.ref a], q, r =>
    obtain ⟨o, g, q⟩ := q
    have lists : ∀ {ys : List D}, lstO o (fun xs => srtOk xs ∧ ∀ p, Nw G p → Q (.ref p) (put G p (.lst (sortD xs)))) → _ := fun {ys} q => h2 H G xs [.ref a] Q P r R ⟨o, g, q⟩ hp
    have dicts : ∀ {t : Bool} {kvs : List (D × D)}, (G a = some (.dict t kvs) ∨ G a = some (.ldict t kvs)) → (kvs.all (fun kv => intKey kv.1) = true ∧ srtOk (kvs.map (·.1)) ∧ ∀ p, Nw G p → Q (.ref p) (put G p (.lst (sortD (kvs.map (·.1)))))) → rSortK X.K xs H P := fun {t kvs} g ⟨q1, q2, q3⟩ => by
      obtain ⟨x, rfl, rx⟩ := rel1 r
      cases rx
      refine ⟨B, G, a, t, kvs, rfl, R, g, q1, q2, fun p vs hn rl => ?_⟩
      have hz : kvs.length ≤ sizeLine := by
        rcases g with g | g <;> (have := R.at_ a _ g; cases t <;> exact this.1)
      obtain ⟨k, R'⟩ := lst_new hn rl (by simp [sortD]; simpa using hz) R
      exact hp _ (.ref p) _ _ k rfl R' (q3 p (R.gnone hn))
    cases o with
    | lst ys => exact .inl (lists (ys := ys) q)
    | rol ys => exact .inl (lists (ys := ys) q)
    | dict t kvs => exact .inr (dicts (.inl g) q)
    | ldict t kvs => exact .inr (dicts (.inr g) q)
    | ins C ns fs => exact (show False from q).elim
end
theorem sortedR_congr {ds ds' : List D} {G : Gp} {Q : DQ} (h0 : ds = ds') : sortedR ds G Q = sortedR ds' G Q := by rw [h0]
theorem srtO_congr {o o' : Option DO} {G : Gp} {Q : DQ} (h0 : o = o') : srtO o G Q = srtO o' G Q := by rw [h0]
@[simp] theorem sortedR_ref {a G Q} : sortedR [.ref a] G Q = srtO (G a) G Q := (rfl)
@[simp] theorem srtO_lst {xs G Q} : srtO (some (.lst xs)) G Q = (srtOk xs ∧ ∀ p, Nw G p → Q (.ref p) (put G p (.lst (sortD xs)))) := by simp [srtO, anyO]
@[simp] theorem srtO_dict {t kvs G Q} : srtO (some (.dict t kvs)) G Q = (kvs.all (fun kv => intKey kv.1) = true ∧ srtOk (kvs.map (·.1)) ∧ ∀ p, Nw G p → Q (.ref p) (put G p (.lst (sortD (kvs.map (·.1)))))) := by simp [srtO, anyO]
end DL
set_option Elab.async false
set_option linter.all false
set_option maxRecDepth 100000
set_option maxHeartbeats 4000000
namespace DL
open PySem PySem.Spec L2
open PySem.W (AllAlike Sortable dataLe EachIs)

/-! ### sorted(d.items()), tuple keys -/
def pairD (kv : D × D) : D := .tup [kv.1, kv.2]
mutual
theorem depth_of : ∀ (d : D) (n : Nat), dat n d = true → (toPD d).depth ≤ n
  | .non, _, _ => by simp [toPD, PyData.depth]
  | .bl _, _, _ => by simp [toPD, PyData.depth]
  | .int _, _, _ => by simp [toPD, PyData.depth]
  | .str _, _, _ => by simp [toPD, PyData.depth]
  | .ty _, n, h => by cases n <;> cases h
  | .ref _, n, h => by cases n <;> cases h
  | .tup _, 0, h => by cases h
  | .tup ds, n + 1, h => by
    have hd : ∀ d ∈ ds, dat n d = true := by simpa [dat, List.all_eq_true] using h
    have := depthAll_le (toPDs ds) n (depth_ofL ds n hd)
    simp only [toPD, PyData.depth]
    omega
theorem depth_ofL : ∀ (ds : List D) (n : Nat), (∀ d ∈ ds, dat n d = true) → ∀ d ∈ toPDs ds, d.depth ≤ n
  | [], _, _, d, hd => by simp [toPDs] at hd
  | e :: ds, n, h, d, hd => by
    rcases List.mem_cons.mp (show d ∈ toPD e :: toPDs ds from hd) with rfl | hd
    · exact depth_of e n (h e (by simp))
    · exact depth_ofL ds n (fun c hc => h c (by simp [hc])) d hd
end
theorem depth_dat {d : D} (h : dat 20 d = true) : (toPD d).depth ≤ 20 := depth_of d 20 h
theorem each_build {α β : Type} {R : α → β → Prop} : ∀ {us : List α} {bs : List β}, us.length = bs.length → (∀ (j : Nat) u b, us[j]? = some u → bs[j]? = some b → R u b) → EachIs R us bs
  | [], [], _, _ => .nil
  | [], _ :: _, h, _ => by simp at h
  | _ :: _, [], h, _ => by simp at h
  | u :: us, b :: bs, h, f => .cons (f 0 u b rfl rfl) (each_build (by simpa using h) fun j u b h1 h2 => f (j + 1) u b (by simpa using h1) (by simpa using h2))
theorem each_maps {α β : Type} {f : β → α} : ∀ {us : List α} {bs : List β}, EachIs (fun u b => u = f b) us bs → us = bs.map f
  | [], [], _ => rfl
  | _, _, .cons h1 h2 => by rw [h1, each_maps h2]; rfl
theorem RepO.grow {K : PySem.W.Frag} {H H' : Hp} {a : Addr} {o : DO} (h : RepO K H a o) (g : ∀ b u, H b = some u → H' b = some u) : RepO K H' a o := by
  have e : H' a = H a := by
    cases o with
    | lst ds => obtain ⟨xs, h, _⟩ := h; rw [h, g _ _ h]
    | rol ds => obtain ⟨xs, h | ⟨_, h⟩, _⟩ := h <;> rw [h, g _ _ h]
    | dict t kvs => cases t <;> (obtain ⟨_, ks, h, _⟩ := h; rw [h, g _ _ h])
    | ldict t kvs => cases t <;> (obtain ⟨_, _, ks, h, _⟩ := h; rw [h, g _ _ h])
    | ins C ns ds => obtain ⟨dx, fs, h, _⟩ := h; rw [h, g _ _ h]
  exact RepO.monoT e (fun a xs h => g _ _ h) h
def rSortI (K : PySem.W.Frag) : List V → Hp → VK → Prop := fun xs H Q => ∃ (B : Bx) (G : Gp) (p a : Addr) (kvs : List (D × D)), xs = [.ref p] ∧ H p = some (L2.DX.itemsO p a) ∧ Rep K B H G ∧ (G a = some (.dict true kvs) ∨ G a = some (.ldict true kvs)) ∧ kvs.all (fun kv => intKey kv.1) = true ∧ srtOk (kvs.map pairD) ∧
  ∀ H' l vs, (∀ b u, H b = some u → H' b = some u) → H l = none → H' l = some (.lst vs) → RelL H' (sortD (kvs.map pairD)) vs → Q (.ref l) H'
section
variable {X : Cx} {B : Bx}
theorem cr_sortI (hc : X.calm = true) (hu : X.A.units + 64 < cLine) : CallR X (.builtin "sorted") (rSortI X.K) := by
  intro pins s σ H xs us Q I r h
  obtain ⟨B, G, p, a, kvs, rfl, hp, R, g, hall, ⟨hk1, hk2, hk3⟩, q⟩ := h
  obtain rfl := Vals.ref1 r
  rw [List.all_eq_true] at hall
  have view : s.heap.IsItemsView p a := (show ObjOk X.prog X.w H s.heap p (L2.DX.itemsO p a) from I.hok p _ hp).1
  obtain ⟨z, ks, h1, h2, h3⟩ : kvs.length ≤ sizeLine ∧ ∃ ks : List (List Key × V), Rd H a (.dT ks) ∧ kvs.map (·.1) = ks.map (fun k => D.tup (k.1.map kD)) ∧ RelL H (kvs.map (·.2)) (ks.map (·.2)) := by
    rcases g with g | g
    · obtain ⟨z, ks, h1, h2, h3⟩ := R.at_ a _ g
      exact ⟨z, ks, .inl h1, h2, h3⟩
    · obtain ⟨z, ob, ks, h1, h2, h3⟩ := R.at_ a _ g
      exact ⟨z, ks, .inr ⟨ob, h1⟩, h2, h3⟩
  obtain ⟨z', lo, xs', rel, o, es, ep, ho, hx, hdat, hes, his, hn⟩ := dt_rd I.hok h1
  have l1 : ks.length = xs'.length := Paired.length rel
  have l2 : kvs.length = ks.length := by simpa using congrArg List.length h2
  have l3 : es.size = xs'.length := size_of_entries hes
  have hh : X.A.handled = none := I.ok.hd hc
  refine DT.sortedI (es := es) (ep := ep) hh view ⟨o, ho, hx, hdat⟩ (by omega) fun h' tk as hk hlt hl hG => ?_
  have lak : as.length = kvs.length := by omega
  have nd : as.Nodup := List.Pairwise.imp (fun h => Nat.ne_of_lt h) hG.rise
  -- the pairs that were made
  have pr : ∀ (j : Nat) (b : Addr), as[j]? = some b → ∃ (kv : D × D) (kq : Addr) (v : V) (u : Value) (ky : List V), kvs[j]? = some kv ∧ Rel H kv.1 (.ref kq) ∧ Rel H kv.2 v ∧ RelV v u ∧ h'.get? b = some { cls := .type "tuple", data := .seq #[Value.ref kq, u] } := by
    intro j b hj
    obtain ⟨en, he, hg⟩ := hG.pairs j b hj
    have hjl : j < as.length := (List.getElem?_eq_some_iff.mp hj).1
    have hjk : j < ks.length := by omega
    obtain ⟨x, hxj, p1, p2, p3⟩ := paired_get rel (i := j) (a := ks[j]) (List.getElem?_eq_getElem hjk)
    rw [entry_at hes j, hxj] at he
    have een : entryOfKey (tupleKind (mixKind X.prog X.w)) x = en := Option.some.inj he
    have hjv : j < kvs.length := by omega
    have e4 : (ks.map fun k => D.tup (k.1.map kD))[j]? = some (.tup (ks[j].1.map kD)) := by rw [List.getElem?_map, List.getElem?_eq_getElem hjk]; rfl
    have e5 : kvs[j].1 = .tup (ks[j].1.map kD) := by
      rw [← h2, List.getElem?_map, List.getElem?_eq_getElem hjv] at e4
      exact Option.some.inj e4
    have hk' : intKey (.tup (ks[j].1.map kD)) = true := by rw [← e5]; exact hall _ (List.getElem_mem hjv)
    simp only [intKey, Bool.and_eq_true, decide_eq_true_eq] at hk'
    obtain ⟨v, e6, rv⟩ := h3.get j (d := kvs[j].2) (by rw [List.getElem?_map, List.getElem?_eq_getElem hjv]; rfl)
    rw [List.getElem?_map, List.getElem?_eq_getElem hjk] at e6
    have e7 : ks[j].2 = v := Option.some.inj e6
    refine ⟨kvs[j], x.2.1, v, x.2.2, ks[j].1.map kV, List.getElem?_eq_getElem hjv, ?_, rv, by rw [← e7]; exact p3, ?_⟩
    · rw [e5]
      exact ⟨x.2.1, _, rfl, p2, kDs_rel hk'.2, Nat.le_trans hk'.1 (by decide)⟩
    · rw [hg, ← een]
      rfl
  -- the heap of the sort
  have hob : (h'.push { cls := .type "list", data := .seq (as.map Value.ref).toArray }).get? h'.objs.size = some (PyProof.Rows.seqObj "list" (as.map Value.ref).toArray 0) := Heap.get?_push_size _ rfl
  have kb : ∀ b o, s.heap.get? b = some o → (h'.push { cls := .type "list", data := .seq (as.map Value.ref).toArray }).get? b = some o := fun b o e => Heap.get?_push_of_some _ (hk b o e)
  have ne0 : ∀ b o, h'.get? b = some o → b ≠ h'.objs.size := fun b o e => Nat.ne_of_lt (Heap.lt_size e)
  generalize hh2 : h'.push { cls := .type "list", data := .seq (as.map Value.ref).toArray } = h2 at hob kb ⊢
  have ka : ∀ b o, h'.get? b = some o → h2.get? b = some o := fun b o e => by rw [← hh2]; exact Heap.get?_push_of_some _ e
  have dks : ∀ kv ∈ kvs, dat 20 (pairD kv) = true := fun kv hkv => List.all_eq_true.mp hk1 _ (List.mem_map.mpr ⟨kv, hkv, rfl⟩)
  -- what is sorted
  obtain ⟨bs, hbs⟩ : ∃ bs : List (D × Addr), bs = (kvs.map pairD).zip as := ⟨_, rfl⟩
  have bl : bs.length = kvs.length := by rw [hbs, List.length_zip, List.length_map]; omega
  have b1 : bs.map (·.1) = kvs.map pairD := by rw [hbs]; exact List.map_fst_zip (by rw [List.length_map]; omega)
  have b2 : bs.map (·.2) = as := by rw [hbs]; exact List.map_snd_zip (by rw [List.length_map]; omega)
  have bat : ∀ (j : Nat) (b : D × Addr), bs[j]? = some b → ∃ kv, kvs[j]? = some kv ∧ b.1 = pairD kv ∧ as[j]? = some b.2 := fun j b hj => by
    have c1 : (bs.map (·.1))[j]? = some b.1 := by rw [List.getElem?_map, hj]; rfl
    have c2 : (bs.map (·.2))[j]? = some b.2 := by rw [List.getElem?_map, hj]; rfl
    rw [b1, List.getElem?_map] at c1
    rw [b2] at c2
    cases e : kvs[j]? with
    | none => rw [e] at c1; cases c1
    | some kv => rw [e] at c1; exact ⟨kv, rfl, (Option.some.inj c1).symm, c2⟩
  have e : EachIs (fun (u : Value) (b : D × Addr) => u = .ref b.2) (as.map Value.ref) bs := each_build (by rw [List.length_map]; omega) fun j u b hu hb => by
    obtain ⟨kv, _, _, h⟩ := bat j b hb
    rw [List.getElem?_map, h] at hu
    exact (Option.some.inj hu).symm
  have er : EachIs (fun v (b : D × Addr) => ∃ as', Reads h2 v (toPD b.1) as' ∧ h'.objs.size ∉ as') (as.map Value.ref) bs := each_build (by rw [List.length_map]; omega) fun j u b hu hb => by
    obtain ⟨kv, hkv, e1, h⟩ := bat j b hb
    rw [List.getElem?_map, h] at hu
    have eu := (Option.some.inj hu).symm
    subst eu
    obtain ⟨kv', kq, v, u, ky, hkv', r1, r2, r3, hg⟩ := pr j b.2 h
    rw [hkv] at hkv'
    cases hkv'
    have dk := dks kv (List.mem_of_getElem? hkv)
    have d12 : dat 19 kv.1 = true ∧ dat 19 kv.2 = true := by simpa [pairD, dat] using dk
    obtain ⟨x1, _, _⟩ := dat_dp (K := X.K) kv.1 19 _ d12.1 r1
    obtain ⟨x2, _, _⟩ := dat_dp (K := X.K) kv.2 19 _ d12.2 r2
    obtain ⟨a1, rd1⟩ := Dp.reads I _ _ (Value.ref kq) x1 rfl
    obtain ⟨a2, rd2⟩ := Dp.reads I _ _ _ x2 r3
    have rd1' := PyProof.Rows.Reads.keeps kb rd1
    have rd2' := PyProof.Rows.Reads.keeps kb rd2
    refine ⟨a1 ++ (a2 ++ []), ?_, fun m => ?_⟩
    · rw [e1]
      exact Reads.tuple (ka _ _ hg) rfl rfl (.cons rd1' (.cons rd2' .nil))
    · have lt1 : ∀ c ∈ a1 ++ (a2 ++ []), c < s.heap.objs.size := fun c hc => by
        rcases List.mem_append.mp hc with hc | hc
        · exact reads_lt rd1 c hc
        · exact reads_lt rd2 c (by simpa using hc)
      have := lt1 _ m
      omega
  have hbk : ∀ b ∈ bs, ∃ kv ∈ kvs, b.1 = pairD kv := fun b hb => by
    obtain ⟨j, hj⟩ := List.mem_iff_getElem?.mp hb
    obtain ⟨kv, hkv, e1, _⟩ := bat j b hj
    exact ⟨kv, List.mem_of_getElem? hkv, e1⟩
  have em : bs.map (fun b => toPD b.1) = (kvs.map pairD).map toPD := by rw [← b1, List.map_map]; rfl
  refine PySem.W.list_sort_data (s := { s with heap := h2, toks := tk }) (enc := fun b : D × Addr => toPD b.1) hob e er (by rw [em]; exact hk2) (by rw [em]; exact hk3) (by omega) (fun b hb => ?_) fun out hlen eo => ?_
  · obtain ⟨kv, hkv, e1⟩ := hbk b hb
    have h20 := depth_dat (dks kv hkv)
    rw [e1]
    show X.A.units + 1 + 1 + _ < cLine
    omega
  show EP X pins σ Q (.ref h'.objs.size) { s with heap := PyProof.Rows.sortedHeap h2 h'.objs.size (as.map Value.ref) (List.toArray out), toks := tk }
  obtain ⟨zs, hzs⟩ : ∃ zs : List (D × Addr), zs = bs.mergeSort (dataLe false fun b => toPD b.1) := ⟨_, rfl⟩
  rw [← hzs] at eo
  have hout : out = zs.map fun b => Value.ref b.2 := each_maps eo
  have zmem : ∀ b ∈ zs, b ∈ bs := fun b hb => by rw [hzs] at hb; exact List.mem_mergeSort.mp hb
  have zl : zs.length = kvs.length := by rw [hzs, List.length_mergeSort]; exact bl
  have z1 : zs.map (·.1) = sortD (kvs.map pairD) := by
    rw [hzs, ← b1]
    exact List.map_mergeSort (fun _ _ _ _ => rfl)
  -- behind the sort
  have kF : ∀ b o, b ≠ h'.objs.size → h2.get? b = some o → (PyProof.Rows.sortedHeap h2 h'.objs.size (as.map Value.ref) (List.toArray out)).get? b = some o := fun b o hb e => (PyProof.Rows.sortedHeap_old hb (Heap.lt_size e)).trans e
  have kS : ∀ b o, s.heap.get? b = some o → (PyProof.Rows.sortedHeap h2 h'.objs.size (as.map Value.ref) (List.toArray out)).get? b = some o := fun b o e => kF b o (ne0 _ _ (hk b o e)) (kb b o e)
  obtain ⟨eF, heF⟩ := PyProof.Rows.sortedHeap_at (vs := as.map Value.ref) (out := List.toArray out) hob
  have I1 : L2.Inv X pins σ H { s with heap := PyProof.Rows.sortedHeap h2 h'.objs.size (as.map Value.ref) (List.toArray out), toks := tk } := I.kept (t' := tk) kS
  have hn0 : H h'.objs.size = none := I.hok.fresh (Nat.le_of_lt hlt)
  have rv : Vals (zs.map fun z => V.ref z.2) out := by
    rw [hout]
    exact vals_maps (fun z : D × Addr => V.ref z.2) (fun z => Value.ref z.2) zs fun _ _ => rfl
  have I2 : L2.Inv X pins σ (upd H h'.objs.size (.lst (zs.map fun z => V.ref z.2))) { s with heap := PyProof.Rows.sortedHeap h2 h'.objs.size (as.map Value.ref) (List.toArray out), toks := tk } :=
    I1.take (h' := PyProof.Rows.sortedHeap h2 h'.objs.size (as.map Value.ref) (List.toArray out)) (t' := tk) (fun b ob _ e => e) (I.fpOk (Nat.le_of_lt hlt) hn0) ⟨by rw [List.length_map]; omega, out, eF, rv, heF⟩
  obtain ⟨H2, I3, g2, qt⟩ := L2.DX.takeT (P := fun b vs => ∃ (j : Nat) (kv : D × D) (kq : Addr) (v : V), as[j]? = some b ∧ kvs[j]? = some kv ∧ vs = [.ref kq, v] ∧ Rel H kv.1 (.ref kq) ∧ Rel H kv.2 v) I as _ I2 nd fun b hb => by
    obtain ⟨j, hj⟩ := List.mem_iff_getElem?.mp hb
    obtain ⟨kv, kq, v, u, ky, hkv, r1, r2, r3, hg⟩ := pr j b hj
    have hbl : s.heap.objs.size ≤ b := Nat.le_of_lt (hG.above b hb)
    refine ⟨hbl, ?_, [.ref kq, v], ⟨j, kv, kq, v, hj, hkv, rfl, r1, r2⟩, fun H3 => ⟨(by rw [sizeLine_eq]; show 2 ≤ 16777216; omega), [Value.ref kq, u], .cons rfl (.cons r3 .nil), ⟨_, kF _ _ (ne0 _ _ hg) (ka _ _ hg), rfl, 0, rfl⟩⟩⟩
    rw [upd_ne (ne0 _ _ hg)]
    exact I.hok.fresh hbl
  have gr : ∀ b o, H b = some o → H2 b = some o := fun b o e => g2 b o (by rw [upd_ne (ne_of_none e hn0)]; exact e)
  refine ⟨.ref h'.objs.size, H2, I3, rfl, q H2 h'.objs.size (zs.map fun z => V.ref z.2) gr hn0 (g2 _ _ upd_same) ?_⟩
  rw [← z1]
  have rz : ∀ b ∈ zs.map (fun z => (z.1, V.ref z.2)), Rel H2 b.1 b.2 := fun b hb => by
    obtain ⟨c, hc, rfl⟩ := List.mem_map.mp hb
    obtain ⟨j, hj⟩ := List.mem_iff_getElem?.mp (zmem c hc)
    obtain ⟨kv, hkv, e1, h⟩ := bat j c hj
    obtain ⟨vs, ⟨i, kv', kq, v, i1, i2, ev, r1, r2⟩, hH⟩ := qt c.2 (List.mem_of_getElem? h)
    have eij : i = j := (List.getElem?_inj (List.getElem?_eq_some_iff.mp i1).1 nd).mp (i1.trans h.symm)
    subst eij
    rw [hkv] at i2
    cases i2
    subst ev
    show Rel H2 c.1 (.ref c.2)
    rw [e1]
    exact ⟨c.2, _, rfl, hH, ⟨_, _, rfl, r1.monoT (fun a xs h => gr _ _ h), _, _, rfl, r2.monoT (fun a xs h => gr _ _ h), rfl⟩, by simp [sizeLine_eq]⟩
  have := relL_pairs rz
  rw [List.map_map, List.map_map] at this
  exact this
end

/-- d.items() -/
def dSortItems (te : DTE) : DTE := fun sd G Q => te sd G fun d G1 => match d with
  | .ref a => ∃ kvs, G1 a = some (.dict true kvs) ∧ kvs.all (fun kv => intKey kv.1) = true ∧ srtOk (kvs.map pairD) ∧ ∀ l, Nw G1 l → Q (.ref l) (put G1 l (.lst (sortD (kvs.map pairD))))
  | _ => False
section
variable {X : Cx} {B : Bx} {e : Expr} {te : DTE} {p pos apos cpos : Pos}
theorem de_sortItems (hc : X.calm = true) (hu : X.A.units + 64 < cLine) (hg : Gl X "sorted") (hm : X.mg "sorted" = none) (he : DE X B e te)
    (hbase : attributeBase e "items" X.env (eval e X.env) = eval e X.env := by rfl) (hline : (apos.endLine == cpos.line) = true := by rfl)
    (hs : starEach [.Call (.Attribute e "items" apos) [] [] cpos] X.env = (false, eval (.Call (.Attribute e "items" apos) [] [] cpos) X.env) :: starEach [] X.env := by rfl) :
    DE X B (.Call (.Name "sorted" p) [.Call (.Attribute e "items" apos) [] [] cpos] [] pos) (dSortItems te) := by
  obtain ⟨te', pe, he⟩ := he.ex
  refine ⟨_, pe_callB (cr_sortI hc hu) hg hm (by decide +kernel) (pa_cons (pe_bm0 PySem.F.plainAttrs_dict PySem.F.slot_dict_items PySem.F.type_dict_items L2.DX.mt_itemsT pe hbase hline) pa_nil hs) (by decide) (by decide) hs (by rfl), fun σ H sd G Q P hS R t hp => ?_⟩
  refine he σ H sd G _ _ hS R t fun v d H1 G1 k1 r1 R1 q1 => ?_
  cases d with
  | ref a =>
    cases r1
    obtain ⟨kvs, g, q1, q2, q3⟩ := q1
    have st := R1.at_ a _ g
    have z := st.1
    obtain ⟨_, ks, h1, _, _⟩ := st
    refine ⟨.inr (.inr (.inl ⟨rfl, .inr ⟨ks, h1⟩⟩)), a, ks, rfl, rfl, h1, fun p' hn => ?_⟩
    have R2 : Rep X.K B (upd H1 p' (L2.DX.itemsO p' a)) G1 := R1.fresh hn
    refine ⟨B, G1, p', a, kvs, rfl, upd_same, R2, .inl g, q1, q2, fun H' l vs gr hl hH rl => ?_⟩
    have hl1 : H1 l = none := by
      by_cases e : l = p'
      · rw [e]; exact hn
      · rw [upd_ne e] at hl; exact hl
    have gr1 : ∀ b u, H1 b = some u → H' b = some u := fun b u e => gr b u (by rw [upd_ne (ne_of_none e hn)]; exact e)
    have k : Kp H1 H' := ⟨fun a xs h => gr1 _ _ h, fun a o u h => gr1 _ _ h⟩
    have R' : Rep X.K B H' (put G1 l (.lst (sortD (kvs.map pairD)))) := by
      refine ⟨R1.k0.trans k, fun c o' e => ?_⟩
      by_cases hcl : c = l
      · subst hcl
        rw [put_same] at e
        cases e
        exact ⟨vs, hH, rl, by simp [sortD]; exact z⟩
      · rw [put_ne hcl] at e
        exact (R1.at_ c o' e).grow gr1
    exact hp _ (.ref l) H' _ (k1.trans k) rfl R' (q3 l (R1.gnone hl1))
  | _ => exact (show False from q1).elim
end

def sitO (o : Option DO) (G1 : Gp) (Q : DQ) : Prop := ∃ kvs, o = some (.dict true kvs) ∧ kvs.all (fun kv => intKey kv.1) = true ∧ srtOk (kvs.map pairD) ∧ ∀ l, Nw G1 l → Q (.ref l) (put G1 l (.lst (sortD (kvs.map pairD))))
def sitD (d : D) (G1 : Gp) (Q : DQ) : Prop := match d with
  | .ref a => sitO (G1 a) G1 Q
  | _ => False
@[simp ↓] theorem dSortItems_app {te sd G Q} : dSortItems te sd G Q = te sd G fun d G1 => sitD d G1 Q := (rfl)
theorem sitD_congr {d d' : D} {G : Gp} {Q : DQ} (h0 : d = d') : sitD d G Q = sitD d' G Q := by rw [h0]
theorem sitO_congr {o o' : Option DO} {G : Gp} {Q : DQ} (h0 : o = o') : sitO o G Q = sitO o' G Q := by rw [h0]
@[simp] theorem sitD_ref {a G Q} : sitD (.ref a) G Q = sitO (G a) G Q := (rfl)
@[simp] theorem sitO_is {kvs G1 Q} : sitO (some (.dict true kvs)) G1 Q = (kvs.all (fun kv => intKey kv.1) = true ∧ srtOk (kvs.map pairD) ∧ ∀ l, Nw G1 l → Q (.ref l) (put G1 l (.lst (sortD (kvs.map pairD))))) :=
  propext ⟨fun ⟨_, e, h⟩ => by cases e; exact h, fun h => ⟨_, rfl, h⟩⟩
end DL
set_option Elab.async false
set_option linter.all false
set_option maxRecDepth 100000
set_option maxHeartbeats 4000000
namespace DL
open PySem PySem.Spec L2

/-! ### the head, with tables and one more Bool -/
abbrev AlX : Type := He.AlT × Bool
def obsX (fa : List He.Fa) (fn : List He.DefD) (ts : List He.Tab) (xb : PySem.W.Frag → Bool) (K : PySem.W.Frag) : AlX := (He.obsT fa fn ts K, xb K)
def obsXG (n : Nat) (fa : List He.Fa) (fn : List He.DefD) (ts : List He.Tab) (xb : PySem.W.Frag → Bool) (g : Addr → Option Obj) : AlX := obsX fa fn ts xb (He.frG g (He.asD g n))
def hookX (n : Nat) (fa : List He.Fa) (fn : List He.DefD) (ts : List He.Tab) (xb : PySem.W.Frag → Bool) : PySem.W.Hook where
  α := AlX
  obs := fun s => obsXG n fa fn ts xb s.heap.get?
  val := fun w => (He.valT fn ts w, true)
  says := fun w h => ∃ K : PySem.W.Frag, K.In h ∧ obsX fa fn ts xb K = (He.valT fn ts w, true)
  of := fun _ _ e => ⟨_, He.frG_in, e⟩
  keeps := fun _ _ _ ⟨K, hK, c⟩ k => ⟨K, PySem.W.Frag.In.keeps hK k, c⟩
theorem obsXG_eq {n : Nat} {fa : List He.Fa} {fn : List He.DefD} {ts : List He.Tab} {xb : PySem.W.Frag → Bool} {g : Addr → Option Obj} {s : Shared} (h : ∀ a, g a = s.heap.get? a) : obsXG n fa fn ts xb g = (hookX n fa fn ts xb).obs s := by
  have e : g = s.heap.get? := funext h
  rw [e] <;> rfl
/-- what stands behind the top -/
structure SaidX (fa : List He.Fa) (fn : List He.DefD) (ts : List He.Tab) (xb : PySem.W.Frag → Bool) (w : World) (K : PySem.W.Frag) (mg : Str → Option Value) : Prop extends Said fa fn K mg where
  t : He.SaysT fa fn ts w K
  x : xb K = true
theorem saidX {fa : List He.Fa} {fn : List He.DefD} {ts : List He.Tab} {xb : PySem.W.Frag → Bool} {w : World} {K : PySem.W.Frag} {mg : Str → Option Value} {h : Heap} (e : obsX fa fn ts xb K = (He.valT fn ts w, true)) (X : K.In h) (G : h.Ns mainGlobals mg) : SaidX fa fn ts xb w K mg := by
  have t : He.SaysT fa fn ts w K := congrArg (fun z : AlX => z.1) e
  exact { c := t.d, top := ⟨h, X, G⟩, t := t, x := congrArg (fun z : AlX => z.2) e }

/-! ### written tuples, tables -/
def strsIn : List Str → List Value → Bool
  | [], [] => true
  | z :: zs, .str x _ :: us => decide (x = z) && strsIn zs us
  | _, _ => false
theorem strsIn_ok : ∀ {zs : List Str} {us : List Value}, strsIn zs us = true → Vals (zs.map V.str) us
  | [], [], _ => .nil
  | [], _ :: _, h => by cases h
  | z :: zs, [], h => by cases h
  | z :: zs, u :: us, h => by
    cases u with
    | str x t =>
      obtain ⟨h1, h2⟩ := Bool.and_eq_true_iff.mp h
      have e := of_decide_eq_true h1
      subst e
      exact .cons ⟨t, rfl⟩ (strsIn_ok h2)
    | _ => cases h
def tupB (K : PySem.W.Frag) (a : Addr) (zs : List Str) : Bool := match K.lookup a with
  | some ⟨.type c, _, .seq its _, _⟩ => decide (c = "tuple") && (decide (its.size ≤ 100) && strsIn zs its.toList)
  | _ => false
theorem tupB_ok {K : PySem.W.Frag} {a : Addr} {zs : List Str} (h : tupB K a zs = true) (H : Hp) : SqT K H a (zs.map V.str) := by
  unfold tupB at h
  split at h
  · rename_i c d its n sl e
    obtain ⟨h1, h2⟩ := Bool.and_eq_true_iff.mp h
    obtain ⟨h3, h4⟩ := Bool.and_eq_true_iff.mp h2
    have e1 := of_decide_eq_true h1
    subst e1
    exact .inr ⟨_, its, n, e, rfl, rfl, Nat.le_trans (of_decide_eq_true h3) (by decide), strsIn_ok h4⟩
  · cases h
/-- a table of texts: what stands at some words -/
def tblQ : Option (Option Value) → Option Str → Bool
  | some (some (.str v _)), some s => decide (v = s) && PySem.PyData.strOk s
  | some none, none => true
  | _, _ => false
def tblB (K : PySem.W.Frag) (a : Addr) (tbl : List (Str × Option Str)) : Bool := tbl.all fun q => tblQ (PySem.W.nsIn K a q.1) q.2
theorem tblB_ok {K : PySem.W.Frag} {a : Addr} {tbl : List (Str × Option Str)} (h : tblB K a tbl = true) {z : Str} {r : Option Str} (hz : tbl.lookup z = some r) : (∃ s t, r = some s ∧ OkS s ∧ PySem.W.nsIn K a z = some (some (.str s t))) ∨ (r = none ∧ PySem.W.nsIn K a z = some none) := by
  have hm : (z, r) ∈ tbl := by
    clear h
    induction tbl with
    | nil => cases hz
    | cons q tbl ih =>
      obtain ⟨k, v⟩ := q
      rw [List.lookup_cons] at hz
      cases e : z == k with
      | true =>
        rw [e] at hz
        have e1 : z = k := by simpa using e
        cases hz
        rw [e1]
        exact List.mem_cons_self
      | false =>
        rw [e] at hz
        exact List.mem_cons_of_mem _ (ih hz)
  have h2 := List.all_eq_true.mp h _ hm
  have h2' : tblQ (PySem.W.nsIn K a z) r = true := h2
  cases e : PySem.W.nsIn K a z with
  | none => rw [e] at h2'; cases h2'
  | some o =>
    rw [e] at h2'
    cases o with
    | none =>
      cases r with
      | none => exact .inr ⟨rfl, rfl⟩
      | some _ => cases h2'
    | some u =>
      cases u with
      | str v t =>
        cases r with
        | none => cases h2'
        | some s =>
          obtain ⟨h3, h4⟩ := Bool.and_eq_true_iff.mp h2'
          have e3 := of_decide_eq_true h3
          subst e3
          exact .inl ⟨v, t, rfl, h4, rfl⟩
      | _ => cases r <;> cases h2'
section
variable {X : Cx} {B : Bx} {a o e f : Expr} {ta te tf : DTE} {x : Str} {p pos apos cpos : Pos} {zs : List Str} {c : Addr}
def dInC (neg : Bool) (zs : List Str) (ta : DTE) : DTE := fun sd G Q => ta sd G fun d G1 => dat 0 d = true ∧ Q (.bl ((zs.any fun z => peq (.str z) d) != neg)) G1
theorem inC_at {H : Hp} {d : D} {v : V} (hz : zs.all PySem.PyData.strOk = true) (hd : dat 0 d = true) (r : Rel H d v) : flatV v = true ∧ (zs.map V.str).all flatV = true ∧ inV v (zs.map V.str) = zs.any fun z => peq (.str z) d := by
  refine ⟨flat_rel hd r, by rw [List.all_map, List.all_eq_true]; intro z _; rfl, ?_⟩
  induction zs with
  | nil => rfl
  | cons z zs ih =>
    rw [List.all_cons, Bool.and_eq_true] at hz
    rw [List.map_cons, List.any_cons, ← ih hz.2]
    unfold inV
    rw [List.any_cons]
    congr 1
    exact eqV_rel (H := H) (d := .str z) (e := d) (v := .str z) (u := v) rfl hd ⟨rfl, hz.1⟩ r
theorem de_inC {neg : Bool} {op : CmpOp} (hop : op = (if neg then .NotIn else .In)) (ha : DE X B a ta) (hg : Gl X x) (hm : X.mg x = some (.ref c)) (hc : tupB X.K c zs = true)
    (hmk : behindInMarks op (.Name x p) = false := by rfl) (hz : zs.all PySem.PyData.strOk = true := by decide +kernel) (hd : (x == ("__debug__" : Str)) = false := by decide) : DE X B (.Compare a [op] [.Name x p] pos) (dInC neg zs ta) := by
  obtain ⟨ta', pa, ha⟩ := ha.ex
  have pg : PE X (.Name x p) (tC (.ref c)) := pe_glob (v := .ref c) hg hm rfl hd
  cases neg with
  | true =>
    subst hop
    refine ⟨_, pe_cmpR op_notIn_seq pa pg hmk, fun σ H sd G Q P hS R t hp => ?_⟩
    refine ha σ H sd G _ _ hS R t fun v d H1 G1 k1 r1 R1 q1 => ?_
    obtain ⟨f1, f2, f3⟩ := inC_at (zs := zs) hz q1.1 r1
    exact ⟨c, _, rfl, .inr (tupB_ok hc H1), f1, f2, by rw [f3]; exact hp _ (.bl _) H1 G1 k1 rfl R1 (by simpa using q1.2)⟩
  | false =>
    subst hop
    refine ⟨_, pe_cmpR op_in_seq pa pg hmk, fun σ H sd G Q P hS R t hp => ?_⟩
    refine ha σ H sd G _ _ hS R t fun v d H1 G1 k1 r1 R1 q1 => ?_
    obtain ⟨f1, f2, f3⟩ := inC_at (zs := zs) hz q1.1 r1
    exact ⟨c, _, rfl, .inr (tupB_ok hc H1), f1, f2, by rw [f3]; exact hp _ (.bl _) H1 G1 k1 rfl R1 (by simpa using q1.2)⟩
/-- NAME.get(e, f) of a written table of texts -/
def dGetK (tbl : List (Str × Option Str)) (te tf : DTE) : DTE := fun sd G Q => te sd G fun d G1 => tf sd G1 fun z G2 => match d with
  | .str y => ∃ r, tbl.lookup y = some r ∧ Q (match r with | some s => .str s | none => z) G2
  | _ => False
def tGetK (K : PySem.W.Frag) (w : World) (a : Addr) (ty tx : TE) : TE := fun σ H Q => ty σ H fun y H1 => tx σ H1 fun z H2 => ∃ (x : Str) (r : Option Value) (v : V), y = .str x ∧ PySem.W.nsIn K a x = some r ∧ (match r with | some u => RelV v u | none => v = z) ∧ Q v H2
theorem pe_getK {es : Array DictEntry} {n : Nat} {d : Addr} {ty tx : TE} (D : KDict X.K X.w d es n) (hg : Gl X x) (hm : X.mg x = some (.ref d)) (he : PE X e ty) (hf : PE X f tx) (m : M2 X (.Name x p) "get" apos e f cpos) (hd : (x == ("__debug__" : Str)) = false := by decide) :
    PE X (.Call (.Attribute (.Name x p) "get" apos) [e, f] [] cpos) (tGetK X.K X.w d ty tx) := by
  refine ⟨fun pins s σ H Q I h => ?_⟩
  have pg : PE X (.Name x p) (tC (.ref d)) := pe_glob (v := .ref d) hg hm rfl hd
  refine wpAny_Call_method m.base m.few m.line PySem.F.plainAttrs_dict PySem.F.slot_dict_get PySem.F.type_dict_get (thn (pg.run pins s σ H (fun v H' => v = .ref d ∧ H' = H) I ⟨rfl, rfl⟩) fun u s1 ⟨v0, H1, I1, rx, e1, e2⟩ => ?_)
  subst e1 e2
  obtain rfl : u = Value.ref d := rx
  refine ⟨kd_type D I1, fun b q => ?_, ?_⟩
  · cases q
    exact ⟨_, I1.kIn d _ D.at_, rfl⟩
  rw [m.trees]
  refine Calls.callWith_builtin rfl (Calls.evalArgs_plain (Calls.spliced_cons (thn (he.run pins s1 σ H1 _ I1 h) fun iv s2 ⟨y, H2, I2, ry, q2⟩ =>
    Calls.spliced_cons (thn (hf.run pins s2 σ H2 _ I2 q2) fun fv s3 ⟨z, H3, I3, rz, xs, r, v, ey, en, rv, q3⟩ => Calls.spliced_nil ?_))))
  subst ey
  obtain ⟨t, rfl⟩ := ry
  have hm3 := PySem.W.mapOf_K (prog := X.prog) (w := X.w) I3.kIn D.at_ D.lit
  refine call_meetsIn PySem.F.slot_dict_get (kd_type D I3) PySem.F.entry_dict_get (PySem.F.args_dict_get_3 _ _ _) (meets_dict_get_default (PySem.strKind X.prog X.w) d (PySem.strKind_is X.prog X.w xs t) D.low fv) ⟨_, hm3, ?_⟩
  rw [PySem.W.find_K D.at_ en]
  refine ⟨v, H3, I3.tok _, ?_, q3⟩
  cases r with
  | some u => exact rv
  | none =>
    have e : v = z := rv
    rw [e]
    exact rz
theorem de_getK {tbl : List (Str × Option Str)} (D : ∃ es n, KDict X.K X.w c es n) (hg : Gl X x) (hm : X.mg x = some (.ref c)) (ht : tblB X.K c tbl = true) (he : DE X B e te) (hf : DE X B f tf)
    (m : M2 X (.Name x p) "get" apos e f cpos := by exact ⟨rfl, rfl, rfl, rfl⟩) (hd : (x == ("__debug__" : Str)) = false := by decide) : DE X B (.Call (.Attribute (.Name x p) "get" apos) [e, f] [] cpos) (dGetK tbl te tf) := by
  obtain ⟨es, n, D⟩ := D
  obtain ⟨te', pe, he⟩ := he.ex
  obtain ⟨tf', pf, hf⟩ := hf.ex
  refine ⟨_, pe_getK D hg hm pe pf m hd, fun σ H sd G Q P hS R t hp => ?_⟩
  refine he σ H sd G _ _ hS R t fun v d H1 G1 k1 r1 R1 q1 => ?_
  refine hf σ H1 sd G1 _ _ (hS.mono k1) R1 q1 fun v2 d2 H2 G2 k2 r2 R2 q2 => ?_
  cases d with
  | str y =>
    obtain ⟨rfl, _⟩ := r1
    obtain ⟨r, hr, q2⟩ := q2
    rcases tblB_ok ht hr with ⟨s, t, rfl, ok, en⟩ | ⟨rfl, en⟩
    · exact ⟨y, _, .str s, rfl, en, ⟨t, rfl⟩, hp _ (.str s) H2 G2 (k1.trans k2) ⟨rfl, ok⟩ R2 q2⟩
    · exact ⟨y, _, v2, rfl, en, rfl, hp _ d2 H2 G2 (k1.trans k2) r2 R2 q2⟩
  | _ => exact (show False from q2).elim
/-- a, b, c = x, y, z -/
def dPar3 (i j l : Nat) (ta : DTA) : DTS := fun D sd G => ta sd G fun ds G1 => match ds with
  | [d, e, f] => D.nx (((sd.set i (some d)).set j (some e)).set l (some f)) G1
  | _ => False
theorem ds_par3 {i j l : Nat} {x y z : Str} {a b c : Expr} {ta : DTA} {px py pz pt pos : Pos} {kt k2 pt2} (hc : X.calm = true) (hN : X.N.Nodup) (hi : X.N[i]? = some x) (hj : X.N[j]? = some y) (hl : X.N[l]? = some z) (hij : i ≠ j) (hil : i ≠ l) (hjl : j ≠ l)
    (hx : X.env.scope.names.lookup x = some .local) (hy : X.env.scope.names.lookup y = some .local) (hz : X.env.scope.names.lookup z = some .local) (ha : DA X B [a, b, c] ta)
    (hw : swappedStores [.Tuple [.Name x px, .Name y py, .Name z pz] kt pt] (.Tuple [a, b, c] k2 pt2) X.env = pure (some [x, y, z]))
    (hs : swapsWithSole [.Tuple [.Name x px, .Name y py, .Name z pz] kt pt] (.Tuple [a, b, c] k2 pt2) pos.line X.env = pure false := by rfl) :
    DS X B (.Assign [.Tuple [.Name x px, .Name y py, .Name z pz] kt pt] (.Tuple [a, b, c] k2 pt2) pos) (dPar3 i j l ta) := by
  obtain ⟨ta', pa, ha⟩ := ha.ex
  refine ⟨_, ps_par3 hc hN hi hj hl hij hil hjl hx hy hz pa hw hs, fun σ H sd G DD D hs R t hp => ?_⟩
  refine ha σ H sd G _ _ hs R t fun vs ds H1 G1 _ k1 r1 R1 q1 => ?_
  match ds, q1, r1 with
  | [d, e, f], q1, r1 =>
    obtain ⟨v, r, rfl, h1, w, r', rfl, h2, u, r'', rfl, h3, h4⟩ := r1
    cases (relL_nil.mp h4)
    exact ⟨v, w, u, rfl, hp.nx _ _ H1 G1 k1 ((((hs.mono k1).set h1 i).set h2 j).set h3 l) R1 q1⟩
  | [], q1, _ => exact (show False from q1).elim
  | [_], q1, _ => exact (show False from q1).elim
  | [_, _], q1, _ => exact (show False from q1).elim
  | _ :: _ :: _ :: _ :: _, q1, _ => exact (show False from q1).elim
/-- xs[::-1] -/
def revD (d : D) (G1 : Gp) (Q : DQ) : Prop := match d with
  | .ref a => ∃ o, G1 a = some o ∧ lstO o fun xs => ∀ p, Nw G1 p → Q (.ref p) (put G1 p (.lst xs.reverse))
  | _ => False
def dRev (te : DTE) : DTE := fun sd G Q => te sd G fun d G1 => revD d G1 Q
theorem de_rev {k : Nat} {p1 p2 p3 : Pos} (he : DE X B e te) : DE X B (.Subscript e (.Slice none none (some (.UnaryOp .USub (.Constant (.int 1) k p1) p2)) p3) pos) (dRev te) := by
  obtain ⟨te', pe, he⟩ := he.ex
  refine ⟨_, pe_revL pe, fun σ H sd G Q P hS R t hp => ?_⟩
  refine he σ H sd G _ _ hS R t fun v d H1 G1 k1 r1 R1 q1 => ?_
  cases d with
  | ref a =>
    cases r1
    obtain ⟨o, g, q1⟩ := q1
    obtain ⟨xs, il, q1, ho⟩ := lstO_is g q1
    obtain ⟨vs, h1, h2, h3⟩ := lstRd R1 il
    refine ⟨a, vs, rfl, .inl h1, fun p hn => ?_⟩
    obtain ⟨kk, R'⟩ := lst_new hn h2.rev (by simpa using h3) R1
    exact hp _ (.ref p) _ _ (k1.trans kk) rfl R' (q1 p (R1.gnone hn))
  | _ => exact (show False from q1).elim
def minR : List D → Gp → DQ → Prop := fun ds G Q => match ds with
  | [.int i, .int j] => Q (.int (min i j)) G
  | _ => False
theorem dc_min (hc : X.calm = true) : DCall X B (.builtin "min") minR := by
  refine ⟨_, call_min2 hc, fun H G xs ds Q P r R q hp => ?_⟩
  match ds, q, r with
  | [.int i, .int j], q, r =>
    obtain ⟨x, y, rfl, r1, r2⟩ := rel2 r
    cases r1
    cases r2
    have e : (if j < i then j else i) = min i j := by omega
    exact ⟨i, j, rfl, hp _ (.int _) H G (.refl H) (by rw [e]; rfl) R q⟩
end
theorem minR_congr {ds ds' : List D} {G : Gp} {Q : DQ} (h0 : ds = ds') : minR ds G Q = minR ds' G Q := by rw [h0]
theorem revD_congr {d d' : D} {G : Gp} {Q : DQ} (h0 : d = d') : revD d G Q = revD d' G Q := by rw [h0]
@[simp] theorem minR_int {i j : Int} {G Q} : minR [.int i, .int j] G Q = Q (.int (min i j)) G := (rfl)
def revO (o : Option DO) (G1 : Gp) (Q : DQ) : Prop := ∃ o', o = some o' ∧ lstO o' fun xs => ∀ p, Nw G1 p → Q (.ref p) (put G1 p (.lst xs.reverse))
theorem revO_congr {o o' : Option DO} {G : Gp} {Q : DQ} (h0 : o = o') : revO o G Q = revO o' G Q := by rw [h0]
@[simp] theorem revD_ref {a G Q} : revD (.ref a) G Q = revO (G a) G Q := (rfl)
@[simp] theorem revO_lst {xs G Q} : revO (some (.lst xs)) G Q = ∀ p, Nw G p → Q (.ref p) (put G p (.lst xs.reverse)) := by simp [revO, lstO]
@[simp ↓] theorem dRev_app {te sd G Q} : dRev te sd G Q = te sd G fun d G1 => revD d G1 Q := (rfl)
def parP3 (i j l : Nat) (ds : List D) (D : DEnds) (sd : SD) (G1 : Gp) : Prop := match ds with
  | [d, e, f] => D.nx (((sd.set i (some d)).set j (some e)).set l (some f)) G1
  | _ => False
@[simp ↓] theorem dPar3_app {i j l ta} {n r b c} {sd G} : dPar3 i j l ta ⟨n, r, b, c⟩ sd G = ta sd G fun ds G1 => parP3 i j l ds ⟨n, r, b, c⟩ sd G1 := (rfl)
@[simp ↓] theorem parP3_3 {i j l d e f} {n r b c} {sd G} : parP3 i j l [d, e, f] ⟨n, r, b, c⟩ sd G = n (((sd.set i (some d)).set j (some e)).set l (some f)) G := (rfl)
def tblP (tbl : List (Str × Option Str)) (d z : D) (G : Gp) (Q : DQ) : Prop := match d with
  | .str y => ∃ r, tbl.lookup y = some r ∧ Q (match r with | some s => .str s | none => z) G
  | _ => False
theorem tblP_congr {tbl : List (Str × Option Str)} {d d' z z' : D} {G : Gp} {Q : DQ} (h0 : d = d') (h1 : z = z') : tblP tbl d z G Q = tblP tbl d' z' G Q := by rw [h0, h1]
theorem tblP_some {tbl : List (Str × Option Str)} {y s : Str} {z : D} {G : Gp} {Q : DQ} (h : tbl.lookup y = some (some s)) : tblP tbl (.str y) z G Q = Q (.str s) G := by simp [tblP, h]
theorem tblP_none {tbl : List (Str × Option Str)} {y : Str} {z : D} {G : Gp} {Q : DQ} (h : tbl.lookup y = some none) : tblP tbl (.str y) z G Q = Q z G := by simp [tblP, h]
@[simp ↓] theorem dGetK_app {tbl te tf sd G Q} : dGetK tbl te tf sd G Q = te sd G fun d G1 => tf sd G1 fun z G2 => tblP tbl d z G2 Q := (rfl)
def inCP (neg : Bool) (zs : List Str) (d : D) (G : Gp) (Q : DQ) : Prop := dat 0 d = true ∧ Q (.bl ((zs.any fun z => peq (.str z) d) != neg)) G
theorem inCP_congr {neg : Bool} {zs : List Str} {d d' : D} {G : Gp} {Q : DQ} (h0 : d = d') : inCP neg zs d G Q = inCP neg zs d' G Q := by rw [h0]
@[simp] theorem inCP_str {neg zs y G Q} : inCP neg zs (.str y) G Q = Q (.bl ((zs.any fun z => decide (z = y)) != neg)) G := by simp [inCP, dat_str, peq_str]
@[simp ↓] theorem dInC_app {neg zs ta sd G Q} : dInC neg zs ta sd G Q = ta sd G fun d G1 => inCP neg zs d G1 Q := (rfl)
end DL
set_option Elab.async false
set_option linter.all false
set_option maxRecDepth 100000
set_option maxHeartbeats 4000000
namespace DL
open PySem PySem.Spec L2

/-! ### d == {} -/
section
open PyProof.Rows
variable {prog : Program} {w : World} {A : Around} {E : Value → Shared → Prop} {s : Shared} {a b : Addr} {es es' : Array DictEntry} {ep ep' : Nat}
theorem samePairsNil {nm : String} {Q : Bool → Shared → Prop} (ha : (a == sysModules) = false) (hb : (b == sysModules) = false) (ra : DT.Raw s.heap a es ep) (rb : DT.Raw s.heap b es' ep') (h0 : es'.size = 0) (h : Q (es.size == 0) s) :
    wpAny (model prog w) A (Builtin.Dict.samePairs nm a b) Q E s := by
  obtain ⟨oa, hoa, _, hda⟩ := ra
  obtain ⟨ob, hob, _, hdb⟩ := rb
  unfold Builtin.Dict.samePairs Builtin.Dict.showsAll
  rw [if_neg (show ¬ (a == sysModules) = true by rw [ha]; exact Bool.false_ne_true), if_neg (show ¬ (b == sysModules) = true by rw [hb]; exact Bool.false_ne_true)]
  refine wpAny_bind (wpAny_pure (wpAny_bind (wpAny_pure ?_)))
  refine wpAny_bind (wpAny_dictEntries hoa hda ?_)
  dsimp only
  refine wpAny_bind (wpAny_dictEntries hob hdb ?_)
  by_cases hsz : es.size = 0
  case neg =>
    rw [if_pos (by rw [h0]; simpa using hsz)]
    have hbf : (es.size == 0) = false := by simpa using hsz
    rw [hbf] at h
    exact wpAny_bind (wpAny_rule (wpAny_pure h))
  case pos =>
    have hbf : (es.size == 0) = true := by simpa using hsz
    rw [hbf] at h
    rw [if_neg (by rw [h0, hsz]; simp)]
    refine wpAny_bind (wpAny_dictEpoch hoa hda ?_)
    refine wpAny_bind ?_
    rw [Std.Legacy.Range.forIn_eq_forIn_range']
    simp only [Std.Legacy.Range.size, Nat.sub_zero, Nat.add_sub_cancel, Nat.div_one]
    refine wpAny_forIn_list _ (fun rest q s' => s' = s ∧ q = (none, ()) ∧ rest = []) _ ?_ ?_ _ _ ⟨rfl, rfl, by rw [hsz]; rfl⟩
    · rintro x rest q s' ⟨_, _, hr⟩
      cases hr
    · rintro q s' ⟨rfl, rfl, _⟩
      exact wpAny_pure h
theorem rcNil (ha : (a == sysModules) = false) (hb : (b == sysModules) = false) (ra : DT.Raw s.heap a es ep) (rb : DT.Raw s.heap b es' ep') (h0 : es'.size = 0) (hu : A.units < cLine) (E Q : Value → Shared → Prop) (h : Q (.bool (es.size == 0)) s) : wpAny (model prog w) A (richCompare .Eq (.ref a) (.ref b)) Q E s := by
  refine wpAny_richCompare_same_room (op := .Eq) ra.typeIs rb.typeIs PySem.F.slot_dict_eq (wpAny_call_entry PySem.F.slot_dict_eq ra.typeIs PySem.F.entry_dict_eq ?_ (PySem.F.args_dict_eq_2 _ _)) hu
  show wpAny _ _ (Builtin.Dict.dictSlotArgs "__eq__" ⟨[.ref a, .ref b], []⟩ >>= _) _ _ s
  refine wpAny_bind ?_
  unfold Builtin.Dict.dictSlotArgs
  refine wpAny_bind (wpAny_notOrdered_dict ra.typeIs ?_)
  show wpAny _ _ (pure (Value.ref a, Value.ref b)) _ _ s
  refine wpAny_pure ?_
  refine wpAny_bind (wpAny_isInstance (T := "dict") rb.typeIs PySem.F.sub_dict_dict ?_)
  simp only [Bool.not_true, Bool.false_eq_true, if_false]
  refine wpAny_bind (wpAny_pure (wpAny_bind (wpAny_pure ?_)))
  refine wpAny_bind (samePairsNil ha hb ra rb h0 ?_)
  refine wpAny_pure ⟨_, rfl, ?_, ?_⟩
  · exact fun x => nomatch x
  · simpa using h
end
section
variable {X : Cx} {B : Bx}
theorem raw_of {pins : List (Addr × Obj)} {σ : L2.St} {H : Hp} {s : Shared} {K : PySem.W.Frag} {B : Bx} {G : Gp} {a : Addr} {t : Bool} {kvs : List (D × D)} (I : L2.Inv X pins σ H s) (R : Rep X.K B H G) (g : G a = some (.dict t kvs) ∨ G a = some (.ldict t kvs)) :
    (a == sysModules) = false ∧ ∃ es ep, DT.Raw s.heap a es ep ∧ es.size = kvs.length := by
  cases t with
  | false =>
    obtain ⟨z, ks, h1, h2⟩ : kvs.length ≤ sizeLine ∧ ∃ ks : List (Key × V), Rd H a (.dK ks) ∧ kvs.map (·.1) = ks.map (fun k => kD k.1) := by
      rcases g with g | g
      · obtain ⟨z, ks, h1, h2, _⟩ := R.at_ a _ g
        exact ⟨z, ks, .inl h1, h2⟩
      · obtain ⟨z, ob, ks, h1, h2, _⟩ := R.at_ a _ g
        exact ⟨z, ks, .inr ⟨ob, h1⟩, h2⟩
    obtain ⟨z', lo, vs, rel, o, es, ep, ho, hx, hdat, _, hp, _⟩ := dk_rd I.hok h1
    have l1 : ks.length = vs.length := rel.length
    have l2 : kvs.length = ks.length := by simpa using congrArg List.length h2
    have l3 : es.toList.length = vs.length := hp.length
    exact ⟨lo, es, ep, ⟨o, ho, hx, hdat⟩, by rw [Array.length_toList] at l3; omega⟩
  | true =>
    obtain ⟨z, ks, h1, h2⟩ : kvs.length ≤ sizeLine ∧ ∃ ks : List (List Key × V), Rd H a (.dT ks) ∧ kvs.map (·.1) = ks.map (fun k => D.tup (k.1.map kD)) := by
      rcases g with g | g
      · obtain ⟨z, ks, h1, h2, _⟩ := R.at_ a _ g
        exact ⟨z, ks, .inl h1, h2⟩
      · obtain ⟨z, ob, ks, h1, h2, _⟩ := R.at_ a _ g
        exact ⟨z, ks, .inr ⟨ob, h1⟩, h2⟩
    obtain ⟨z', lo, xs', rel, o, es, ep, ho, hx, hdat, hes, his, hn⟩ := dt_rd I.hok h1
    have l1 : ks.length = xs'.length := Paired.length rel
    have l2 : kvs.length = ks.length := by simpa using congrArg List.length h2
    have l3 : es.size = xs'.length := size_of_entries hes
    exact ⟨lo, es, ep, ⟨o, ho, hx, hdat⟩, by omega⟩
def rDnil (K : PySem.W.Frag) : R2 := fun x y H Q => ∃ (B : Bx) (G : Gp) (a b : Addr) (t t' : Bool) (kvs : List (D × D)), x = .ref a ∧ y = .ref b ∧ Rep K B H G ∧ (G a = some (.dict t kvs) ∨ G a = some (.ldict t kvs)) ∧ G b = some (.dict t' []) ∧ Q (.bl kvs.isEmpty) H
theorem op_eq_dnil (hu : X.A.units < cLine) : OpR X (compareOp .Eq) (rDnil X.K) := by
  intro pins s σ H x y v u Q I rx ry h
  obtain ⟨B, G, a, b, t, t', kvs, rfl, rfl, R, g, gb, q⟩ := h
  obtain rfl : v = Value.ref a := rx
  obtain rfl : u = Value.ref b := ry
  obtain ⟨ya, es, ep, ra, la⟩ := raw_of (K := X.K) I R g
  obtain ⟨yb, es', ep', rb, lb⟩ := raw_of (K := X.K) I R (.inl gb)
  have e : (es.size == 0) = kvs.isEmpty := by rw [la]; cases kvs <;> simp
  exact rcNil ya yb ra rb (by simpa using lb) hu _ _ ⟨.bl kvs.isEmpty, H, I, by rw [e]; rfl, q⟩
/-- e == {} -/
def dEqNil (ta : DTE) : DTE := fun sd G Q => ta sd G fun d G1 => ∀ p, Nw G1 p → match d with
  | .ref a => ∃ t kvs, G1 a = some (.dict t kvs) ∧ Q (.bl kvs.isEmpty) (put G1 p (.dict false []))
  | _ => False
variable {e : Expr} {ta : DTE} {pos p : Pos}
theorem de_eqNil (hu : X.A.units + 64 < cLine) (ha : DE X B e ta) (hm : behindInMarks .Eq (.Dict [] [] p) = false := by rfl) : DE X B (.Compare e [.Eq] [.Dict [] [] p] pos) (dEqNil ta) := by
  obtain ⟨ta', pa, ha⟩ := ha.ex
  refine ⟨_, pe_cmpR (op_eq_dnil (by omega)) pa pe_dnewK hm, fun σ H sd G Q P hS R t hp => ?_⟩
  refine ha σ H sd G _ _ hS R t fun v d H1 G1 k1 r1 R1 q1 => fun p hn => ?_
  have q1 := q1 p (R1.gnone hn)
  cases d with
  | ref a =>
    cases r1
    obtain ⟨t, kvs, g, q1⟩ := q1
    have R2 : Rep X.K B (upd H1 p (.dK [])) (put G1 p (.dict false [])) := R1.laid (o := .dict false []) hn ⟨Nat.zero_le _, [], upd_same, rfl, rfl⟩
    refine ⟨B, _, a, p, t, false, kvs, rfl, rfl, R2, .inl ?_, put_same, hp _ (.bl _) _ _ (k1.trans (.fresh hn)) rfl R2 q1⟩
    rw [put_ne (ne_fr g (R1.gnone hn))]
    exact g
  | _ => exact (show False from q1).elim
theorem dt_eqNil (hu : X.A.units + 64 < cLine) (ha : DE X B e ta) (hm : behindInMarks .Eq (.Dict [] [] p) = false := by rfl) : DT X B (.Compare e [.Eq] [.Dict [] [] p] pos) (dTest (dEqNil ta)) := by
  obtain ⟨ta', pa, ha⟩ := ha.ex
  refine ⟨_, pt_cmpR (op_eq_dnil (by omega)) pa pe_dnewK hm, fun σ H sd G Q P hS R t hp => ?_⟩
  refine ha σ H sd G _ _ hS R t fun v d H1 G1 k1 r1 R1 q1 => fun p hn => ?_
  have q1 := q1 p (R1.gnone hn)
  cases d with
  | ref a =>
    cases r1
    obtain ⟨t, kvs, g, q1⟩ := q1
    have R2 : Rep X.K B (upd H1 p (.dK [])) (put G1 p (.dict false [])) := R1.laid (o := .dict false []) hn ⟨Nat.zero_le _, [], upd_same, rfl, rfl⟩
    refine ⟨B, _, a, p, t, false, kvs, rfl, rfl, R2, .inl ?_, put_same, (post_bl hp) _ (.bl _) _ _ (k1.trans (.fresh hn)) rfl R2 q1⟩
    rw [put_ne (ne_fr g (R1.gnone hn))]
    exact g
  | _ => exact (show False from q1).elim
end
def eqnD (d : D) (G1 : Gp) (p : Addr) (Q : DQ) : Prop := match d with
  | .ref a => ∃ t kvs, G1 a = some (.dict t kvs) ∧ Q (.bl kvs.isEmpty) (put G1 p (.dict false []))
  | _ => False
@[simp ↓] theorem dEqNil_app {ta sd G Q} : dEqNil ta sd G Q = ta sd G fun d G1 => ∀ p, Nw G1 p → eqnD d G1 p Q := (rfl)
def eqnO (o : Option DO) (G1 : Gp) (p : Addr) (Q : DQ) : Prop := ∃ t kvs, o = some (.dict t kvs) ∧ Q (.bl kvs.isEmpty) (put G1 p (.dict false []))
theorem eqnD_congr {d d' : D} {G : Gp} {p : Addr} {Q : DQ} (h0 : d = d') : eqnD d G p Q = eqnD d' G p Q := by rw [h0]
theorem eqnO_congr {o o' : Option DO} {G : Gp} {p : Addr} {Q : DQ} (h0 : o = o') : eqnO o G p Q = eqnO o' G p Q := by rw [h0]
@[simp] theorem eqnD_ref {a G p Q} : eqnD (.ref a) G p Q = eqnO (G a) G p Q := (rfl)
@[simp] theorem eqnO_is {t kvs G p Q} : eqnO (some (.dict t kvs)) G p Q = Q (.bl kvs.isEmpty) (put G p (.dict false [])) :=
  propext ⟨fun ⟨_, _, e, h⟩ => by cases e; exact h, fun h => ⟨_, _, rfl, h⟩⟩
end DL
set_option Elab.async false
set_option linter.all false
set_option maxRecDepth 100000
set_option maxHeartbeats 4000000
/-! x in d.values() -/
namespace DL
open PySem PySem.Spec L2
theorem plain_ci : plainId "proto.contains_iter" = true := by decide +kernel
theorem entry_ci : entryFor table "proto.contains_iter" = some Builtin.«proto.contains_iter» := entryFor_of_fast (by kernel_rfl)
theorem noslot_vals : typeLookup (.type "dict_values") "__contains__" = pure none := by
  first | kernel_rfl | (unfold typeLookup; kernel_rfl)
def valuesO (p d : Addr) : HO := .ext fun h => h.IsValuesView p d
theorem valuesO_ok {P : Program} {w : World} {H : Hp} {h : Heap} {p d : Addr} (e : h.get? p = some { cls := .type "dict_values", data := .fields #[.ref d] }) : ObjOk P w H h p (valuesO p d) :=
  ⟨⟨_, e, rfl, rfl⟩, ⟨_, e⟩, fun h1 h2 q k => by
    obtain ⟨o, e1, e2⟩ := q
    exact ⟨o, k _ e1, e2⟩⟩
def rValsK : V → List V → Hp → VK → Prop := fun x xs H Q => ∃ (a : Addr) (kvs : List (Key × V)), x = .ref a ∧ xs = [] ∧ H a = some (.dK kvs) ∧ ∀ p, H p = none → Q (.ref p) (upd H p (valuesO p a))
section
variable {X : Cx} {B : Bx}
theorem mt_valsK : MtR X "dict.values" rValsK := by
  intro pins s σ H x xs v us Q I rx rxs h
  obtain ⟨a, kvs, rfl, rfl, ha, q⟩ := h
  cases rx
  cases rxs
  obtain ⟨z, hd, vs, kv, dd⟩ := dk_of I.hok ha
  refine call_meetsIn PySem.F.slot_dict_values dd.typeIs PySem.F.entry_dict_values (PySem.F.args_dict_values_1 _) (meets_dict_values (mixKind X.prog X.w) a hd) ⟨⟨vs, dd⟩, ?_⟩
  have hf : H s.heap.objs.size = none := I.hok.fresh (Nat.le_refl _)
  exact ⟨.ref s.heap.objs.size, upd H s.heap.objs.size (valuesO s.heap.objs.size a), I.laid (t' := s.toks) (fun b u e => Heap.get?_push_of_some _ e) (Nat.le_refl _) (valuesO_ok (Heap.get?_push_size _ rfl)), rfl, q _ hf⟩
theorem ci_loop {pins : List (Addr × Obj)} {σ : L2.St} {H : Hp} {it d : Addr} {x : Value} {y : V} {pd : PyData} {kvs : List (Key × V)} {ds : List PyData} {vs : List (Key × Value)} {ep : Nat} {A : Around} {R : Result → Shared → Prop}
    (hf : FpOk X pins H it) (hd : H d = some (.dK kvs)) (kv : KV kvs vs) (ry : RelV y x) (dy : Dp X.K H y pd) (sy : SeqAt.shaped pd = true)
    (hv : ∀ (i : Nat) (k : Key) (v : V), kvs[i]? = some (k, v) → ∃ p, ds[i]? = some p ∧ Dp X.K H v p ∧ SeqAt.shaped p = true) (hl : ds.length = kvs.length) (hh : A.handled = none) (hu : A.units + 65 < cLine) :
    ∀ (m i : Nat) (s : Shared), kvs.length - i = m → Inv X pins σ H s → s.heap.IsValIter it d i kvs.length ep → s.heap.DictAt (mixKind X.prog X.w) d vs ep →
      (∀ s', Inv X pins σ H s' → R (.ok (.ret (.bool ((ds.drop i).any fun z => PyData.eqv z pd)))) s') →
      wpAny (model X.prog X.w) A.in1 (Builtin.«proto.contains_iter» ⟨[.ref it, x], []⟩) (fun fin s' => match fin with | .done f => R (.ok f) s' | .again c' => c'.quiet = true ∧ codeAny (model X.prog X.w) A c' R s') (fun e s' => R (.error e) s') s := by
  intro m
  induction m with
  | zero =>
    intro i s hm I st da q
    have hlv : kvs.length = vs.length := Paired.length kv
    obtain ⟨f0, f1, f2, f3, f4, f5⟩ := hf
    unfold Builtin.«proto.contains_iter»
    rw [hlv] at st
    refine wpAny_bind (wpAny_pyNext_values_end hh st da (by rw [List.getElem?_eq_none_iff]; omega) fun h' eb => ?_)
    have I1 : Inv X pins σ H { s with heap := h' } := I.turned (t' := s.toks) (fun b o hb e => eb b o hb e) f0 f1 f3 f4 f5
    have hdr : ds.drop i = [] := List.drop_eq_nil_of_le (by omega)
    have := q _ I1
    rw [hdr] at this
    exact wpAny_bind (wpAny_rule (wpAny_pure this))
  | succ m ih =>
    intro i s hm I st da q
    have hlv : kvs.length = vs.length := Paired.length kv
    have hf' := hf
    obtain ⟨f0, f1, f2, f3, f4, f5⟩ := hf
    obtain ⟨⟨k, v⟩, hkv⟩ : ∃ p, kvs[i]? = some p := ⟨_, List.getElem?_eq_getElem (show i < kvs.length by omega)⟩
    obtain ⟨u, hu', ru⟩ := kv_get kv hkv
    obtain ⟨p, hp, dp, sp⟩ := hv i k v hkv
    unfold Builtin.«proto.contains_iter»
    rw [hlv] at st
    refine wpAny_bind (wpAny_pyNext_values_item st da hu' fun h' st' sb => ?_)
    have I1 : Inv X pins σ H { s with heap := h' } := I.turned (t' := s.toks) (fun b ob hb e => (sb.2 b hb).trans e) f0 f1 f3 f4 f5
    have hne : d ≠ it := fun z => by rw [z, f0] at hd; cases hd
    have da' : ({ s with heap := h' } : Shared).heap.DictAt (mixKind X.prog X.w) d vs ep := by
      obtain ⟨o, es, ho, rest⟩ := da
      exact ⟨o, es, (sb.2 d hne).trans ho, rest⟩
    rw [← hlv] at st'
    obtain ⟨as, r1⟩ := Dp.reads I1 p v u dp ru
    obtain ⟨bs, r2⟩ := Dp.reads I1 pd y x dy ry
    have hmin : A.in1.units + min p.depth pd.depth < cLine := by
      have := SeqAt.depth_of_shaped sp
      show A.units + 1 + min p.depth pd.depth < cLine
      omega
    refine wpAny_bind (SeqAt.eqAt_reads p pd A.in1 _ _ _ _ _ r1 r2 (SeqAt.canLay_of_shaped sp) (SeqAt.canLay_of_shaped sy) hmin _ _ _ _ ?_)
    have hdr : ds.drop i = p :: ds.drop (i + 1) := drop_at hp
    rw [hdr] at q
    cases hb : PyData.eqv p pd with
    | true =>
      have := q _ I1
      simp only [List.any_cons, hb, Bool.true_or] at this
      exact wpAny_bind (wpAny_rule (wpAny_pure this))
    | false =>
      simp only [List.any_cons, hb, Bool.false_or] at q
      exact wpAny_pure ⟨plainId_quiet plain_ci _, codeAny_builtin entry_ci (by
        rw [Around.under_plainId plain_ci _]
        exact ih (i + 1) _ (by omega) I1 st' da' q)⟩
/-- x in d.values() -/
def rInVals (K : PySem.W.Frag) (neg : Bool) : R2 := fun y v H Q => ∃ (p d : Addr) (kvs : List (Key × V)) (pd : PyData) (ds : List PyData), v = .ref p ∧ H p = some (valuesO p d) ∧ H d = some (.dK kvs) ∧ Dp K H y pd ∧ SeqAt.shaped pd = true ∧ ds.length = kvs.length ∧
  (∀ (i : Nat) (k : Key) (v : V), kvs[i]? = some (k, v) → ∃ p, ds[i]? = some p ∧ Dp K H v p ∧ SeqAt.shaped p = true) ∧ Q (.bl ((ds.any fun z => PyData.eqv z pd) != neg)) H
theorem contains_vals (hc : X.calm = true) (hu : X.A.units + 65 < cLine) {pins : List (Addr × Obj)} {s : Shared} {σ : L2.St} {H : Hp} {y : V} {x : Value} {p d : Addr} {kvs : List (Key × V)} {pd : PyData} {ds : List PyData} {Q : Bool → Shared → Prop} (I : Inv X pins σ H s) (ry : RelV y x)
    (hp : H p = some (valuesO p d)) (hd : H d = some (.dK kvs)) (dy : Dp X.K H y pd) (sy : SeqAt.shaped pd = true) (hl : ds.length = kvs.length)
    (hv : ∀ (i : Nat) (k : Key) (v : V), kvs[i]? = some (k, v) → ∃ p, ds[i]? = some p ∧ Dp X.K H v p ∧ SeqAt.shaped p = true) (q : ∀ s', Inv X pins σ H s' → Q (ds.any fun z => PyData.eqv z pd) s') :
    wpAny (model X.prog X.w) X.A (contains (.ref p) x) Q X.xe s := by
  have view : s.heap.IsValuesView p d := (show ObjOk X.prog X.w H s.heap p (valuesO p d) from I.hok p _ hp).1
  have hT := view.typeIs (s := s)
  obtain ⟨z, hds, vs, kv, ⟨o, es, ep, ho, hx, hdat, hr⟩⟩ := dk_of I.hok hd
  have da : s.heap.DictAt (mixKind X.prog X.w) d vs ep := ⟨o, es, ho, hx, hdat, hr⟩
  unfold contains
  refine wpAny_holding ?_
  rw [stdlibNamesSay?_of_typeIs hT]
  refine wpAny_bind (wpAny_specialOf hT noslot_vals ?_)
  show wpAny _ _ (if ((none : Option Value) == some Value.none) = true then _ else _) _ _ s
  rw [if_neg (by simp)]
  refine wpAny_bind (wpAny_callSpecialUnlessNone?_none hT noslot_vals ?_)
  refine wpAny_bind (wpAny_rule ?_)
  refine wpAny_bind (wpAny_tryCatch (wpAny_pyIter_values view da ?_))
  have hlv : kvs.length = vs.length := Paired.length kv
  have I2 : Inv X pins σ H { s with heap := s.heap.push { cls := .type "dict_valueiterator", data := .fields #[.ref d, .int 0 0, .int vs.length 0, .int ep 0] } } := I.kept (t' := s.toks) fun b ob q => Heap.get?_push_of_some _ q
  refine wpAny_bind (wpAny_runValue (codeAny_builtin entry_ci ?_))
  rw [Around.under_plainId plain_ci _]
  refine wpAny_mono (ci_loop (R := fun r s' => match r with
    | .ok (.ret v) => wpAny (model X.prog X.w) X.A (match v with
      | .bool b => pure b
      | _ => unsupported "internal:contains") Q X.xe s'
    | .ok _ => False
    | .error e => X.xe e s') (it := s.heap.objs.size) (d := d) (vs := vs) (ep := ep) (I.fpOk (Nat.le_refl _) (I.hok.fresh (Nat.le_refl _))) hd kv ry dy sy hv hl (I.ok.hd hc) hu kvs.length 0 _ (by omega) I2 ?_ (da.push _) fun s' I' => ?_) (fun fin s' h => by cases fin <;> exact h) fun e s' h => h
  · rw [hlv]
    exact ⟨_, Heap.get?_push_size _ rfl, rfl, rfl⟩
  · exact wpAny_pure (q s' I')
theorem op_in_vals (hc : X.calm = true) (hu : X.A.units + 65 < cLine) : OpR X (compareOp .In) (rInVals X.K false) := by
  intro pins s σ H x y v u Q I rx ry h
  obtain ⟨p, d, kvs, pd, ds, rfl, hp, hd, dy, sy, hl, hv, q⟩ := h
  obtain rfl : u = Value.ref p := ry
  show wpAny _ _ (do return Value.bool (← contains (Value.ref p) v)) _ _ s
  exact wpAny_bind (contains_vals hc hu I rx hp hd dy sy hl hv fun s' I' => wpAny_pure ⟨.bl _, H, I', rfl, by simpa using q⟩)
theorem op_notIn_vals (hc : X.calm = true) (hu : X.A.units + 65 < cLine) : OpR X (compareOp .NotIn) (rInVals X.K true) := by
  intro pins s σ H x y v u Q I rx ry h
  obtain ⟨p, d, kvs, pd, ds, rfl, hp, hd, dy, sy, hl, hv, q⟩ := h
  obtain rfl : u = Value.ref p := ry
  show wpAny _ _ (do return Value.bool (!(← contains (Value.ref p) v))) _ _ s
  exact wpAny_bind (contains_vals hc hu I rx hp hd dy sy hl hv fun s' I' => wpAny_pure ⟨.bl (!_), H, I', rfl, by simpa using q⟩)
/-- e in d.values() -/
def dInVals (neg : Bool) (ta td : DTE) : DTE := fun sd G Q => ta sd G fun e G1 => td sd G1 fun d G2 => match d with
  | .ref a => ∃ kvs, G2 a = some (.dict false kvs) ∧ (kvs.all (fun kv => dat 20 kv.2) && dat 20 e) = true ∧ Q (.bl ((kvs.any fun kv => peq kv.2 e) != neg)) G2
  | _ => False
theorem in_vals_at {K : PySem.W.Frag} {H : Hp} {G : Gp} {e : D} {a : Addr} {y : V} {kvs : List (D × D)} (r : Rel H e y) (R : Rep K B H G) (g : G a = some (.dict false kvs)) (h : (kvs.all (fun kv => dat 20 kv.2) && dat 20 e) = true) {p : Addr} (hp : H p = none) {P : VK} {neg : Bool} (q : P (.bl ((kvs.any fun kv => peq kv.2 e) != neg)) (upd H p (valuesO p a))) :
    ∃ ks : List (Key × V), H a = some (.dK ks) ∧ rInVals K neg y (.ref p) (upd H p (valuesO p a)) P := by
  obtain ⟨z1, z2⟩ := Bool.and_eq_true_iff.mp h
  rw [List.all_eq_true] at z1
  obtain ⟨z, ks, h1, h2, h3⟩ := R.at_ a _ g
  have hne : a ≠ p := fun z => by rw [z, hp] at h1; cases h1
  have k : Kp H (upd H p (valuesO p a)) := .fresh hp
  obtain ⟨d1, d2⟩ := dat_dp' (K := K) z2 (r.mono k)
  have hl : kvs.length = ks.length := by simpa using congrArg List.length h2
  refine ⟨ks, h1, p, a, ks, toPD e, kvs.map (fun kv => toPD kv.2), rfl, upd_same, by rw [upd_ne hne]; exact h1, d1, d2, by simp [hl], fun i key v hi => ?_, ?_⟩
  · have hi' : i < kvs.length := by have := (List.getElem?_eq_some_iff.mp hi).1; omega
    have e1 : (kvs.map (·.2))[i]? = some (kvs[i].2) := by rw [List.getElem?_map, List.getElem?_eq_getElem hi']; rfl
    obtain ⟨v', e2, rv⟩ := h3.get i e1
    rw [List.getElem?_map, hi] at e2
    cases e2
    obtain ⟨c1, c2⟩ := dat_dp' (K := K) (z1 _ (List.getElem_mem hi')) (rv.mono k)
    exact ⟨_, by rw [List.getElem?_map, List.getElem?_eq_getElem hi']; rfl, c1, c2⟩
  · rw [List.any_map]
    exact q
variable {e o : Expr} {ta td : DTE} {pos apos cpos : Pos}
theorem de_inVals (hc : X.calm = true) (hu : X.A.units + 65 < cLine) (ha : DE X B e ta) (hd : DE X B o td)
    (hbase : attributeBase o "values" X.env (eval o X.env) = eval o X.env := by rfl) (hline : (apos.endLine == cpos.line) = true := by rfl) (hm : behindInMarks .In (.Call (.Attribute o "values" apos) [] [] cpos) = false := by first | exact nobehind _ (by decide) (by decide) | rfl) :
    DE X B (.Compare e [.In] [.Call (.Attribute o "values" apos) [] [] cpos] pos) (dInVals false ta td) := by
  obtain ⟨ta', pa, ha⟩ := ha.ex
  obtain ⟨td', pd, hd⟩ := hd.ex
  refine ⟨_, pe_cmpR (op_in_vals hc hu) pa (pe_bm0 PySem.F.plainAttrs_dict PySem.F.slot_dict_values PySem.F.type_dict_values mt_valsK pd hbase hline) hm, fun σ H sd G Q P hS R t hp => ?_⟩
  refine ha σ H sd G _ _ hS R t fun v d H1 G1 k1 r1 R1 q1 => ?_
  refine hd σ H1 sd G1 _ _ (hS.mono k1) R1 q1 fun v2 d2 H2 G2 k2 r2 R2 q2 => ?_
  cases d2 with
  | ref a =>
    cases r2
    obtain ⟨kvs, g, z, q⟩ := q2
    obtain ⟨_, ks, h1, _⟩ := R2.at_ a _ g
    refine ⟨?_, a, ks, rfl, rfl, h1, fun p hn => ?_⟩
    · exact .inr (.inr (.inl ⟨rfl, .inl ⟨_, h1⟩⟩))
    · exact (in_vals_at (r1.mono k2) R2 g z hn (hp _ (.bl _) _ G2 ((k1.trans k2).trans (.fresh hn)) rfl (R2.fresh hn) q)).choose_spec.2
  | _ => exact (show False from q2).elim
theorem dt_inVals (hc : X.calm = true) (hu : X.A.units + 65 < cLine) (ha : DE X B e ta) (hd : DE X B o td)
    (hbase : attributeBase o "values" X.env (eval o X.env) = eval o X.env := by rfl) (hline : (apos.endLine == cpos.line) = true := by rfl) (hm : behindInMarks .In (.Call (.Attribute o "values" apos) [] [] cpos) = false := by first | exact nobehind _ (by decide) (by decide) | rfl) :
    DT X B (.Compare e [.In] [.Call (.Attribute o "values" apos) [] [] cpos] pos) (dTest (dInVals false ta td)) := by
  obtain ⟨ta', pa, ha⟩ := ha.ex
  obtain ⟨td', pd, hd⟩ := hd.ex
  refine ⟨_, pt_cmpR (op_in_vals hc hu) pa (pe_bm0 PySem.F.plainAttrs_dict PySem.F.slot_dict_values PySem.F.type_dict_values mt_valsK pd hbase hline) hm, fun σ H sd G Q P hS R t hp => ?_⟩
  refine ha σ H sd G _ _ hS R t fun v d H1 G1 k1 r1 R1 q1 => ?_
  refine hd σ H1 sd G1 _ _ (hS.mono k1) R1 q1 fun v2 d2 H2 G2 k2 r2 R2 q2 => ?_
  cases d2 with
  | ref a =>
    cases r2
    obtain ⟨kvs, g, z, q⟩ := q2
    obtain ⟨_, ks, h1, _⟩ := R2.at_ a _ g
    refine ⟨?_, a, ks, rfl, rfl, h1, fun p hn => ?_⟩
    · exact .inr (.inr (.inl ⟨rfl, .inl ⟨_, h1⟩⟩))
    · exact (in_vals_at (r1.mono k2) R2 g z hn ((post_bl hp) _ (.bl _) _ G2 ((k1.trans k2).trans (.fresh hn)) rfl (R2.fresh hn) q)).choose_spec.2
  | _ => exact (show False from q2).elim
theorem de_notInVals (hc : X.calm = true) (hu : X.A.units + 65 < cLine) (ha : DE X B e ta) (hd : DE X B o td)
    (hbase : attributeBase o "values" X.env (eval o X.env) = eval o X.env := by rfl) (hline : (apos.endLine == cpos.line) = true := by rfl) (hm : behindInMarks .NotIn (.Call (.Attribute o "values" apos) [] [] cpos) = false := by first | exact nobehind _ (by decide) (by decide) | rfl) :
    DE X B (.Compare e [.NotIn] [.Call (.Attribute o "values" apos) [] [] cpos] pos) (dInVals true ta td) := by
  obtain ⟨ta', pa, ha⟩ := ha.ex
  obtain ⟨td', pd, hd⟩ := hd.ex
  refine ⟨_, pe_cmpR (op_notIn_vals hc hu) pa (pe_bm0 PySem.F.plainAttrs_dict PySem.F.slot_dict_values PySem.F.type_dict_values mt_valsK pd hbase hline) hm, fun σ H sd G Q P hS R t hp => ?_⟩
  refine ha σ H sd G _ _ hS R t fun v d H1 G1 k1 r1 R1 q1 => ?_
  refine hd σ H1 sd G1 _ _ (hS.mono k1) R1 q1 fun v2 d2 H2 G2 k2 r2 R2 q2 => ?_
  cases d2 with
  | ref a =>
    cases r2
    obtain ⟨kvs, g, z, q⟩ := q2
    obtain ⟨_, ks, h1, _⟩ := R2.at_ a _ g
    refine ⟨?_, a, ks, rfl, rfl, h1, fun p hn => ?_⟩
    · exact .inr (.inr (.inl ⟨rfl, .inl ⟨_, h1⟩⟩))
    · exact (in_vals_at (r1.mono k2) R2 g z hn (hp _ (.bl _) _ G2 ((k1.trans k2).trans (.fresh hn)) rfl (R2.fresh hn) q)).choose_spec.2
  | _ => exact (show False from q2).elim
theorem dt_notInVals (hc : X.calm = true) (hu : X.A.units + 65 < cLine) (ha : DE X B e ta) (hd : DE X B o td)
    (hbase : attributeBase o "values" X.env (eval o X.env) = eval o X.env := by rfl) (hline : (apos.endLine == cpos.line) = true := by rfl) (hm : behindInMarks .NotIn (.Call (.Attribute o "values" apos) [] [] cpos) = false := by first | exact nobehind _ (by decide) (by decide) | rfl) :
    DT X B (.Compare e [.NotIn] [.Call (.Attribute o "values" apos) [] [] cpos] pos) (dTest (dInVals true ta td)) := by
  obtain ⟨ta', pa, ha⟩ := ha.ex
  obtain ⟨td', pd, hd⟩ := hd.ex
  refine ⟨_, pt_cmpR (op_notIn_vals hc hu) pa (pe_bm0 PySem.F.plainAttrs_dict PySem.F.slot_dict_values PySem.F.type_dict_values mt_valsK pd hbase hline) hm, fun σ H sd G Q P hS R t hp => ?_⟩
  refine ha σ H sd G _ _ hS R t fun v d H1 G1 k1 r1 R1 q1 => ?_
  refine hd σ H1 sd G1 _ _ (hS.mono k1) R1 q1 fun v2 d2 H2 G2 k2 r2 R2 q2 => ?_
  cases d2 with
  | ref a =>
    cases r2
    obtain ⟨kvs, g, z, q⟩ := q2
    obtain ⟨_, ks, h1, _⟩ := R2.at_ a _ g
    refine ⟨?_, a, ks, rfl, rfl, h1, fun p hn => ?_⟩
    · exact .inr (.inr (.inl ⟨rfl, .inl ⟨_, h1⟩⟩))
    · exact (in_vals_at (r1.mono k2) R2 g z hn ((post_bl hp) _ (.bl _) _ G2 ((k1.trans k2).trans (.fresh hn)) rfl (R2.fresh hn) q)).choose_spec.2
  | _ => exact (show False from q2).elim
end
def invD (neg : Bool) (e d : D) (G2 : Gp) (Q : DQ) : Prop := match d with
  | .ref a => ∃ kvs, G2 a = some (.dict false kvs) ∧ (kvs.all (fun kv => dat 20 kv.2) && dat 20 e) = true ∧ Q (.bl ((kvs.any fun kv => peq kv.2 e) != neg)) G2
  | _ => False
def invO (neg : Bool) (e : D) (o : Option DO) (G2 : Gp) (Q : DQ) : Prop := ∃ kvs, o = some (.dict false kvs) ∧ (kvs.all (fun kv => dat 20 kv.2) && dat 20 e) = true ∧ Q (.bl ((kvs.any fun kv => peq kv.2 e) != neg)) G2
@[simp ↓] theorem dInVals_app {neg ta td sd G Q} : dInVals neg ta td sd G Q = ta sd G fun e G1 => td sd G1 fun d G2 => invD neg e d G2 Q := (rfl)
@[simp] theorem invD_ref {neg e a G2 Q} : invD neg e (.ref a) G2 Q = invO neg e (G2 a) G2 Q := (rfl)
@[simp] theorem invO_is {neg e kvs G2 Q} : invO neg e (some (.dict false kvs)) G2 Q = ((kvs.all (fun kv => dat 20 kv.2) && dat 20 e) = true ∧ Q (.bl ((kvs.any fun kv => peq kv.2 e) != neg)) G2) := propext ⟨fun ⟨_, e, h⟩ => by cases e; exact h, fun h => ⟨_, rfl, h⟩⟩
end DL
set_option Elab.async false
set_option linter.all false
set_option maxRecDepth 100000
set_option maxHeartbeats 4000000
/-! zip of a tuple and a text, of a text and a list -/
namespace DL
open PySem PySem.Spec PyProof.Rows L2
def ItG (G1 G2 : List V → Hp → Prop) : It :=
  ⟨fun i H => ∃ xs ys, G1 xs H ∧ G2 ys H ∧ i < xs.length ∧ i < ys.length,
   fun i H v H' => ∃ T x y, v = .ref T ∧ H T = none ∧ H' = upd H T (.tup [x, y]) ∧ (∀ xs, G1 xs H → xs[i]? = some x) ∧ ∀ ys, G2 ys H → ys[i]? = some y,
   fun i H => ∃ xs ys, G1 xs H ∧ G2 ys H ∧ (i = xs.length ∨ i = ys.length) ∧ i ≤ xs.length ∧ i ≤ ys.length⟩
/-- one side of a zip -/
structure Side (P : Program) (w : World) (K : PySem.W.Frag) (it : Addr) (fp : List Addr) (Gd : List V → Hp → Prop) (Pv : List V → Nat → Value → Prop) (St : List V → Nat → Heap → Prop) (T : Nat → Heap → Prop) : Prop where
  draws : ∀ (xs : List V) (A : Around), A.handled = none → Draws P w A it fp xs.length (Pv xs) (St xs)
  rel : ∀ xs i u, Pv xs i u → ∃ x, xs[i]? = some x ∧ RelV x u
  up : ∀ (X : Cx) (pins : List (Addr × Obj)) (σ : L2.St) (H : Hp) (s : Shared) (i : Nat) (xs : List V), X.prog = P → X.w = w → X.K = K → Inv X pins σ H s → Gd xs H → T i s.heap → St xs i s.heap
  inj : ∀ (X : Cx) (pins : List (Addr × Obj)) (σ : L2.St) (H : Hp) (s : Shared) (xs ys : List V), X.prog = P → X.w = w → X.K = K → Inv X pins σ H s → Gd xs H → Gd ys H → xs = ys
  dn : ∀ xs i h, St xs i h → T i h
  at_ : ∀ i h h', T i h → (∀ o, h.get? it = some o → h'.get? it = some o) → T i h'
  obj : ∀ i h, T i h → ∃ o, h.get? it = some o ∧ ∀ v, o.data ≠ .cell v
theorem turn_zipG {P : Program} {w : World} {K : PySem.W.Frag} {elts : List Expr} {kk : Nat} {tpos : Pos} {z TI TO i1 i2 : Addr} {fp1 fp2 : List Addr} {G1 G2 : List V → Hp → Prop} {P1 P2 : List V → Nat → Value → Prop} {St1 St2 : List V → Nat → Heap → Prop} {T1 T2 : Nat → Heap → Prop}
    (D : ZipSep2 z TI TO i1 i2 fp1 fp2) (A1 : Side P w K i1 fp1 G1 P1 St1 T1) (A2 : Side P w K i2 fp2 G2 P2 St2 T2) (hii : i1 ≠ i2) :
    Turn P w K (.Tuple elts kk tpos) (ItG G1 G2) [z, TI, TO, i1, i2] z (fun i h => IsZip h z TI TO .none ∧ IsTupOf2 h TI (.ref i1) (.ref i2) ∧ (∃ x y, IsTupOf2 h TO x y) ∧ T1 i h ∧ T2 i h) where
  mem := by simp
  obj := fun i h st c hc => by
    obtain ⟨hz, hTI, ⟨x, y, hTO⟩, h1, h2⟩ := st
    have e' : c = z ∨ c = TI ∨ c = TO ∨ c = i1 ∨ c = i2 := by simpa using hc
    rcases e' with q | q | q | q | q
    · rw [q]; exact ⟨_, hz, fun v q => nomatch q⟩
    · rw [q]; exact ⟨_, hTI, fun v q => nomatch q⟩
    · rw [q]; exact ⟨_, hTO, fun v q => nomatch q⟩
    · rw [q]; exact A1.obj i h h1
    · rw [q]; exact A2.obj i h h2
  keep := fun i h h' st k => by
    obtain ⟨hz, hTI, ⟨x, y, hTO⟩, h1, h2⟩ := st
    exact ⟨k z (by simp) _ hz, k TI (by simp) _ hTI, ⟨x, y, k TO (by simp) _ hTO⟩, A1.at_ i h h' h1 fun o q => k i1 (by simp) o q, A2.at_ i h h' h2 fun o q => k i2 (by simp) o q⟩
  item := by
    intro X hP hw hK hc i pins s σ H E I hf st hg
    subst hP hw hK
    obtain ⟨hz, hTI, ⟨x0, y0, hTO⟩, h1, h2⟩ := st
    obtain ⟨xs, ys, g1, g2, l1, l2⟩ := hg
    have hh : X.A.in1.handled = none := I.ok.hd hc
    have hzl : z < s.heap.objs.size := Heap.lt_size hz
    refine wpAny_pyNext_zipD2_item D (A1.draws xs _ hh) (A2.draws ys _ hh) hz hTI hTO (A1.up X pins σ H s i xs rfl rfl rfl I g1 h1) (A2.up X pins σ H s i ys rfl rfl rfl I g2 h2) l1 l2 fun u u2 h' tk p1 p2 z' TO' s1 s2 hT hsz hk => ?_
    obtain ⟨x, hx, ru⟩ := A1.rel xs i u p1
    obtain ⟨y, hy, ru2⟩ := A2.rel ys i u2 p2
    refine ⟨_, rfl, wpAny_letOwnedTupleGo_zip (s := { s with heap := h', toks := tk }) z' fun h'' z'' sb => ?_⟩
    have hT2 : h''.get? s.heap.objs.size = some { cls := .type "tuple", data := .seq #[u, u2] } := (sb.2 _ (Nat.ne_of_gt hzl)).trans hT
    have new : ObjOk X.prog X.w (upd H s.heap.objs.size (.tup [x, y])) h'' s.heap.objs.size (.tup [x, y]) :=
      ⟨by show 2 ≤ sizeLine; decide, [u, u2], .cons ru (.cons ru2 .nil), ⟨_, hT2, rfl, _, rfl⟩⟩
    have I1 : Inv X pins σ (upd H s.heap.objs.size (.tup [x, y])) { s with heap := h'', toks := tk } :=
      I.turnedNew (t' := tk) (ch := [z, TI, TO, i1, i2]) (fun c o hb q => (sb.2 c (fun q' => hb (by simp [q']))).trans (hk c o (fun q' => hb (by simp [q'])) (fun q' => hb (by simp [q'])) (fun q' => hb (by simp [q'])) (fun q' => hb (by simp [q'])) q)) hf (Nat.le_refl _) new
    refine ⟨.ref s.heap.objs.size, _, I1, rfl, ⟨_, x, y, rfl, I.hok.fresh (Nat.le_refl _), rfl, fun l hl => by rw [A1.inj X pins σ H s l xs rfl rfl rfl I hl g1]; exact hx, fun l hl => by rw [A2.inj X pins σ H s l ys rfl rfl rfl I hl g2]; exact hy⟩, ⟨z'', ?_, ⟨u, u2, ?_⟩, ?_, ?_⟩, fun c hcm => ?_⟩
    · exact (sb.2 _ D.TIz).trans (hk _ _ D.TIz D.TITO D.TIi1 D.TIi2 hTI)
    · exact (sb.2 _ D.TOz).trans TO'
    · exact A1.at_ _ _ _ (A1.dn _ _ _ s1) fun o q => (sb.2 _ (Ne.symm D.zi1)).trans q
    · exact A2.at_ _ _ _ (A2.dn _ _ _ s2) fun o q => (sb.2 _ (Ne.symm D.zi2)).trans q
    · have hlt : c < s.heap.objs.size := by
        have e' : c = z ∨ c = TI ∨ c = TO ∨ c = i1 ∨ c = i2 := by simpa using hcm
        rcases e' with q | q | q | q | q
        · rw [q]; exact hzl
        · rw [q]; exact Heap.lt_size hTI
        · rw [q]; exact Heap.lt_size hTO
        · rw [q]; obtain ⟨_, e1, _⟩ := A1.obj i _ h1; exact Heap.lt_size e1
        · rw [q]; obtain ⟨_, e1, _⟩ := A2.obj i _ h2; exact Heap.lt_size e1
      rw [upd_ne (Nat.ne_of_lt hlt)]
      exact (hf c hcm).1
  done := by
    intro X hP hw hK hc i pins s σ H E I hf st hg
    subst hP hw hK
    obtain ⟨hz, hTI, ⟨x0, y0, hTO⟩, h1, h2⟩ := st
    obtain ⟨xs, ys, g1, g2, he, l1, l2⟩ := hg
    have hh : X.A.in1.handled = none := I.ok.hd hc
    exact wpAny_pyNext_zipD2_end D (A1.draws xs _ hh) (A2.draws ys _ hh) hz hTI hTO (A1.up X pins σ H s i xs rfl rfl rfl I g1 h1) (A2.up X pins σ H s i ys rfl rfl rfl I g2 h2) l1 l2 he fun h' tk hk => ⟨rfl, I.turnedL (t' := tk) (ch := [z, TI, TO, i1, i2]) (fun c o hb q =>
      hk c o (fun q' => hb (by simp [q'])) (fun q' => hb (by simp [q'])) (fun q' => hb (by simp [q'])) (fun q' => hb (by simp [q'])) q) hf⟩
  self := fun A i s Q E st h => wpAny_pyIter_zip st.1 h
/-! ### sides -/
def signsV (x : Str) : List V := x.cps.toList.map fun c => .str ⟨#[c]⟩
theorem side_text {P : Program} {w : World} {K : PySem.W.Frag} {it : Addr} {x : Str} {t : Tok} : Side P w K it [it] (fun xs _ => xs = signsV x) (fun xs i v => xs = signsV x ∧ ∃ c u, x.cps[i]? = some c ∧ v = .str ⟨#[c]⟩ u) (fun xs i h => xs = signsV x ∧ h.IsStrIter it (strIterType x) x t i) (fun i h => h.IsStrIter it (strIterType x) x t i) where
  draws := fun xs A hh => by
    have key : Draws P w A it [it] x.cps.size (fun i v => ∃ c u, x.cps[i]? = some c ∧ v = .str ⟨#[c]⟩ u) (fun i h => h.IsStrIter it (strIterType x) x t i) := by
      by_cases ha : x.cps.all (· < 128) = true
      · have e : strIterType x = "str_ascii_iterator" := by simp [strIterType, ha]
        rw [e]
        exact Draws.strAscii hh it x t
      · have e : strIterType x = "str_iterator" := by simp [strIterType, ha]
        rw [e]
        exact Draws.strWide hh it x t
    have hl : (signsV x).length = x.cps.size := by simp [signsV]
    exact {
      live := fun i h st => key.live i h st.2
      frame := fun i h h' st hk => ⟨st.1, key.frame i h h' st.2 hk⟩
      item := fun i s Q E hi st hQ => key.item i s Q E (by have := st.1; subst this; omega) st.2 fun u h' tk hu st' sb => hQ u h' tk ⟨st.1, hu⟩ ⟨st.1, st'⟩ sb
      done := fun s Q E st hE => key.done s Q E (by have := st.1; subst this; rw [← hl]; exact st.2) hE }
  rel := fun xs i u ⟨ex, c, k, e, hu⟩ => ⟨.str ⟨#[c]⟩, by subst ex; simp [signsV, e], by subst hu; exact ⟨k, rfl⟩⟩
  up := fun _ _ _ _ _ _ _ _ _ _ _ g st => ⟨g, st⟩
  inj := fun _ _ _ _ _ _ _ _ _ _ _ g g' => g.trans g'.symm
  dn := fun _ _ _ st => st.2
  at_ := fun i h h' st k => by
    obtain ⟨o, ho, r⟩ := st
    exact ⟨o, k o ho, r⟩
  obj := fun i h st => by
    obtain ⟨o, ho, hc, hd⟩ := st
    exact ⟨o, ho, fun v z => by rw [hd] at z; cases z⟩
theorem side_tuple {P : Program} {w : World} {K : PySem.W.Frag} {it a : Addr} (hne : a ≠ it) : Side P w K it [it, a] (fun xs H => SqT K H a xs) (fun xs i v => ∃ x, xs[i]? = some x ∧ RelV x v) (fun xs i h => h.IsTupleIter it a i ∧ ∃ items : List Value, Vals xs items ∧ h.IsTuple a items.toArray) (fun i h => h.IsTupleIter it a i) where
  draws := fun xs A hh => {
    live := fun _ _ st => let ⟨o, ho, _⟩ := st.1; ⟨o, ho⟩
    frame := fun i h h' st hk => by
      obtain ⟨⟨o, ho, r⟩, items, v, o2, ho2, r2⟩ := st
      exact ⟨⟨o, hk it (by simp) o ho, r⟩, items, v, o2, hk a (by simp) o2 ho2, r2⟩
    item := fun i s Q E hi st hQ => by
      obtain ⟨st1, items, v, st2⟩ := st
      have hl : items.toArray.size = xs.length := by simpa using v.length.symm
      refine (Draws.tuple hh it a hne items.toArray).item i s Q E (by omega) ⟨st1, st2⟩ fun u h' tk hu st' sb => ?_
      obtain ⟨x, hx⟩ : ∃ x, xs[i]? = some x := ⟨_, List.getElem?_eq_getElem hi⟩
      obtain ⟨u', hu', ru⟩ := v.get hx
      have e : u' = u := by
        have h2 : items[i]? = some u := by simpa using hu
        rw [hu'] at h2
        exact Option.some.inj h2
      subst e
      exact hQ u' h' tk ⟨x, hx, ru⟩ ⟨st'.1, items, v, st'.2⟩ sb
    done := fun s Q E st hE => by
      obtain ⟨st1, items, v, st2⟩ := st
      have hl : items.toArray.size = xs.length := by simpa using v.length.symm
      refine (Draws.tuple hh it a hne items.toArray).done s Q E ?_ hE
      rw [hl]
      exact ⟨st1, st2⟩ }
  rel := fun xs i u h => h
  up := fun X pins σ H s i xs hP hw hK I g st => by
    subst hP hw hK
    obtain ⟨its, rv, ⟨o, ho, hc, n, hd⟩, _⟩ := I.tuple g
    exact ⟨st, its, rv, o, ho, hc, n, hd⟩
  inj := fun X pins σ H s xs ys hP hw hK I g g' => by
    subst hP hw hK
    exact I.tuple_inj g g'
  dn := fun _ _ _ st => st.1
  at_ := fun i h h' st k => by
    obtain ⟨o, ho, r⟩ := st
    exact ⟨o, k o ho, r⟩
  obj := fun i h st => by
    obtain ⟨o, ho, hc, hd⟩ := st
    exact ⟨o, ho, fun v z => by rw [hd] at z; cases z⟩
theorem side_list {P : Program} {w : World} {K : PySem.W.Frag} {it a : Addr} (hne : a ≠ it) : Side P w K it [it, a] (fun xs H => SqL K H a xs) (fun xs i v => ∃ x, xs[i]? = some x ∧ RelV x v) (fun xs i h => h.IsListIter it a i ∧ ∃ items : List Value, Vals xs items ∧ h.IsList a items.toArray) (fun i h => h.IsListIter it a i) where
  draws := fun xs A hh => {
    live := fun _ _ st => let ⟨o, ho, _⟩ := st.1; ⟨o, ho⟩
    frame := fun i h h' st hk => by
      obtain ⟨⟨o, ho, r⟩, items, v, o2, ho2, r2⟩ := st
      exact ⟨⟨o, hk it (by simp) o ho, r⟩, items, v, o2, hk a (by simp) o2 ho2, r2⟩
    item := fun i s Q E hi st hQ => by
      obtain ⟨st1, items, v, st2⟩ := st
      have hl : items.toArray.size = xs.length := by simpa using v.length.symm
      refine (Draws.list hh it a hne items.toArray).item i s Q E (by omega) ⟨st1, st2⟩ fun u h' tk hu st' sb => ?_
      obtain ⟨x, hx⟩ : ∃ x, xs[i]? = some x := ⟨_, List.getElem?_eq_getElem hi⟩
      obtain ⟨u', hu', ru⟩ := v.get hx
      have e : u' = u := by
        have h2 : items[i]? = some u := by simpa using hu
        rw [hu'] at h2
        exact Option.some.inj h2
      subst e
      exact hQ u' h' tk ⟨x, hx, ru⟩ ⟨st'.1, items, v, st'.2⟩ sb
    done := fun s Q E st hE => by
      obtain ⟨st1, items, v, st2⟩ := st
      have hl : items.toArray.size = xs.length := by simpa using v.length.symm
      refine (Draws.list hh it a hne items.toArray).done s Q E ?_ hE
      rw [hl]
      exact ⟨st1, st2⟩ }
  rel := fun xs i u h => h
  up := fun X pins σ H s i xs hP hw hK I g st => by
    subst hP hw hK
    obtain ⟨its, rv, p, _⟩ := I.list g
    exact ⟨st, its, rv, p.isList⟩
  inj := fun X pins σ H s xs ys hP hw hK I g g' => by
    subst hP hw hK
    exact I.list_inj g g'
  dn := fun _ _ _ st => st.1
  at_ := fun i h h' st k => by
    obtain ⟨o, ho, r⟩ := st
    exact ⟨o, k o ho, r⟩
  obj := fun i h st => by
    obtain ⟨o, ho, hc, hd⟩ := st
    exact ⟨o, ho, fun v z => by rw [hd] at z; cases z⟩
def iZipTS (K : PySem.W.Frag) (ta : TA) : TI := fun σ H R => ta σ H fun vs H1 => ∃ a z xs, vs = [.ref a, .str z] ∧ SqT K H1 a xs ∧ R (ItG (fun xs H => SqT K H a xs) fun ys _ => ys = signsV z) H1
def iZipSL (K : PySem.W.Frag) (ta : TA) : TI := fun σ H R => ta σ H fun vs H1 => ∃ a z xs, vs = [.str z, .ref a] ∧ SqL K H1 a xs ∧ R (ItG (fun xs _ => xs = signsV z) fun ys H => SqL K H a ys) H1
theorem neA {a b : Addr} (h : @Ne Nat a b) : a ≠ b := h
theorem not1 {a b : Addr} (h : @Ne Nat a b) : a ∉ [b] := by
  rw [List.mem_singleton]
  exact h
theorem not2 {a b c : Addr} (h : @Ne Nat a b) (h' : @Ne Nat a c) : a ∉ [b, c] := by
  rw [List.mem_cons, List.mem_singleton]
  rintro (e | e)
  · exact h e
  · exact h' e
theorem zip_sep (n a : Nat) (h : a < n) : ZipSep2 (n + 4) (n + 2) (n + 3) n (n + 1) [n, a] [n + 1] :=
  ⟨neA (by omega), neA (by omega), neA (by omega), neA (by omega), by simp, not2 (by omega) (by omega), not2 (by omega) (by omega), neA (by omega), by simp, not1 (by omega), not1 (by omega), not1 (by omega), not2 (by omega) (by omega)⟩
theorem zip_sep' (n a : Nat) (h : a < n) : ZipSep2 (n + 4) (n + 2) (n + 3) n (n + 1) [n] [n + 1, a] :=
  ⟨neA (by omega), neA (by omega), neA (by omega), neA (by omega), by simp, not1 (by omega), not1 (by omega), neA (by omega), by simp, not2 (by omega) (by omega), not2 (by omega) (by omega), not2 (by omega) (by omega), not1 (by omega)⟩
theorem leA5 {n c : Nat} (h : c = n + 4 ∨ c = n + 2 ∨ c = n + 3 ∨ c = n ∨ c = n + 1) : n ≤ c := by omega
theorem ne_s (n : Nat) : @Ne Addr n (n + 1) := neA (by omega)
theorem ne_lt1 {n a : Nat} (h : a < n) : @Ne Addr a (n + 1) := neA (by omega)
section
variable {X : Cx} {e e2 : Expr} {ta : TA} {p pos tpos : Pos} {elts : List Expr} {kk : Nat}
theorem zip_fp {pins : List (Addr × Obj)} {σ : L2.St} {H : Hp} {s : Shared} (I : Inv X pins σ H s) {c : Addr} (hcm : c ∈ [s.heap.objs.size + 4, s.heap.objs.size + 2, s.heap.objs.size + 3, s.heap.objs.size, s.heap.objs.size + 1]) : FpOk X pins H c := by
  have hle : s.heap.objs.size ≤ c := by
    exact leA5 (by simpa using hcm)
  exact I.fpOk hle (I.hok.fresh hle)
theorem pi_zipTS (hg : Gl X "zip") (hm : X.mg "zip" = none) (ha : PA X [e, e2] ta)
    (hs : starEach [e, e2] X.env = (false, eval e X.env) :: starEach [e2] X.env := by rfl) (hpl : (backTo pos (starEach [e2] X.env)).any (·.1) = false := by rfl) :
    PI X (.Tuple elts kk tpos) (.Call (.Name "zip" p) [e, e2] [] pos) (iZipTS X.K ta) := by
  refine ⟨fun pins s σ H R I h => ?_⟩
  refine Call_ (ld_blt I hg hm PyProof.Rows.boot_zip (PyProof.Rows.callWith_type1 (thn (ha.run pos pins s σ H _ I h) fun us s1 ⟨vs, H1, I1, r1, q1⟩ => ?_) hs hpl))
  obtain ⟨a, z, xs, rfl, hqx, q⟩ := q1
  obtain ⟨u1, u2, rfl, ra, rz⟩ := vals2 r1
  cases ra
  obtain ⟨t, rfl⟩ := rz
  obtain ⟨its, rv, p1, _⟩ := I1.tuple hqx
  have la : a < s1.heap.objs.size := p1.lt
  have ht : s1.heap.IsTuple a its.toArray := by
    obtain ⟨o, ho, hc, n, hd⟩ := p1
    exact ⟨o, ho, hc, n, hd⟩
  refine zip_begins2 (begins_tuple a its.toArray) (begins_text z t) ht trivial fun h' hz hTI hTO h1 h2 hsz hk => wpAny_pyIter_zip hz ?_
  have I2 : Inv X pins σ H1 { s1 with heap := h' } := I1.kept (t' := s1.toks) hk
  exact ⟨s1.heap.objs.size + 4, [s1.heap.objs.size + 4, s1.heap.objs.size + 2, s1.heap.objs.size + 3, s1.heap.objs.size, s1.heap.objs.size + 1], _, _, H1, rfl, I2,
    turn_zipG (zip_sep _ a la) (side_tuple (Nat.ne_of_lt la)) (side_text (t := t)) (ne_s _), ⟨hz, hTI, ⟨_, _, hTO⟩, ⟨_, h1, rfl, rfl⟩, ⟨_, h2, rfl, rfl⟩⟩, fun c hcm => zip_fp I1 hcm, q⟩
theorem pi_zipSL (hg : Gl X "zip") (hm : X.mg "zip" = none) (ha : PA X [e, e2] ta)
    (hs : starEach [e, e2] X.env = (false, eval e X.env) :: starEach [e2] X.env := by rfl) (hpl : (backTo pos (starEach [e2] X.env)).any (·.1) = false := by rfl) :
    PI X (.Tuple elts kk tpos) (.Call (.Name "zip" p) [e, e2] [] pos) (iZipSL X.K ta) := by
  refine ⟨fun pins s σ H R I h => ?_⟩
  refine Call_ (ld_blt I hg hm PyProof.Rows.boot_zip (PyProof.Rows.callWith_type1 (thn (ha.run pos pins s σ H _ I h) fun us s1 ⟨vs, H1, I1, r1, q1⟩ => ?_) hs hpl))
  obtain ⟨a, z, xs, rfl, hqx, q⟩ := q1
  obtain ⟨u1, u2, rfl, rz, ra⟩ := vals2 r1
  cases ra
  obtain ⟨t, rfl⟩ := rz
  obtain ⟨its, rv, p1, _⟩ := I1.list hqx
  have la : a < s1.heap.objs.size := p1.lt
  refine zip_begins2 (begins_text z t) (begins_list a its.toArray) trivial p1.isList fun h' hz hTI hTO h1 h2 hsz hk => wpAny_pyIter_zip hz ?_
  have I2 : Inv X pins σ H1 { s1 with heap := h' } := I1.kept (t' := s1.toks) hk
  exact ⟨s1.heap.objs.size + 4, [s1.heap.objs.size + 4, s1.heap.objs.size + 2, s1.heap.objs.size + 3, s1.heap.objs.size, s1.heap.objs.size + 1], _, _, H1, rfl, I2,
    turn_zipG (zip_sep' _ a la) (side_text (t := t)) (side_list (ne_lt1 la)) (ne_s _), ⟨hz, hTI, ⟨_, _, hTO⟩, ⟨_, h1, rfl, rfl⟩, ⟨_, h2, rfl, rfl⟩⟩, fun c hcm => zip_fp I1 hcm, q⟩
end
end DL
set_option Elab.async false
set_option linter.all false
set_option maxRecDepth 100000
set_option maxHeartbeats 4000000
/-! zip, texts joined, cut, told; tables asked by a word -/
namespace DL
open PySem PySem.Spec L2
def zipD (xs ys : List D) : List D := List.zipWith (fun x y => .tup [x, y]) xs ys
def diZip (ta : DTA) : DTI := fun sd G R => ta sd G fun ds G1 => match ds with
  | [.tup xs, .str z] => z.length ≤ sizeLine ∧ R (zipD xs (signsD z)) (fun _ => True) G1
  | [.str z, .ref a] => ∃ xs, G1 a = some (.lst xs) ∧ z.length ≤ sizeLine ∧ R (zipD (signsD z) xs) (fun G => G a = some (.lst xs)) G1
  | _ => False
theorem zipD_at {xs ys : List D} {i : Nat} {x y : D} (h1 : xs[i]? = some x) (h2 : ys[i]? = some y) : (zipD xs ys)[i]? = some (.tup [x, y]) := by
  unfold zipD
  rw [List.getElem?_zipWith, h1, h2]
theorem zipD_len {xs ys : List D} : (zipD xs ys).length = min xs.length ys.length := by simp [zipD]
theorem signs_rel {H : Hp} {z : Str} (ok : OkS z) : RelL H (signsD z) (signsV z) := by
  have : ∀ cs : List Nat, (∀ c ∈ cs, OkS ⟨#[c]⟩) → RelL H (cs.map fun c => D.str ⟨#[c]⟩) (cs.map fun c => V.str ⟨#[c]⟩) := by
    intro cs
    induction cs with
    | nil => intro _; rfl
    | cons c cs ih => intro h; exact ⟨_, _, rfl, ⟨rfl, h c (by simp)⟩, ih fun d hd => h d (by simp [hd])⟩
  refine this _ fun c hc => ?_
  obtain ⟨i, hi⟩ := List.mem_iff_getElem?.mp hc
  refine okS_sign (i := (i : Nat)) ok ?_
  have hi' : i < z.cps.toList.length := (List.getElem?_eq_some_iff.mp hi).1
  rw [atI_nat hi', ← List.getElem?_eq_getElem hi', hi]
section
variable {X : Cx} {B : Bx} {e e2 o f : Expr} {ta te tf td : DTE} {taa : DTA} {p pos apos cpos tpos : Pos} {elts : List Expr} {kk : Nat}
theorem itG_yields {K : PySem.W.Frag} {H H' : Hp} {G : Gp} {G1 G2 : List V → Hp → Prop} {i : Nat} {v : V} {xs ys : List V} {dx dy : List D} (y : (ItG G1 G2).yld i H v H') (h1 : G1 xs H) (h2 : G2 ys H) (r1 : RelL H dx xs) (r2 : RelL H dy ys) (hi : i < (zipD dx dy).length) (R : Rep K B H G) :
    ∃ d, (zipD dx dy)[i]? = some d ∧ Rel H' d v ∧ Kp H H' ∧ Rep K B H' G := by
  obtain ⟨T, x, u, rfl, hT, rfl, e1, e2⟩ := y
  rw [zipD_len] at hi
  have hx : i < dx.length := by omega
  have hy : i < dy.length := by omega
  obtain ⟨x', a1, rx⟩ := r1.get i (List.getElem?_eq_getElem hx)
  obtain ⟨u', a2, ry⟩ := r2.get i (List.getElem?_eq_getElem hy)
  have e1 := e1 xs h1
  have e2 := e2 ys h2
  rw [a1] at e1
  rw [a2] at e2
  cases e1
  cases e2
  have k : Kp H (upd H T (.tup [x, u])) := .fresh hT
  exact ⟨_, zipD_at (List.getElem?_eq_getElem hx) (List.getElem?_eq_getElem hy), ⟨T, _, rfl, upd_same, ⟨_, _, rfl, rx.mono k, _, _, rfl, ry.mono k, rfl⟩, by simp [sizeLine_eq]⟩, k, R.fresh hT⟩
theorem itG_walk {G1 G2 : List V → Hp → Prop} {n m : Nat} : Walk (ItG G1 G2) (min n m) (fun H => ∃ xs ys, G1 xs H ∧ G2 ys H ∧ xs.length = n ∧ ys.length = m) (ItG G1 G2).yld :=
  ⟨fun i H hi ⟨xs, ys, g1, g2, l1, l2⟩ => ⟨xs, ys, g1, g2, by omega, by omega⟩, fun H ⟨xs, ys, g1, g2, l1, l2⟩ => ⟨xs, ys, g1, g2, by omega, by omega, by omega⟩, fun i H x H' _ _ y => y⟩
theorem di_zipTS (hg : Gl X "zip") (hm : X.mg "zip" = none) (ha : DA X B [e, e2] taa)
    (hs : starEach [e, e2] X.env = (false, eval e X.env) :: starEach [e2] X.env := by rfl) (hpl : (backTo pos (starEach [e2] X.env)).any (·.1) = false := by rfl) :
    DI X B (.Tuple elts kk tpos) (.Call (.Name "zip" p) [e, e2] [] pos) (fun sd G R => taa sd G fun ds G1 => match ds with
      | [.tup xs, .str z] => z.length ≤ sizeLine ∧ R (zipD xs (signsD z)) (fun _ => True) G1
      | _ => False) := by
  obtain ⟨ta', pa, ha⟩ := ha.ex
  refine ⟨_, pi_zipTS hg hm pa hs hpl, fun σ H sd G QD R hS R0 t hP => ?_⟩
  refine ha σ H sd G _ _ hS R0 t fun vs ds H1 G1 _ k1 r1 R1 q1 => ?_
  match ds, q1, r1 with
  | [.tup xs, .str z], q1, r1 =>
    obtain ⟨v1, w1, rfl, ⟨a, us, rfl, h1, h2, h3⟩, v2, w2, rfl, ⟨rfl, ok⟩, h4⟩ := r1
    cases (relL_nil.mp h4)
    obtain ⟨hz, q1⟩ := q1
    have hl : (signsD z).length = (signsV z).length := by simp [signsD, signsV]
    refine ⟨a, z, us, rfl, SqT.of h1, hP _ _ _ H1 G1 k1 R1 ⟨by rw [zipD_len]; omega, fun H => ∃ xs' ys', SqT X.K H a xs' ∧ ys' = signsV z ∧ xs'.length = us.length ∧ ys'.length = (signsV z).length, _, by rw [zipD_len, h2.length, hl]; exact itG_walk, fun H G k R _ => ⟨us, signsV z, SqT.of (k.tup _ _ h1), rfl, rfl, rfl⟩, ?_⟩ q1⟩
    rintro i H G x H' hi k R _ y
    exact itG_yields y (SqT.of (k.tup _ _ h1)) rfl (h2.mono k) (signs_rel ok) hi R
theorem di_zipSL (hg : Gl X "zip") (hm : X.mg "zip" = none) (ha : DA X B [e, e2] taa)
    (hs : starEach [e, e2] X.env = (false, eval e X.env) :: starEach [e2] X.env := by rfl) (hpl : (backTo pos (starEach [e2] X.env)).any (·.1) = false := by rfl) :
    DI X B (.Tuple elts kk tpos) (.Call (.Name "zip" p) [e, e2] [] pos) (fun sd G R => taa sd G fun ds G1 => match ds with
      | [.str z, .ref a] => ∃ xs, G1 a = some (.lst xs) ∧ z.length ≤ sizeLine ∧ R (zipD (signsD z) xs) (fun G => G a = some (.lst xs)) G1
      | _ => False) := by
  obtain ⟨ta', pa, ha⟩ := ha.ex
  refine ⟨_, pi_zipSL hg hm pa hs hpl, fun σ H sd G QD R hS R0 t hP => ?_⟩
  refine ha σ H sd G _ _ hS R0 t fun vs ds H1 G1 _ k1 r1 R1 q1 => ?_
  match ds, q1, r1 with
  | [.str z, .ref a], q1, r1 =>
    obtain ⟨v1, w1, rfl, ⟨rfl, ok⟩, v2, w2, rfl, rv, h4⟩ := r1
    cases rv
    cases (relL_nil.mp h4)
    obtain ⟨xs, g, hz, q1⟩ := q1
    obtain ⟨us, h1, h2, h3⟩ := lst_at R1 g
    have hl : (signsD z).length = (signsV z).length := by simp [signsD, signsV]
    refine ⟨a, z, us, rfl, .inl (.inl h1), hP _ _ _ H1 G1 k1 R1 ⟨by rw [zipD_len]; omega, fun H => ∃ xs' ys', xs' = signsV z ∧ SqL X.K H a ys' ∧ xs'.length = (signsV z).length ∧ ys'.length = us.length, _, by rw [zipD_len, h2.length, hl]; exact itG_walk, fun H G k R st => ?_, ?_⟩ q1⟩
    · obtain ⟨us', h1', h2', _⟩ := lst_at R st
      exact ⟨signsV z, us', rfl, .inl (.inl h1'), rfl, by rw [← h2'.length, h2.length]⟩
    · rintro i H G x H' hi k R st y
      obtain ⟨us', h1', h2', _⟩ := lst_at R st
      exact itG_yields y rfl (.inl (.inl h1')) (signs_rel ok) h2' hi R
/-! ### texts -/
def joinR : D → List D → Gp → DQ → Prop := fun d ds G Q => match d, ds with
  | .str a, [.ref p] => ∃ xs, G p = some (.lst xs) ∧ ∃ ys : List Str, xs = ys.map .str ∧ (ys.map (·.length)).sum + ys.length * a.length ≤ 16777216 ∧ OkS (Txt.join a ys) ∧ Q (.str (Txt.join a ys)) G
  | _, _ => False
def splitR : D → List D → Gp → DQ → Prop := fun d ds G Q => match d, ds with
  | .str a, [.str b] => (b.length == 0) = false ∧ a.length + 2 ≤ sizeLine ∧ (∀ z ∈ Txt.split a b, OkS z) ∧ (Txt.split a b).length ≤ sizeLine ∧ ∀ p, Nw G p → Q (.ref p) (put G p (.lst ((Txt.split a b).map .str)))
  | _, _ => False
def strR : List D → Gp → DQ → Prop := fun ds G Q => match ds with
  | [.int i] => i.natAbs.log2 < 1920 ∧ OkS (Str.ofString (toString i)) ∧ Q (.str (Str.ofString (toString i))) G
  | [.str a] => Q (.str a) G
  | _ => False
def intTR : List D → Gp → DQ → Prop := fun ds G Q => match ds with
  | [.str a] => ∃ n, PySem.intText? a = some n ∧ a.length ≤ 640 ∧ Q (.int n) G
  | _ => False
theorem strs_rel {H : Hp} : ∀ {ys : List Str}, (∀ z ∈ ys, OkS z) → RelL H (ys.map .str) (ys.map V.str)
  | [], _ => rfl
  | y :: ys, h => ⟨_, _, rfl, ⟨rfl, h y (by simp)⟩, strs_rel fun z hz => h z (by simp [hz])⟩
theorem strs_of {H : Hp} : ∀ {ys : List Str} {vs : List V}, RelL H (ys.map .str) vs → vs = ys.map V.str
  | [], vs, h => h
  | y :: ys, vs, ⟨v, r, e, ⟨h1, _⟩, h2⟩ => by subst e h1; rw [List.map_cons, strs_of h2]
theorem dm_join : DMt X B "str.join" joinR := by
  refine ⟨_, mt_join, fun H G x d xs ds Q P r1 r2 R q hp => ?_⟩
  match d, ds, q, r1, r2 with
  | .str a, [.ref p], q, r1, r2 =>
    obtain ⟨rfl, _⟩ := r1
    obtain ⟨v, rfl, rv⟩ := rel1 r2
    cases rv
    obtain ⟨xs, g, ys, rfl, hz, ok, q⟩ := q
    obtain ⟨us, h1, h2, h3⟩ := lst_at R g
    cases strs_of h2
    exact ⟨a, p, ys, rfl, rfl, .inl (.inl (.inl h1)), hz, hp _ (.str _) H G (.refl H) ⟨rfl, ok⟩ R q⟩
theorem dm_split : DMt X B "str.split" splitR := by
  refine ⟨_, mt_split, fun H G x d xs ds Q P r1 r2 R q hp => ?_⟩
  match d, ds, q, r1, r2 with
  | .str a, [.str b], q, r1, r2 =>
    obtain ⟨rfl, _⟩ := r1
    obtain ⟨v, rfl, rv⟩ := rel1 r2
    obtain ⟨rfl, _⟩ := rv
    obtain ⟨h1, h2, h3, h4, q⟩ := q
    refine ⟨a, b, rfl, rfl, h1, h2, fun p hn => ?_⟩
    have rl : RelL H ((Txt.split a b).map .str) ((Txt.split a b).map V.str) := strs_rel h3
    obtain ⟨k, R'⟩ := lst_new hn rl (by simpa using h4) R
    exact hp _ (.ref p) _ _ k rfl R' (q p (R.gnone hn))
theorem dc_str : DCall X B (.type "str") strR := by
  refine ⟨_, call_str_int.or SkE.call_str_str, fun H G xs ds Q P r R q hp => ?_⟩
  match ds, q, r with
  | [.int i], q, r =>
    obtain ⟨x, rfl, rx⟩ := rel1 r
    cases rx
    exact .inl ⟨i, rfl, q.1, hp _ (.str _) H G (.refl H) ⟨rfl, q.2.1⟩ R q.2.2⟩
  | [.str a], q, r =>
    obtain ⟨x, rfl, rx⟩ := rel1 r
    obtain ⟨rfl, ok⟩ := rx
    exact .inr ⟨a, rfl, hp _ (.str _) H G (.refl H) ⟨rfl, ok⟩ R q⟩
theorem dc_intT : DCall X B (.type "int") intTR := by
  refine ⟨_, call_int_str, fun H G xs ds Q P r R q hp => ?_⟩
  match ds, q, r with
  | [.str a], q, r =>
    obtain ⟨x, rfl, rx⟩ := rel1 r
    obtain ⟨rfl, ok⟩ := rx
    obtain ⟨n, h1, h2, q⟩ := q
    exact ⟨a, n, rfl, h1, h2, hp _ (.int _) H G (.refl H) rfl R q⟩
/-! ### a written table asked by a word -/
def tbS (d : D) (P : Str → Prop) : Prop := match d with
  | .str y => P y
  | _ => False
/-- T[word] -/
def dIxK (tbl : List (Str × Str)) (te : DTE) : DTE := fun sd G Q => te sd G fun d G1 => tbS d fun y => ∃ s, tbl.lookup y = some s ∧ Q (.str s) G1
/-- word in T -/
def dInK (neg : Bool) (tbl : List (Str × Str)) (te : DTE) : DTE := fun sd G Q => te sd G fun d G1 => tbS d fun y => Q (.bl ((tbl.lookup y).isSome != neg)) G1
/-- a table of texts, whole -/
structure TabOf (K : PySem.W.Frag) (w : World) (c : Addr) (tbl : List (Str × Str)) : Prop where
  D : ∃ es n, KDict K w c es n
  at_ : tblB K c (tbl.map fun q => (q.1, some q.2)) = true
  no : ∀ z, tbl.lookup z = none → PySem.W.nsIn K c z = some none
theorem lookup_map {tbl : List (Str × Str)} {y s : Str} (h : tbl.lookup y = some s) : (tbl.map fun q => (q.1, some q.2)).lookup y = some (some s) := by
  induction tbl with
  | nil => cases h
  | cons q tbl ih =>
    rw [List.map_cons, List.lookup_cons]
    rw [show tbl.lookup y = tbl.lookup y from rfl] at ih
    obtain ⟨k, v⟩ := q
    rw [List.lookup_cons] at h
    cases e : y == k with
    | true => rw [e] at h; cases h; rfl
    | false => rw [e] at h; exact ih h
theorem keys_no {P : Params} : ∀ {l : List DictEntry} {ks : List Str}, l.map He.keyOf = He.keysIn P ks → ∀ {z : Str}, z ∉ ks → l.find? (·.key.isStr z) = none ∧ l.any (·.refKey) = false
  | [], _, _, z, _ => ⟨rfl, rfl⟩
  | e :: r, [], h, z, _ => by cases h
  | e :: r, k :: ks, h, z, hz => by
    have h1 : He.keyOf e :: r.map He.keyOf = some (k, PyData.keyHash P k) :: He.keysIn P ks := h
    injection h1 with h2 h3
    obtain ⟨i1, i2⟩ := keys_no h3 (z := z) fun q => hz (List.mem_cons_of_mem _ q)
    unfold He.keyOf at h2
    split at h2
    · rename_i x t q
      have h4 := Option.some.inj h2
      obtain ⟨h5, h6⟩ := Prod.mk.inj h4
      have hk : (x == z) = false := by
        rw [h5]
        refine beq_eq_false_iff_ne.mpr fun e => hz ?_
        rw [e]
        exact List.mem_cons_self
      refine ⟨?_, ?_⟩
      · rw [List.find?_cons]
        have : e.key.isStr z = false := by rw [q]; exact hk
        rw [this]
        exact i1
      · rw [List.any_cons, i2]
        simp [DictEntry.refKey, q]
    · cases h2
theorem dicW_no {K : PySem.W.Frag} {w : World} {a : Addr} {ks : List Str} (h : He.dicW K a = some (He.keysIn w.params ks)) {z : Str} (hz : z ∉ ks) : PySem.W.nsIn K a z = some none := by
  unfold He.dicW at h
  unfold PySem.W.nsIn
  split at h
  · rename_i c es n sl q
    split at h
    · obtain ⟨h1, h2⟩ := keys_no (Option.some.inj h) hz
      rw [q]
      simp only [h1, h2]
      rfl
    · cases h
  · cases h
theorem tab_of {fa : List He.Fa} {fn : List He.DefD} {ts : List He.Tab} {w : World} {K : PySem.W.Frag} (c : He.SaysT fa fn ts w K) (i : Nat) {t : He.Tab} (h : ts[i]? = some t) {tbl : List (Str × Str)} (hb : tblB K (t.1 K) (tbl.map fun q => (q.1, some q.2)) = true) (hk : t.2 = tbl.map (·.1)) : TabOf K w (t.1 K) tbl where
  D := c.tab i h
  at_ := hb
  no := fun z hz => by
    have e : ts.map (fun t => He.dicW K (t.1 K)) = ts.map fun t => some (He.keysIn w.params t.2) := congrArg (fun z : He.AlT => z.2) c
    have e2 : (ts.map fun t => He.dicW K (t.1 K))[i]? = (ts.map fun t => some (He.keysIn w.params t.2))[i]? := by rw [e]
    rw [List.getElem?_map, List.getElem?_map, h] at e2
    refine dicW_no (Option.some.inj e2) fun hm => ?_
    rw [hk] at hm
    obtain ⟨q, hq, rfl⟩ := List.mem_map.mp hm
    have : ∀ l : List (Str × Str), q ∈ l → l.lookup q.1 ≠ none := by
      intro l
      induction l with
      | nil => intro h; cases h
      | cons r l ih =>
        intro hm z
        obtain ⟨k, v⟩ := r
        rw [List.lookup_cons] at z
        cases e : q.1 == k with
        | true => rw [e] at z; cases z
        | false =>
          rw [e] at z
          rcases List.mem_cons.mp hm with h1 | h1
          · rw [h1] at e; simp at e
          · exact ih h1 z
    exact this tbl hq hz
variable {tbl : List (Str × Str)} {x : Str} {c : Addr}
theorem pe_nameK (hg : Gl X x) (hm : X.mg x = some (.ref c)) (hd : (x == ("__debug__" : Str)) = false := by decide) : PE X (.Name x p) (tC (.ref c)) := pe_glob hg hm rfl hd
theorem de_ixK (T : TabOf X.K X.w c tbl) (hg : Gl X x) (hm : X.mg x = some (.ref c)) (he : DE X B e te) (hs : PlainIx e := by exact fun _ _ => rfl) (hd : (x == ("__debug__" : Str)) = false := by decide) :
    DE X B (.Subscript (.Name x p) e pos) (dIxK tbl te) := by
  obtain ⟨es, n, D⟩ := T.D
  obtain ⟨te', pe, he⟩ := he.ex
  refine ⟨_, pe_ix ix_kdict (pe_nameK hg hm hd) pe hs, fun σ H sd G Q P hS R t hp => ?_⟩
  refine he σ H sd G _ _ hS R t fun v d H1 G1 k1 r1 R1 q1 => ?_
  cases d with
  | str y =>
    obtain ⟨rfl, _⟩ := r1
    obtain ⟨s, hr, q2⟩ := q1
    rcases tblB_ok T.at_ (lookup_map hr) with ⟨s', t, e', ok, en⟩ | ⟨e', _⟩
    · cases e'
      exact ⟨c, y, .str s, rfl, rfl, ⟨es, n, _, D.at_, D.lit, en, ⟨t, rfl⟩⟩, hp _ (.str s) H1 G1 k1 ⟨rfl, ok⟩ R1 q2⟩
    · cases e'
  | _ => exact (show False from q1).elim
theorem inK_at {K : PySem.W.Frag} {w : World} (T : TabOf K w c tbl) (y : Str) : ∃ r', PySem.W.nsIn K c y = some r' ∧ r'.isSome = (tbl.lookup y).isSome := by
  cases hr : tbl.lookup y with
  | none => exact ⟨none, T.no y hr, rfl⟩
  | some s =>
    rcases tblB_ok T.at_ (lookup_map hr) with ⟨s', t, e', ok, en⟩ | ⟨e', _⟩
    · exact ⟨_, en, rfl⟩
    · cases e'
theorem de_inK (T : TabOf X.K X.w c tbl) (hg : Gl X x) (hm : X.mg x = some (.ref c)) (he : DE X B e te) (hb : behindInMarks .In (.Name x p) = false := by first | exact nobehind _ (by decide) (by decide) | rfl) (hd : (x == ("__debug__" : Str)) = false := by decide) :
    DE X B (.Compare e [.In] [.Name x p] pos) (dInK false tbl te) := by
  obtain ⟨es, n, D⟩ := T.D
  obtain ⟨te', pe, he⟩ := he.ex
  refine ⟨_, pe_cmpR (op_in_kd D) pe (pe_nameK hg hm hd) hb, fun σ H sd G Q P hS R t hp => ?_⟩
  refine he σ H sd G _ _ hS R t fun v d H1 G1 k1 r1 R1 q1 => ?_
  cases d with
  | str y =>
    obtain ⟨rfl, _⟩ := r1
    obtain ⟨r', en, e'⟩ := inK_at T y
    exact ⟨y, r', rfl, rfl, en, by rw [e']; exact hp _ (.bl _) H1 G1 k1 rfl R1 (by simpa [tbS] using q1)⟩
  | _ => exact (show False from q1).elim
theorem dt_inK (T : TabOf X.K X.w c tbl) (hg : Gl X x) (hm : X.mg x = some (.ref c)) (he : DE X B e te) (hb : behindInMarks .In (.Name x p) = false := by first | exact nobehind _ (by decide) (by decide) | rfl) (hd : (x == ("__debug__" : Str)) = false := by decide) :
    DT X B (.Compare e [.In] [.Name x p] pos) (dTest (dInK false tbl te)) := by
  obtain ⟨es, n, D⟩ := T.D
  obtain ⟨te', pe, he⟩ := he.ex
  refine ⟨_, pt_cmpR (op_in_kd D) pe (pe_nameK hg hm hd) hb, fun σ H sd G Q P hS R t hp => ?_⟩
  refine he σ H sd G _ _ hS R t fun v d H1 G1 k1 r1 R1 q1 => ?_
  cases d with
  | str y =>
    obtain ⟨rfl, _⟩ := r1
    obtain ⟨r', en, e'⟩ := inK_at T y
    exact ⟨y, r', rfl, rfl, en, by rw [e']; exact (post_bl hp) _ (.bl _) H1 G1 k1 rfl R1 (by simpa [tbS] using q1)⟩
  | _ => exact (show False from q1).elim
theorem de_notInK (T : TabOf X.K X.w c tbl) (hg : Gl X x) (hm : X.mg x = some (.ref c)) (he : DE X B e te) (hb : behindInMarks .NotIn (.Name x p) = false := by first | exact nobehind _ (by decide) (by decide) | rfl) (hd : (x == ("__debug__" : Str)) = false := by decide) :
    DE X B (.Compare e [.NotIn] [.Name x p] pos) (dInK true tbl te) := by
  obtain ⟨es, n, D⟩ := T.D
  obtain ⟨te', pe, he⟩ := he.ex
  refine ⟨_, pe_cmpR (op_notIn_kd D) pe (pe_nameK hg hm hd) hb, fun σ H sd G Q P hS R t hp => ?_⟩
  refine he σ H sd G _ _ hS R t fun v d H1 G1 k1 r1 R1 q1 => ?_
  cases d with
  | str y =>
    obtain ⟨rfl, _⟩ := r1
    obtain ⟨r', en, e'⟩ := inK_at T y
    exact ⟨y, r', rfl, rfl, en, by rw [e']; exact hp _ (.bl _) H1 G1 k1 rfl R1 (by simpa [tbS] using q1)⟩
  | _ => exact (show False from q1).elim
theorem dt_notInK (T : TabOf X.K X.w c tbl) (hg : Gl X x) (hm : X.mg x = some (.ref c)) (he : DE X B e te) (hb : behindInMarks .NotIn (.Name x p) = false := by first | exact nobehind _ (by decide) (by decide) | rfl) (hd : (x == ("__debug__" : Str)) = false := by decide) :
    DT X B (.Compare e [.NotIn] [.Name x p] pos) (dTest (dInK true tbl te)) := by
  obtain ⟨es, n, D⟩ := T.D
  obtain ⟨te', pe, he⟩ := he.ex
  refine ⟨_, pt_cmpR (op_notIn_kd D) pe (pe_nameK hg hm hd) hb, fun σ H sd G Q P hS R t hp => ?_⟩
  refine he σ H sd G _ _ hS R t fun v d H1 G1 k1 r1 R1 q1 => ?_
  cases d with
  | str y =>
    obtain ⟨rfl, _⟩ := r1
    obtain ⟨r', en, e'⟩ := inK_at T y
    exact ⟨y, r', rfl, rfl, en, by rw [e']; exact (post_bl hp) _ (.bl _) H1 G1 k1 rfl R1 (by simpa [tbS] using q1)⟩
  | _ => exact (show False from q1).elim
end
/-! ### for simp -/
def zipL (ds : List D) (G1 : Gp) (R : List D → (Gp → Prop) → Gp → Prop) : Prop := match ds with
  | [.tup xs, .str z] => z.length ≤ sizeLine ∧ R (zipD xs (signsD z)) (fun _ => True) G1
  | _ => False
def zipL2 (ds : List D) (G1 : Gp) (R : List D → (Gp → Prop) → Gp → Prop) : Prop := match ds with
  | [.str z, .ref a] => ∃ xs, G1 a = some (.lst xs) ∧ z.length ≤ sizeLine ∧ R (zipD (signsD z) xs) (fun G => G a = some (.lst xs)) G1
  | _ => False
def diZipTS (ta : DTA) : DTI := fun sd G R => ta sd G fun ds G1 => zipL ds G1 R
def diZipSL (ta : DTA) : DTI := fun sd G R => ta sd G fun ds G1 => zipL2 ds G1 R
@[simp ↓] theorem diZipTS_app {ta sd G R} : diZipTS ta sd G R = ta sd G fun ds G1 => zipL ds G1 R := (rfl)
@[simp ↓] theorem diZipSL_app {ta sd G R} : diZipSL ta sd G R = ta sd G fun ds G1 => zipL2 ds G1 R := (rfl)
@[simp] theorem zipL_is {xs z G1 R} : zipL [.tup xs, .str z] G1 R = (z.length ≤ sizeLine ∧ R (zipD xs (signsD z)) (fun _ => True) G1) := (rfl)
def zipO (o : Option DO) (z : Str) (a : Addr) (G1 : Gp) (R : List D → (Gp → Prop) → Gp → Prop) : Prop := ∃ xs, o = some (.lst xs) ∧ z.length ≤ sizeLine ∧ R (zipD (signsD z) xs) (fun G => G a = some (.lst xs)) G1
@[simp] theorem zipL2_is {a z G1 R} : zipL2 [.str z, .ref a] G1 R = zipO (G1 a) z a G1 R := (rfl)
@[simp] theorem zipO_is {xs a z G1 R} : zipO (some (.lst xs)) z a G1 R = (z.length ≤ sizeLine ∧ R (zipD (signsD z) xs) (fun G => G a = some (.lst xs)) G1) := propext ⟨fun ⟨_, e, h⟩ => by cases e; exact h, fun h => ⟨_, rfl, h⟩⟩
@[simp ↓] theorem dIxK_app {tbl te sd G Q} : dIxK tbl te sd G Q = te sd G fun d G1 => tbS d fun y => ∃ s, tbl.lookup y = some s ∧ Q (.str s) G1 := (rfl)
@[simp ↓] theorem dInK_app {neg tbl te sd G Q} : dInK neg tbl te sd G Q = te sd G fun d G1 => tbS d fun y => Q (.bl ((tbl.lookup y).isSome != neg)) G1 := (rfl)
@[simp] theorem tbS_str {y P} : tbS (.str y) P = P y := (rfl)
def joinO (a : Str) (o : Option DO) (G : Gp) (Q : DQ) : Prop := ∃ xs, o = some (.lst xs) ∧ ∃ ys : List Str, xs = ys.map .str ∧ (ys.map (·.length)).sum + ys.length * a.length ≤ 16777216 ∧ OkS (Txt.join a ys) ∧ Q (.str (Txt.join a ys)) G
@[simp] theorem joinR_is {a p G Q} : joinR (.str a) [.ref p] G Q = joinO a (G p) G Q := (rfl)
theorem joinO_of {a : Str} {ys : List Str} {G : Gp} {Q : DQ} (hz : (ys.map (·.length)).sum + ys.length * a.length ≤ 16777216) (ok : OkS (Txt.join a ys)) (q : Q (.str (Txt.join a ys)) G) : joinO a (some (.lst (ys.map .str))) G Q := ⟨_, rfl, ys, rfl, hz, ok, q⟩
theorem splitR_is {a b G Q} : splitR (.str a) [.str b] G Q = ((b.length == 0) = false ∧ a.length + 2 ≤ sizeLine ∧ (∀ z ∈ Txt.split a b, OkS z) ∧ (Txt.split a b).length ≤ sizeLine ∧ ∀ p, Nw G p → Q (.ref p) (put G p (.lst ((Txt.split a b).map .str)))) := (rfl)
@[simp] theorem strR_int {i G Q} : strR [.int i] G Q = (i.natAbs.log2 < 1920 ∧ OkS (Str.ofString (toString i)) ∧ Q (.str (Str.ofString (toString i))) G) := (rfl)
@[simp] theorem strR_str {a G Q} : strR [.str a] G Q = Q (.str a) G := (rfl)
@[simp] theorem intTR_str {a G Q} : intTR [.str a] G Q = ∃ n, PySem.intText? a = some n ∧ a.length ≤ 640 ∧ Q (.int n) G := (rfl)
end DL
set_option Elab.async false
set_option linter.all false
set_option maxRecDepth 100000
set_option maxHeartbeats 4000000
/-! dicts displayed with written words as keys -/
namespace DL
open PySem PySem.Spec L2
def dPairs : List (Str × DTE) → SD → Gp → (List (Str × D) → Gp → Prop) → Prop
  | [], _, G, Q => Q [] G
  | (k, tv) :: r, sd, G, Q => tv sd G fun d G1 => dPairs r sd G1 fun ps G2 => Q ((k, d) :: ps) G2
def dDisp (t : List (Str × DTE)) : DTE := fun sd G Q => ∀ p, Nw G p → dPairs t sd (put G p (.dict false [])) fun ps G2 => G2 p = some (.dict false []) ∧ (ps.map (·.1)).Nodup ∧ Q (.ref p) (put G2 p (.dict false (ps.map fun q => (.str q.1, q.2))))
section
variable {X : Cx} {B : Bx} {pos : Pos}
structure DPs (X : Cx) (B : Bx) (pos : Pos) (keys : List (Option Expr)) (values : List Expr) (t : List (Str × DTE)) : Prop where
  ex : ∃ trs, PPs X pos keys values trs ∧ ∀ σ H sd G Q (P : List (V × V) → Hp → Prop), RelS H σ sd → Rep X.K B H G → dPairs t sd G Q →
    (∀ ps vs H1 G1, Kp H H1 → RelL H1 (ps.map (·.2)) vs → Rep X.K B H1 G1 → Q ps G1 → ps.length = t.length → P ((ps.map fun q => V.str q.1).zip vs) H1) → tPairs trs σ H P
  len : keys.length = t.length ∧ values.length = t.length
  some_ : keys.all (·.isSome) = true
  ok : ∀ q ∈ t, OkS q.1
theorem dps_nil : DPs X B pos [] [] [] := ⟨⟨_, pps_nil, fun σ H sd G Q P hS R t hP => hP [] [] H G (.refl H) rfl R t rfl⟩, ⟨rfl, rfl⟩, rfl, fun _ h => nomatch h⟩
theorem dps_cons {k : Str} {v : Expr} {ks : List (Option Expr)} {vs : List Expr} {tv : DTE} {t : List (Str × DTE)} {ke : Expr} (hk : DE X B ke (dC (.str k))) (pk : PE X ke (tC (.str k))) (hv : DE X B v tv) (hr : DPs X B pos ks vs t) (ok : OkS k := by decide +kernel) :
    DPs X B pos (some ke :: ks) (v :: vs) ((k, tv) :: t) := by
  obtain ⟨tv', pv, hv⟩ := hv.ex
  obtain ⟨trs, pr, hr'⟩ := hr.ex
  refine ⟨⟨_, pps_cons pk pv pr, fun σ H sd G Q P hS R t' hP => ?_⟩, ⟨by simp [hr.len.1], by simp [hr.len.2]⟩, by simp [hr.some_], fun q hq => ?_⟩
  · refine hv σ H sd G _ _ hS R t' fun x d H1 G1 k1 r1 R1 q1 => ?_
    refine hr' σ H1 sd G1 _ _ (hS.mono k1) R1 q1 fun ps us H2 G2 k2 r2 R2 q2 l2 => ?_
    have := hP ((k, d) :: ps) (x :: us) H2 G2 (k1.trans k2) ⟨x, us, rfl, r1.mono k2, r2⟩ R2 q2 (by simp [l2])
    simpa using this
  · rcases List.mem_cons.mp hq with rfl | hq
    · exact ok
    · exact hr.ok q hq
theorem mergeK_nd : ∀ (more kvs : List (Key × V)), (more.map (·.1)).Nodup → (∀ q ∈ more, ∀ r ∈ kvs, r.1 ≠ q.1) → mergeK kvs more = kvs ++ more
  | [], kvs, _, _ => by simp [mergeK]
  | q :: more, kvs, nd, h => by
    have e : putK kvs q.1 q.2 = kvs ++ [q] := by
      unfold putK
      rw [if_neg]
      rw [List.any_eq_true]
      rintro ⟨r, hr, z⟩
      exact h q (by simp) r hr (of_decide_eq_true z)
    rw [List.map_cons, List.nodup_cons] at nd
    have := mergeK_nd more (kvs ++ [q]) nd.2 fun q' hq' r hr => by
      rcases List.mem_append.mp hr with hr | hr
      · exact h q' (by simp [hq']) r hr
      · simp at hr
        subst hr
        intro z
        exact nd.1 (List.mem_map.mpr ⟨q', hq', z.symm⟩)
    show mergeK (putK kvs q.1 q.2) more = _
    rw [e, this]
    simp
theorem zip_pairs {ps : List (Str × D)} {vs : List V} (h : ps.length = vs.length) : (ps.map fun q => V.str q.1).zip vs = (List.zipWith (fun (q : Str × D) v => ((.inr q.1 : Key), v)) ps vs).map fun kv => (kV kv.1, kv.2) := by
  induction ps generalizing vs with
  | nil => rfl
  | cons p ps ih => cases vs with
    | nil => simp at h
    | cons v vs => simp at h; simp [ih h, kV]
theorem zw_fst {ps : List (Str × D)} {vs : List V} (hl : ps.length = vs.length) : (List.zipWith (fun (q : Str × D) v => ((.inr q.1 : Key), v)) ps vs).map (·.1) = ps.map fun q => (.inr q.1 : Key) := by
  induction ps generalizing vs with
  | nil => rfl
  | cons p ps ih => cases vs with
    | nil => simp at hl
    | cons v vs => simp at hl; have := ih hl; simp at this; simp [this]
theorem zw_snd {ps : List (Str × D)} {vs : List V} (hl : ps.length = vs.length) : (List.zipWith (fun (q : Str × D) v => ((.inr q.1 : Key), v)) ps vs).map (·.2) = vs := by
  induction ps generalizing vs with
  | nil => cases vs; rfl; simp at hl
  | cons p ps ih => cases vs with
    | nil => simp at hl
    | cons v vs => simp at hl; have := ih hl; simp at this; simp [this]
theorem de_disp {keys : List (Option Expr)} {values : List Expr} {t : List (Str × DTE)} (h : DPs X B pos keys values t) (h0 : keys ≠ [] := by exact fun z => nomatch z) (h15 : keys.length ≤ 15 := by decide) : DE X B (.Dict keys values pos) (dDisp t) := by
  obtain ⟨trs, pr, hr⟩ := h.ex
  refine ⟨_, pe_disp pr h.some_ (by rw [h.len.1, h.len.2]) h0 h15, fun σ H sd G Q P hS R t' hp p hn => ?_⟩
  have R1 : Rep X.K B (upd H p (.dK [])) (put G p (.dict false [])) := R.laid (o := .dict false []) hn ⟨Nat.zero_le _, [], upd_same, rfl, rfl⟩
  refine hr σ _ sd _ _ _ (hS.mono (.fresh hn)) R1 (t' p (R.gnone hn)) fun ps vs H2 G2 k2 r2 R2 q2 l2 => ?_
  obtain ⟨g, nd, q⟩ := q2
  obtain ⟨_, ks, e1, e2, e3⟩ := R2.at_ p _ g
  have eks : ks = [] := by cases ks; rfl; cases e2
  subst eks
  have hl : ps.length = vs.length := by simpa using r2.length
  refine ⟨e1, List.zipWith (fun (q : Str × D) v => ((.inr q.1 : Key), v)) ps vs, zip_pairs hl, by rw [List.length_zipWith]; have := h.len.1; omega, ?_⟩
  have m1 := zw_fst hl
  have m2 := zw_snd hl
  have mm : mergeK [] (List.zipWith (fun (q : Str × D) v => ((.inr q.1 : Key), v)) ps vs) = List.zipWith (fun (q : Str × D) v => ((.inr q.1 : Key), v)) ps vs := by
    refine mergeK_nd _ [] ?_ (fun _ _ _ h => nomatch h)
    rw [m1]
    have : (ps.map fun q => (.inr q.1 : Key)) = (ps.map (·.1)).map Sum.inr := by rw [List.map_map]; rfl
    rw [this, List.Nodup, List.pairwise_map]
    exact List.Pairwise.imp (fun hne z => hne (Sum.inr.inj z)) nd
  rw [mm]
  have kw : Kp H2 (upd H2 p (.dK (List.zipWith (fun (q : Str × D) v => ((.inr q.1 : Key), v)) ps vs))) := .write e1 fun _ z => nomatch z
  have R3 : Rep X.K B (upd H2 p (.dK (List.zipWith (fun (q : Str × D) v => ((.inr q.1 : Key), v)) ps vs))) (put G2 p (.dict false (ps.map fun q => (.str q.1, q.2)))) := by
    refine R2.write (o := .dict false _) e1 (fun _ z => nomatch z) ⟨?_, _, upd_same, ?_, ?_⟩
    · rw [List.length_map, l2, ← h.len.1]
      exact Nat.le_trans h15 (by decide)
    · have : (List.zipWith (fun (q : Str × D) v => ((.inr q.1 : Key), v)) ps vs).map (fun k => kD k.1) = ((List.zipWith (fun (q : Str × D) v => ((.inr q.1 : Key), v)) ps vs).map (·.1)).map kD := by rw [List.map_map]; rfl
      rw [this, m1, List.map_map, List.map_map]
      rfl
    · rw [m2, List.map_map]
      have e : (ps.map ((fun x : D × D => x.2) ∘ fun q : Str × D => (D.str q.1, q.2))) = ps.map (·.2) := rfl
      rw [e]
      exact r2.mono kw
  exact hp _ (.ref p) _ _ (((Kp.fresh hn).trans k2).trans kw) rfl R3 q
end
@[simp ↓] theorem dDisp_app {t sd G Q} : dDisp t sd G Q = ∀ p, Nw G p → dPairs t sd (put G p (.dict false [])) fun ps G2 => G2 p = some (.dict false []) ∧ (ps.map (·.1)).Nodup ∧ Q (.ref p) (put G2 p (.dict false (ps.map fun q => (.str q.1, q.2)))) := (rfl)
@[simp ↓] theorem dPairs_nil {sd G} {Q : List (Str × D) → Gp → Prop} : dPairs [] sd G Q = Q [] G := (rfl)
@[simp ↓] theorem dPairs_cons {k tv r sd G} {Q : List (Str × D) → Gp → Prop} : dPairs ((k, tv) :: r) sd G Q = tv sd G fun d G1 => dPairs r sd G1 fun ps G2 => Q ((k, d) :: ps) G2 := (rfl)
/-! ### comprehensions that do -/
def compB (items : List D) (stay : Gp → Prop) (g : DTG) (tt : DTT) (te : DTE) (vs : List Nat) (sd : SD) (G1 : Gp) (Q : DQ) : Prop := stay G1 ∧ ∀ p, Nw G1 p → stay (put G1 p (.lst [])) ∧ dcL stay g tt te (dwipe sd vs) p (Q (.ref p)) items [] (put G1 p (.lst []))
@[simp ↓] theorem dComp_app {ti g tt te vs sd G Q} : dComp ti g tt te vs sd G Q = ti sd G fun items stay G1 => compB items stay g tt te vs sd G1 Q := (rfl)
theorem compB_ind {g : DTG} {tt : DTT} {te : DTE} {vs : List Nat} {sd : SD} {G : Gp} {Q : DQ} {items : List D} {stay : Gp → Prop} (I : Addr → Nat → List D → Gp → Prop) 
    (hst0 : stay G) (h0 : ∀ p, Nw G p → I p 0 [] (put G p (.lst []))) (hst : ∀ p i acc G', Nw G p → I p i acc G' → stay G')
    (step : ∀ p i x acc G' (K : List D → Gp → Prop), Nw G p → items[i]? = some x → I p i acc G' → (∀ acc' G'', I p (i + 1) acc' G'' → K acc' G'') →
      g x (dwipe sd vs) G' fun sd2 G2 => tt sd2 G2 fun b G3 => if b = true then te sd2 G3 fun y G4 => G4 p = some (.lst acc) ∧ stay (put G4 p (.lst (acc ++ [y]))) ∧ K (acc ++ [y]) (put G4 p (.lst (acc ++ [y]))) else stay G3 ∧ K acc G3)
    (fin : ∀ p acc G', Nw G p → I p items.length acc G' → Q (.ref p) G') : compB items stay g tt te vs sd G Q := by
  refine ⟨hst0, fun p hp => ⟨hst p 0 [] _ hp (h0 p hp), ?_⟩⟩
  suffices h : ∀ (ys : List D) (i : Nat) acc G', items.drop i = ys → i ≤ items.length → I p i acc G' → dcL stay g tt te (dwipe sd vs) p (Q (.ref p)) ys acc G' from h items 0 [] _ rfl (Nat.zero_le _) (h0 p hp)
  intro ys
  induction ys with
  | nil =>
    intro i acc G' e hi hI
    have : items.length ≤ i := List.drop_eq_nil_iff.mp e
    have : i = items.length := Nat.le_antisymm hi this
    subst this
    exact fin p acc G' hp hI
  | cons y ys ih =>
    intro i acc G' e hi hI
    have hlt : i < items.length := by
      rcases Nat.lt_or_ge i items.length with h | h
      · exact h
      · rw [List.drop_eq_nil_iff.mpr h] at e
        cases e
    have e1 : items[i]? = some y := by
      have := List.getElem?_drop (xs := items) (i := i) (j := 0)
      rw [e] at this
      simpa using this.symm
    have e2 : items.drop (i + 1) = ys := by
      have := List.drop_drop (i := 1) (j := i) (l := items)
      rw [e] at this
      simpa [Nat.add_comm] using this.symm
    exact step p i y acc G' _ hp e1 hI fun acc' G'' h2 => ih (i + 1) acc' G'' e2 hlt h2
theorem ne_nw {G : Gp} {a p : Addr} {o : DO} (h : G a = some o) (hp : Nw G p) : a ≠ p := fun z => by rw [z, hp] at h; cases h
theorem Ext.nw {G G' : Gp} {p : Addr} {o : DO} (e : Ext G G') (hp : Nw G p) : Ext G (DL.put G' p o) := fun a u h => by
  rw [put_ne (ne_nw h hp)]
  exact e a u h
/-- each item gives f of it, the heap grows -/
theorem compB_ext {g : DTG} {te : DTE} {vs : List Nat} {sd : SD} {G : Gp} {Q : DQ} {items : List D} {stay : Gp → Prop} (f : D → D)
    (hst : ∀ G', Ext G G' → stay G')
    (step : ∀ x G' (K : DQ), x ∈ items → Ext G G' → (∀ G'', Ext G' G'' → K (f x) G'') → g x (dwipe sd vs) G' fun sd2 G2 => te sd2 G2 K)
    (q : ∀ p G', Nw G p → Ext G G' → G' p = some (.lst (items.map f)) → Q (.ref p) G') : compB items stay g dYes te vs sd G Q := by
  refine compB_ind (fun p i acc G' => Ext G G' ∧ G' p = some (.lst acc) ∧ acc = (items.take i).map f) (hst G (.refl G)) (fun p hp => ⟨.put hp, put_same, rfl⟩) (fun p i acc G' _ h => hst G' h.1) (fun p i x acc G' K hp hx ⟨e, g', ha⟩ hK => ?_) (fun p acc G' hp ⟨e, g', ha⟩ => ?_)
  · refine step x G' _ (List.mem_of_getElem? hx) e fun G4 e4 => ?_
    have ee : Ext G (put G4 p (.lst (acc ++ [f x]))) := (e.trans e4).nw hp
    refine ⟨e4 _ _ g', hst _ ee, hK _ _ ⟨ee, put_same, ?_⟩⟩
    rw [ha, List.take_add_one, hx]
    simp
  · subst ha
    rw [List.take_length] at g'
    exact q p G' hp e g'
/-- a comprehension that only looks -/
theorem compB_pure {g : DTG} {tt : DTT} {te : DTE} {vs : List Nat} {sd : SD} {G : Gp} {Q : DQ} {items : List D} {stay : Gp → Prop} (f : D → Option D)
    (hst0 : stay G) (hst : ∀ p ys, G p = none → stay (put G p (.lst ys))) (ht : ∀ p ys x, G p = none → x ∈ items → turnIs g tt te (dwipe sd vs) x (put G p (.lst ys)) (f x))
    (q : ∀ p, Nw G p → Q (.ref p) (put G p (.lst (items.filterMap f)))) : compB items stay g tt te vs sd G Q :=
  ⟨hst0, fun p hp => ⟨hst p _ hp, dcL_pure f hp (fun ys => hst p ys hp) items [] (fun x hx ys => ht p ys x hp hx) (by simpa using q p hp)⟩⟩
end DL
set_option Elab.async false
set_option linter.all false
set_option maxRecDepth 100000
set_option maxHeartbeats 4000000
namespace DL
open PySem PySem.Spec L2
section
variable {X : Cx} {B : Bx} {e o a b : Expr} {ta td : DTE} {pos apos cpos p : Pos} {x : Str} {c : Addr} {zs : List Str}
theorem dt_inC {neg : Bool} {op : CmpOp} (hop : op = (if neg then .NotIn else .In)) (ha : DE X B a ta) (hg : Gl X x) (hm : X.mg x = some (.ref c)) (hc : tupB X.K c zs = true)
    (hmk : behindInMarks op (.Name x p) = false := by rfl) (hz : zs.all PySem.PyData.strOk = true := by decide +kernel) (hd : (x == ("__debug__" : Str)) = false := by decide) : DT X B (.Compare a [op] [.Name x p] pos) (dTest (dInC neg zs ta)) := by
  obtain ⟨ta', pa, ha⟩ := ha.ex
  have pg : PE X (.Name x p) (tC (.ref c)) := pe_glob (v := .ref c) hg hm rfl hd
  cases neg with
  | true =>
    subst hop
    refine ⟨_, pt_cmpR op_notIn_seq pa pg hmk, fun σ H sd G Q P hS R t hp => ?_⟩
    refine ha σ H sd G _ _ hS R t fun v d H1 G1 k1 r1 R1 q1 => ?_
    obtain ⟨f1, f2, f3⟩ := inC_at (zs := zs) hz q1.1 r1
    exact ⟨c, _, rfl, .inr (tupB_ok hc H1), f1, f2, by rw [f3]; exact (post_bl hp) _ (.bl _) H1 G1 k1 rfl R1 (by simpa using q1.2)⟩
  | false =>
    subst hop
    refine ⟨_, pt_cmpR op_in_seq pa pg hmk, fun σ H sd G Q P hS R t hp => ?_⟩
    refine ha σ H sd G _ _ hS R t fun v d H1 G1 k1 r1 R1 q1 => ?_
    obtain ⟨f1, f2, f3⟩ := inC_at (zs := zs) hz q1.1 r1
    exact ⟨c, _, rfl, .inr (tupB_ok hc H1), f1, f2, by rw [f3]; exact (post_bl hp) _ (.bl _) H1 G1 k1 rfl R1 (by simpa using q1.2)⟩
end
end DL
set_option Elab.async false
set_option linter.all false
set_option maxRecDepth 100000
set_option maxHeartbeats 4000000
namespace DL
open PySem PySem.Spec L2
/-! ### offers -/
def isNum (i j : Int) : D → Bool
  | .int k => decide (i ≤ k) && decide (k ≤ j)
  | _ => false
def sp_is_number (Γ : Cs) : DSp := sp3 fun d lo hi G Q _ => ∃ i j : Int, lo = .int i ∧ hi = .int j ∧ (tyN G d).isSome ∧ Q (.bl (isNum i j d)) G
abbrev N_is_number : List Str := ["part", "low", "high"]
def t_is_number (Γ : Cs) (ED : DXK) : DTS := dRet (dAndV (dCB isiR (daCons (dVar 0) (daCons (dC (.ty "int")) (daNil)))) (dAndV (dNotV (dCB isiR (daCons (dVar 0) (daCons (dC (.ty "bool")) (daNil))))) (dChain leR leR (dVar 1) (dVar 0) (dVar 2))))
theorem pure_is_number (Γ : Cs) : ∀ ds G Q E, sp_is_number Γ ds G Q E → t_is_number Γ E { nx := fun _ G => Q .non G, rt := Q } (dstart N_is_number ds) G := by
  rintro ds G Q E ⟨d, lo, hi, rfl, i, j, rfl, rfl, h, q⟩
  obtain ⟨a, ha⟩ := Option.isSome_iff_exists.mp h
  cases d
  case ref p => 
    rcases tyN_ref ha with rfl | rfl <;> simp [t_is_number, isNum, ha] at * <;> exact q
  case int k => 
    simp [t_is_number, isNum] at *
    by_cases h : i ≤ k <;> simp [h] at * <;> exact q
  case ty => simp at h
  all_goals (simp [t_is_number, isNum] at * <;> exact q)
def isOffer : D → Bool
  | .tup [a, b] => isNum 0 7 a && isNum 0 9999 b
  | _ => false
def sp_is_offer (Γ : Cs) : DSp := sp1 fun d G Q _ => (tyN G d).isSome ∧ (∀ ds x, d = .tup ds → x ∈ ds → (tyN G x).isSome) ∧ Q (.bl (isOffer d)) G
abbrev N_is_offer : List Str := ["offer"]
def t_is_offer (Γ : Cs) (ED : DXK) : DTS := dSeq (dIf (dOr (dNot (dTest (dCB isiR (daCons (dVar 0) (daCons (dC (.ty "tuple")) (daNil)))))) (dTest (dOp neR (dCB lenR (daCons (dVar 0) (daNil))) (dC (.int 2))))) (dRet (dC (.bl false))) (dNext)) (dRet (dAndV (dCall (sp_is_number Γ) (wx ED) (daCons (dOp ixR (dVar 0) (dC (.int 0))) (daCons (dC (.int 0)) (daCons (dC (.int 7)) (daNil))))) (dCall (sp_is_number Γ) (wx ED) (daCons (dOp ixR (dVar 0) (dC (.int 1))) (daCons (dC (.int 0)) (daCons (dC (.int 9999)) (daNil)))))))
theorem pure_is_offer (Γ : Cs) : ∀ ds G Q E, sp_is_offer Γ ds G Q E → t_is_offer Γ E { nx := fun _ G => Q .non G, rt := Q } (dstart N_is_offer ds) G := by
  rintro ds G Q E ⟨d, rfl, h, h2, q⟩
  obtain ⟨a, ha⟩ := Option.isSome_iff_exists.mp h
  cases d
  case ref p => 
    rcases tyN_ref ha with rfl | rfl <;> simp [t_is_offer, isOffer, ha] at * <;> exact q
  case tup ds =>
    match ds, h2, q with
    | [x, y], h2, q =>
      have hx := h2 _ x rfl (by simp)
      have hy := h2 _ y rfl (by simp)
      simp [t_is_offer]
      refine call3 ⟨_, _, rfl, rfl, hx, ?_⟩
      simp
      refine iteP_of (fun h => ?_) fun h => ?_
      · simp
        refine call3 ⟨_, _, rfl, rfl, hy, ?_⟩
        simpa [isOffer, h] using q
      · simpa [isOffer, h] using q
    | [], h2, q => simp [t_is_offer]; exact q
    | [x], h2, q => simp [t_is_offer]; exact q
    | x :: y :: z :: r, h2, q => 
      have : ¬ ((r.length : Int) + 1 + 1 + 1 = 2) := by omega
      simp [t_is_offer, this]; exact q
  case ty => simp at h
  all_goals (simp [t_is_offer, isOffer] at * <;> exact q)
/-- what may be told as offers: with types, tuples within too -/
def tyd (G : Gp) (d : D) : Prop := (tyN G d).isSome ∧ (∀ ds x, d = .tup ds → x ∈ ds → (tyN G x).isSome)
theorem tyd_ext {G G' : Gp} {d : D} (e : Ext G G') (h : tyd G d) : tyd G' d := by
  refine ⟨?_, fun ds x hd hx => ?_⟩
  · obtain ⟨a, ha⟩ := Option.isSome_iff_exists.mp h.1
    rw [tyN_ext e ha]; rfl
  · obtain ⟨a, ha⟩ := Option.isSome_iff_exists.mp (h.2 ds x hd hx)
    rw [tyN_ext e ha]; rfl
def fstD : D → Option Int
  | .tup [.int k, _] => some k
  | _ => none
/-- offers that can be -/
def okOffers : D → Bool
  | .tup ds => ds.all isOffer && decide (ds ≠ []) && decide ((ds.filterMap fstD).Nodup)
  | _ => false
theorem isOffer_is {d : D} (h : isOffer d = true) : ∃ k n : Int, d = .tup [.int k, .int n] ∧ 0 ≤ k ∧ k ≤ 7 ∧ 0 ≤ n ∧ n ≤ 9999 := by
  unfold isOffer at h
  split at h
  · rename_i a b
    cases a <;> cases b <;> simp [isNum] at h
    rename_i k n
    exact ⟨k, n, rfl, by omega⟩
  · cases h
def sp_need_offers (Γ : Cs) : DSp := sp1 fun d G Q E => (tyN G d).isSome ∧ (∀ ds x, d = .tup ds → x ∈ ds → tyd G x ∧ dat 20 x = true) ∧ (∀ ds, d = .tup ds → ds.length ≤ 4000) ∧
  ∀ G', Ext G G' → if okOffers d = true then Q .non G' else E Γ.cBadOffers none G'
abbrev N_need_offers : List Str := ["offers", "kinds", "offer", "kind", "number"]
def t_need_offers_C1 (Γ : Cs) (ED : DXK) : DTE := dComp (diSeq (dVar 0)) (dgName 2) (dNot (dTest (dCall (sp_is_offer Γ) W0 (daCons (dVar 2) (daNil))))) (dVar 2) [2]
def t_need_offers_C2 (Γ : Cs) (ED : DXK) : DTE := dComp (diSeq (dVar 0)) (dgTup 2 (dgCons (dgName 3) (dgCons (dgName 4) (dgNil)))) dYes (dVar 3) [3, 4]
def t_need_offers (Γ : Cs) (ED : DXK) : DTS := dSeq (dIf (dOr (dNot (dTest (dCB isiR (daCons (dVar 0) (daCons (dC (.ty "tuple")) (daNil)))))) (dTest (dOp neR (dN (t_need_offers_C1 Γ ED)) (dLst (daNil))))) (dRaise Γ.cBadOffers (wx ED)) (dNext)) (dSeq (dAsg (dN (t_need_offers_C2 Γ ED)) (dgName 1)) (dIf (dOr (dTest (dOp eqR (dVar 1) (dLst (daNil)))) (dTest (dOp neR (dLenSet (dVar 1)) (dCB lenR (daCons (dVar 1) (daNil)))))) (dRaise Γ.cBadOffers (wx ED)) (dNext)))
theorem need_offers_C1 {Γ : Cs} {E : DXK} {G : Gp} {Q : DQ} {ds : List D} {a b c d : Option D} (h : ∀ x ∈ ds, tyd G x) (q : ∀ p, Nw G p → Q (.ref p) (put G p (.lst (ds.filter fun x => !isOffer x)))) : t_need_offers_C1 Γ E [some (.tup ds), a, b, c, d] G Q := by
  refine dComp_pure (items := ds) (stay := fun _ => True) (fun x => if isOffer x then none else some x) (fun R h => by simpa using h) trivial (fun _ _ _ => trivial) (fun p ys x hp hx Qs Qn hQ => ?_) (fun p hp => ?_)
  · have hx := tyd_ext (Ext.put (o := .lst ys) hp) (h x hx)
    simp
    refine call1 ⟨hx.1, hx.2, ?_⟩
    by_cases ho : isOffer x = true
    · simp [ho] at hQ ⊢; exact hQ
    · simp [ho] at hQ ⊢; exact hQ
  · have : ds.filterMap (fun x => if isOffer x then none else some x) = ds.filter fun x => !isOffer x := by
      clear q h
      induction ds with
      | nil => rfl
      | cons y ys ih => by_cases hy : isOffer y <;> simp [hy, ih]
    rw [this]
    exact q p hp
theorem need_offers_C2 {Γ : Cs} {E : DXK} {G : Gp} {Q : DQ} {ds : List D} {a b c d : Option D} (h : ∀ x ∈ ds, isOffer x = true) (q : ∀ p, Nw G p → Q (.ref p) (put G p (.lst ((ds.filterMap fstD).map .int)))) : t_need_offers_C2 Γ E [some (.tup ds), a, b, c, d] G Q := by
  refine dComp_pure (items := ds) (stay := fun _ => True) (fun x => (fstD x).map .int) (fun R h => by simpa using h) trivial (fun _ _ _ => trivial) (fun p ys x hp hx Qs Qn hQ => ?_) (fun p hp => ?_)
  · obtain ⟨k, n, rfl, _⟩ := isOffer_is (h x hx)
    simpa [fstD] using hQ
  · have : ds.filterMap (fun x => (fstD x).map D.int) = (ds.filterMap fstD).map D.int := by
      rw [List.map_filterMap]
    rw [this]
    exact q p hp
theorem pure_need_offers (Γ : Cs) : ∀ ds G Q E, sp_need_offers Γ ds G Q E → t_need_offers Γ E { nx := fun _ G => Q .non G, rt := Q } (dstart N_need_offers ds) G := by
  rintro ds G Q E ⟨d, rfl, h, h2, h3, q⟩
  obtain ⟨a, ha⟩ := Option.isSome_iff_exists.mp h
  by_cases ht : ∃ ds, d = .tup ds
  · obtain ⟨ds, rfl⟩ := ht
    simp [t_need_offers]
    refine need_offers_C1 (fun x hx => (h2 ds x rfl hx).1) fun p hp => ?_
    refine eq_new put_same (by simp [List.all_eq_true]; exact fun x hx => .inr (h2 ds x rfl hx).2) fun p2 hp2 => ?_
    have e1 : Ext G (put (put G p (.lst (ds.filter fun x => !isOffer x))) p2 (.lst [])) := (Ext.put hp).of_put hp2
    by_cases hall : ∀ x ∈ ds, isOffer x = true
    · have hf : ds.filter (fun x => !isOffer x) = [] := by simp [List.filter_eq_nil_iff]; exact hall
      rw [hf]
      rw [hf] at e1
      simp
      refine need_offers_C2 hall fun p3 hp3 => ?_
      refine eq_new put_same (all_ints _) fun p4 hp4 => ?_
      have e2 := (e1.of_put hp3).of_put (o := .lst []) hp4
      obtain ⟨n1, n2, hp4'⟩ := put_none hp4
      by_cases hk : ds.filterMap fstD = []
      · have this' : okOffers (.tup ds) = false := by
          have : ds = [] := by
            cases ds with
            | nil => rfl
            | cons y ys =>
              obtain ⟨k, n, rfl, _⟩ := isOffer_is (hall y (by simp))
              simp [fstD] at hk
          simp [okOffers, this]
        have := q _ e2
        rw [this'] at this
        simp [hk] at this ⊢
        exact this
      · have hne : (ds.filterMap fstD).isEmpty = false := by simpa using hk
        have hds : ds ≠ [] := fun z => by rw [z] at hk; exact hk rfl
        simp [hne, put_ne n2, put_same]
        refine ⟨Nat.le_trans (List.length_filterMap_le _ _) (h3 ds rfl), ?_⟩
        have := q _ e2
        by_cases hn : (dd (ds.filterMap fstD)).length = (ds.filterMap fstD).length
        · have hn' : ((dd (ds.filterMap fstD)).length : Int) = ((ds.filterMap fstD).length : Int) := by omega
          simp [hn']
          have ok : okOffers (.tup ds) = true := by simp [okOffers, hds, nodup_of_dd hn]; exact hall
          rw [ok] at this
          exact this
        · have hn' : ¬ ((dd (ds.filterMap fstD)).length : Int) = ((ds.filterMap fstD).length : Int) := by omega
          simp [hn']
          have ok : okOffers (.tup ds) = false := by
            have : ¬ (ds.filterMap fstD).Nodup := fun z => hn (dd_of_nodup z)
            simp [okOffers, this]
          rw [ok] at this
          exact this
    · have hf : ds.filter (fun x => !isOffer x) ≠ [] := by simp [List.filter_eq_nil_iff] at hall ⊢; exact hall
      have ok : okOffers (.tup ds) = false := by
        have : ds.all isOffer = false := by simpa using hall
        simp [okOffers, this]
      have := q _ e1
      rw [ok] at this
      have hf' : (ds.filter fun x => !isOffer x).isEmpty = false := by simpa using hf
      simp [hf']
      exact this
  · have : a ≠ "tuple" := fun z => by
      subst z
      cases d
      case tup ds => exact ht ⟨_, rfl⟩
      case ref p => rcases tyN_ref ha with h | h <;> simp at h
      all_goals simp at ha
    have ok : okOffers d = false := by
      cases d
      case tup ds => exact (ht ⟨_, rfl⟩).elim
      all_goals rfl
    simp [t_need_offers, ha]
    have h0 := q _ (Ext.refl G)
    rw [ok] at h0
    have hb : (a == "tuple") = false := by simpa using this
    simp [hb]
    exact h0

theorem isNum_is {i j : Int} {d : D} (h : isNum i j d = true) : ∃ k : Int, d = .int k ∧ i ≤ k ∧ k ≤ j := by
  cases d <;> simp [isNum] at h
  exact ⟨_, rfl, h⟩
def okKnows : D → Bool
  | .tup ds => ds.all (isNum 0 7) && decide ds.Nodup
  | _ => false
def sp_need_knows (Γ : Cs) : DSp := sp1 fun d G Q E => (tyN G d).isSome ∧ (∀ ds x, d = .tup ds → x ∈ ds → (tyN G x).isSome ∧ dat 20 x = true) ∧ (∀ ds, d = .tup ds → ds.length ≤ 4000) ∧
  ∀ G', Ext G G' → if okKnows d = true then Q .non G' else E Γ.cBadOffers none G'
abbrev N_need_knows : List Str := ["knows", "kind"]
def t_need_knows_C1 (Γ : Cs) (ED : DXK) : DTE := dComp (diSeq (dVar 0)) (dgName 1) (dNot (dTest (dCall (sp_is_number Γ) W0 (daCons (dVar 1) (daCons (dC (.int 0)) (daCons (dC (.int 7)) (daNil))))))) (dVar 1) [1]
def t_need_knows (Γ : Cs) (ED : DXK) : DTS := dSeq (dIf (dOr (dNot (dTest (dCB isiR (daCons (dVar 0) (daCons (dC (.ty "tuple")) (daNil)))))) (dTest (dOp neR (dN (t_need_knows_C1 Γ ED)) (dLst (daNil))))) (dRaise Γ.cBadOffers (wx ED)) (dNext)) (dIf (dTest (dOp neR (dLenSet (dVar 0)) (dCB lenR (daCons (dVar 0) (daNil))))) (dRaise Γ.cBadOffers (wx ED)) (dNext))
theorem tyN_some_ext {G G' : Gp} {d : D} (e : Ext G G') (h : (tyN G d).isSome) : (tyN G' d).isSome := by
  obtain ⟨a, ha⟩ := Option.isSome_iff_exists.mp h
  rw [tyN_ext e ha]; rfl
theorem filter_fm {f : D → Bool} (ds : List D) : ds.filterMap (fun x => if f x then none else some x) = ds.filter fun x => !f x := by
  induction ds with
  | nil => rfl
  | cons y ys ih => by_cases hy : f y <;> simp [hy, ih]
theorem need_knows_C1 {Γ : Cs} {E : DXK} {G : Gp} {Q : DQ} {ds : List D} {a : Option D} (h : ∀ x ∈ ds, (tyN G x).isSome) (q : ∀ p, Nw G p → Q (.ref p) (put G p (.lst (ds.filter fun x => !isNum 0 7 x)))) : t_need_knows_C1 Γ E [some (.tup ds), a] G Q := by
  refine dComp_pure (items := ds) (stay := fun _ => True) (fun x => if isNum 0 7 x then none else some x) (fun R h => by simpa using h) trivial (fun _ _ _ => trivial) (fun p ys x hp hx Qs Qn hQ => ?_) (fun p hp => ?_)
  · have hx := tyN_some_ext (Ext.put (o := .lst ys) hp) (h x hx)
    simp
    refine call3 ⟨_, _, rfl, rfl, hx, ?_⟩
    by_cases ho : isNum 0 7 x = true
    · simp [ho] at hQ ⊢; exact hQ
    · simp [ho] at hQ ⊢; exact hQ
  · rw [filter_fm]
    exact q p hp
theorem ints_of {ds : List D} {i j : Int} (h : ∀ x ∈ ds, isNum i j x = true) : ∃ ns : List Int, ds = ns.map D.int := by
  induction ds with
  | nil => exact ⟨[], rfl⟩
  | cons y ys ih =>
    obtain ⟨ns, e⟩ := ih fun x hx => h x (by simp [hx])
    obtain ⟨k, rfl, _⟩ := isNum_is (h y (by simp))
    exact ⟨k :: ns, by rw [e]; rfl⟩
theorem nodup_ints {ns : List Int} : (ns.map D.int).Nodup ↔ ns.Nodup := by simp [List.Nodup, List.pairwise_map]
theorem not_tup {G : Gp} {d : D} {a : String} (ha : tyN G d = some a) (ht : ¬ ∃ ds, d = .tup ds) : a ≠ "tuple" := fun z => by
  subst z
  cases d
  case tup ds => exact ht ⟨_, rfl⟩
  case ref p => rcases tyN_ref ha with h | h <;> simp at h
  all_goals simp at ha
theorem pure_need_knows (Γ : Cs) : ∀ ds G Q E, sp_need_knows Γ ds G Q E → t_need_knows Γ E { nx := fun _ G => Q .non G, rt := Q } (dstart N_need_knows ds) G := by
  rintro ds G Q E ⟨d, rfl, h, h2, h3, q⟩
  obtain ⟨a, ha⟩ := Option.isSome_iff_exists.mp h
  by_cases ht : ∃ ds, d = .tup ds
  · obtain ⟨ds, rfl⟩ := ht
    simp [t_need_knows]
    refine need_knows_C1 (fun x hx => (h2 ds x rfl hx).1) fun p hp => ?_
    refine eq_new put_same (by simp [List.all_eq_true]; exact fun x hx => .inr (h2 ds x rfl hx).2) fun p2 hp2 => ?_
    have e1 : Ext G (put (put G p (.lst (ds.filter fun x => !isNum 0 7 x))) p2 (.lst [])) := (Ext.put hp).of_put hp2
    have := q _ e1
    by_cases hall : ∀ x ∈ ds, isNum 0 7 x = true
    · have hf : ds.filter (fun x => !isNum 0 7 x) = [] := by simp [List.filter_eq_nil_iff]; exact hall
      rw [hf] at this ⊢
      obtain ⟨ns, rfl⟩ := ints_of hall
      have ha : (ns.map D.int).all (isNum 0 7) = true := List.all_eq_true.mpr hall
      simp
      refine ⟨by simpa using h3 _ rfl, ?_⟩
      by_cases hn : (dd ns).length = ns.length
      · have hn' : ((dd ns).length : Int) = (ns.length : Int) := by omega
        simp [okKnows, ha, nodup_ints, nodup_of_dd hn] at this
        simp [hn']
        exact this
      · have hn' : ¬ ((dd ns).length : Int) = (ns.length : Int) := by omega
        simp [hn']
        have z : ¬ ns.Nodup := fun z => hn (dd_of_nodup z)
        simp [okKnows, nodup_ints, z] at this
        exact this
    · have hf : ds.filter (fun x => !isNum 0 7 x) ≠ [] := by simp [List.filter_eq_nil_iff] at hall ⊢; exact hall
      have ok : okKnows (.tup ds) = false := by
        have : ds.all (isNum 0 7) = false := by simpa using hall
        simp [okKnows, this]
      rw [ok] at this
      have hf' : (ds.filter fun x => !isNum 0 7 x).isEmpty = false := by simpa using hf
      simp [hf']
      exact this
  · have ok : okKnows d = false := by
      cases d
      case tup ds => exact (ht ⟨_, rfl⟩).elim
      all_goals rfl
    have hh := not_tup ha ht
    simp [t_need_knows, ha]
    have h0 := q _ (Ext.refl G)
    rw [ok] at h0
    have hb : (a == "tuple") = false := by simpa using hh
    simp [hb]
    exact h0
/-- the first known kind that is offered -/
def bestK (ks ns : List Int) : D := match ns.find? fun n => decide (n ∈ ks) with
  | some k => .int k
  | none => .non
def IntSeq (G : Gp) (d : D) (ks : List Int) : Prop := d = .tup (ks.map .int) ∨ ∃ p, d = .ref p ∧ G p = some (.lst (ks.map .int))
theorem IntSeq.ext {G G' : Gp} {d : D} {ks : List Int} (h : IntSeq G d ks) (e : Ext G G') : IntSeq G' d ks := by
  rcases h with h | ⟨p, h, g⟩
  · exact .inl h
  · exact .inr ⟨p, h, e _ _ g⟩
theorem any_ints (ks : List Int) (k : Int) : ((ks.map D.int).any fun z => peq z (.int k)) = decide (k ∈ ks) := by
  induction ks with
  | nil => rfl
  | cons j ks ih => 
    rw [List.map_cons, List.any_cons, ih, peq_int]
    by_cases h : j = k
    · simp [h]
    · have : ¬ k = j := fun z => h z.symm
      simp [h, this]
theorem in_ints {G : Gp} {d : D} {ks : List Int} {k : Int} {neg : Bool} {Q : DQ} (h : IntSeq G d ks) (q : Q (.bl (decide (k ∈ ks) != neg)) G) : inR neg (.int k) d G Q := by
  rcases h with rfl | ⟨p, rfl, g⟩
  · refine ⟨by rw [all_ints]; exact dat_int, ?_⟩
    rw [any_ints]
    exact q
  · refine ⟨_, g, ?_⟩
    show _ ∧ _
    refine ⟨by rw [all_ints]; exact dat_int, ?_⟩
    rw [any_ints]
    exact q
def sp_best_kind (Γ : Cs) : DSp := sp2 fun a b G Q _ => ∃ ks ns : List Int, IntSeq G a ks ∧ b = .tup (ns.map .int) ∧ ∀ G', Ext G G' → Q (bestK ks ns) G'
abbrev N_best_kind : List Str := ["kinds", "knows", "some", "kind"]
def t_best_kind_C1 (Γ : Cs) (ED : DXK) : DTE := dComp (diSeq (dVar 1)) (dgName 3) (dTest (dOp (inR false) (dVar 3) (dVar 0))) (dVar 3) [3]
def t_best_kind (Γ : Cs) (ED : DXK) : DTS := dSeq (dAsg (dN (t_best_kind_C1 Γ ED)) (dgName 2)) (dRet (dIfE (dTest (dOp neR (dVar 2) (dLst (daNil)))) (dOp ixR (dVar 2) (dC (.int 0))) (dC .non)))
theorem fm_filter {α β : Type} (f : α → Bool) (g : α → β) (ns : List α) : ns.filterMap (fun n => if f n = true then some (g n) else none) = (ns.filter f).map g := by
  induction ns with
  | nil => rfl
  | cons n ns ih =>
    rw [List.filterMap_cons, List.filter_cons]
    by_cases h : f n = true
    · rw [if_pos h, if_pos h, List.map_cons, ← ih]
    · rw [if_neg h, if_neg h, ← ih]
theorem best_kind_C1 {Γ : Cs} {E : DXK} {G : Gp} {Q : DQ} {d : D} {ks ns : List Int} {a b : Option D} (h : IntSeq G d ks) (q : ∀ p, Nw G p → Q (.ref p) (put G p (.lst ((ns.filter fun n => decide (n ∈ ks)).map .int)))) : t_best_kind_C1 Γ E [some d, some (.tup (ns.map .int)), a, b] G Q := by
  refine dComp_pure (items := ns.map .int) (stay := fun _ => True) (fun x => match x with | .int k => if k ∈ ks then some x else none | _ => none) (fun R h => by simpa using h) trivial (fun _ _ _ => trivial) (fun p ys x hp hx Qs Qn hQ => ?_) (fun p hp => ?_)
  · obtain ⟨k, _, rfl⟩ := List.mem_map.mp hx
    simp
    refine in_ints (h.ext (Ext.put hp)) ?_
    by_cases hk : k ∈ ks
    · simp [hk] at hQ ⊢
      exact hQ
    · simp [hk] at hQ ⊢
      exact hQ
  · have : (ns.map D.int).filterMap (fun x => match x with | .int k => if k ∈ ks then some x else none | _ => none) = ((ns.filter fun n => decide (n ∈ ks)).map .int) := by
      rw [List.filterMap_map, ← fm_filter]
      congr 1
      funext n
      simp
    rw [this]
    exact q p hp
theorem find_filter {α : Type} (f : α → Bool) (ns : List α) : ns.find? f = (ns.filter f).head? := List.head?_filter.symm
theorem pure_best_kind (Γ : Cs) : ∀ ds G Q E, sp_best_kind Γ ds G Q E → t_best_kind Γ E { nx := fun _ G => Q .non G, rt := Q } (dstart N_best_kind ds) G := by
  rintro ds G Q E ⟨d, d2, rfl, ks, ns, h, rfl, q⟩
  simp [t_best_kind]
  refine best_kind_C1 h fun p hp => ?_
  refine eq_new put_same (all_ints _) fun p2 hp2 => ?_
  have e1 : Ext G (put (put G p (.lst ((ns.filter fun n => decide (n ∈ ks)).map .int))) p2 (.lst [])) := (Ext.put hp).of_put hp2
  have := q _ e1
  unfold bestK at this
  rw [find_filter] at this
  obtain ⟨n1, n2, _⟩ := put_none hp2
  cases e : ns.filter (fun n => decide (n ∈ ks)) with
  | nil =>
    rw [e] at this
    simpa using this
  | cons k r =>
    rw [e] at this
    simp [put_ne n2, put_same, anyO]
    simpa using this
def sp_best (Γ : Cs) : DSp := sp2 fun a b G Q E => ∃ ds, a = .tup ds ∧ okOffers a = true ∧ ds.length ≤ 4000 ∧ ∃ ns : List Int, b = .tup (ns.map .int) ∧ okKnows b = true ∧ ns.length ≤ 4000 ∧ ∀ G', Ext G G' → Q (bestK (ds.filterMap fstD) ns) G'
abbrev N_best : List Str := ["offers", "knows", "kind", "number"]
def t_best_C1 (Γ : Cs) (ED : DXK) : DTE := dComp (diSeq (dVar 0)) (dgTup 2 (dgCons (dgName 2) (dgCons (dgName 3) (dgNil)))) dYes (dVar 2) [2, 3]
def t_best (Γ : Cs) (ED : DXK) : DTS := dSeq (dDrop (dCall (sp_need_offers Γ) (wx ED) (daCons (dVar 0) (daNil)))) (dSeq (dDrop (dCall (sp_need_knows Γ) (wx ED) (daCons (dVar 1) (daNil)))) (dRet (dCall (sp_best_kind Γ) (wx ED) (daCons (dN (t_best_C1 Γ ED)) (daCons (dVar 1) (daNil))))))
theorem offer_tyd {G : Gp} {x : D} (h : isOffer x = true) : tyd G x ∧ dat 20 x = true := by
  obtain ⟨k, n, rfl, _⟩ := isOffer_is h
  refine ⟨⟨rfl, fun ds x e hx => ?_⟩, by simp [dat]⟩
  cases e
  simp at hx
  rcases hx with rfl | rfl <;> rfl
theorem okOffers_all {ds : List D} (h : okOffers (.tup ds) = true) : ∀ x ∈ ds, isOffer x = true := by
  unfold okOffers at h
  simp at h
  exact h.1.1
theorem best_C1 {Γ : Cs} {E : DXK} {G : Gp} {Q : DQ} {ds : List D} {a b c : Option D} (h : ∀ x ∈ ds, isOffer x = true) (q : ∀ p, Nw G p → Q (.ref p) (put G p (.lst ((ds.filterMap fstD).map .int)))) : t_best_C1 Γ E [some (.tup ds), a, b, c] G Q := by
  refine dComp_pure (items := ds) (stay := fun _ => True) (fun x => (fstD x).map .int) (fun R h => by simpa using h) trivial (fun _ _ _ => trivial) (fun p ys x hp hx Qs Qn hQ => ?_) (fun p hp => ?_)
  · obtain ⟨k, n, rfl, _⟩ := isOffer_is (h x hx)
    simpa [fstD] using hQ
  · have : ds.filterMap (fun x => (fstD x).map D.int) = (ds.filterMap fstD).map D.int := by
      rw [List.map_filterMap]
    rw [this]
    exact q p hp
theorem pure_best (Γ : Cs) : ∀ ds G Q E, sp_best Γ ds G Q E → t_best Γ E { nx := fun _ G => Q .non G, rt := Q } (dstart N_best ds) G := by
  rintro ds G Q E ⟨a, b, rfl, ds, rfl, h1, h2, ns, rfl, h3, h4, q⟩
  have hall := okOffers_all h1
  simp [t_best]
  refine call1 ⟨rfl, fun ds' x e hx => offer_tyd (hall x (by cases e; exact hx)), fun ds' e => by cases e; exact h2, fun G1 e1 => ?_⟩
  rw [if_pos h1]
  simp
  refine call1 ⟨rfl, fun ds' x e hx => ?_, fun ds' e => by cases e; simpa using h4, fun G2 e2 => ?_⟩
  · cases e
    obtain ⟨k, _, rfl⟩ := List.mem_map.mp hx
    exact ⟨rfl, dat_int⟩
  rw [if_pos h3]
  simp
  refine best_C1 hall fun p hp => ?_
  simp
  refine call2 ⟨ds.filterMap fstD, ns, .inr ⟨_, rfl, put_same⟩, rfl, fun G3 e3 => ?_⟩
  exact q _ ((e1.trans e2).trans ((Ext.put hp).trans e3))
end DL
set_option Elab.async false
set_option linter.all false
set_option maxRecDepth 100000
set_option maxHeartbeats 4000000
namespace DL
open PySem PySem.Spec L2
/-! ### draws -/
/-- all stays but at b and l -/
def Exc (b l : Addr) (G G' : Gp) : Prop := ∀ a o, a ≠ b → a ≠ l → G a = some o → G' a = some o
theorem Exc.refl (b l : Addr) (G : Gp) : Exc b l G G := fun _ _ _ _ h => h
theorem Exc.trans {b l : Addr} {G G1 G2 : Gp} (a : Exc b l G G1) (c : Exc b l G1 G2) : Exc b l G G2 := fun x o h1 h2 h => c x o h1 h2 (a x o h1 h2 h)
theorem Exc.of_ext {b l : Addr} {G G' : Gp} (h : Ext G G') : Exc b l G G' := fun a o _ _ e => h a o e
theorem Exc.putb {b l : Addr} {G : Gp} {o : DO} : Exc b l G (put G b o) := fun a u h1 _ e => by rw [put_ne h1]; exact e
theorem Exc.putl {b l : Addr} {G : Gp} {o : DO} : Exc b l G (put G l o) := fun a u _ h1 e => by rw [put_ne h1]; exact e
theorem Exc.fresh {b l p : Addr} {G G' : Gp} {o : DO} (h : Exc b l G G') (hp : G p = none) : Exc b l G (put G' p o) := fun a u h1 h2 e => by
  rw [put_ne (ne_fr e hp)]
  exact h a u h1 h2 e
theorem Box.ext {G G' : Gp} {b l : Addr} (h : Box G b l) (e : Ext G G') : Box G' b l := by
  obtain ⟨h1, ns, s, h2, h3, h4⟩ := h
  exact ⟨h1, ns, s, e _ _ h2, e _ _ h3, h4⟩
theorem Box.ne {G : Gp} {b l p : Addr} (h : Box G b l) (hp : G p = none) : p ≠ b ∧ p ≠ l := by
  obtain ⟨_, ns, s, h2, h3, _⟩ := h
  exact ⟨(ne_fr h2 hp).symm, (ne_fr h3 hp).symm⟩
theorem Box.put {G : Gp} {b l p : Addr} {o : DO} (h : Box G b l) (h1 : p ≠ b) (h2 : p ≠ l) : Box (DL.put G p o) b l := by
  obtain ⟨h0, ns, s, h3, h4, h5⟩ := h
  exact ⟨h0, ns, s, by rw [put_ne h1.symm]; exact h3, by rw [put_ne h2.symm]; exact h4, h5⟩
def sp_law_take (Γ : Cs) : DSp := sp2 fun x m G Q _ => ∃ (b l : Addr) (k : Int), x = .ref b ∧ m = .int k ∧ 0 < k ∧ k < 1073741824 ∧ Box G b l ∧ ∀ r G', 0 ≤ r → r < k → Box G' b l → Exc b l G G' → Q (.int r) G'
abbrev N_law_take : List Str := ["_law_box", "_law_many", "_law_number"]
def t_law_take (Γ : Cs) (ED : DXK) : DTS := dSeq (dIf (dTest (dOp eqR (dOp ixR (dVar 0) (dC (.int 0))) (dLst (daNil)))) (dSeq (dAsg (dOp modR (dOp mulR (dOp ixR (dVar 0) (dC (.int 1))) (dC (.int 48271))) (dC (.int 2147483647))) (dgSub (dVar 0) (dC (.int 1)))) (dRet (dOp modR (dOp divR (dOp ixR (dVar 0) (dC (.int 1))) (dC (.int 7))) (dVar 1)))) (dNext)) (dSeq (dAsg (dOp ixR (dOp ixR (dVar 0) (dC (.int 0))) (dC (.int 0))) (dgName 2)) (dSeq (dAsg (dOp divR (dVar 2) (dVar 1)) (dgSub (dOp ixR (dVar 0) (dC (.int 0))) (dC (.int 0)))) (dSeq (dIf (dOr (dTest (dOp eqR (dOp ixR (dOp ixR (dVar 0) (dC (.int 0))) (dC (.int 0))) (dC (.int 0)))) (dTest (dOp eqR (dOp ixR (dOp ixR (dVar 0) (dC (.int 0))) (dC (.int 0))) (dC (.int (-1)))))) (dDrop (dBM "list" popR (dOp ixR (dVar 0) (dC (.int 0))) (daCons (dC (.int 0)) (daNil)))) (dNext)) (dRet (dOp modR (dVar 2) (dVar 1))))))
theorem pure_law_take (Γ : Cs) : ∀ ds G Q E, sp_law_take Γ ds G Q E → t_law_take Γ E { nx := fun _ G => Q .non G, rt := Q } (dstart N_law_take ds) G := by
  rintro ds G Q E ⟨x, m, rfl, b, l, k, rfl, rfl, h0, h1, ⟨hbl, ns, s, hb, hl, hs0, hs1⟩, q⟩
  have hlb := Ne.symm hbl
  simp [t_law_take, hb]
  refine eq_new hl (all_ints _) fun p hp => ?_
  have nb := ne_fr hb hp
  have nl := ne_fr hl hp
  cases ns with
  | nil =>
    simp [put_at, hb, hl, nb, nl]
    refine ⟨.inr ⟨by decide, by decide⟩, ⟨by decide, by decide⟩, h0, ?_⟩
    refine q _ _ (Int.emod_nonneg _ (by omega)) (Int.emod_lt_of_pos _ h0) ⟨hbl, [], _, put_same, by rw [put_ne hbl, put_ne nl]; exact hl, Int.emod_nonneg _ (by decide), Int.emod_lt_of_pos _ (by decide)⟩ ?_
    exact (Exc.of_ext (Ext.put hp)).trans Exc.putb
  | cons n ns =>
    simp [put_at, hb, hl, nb, nl, hbl, hlb]
    refine ⟨⟨h0, h1⟩, ?_⟩
    have fin : ∀ ms : List Int, Q (.int (n % k)) (put (put G p (.lst [])) l (.lst (ms.map D.int))) := fun ms =>
      q _ _ (Int.emod_nonneg _ (by omega)) (Int.emod_lt_of_pos _ h0) ⟨hbl, ms, s, by rw [put_ne hlb, put_ne nb]; exact hb, put_same, hs0, hs1⟩ ((Exc.of_ext (Ext.put hp)).trans Exc.putl)
    refine iteP_of (fun _ => ?_) fun _ => ?_
    · simp [put_at, hb, hl, nb, nl, hbl, hlb]
      rw [put_put]
      exact ⟨h0, fin ns⟩
    · simp [put_at, hb, hl, nb, nl, hbl, hlb]
      refine iteP_of (fun _ => ?_) fun _ => ?_
      · simp [put_at, hb, hl, nb, nl, hbl, hlb]
        rw [put_put]
        exact ⟨h0, fin ns⟩
      · simp [put_at, hb, hl, nb, nl, hbl, hlb]
        exact ⟨h0, fin (n / k :: ns)⟩

/-- the same, all the way down -/
def same : Nat → Gp → D → D → Prop
  | 0, _, _, _ => False
  | n + 1, G, a, b => match a, b with
    | .non, .non => True
    | .bl x, .bl y => x = y
    | .int x, .int y => x = y
    | .str x, .str y => x = y
    | .tup xs, .tup ys => xs.length = ys.length ∧ xs.length ≤ 1000000 ∧ ∀ (i : Nat) (x y : D), xs[i]? = some x → ys[i]? = some y → same n G x y
    | .ref p, .ref q => ∃ xs ys, G p = some (.lst xs) ∧ G q = some (.lst ys) ∧ xs.length = ys.length ∧ xs.length ≤ 1000000 ∧ ∀ (i : Nat) (x y : D), xs[i]? = some x → ys[i]? = some y → same n G x y
    | _, _ => False
def sp_law_alike (n : Nat) (Γ : Cs) : DSp := sp2 fun a b G Q _ => same n G a b ∧ Q (.bl true) G
theorem nil_law_alike (Γ : Cs) : ∀ ds G Q E, sp_law_alike 0 Γ ds G Q E → False := by
  rintro ds G Q E ⟨a, b, rfl, h, _⟩
  exact h
abbrev N_law_alike : List Str := ["_law_found", "_law_due", "_law_k"]
def t_law_alike_L1 (spr : DSp) (Γ : Cs) (ED : DXK) : DTS := dIf (dNot (dTest (dCall spr (wx ED) (daCons (dOp ixR (dVar 0) (dVar 2)) (daCons (dOp ixR (dVar 1) (dVar 2)) (daNil)))))) (dRet (dC (.bl false))) (dNext)
def t_law_alike (spr : DSp) (Γ : Cs) (ED : DXK) : DTS := dSeq (dIf (dTest (dOp (isNR false) (dVar 1) (dC .non))) (dRet (dOp (isNR false) (dVar 0) (dC .non))) (dNext)) (dSeq (dIf (dTest (dCB isiR (daCons (dVar 1) (daCons (dC (.ty "bool")) (daNil))))) (dRet (dAndV (dCB isiR (daCons (dVar 0) (daCons (dC (.ty "bool")) (daNil)))) (dOp eqR (dVar 0) (dVar 1)))) (dNext)) (dSeq (dIf (dTest (dCB isiR (daCons (dVar 1) (daCons (dC (.ty "int")) (daNil))))) (dRet (dAndV (dCB isiR (daCons (dVar 0) (daCons (dC (.ty "int")) (daNil)))) (dAndV (dNotV (dCB isiR (daCons (dVar 0) (daCons (dC (.ty "bool")) (daNil))))) (dOp eqR (dVar 0) (dVar 1))))) (dNext)) (dSeq (dIf (dTest (dCB isiR (daCons (dVar 1) (daCons (dC (.ty "str")) (daNil))))) (dRet (dAndV (dCB isiR (daCons (dVar 0) (daCons (dC (.ty "str")) (daNil)))) (dOp eqR (dVar 0) (dVar 1)))) (dNext)) (dSeq (dIf (dOr (dTest (dOp neR (dCB isiR (daCons (dVar 1) (daCons (dC (.ty "tuple")) (daNil)))) (dCB isiR (daCons (dVar 0) (daCons (dC (.ty "tuple")) (daNil)))))) (dTest (dOp neR (dCB isiR (daCons (dVar 1) (daCons (dC (.ty "list")) (daNil)))) (dCB isiR (daCons (dVar 0) (daCons (dC (.ty "list")) (daNil))))))) (dRet (dC (.bl false))) (dNext)) (dSeq (dIf (dTest (dOp neR (dCB lenR (daCons (dVar 0) (daNil))) (dCB lenR (daCons (dVar 1) (daNil))))) (dRet (dC (.bl false))) (dNext)) (dSeq (dFor (diRng (daCons (dCB lenR (daCons (dVar 1) (daNil))) (daNil))) (dgName 2) (t_law_alike_L1 spr Γ ED)) (dRet (dC (.bl true)))))))))
theorem atI_i {α : Type} {xs : List α} {i : Nat} {x : α} (h : xs[i]? = some x) : atI xs (i : Int) = some x := by
  have hi : i < xs.length := (List.getElem?_eq_some_iff.mp h).1
  rw [atI_nat hi]
  rw [List.getElem?_eq_getElem hi] at h
  exact h
theorem rngD_at {n i : Nat} {x : D} (h : (rngD 0 n)[i]? = some x) : i < n ∧ x = .int (i : Nat) := by
  unfold rngD at h
  rw [List.getElem?_map] at h
  cases e : (List.range n)[i]? with
  | none => rw [e] at h; cases h
  | some j =>
    rw [e] at h
    have hj : i < (List.range n).length := (List.getElem?_eq_some_iff.mp e).1
    rw [List.getElem?_eq_getElem hj] at e
    simp at e
    simp at hj
    subst e
    simp at h
    exact ⟨hj, h.symm⟩
theorem rngD_len {lo : Int} {n : Nat} : (rngD lo n).length = n := by simp [rngD]
theorem pure_law_alike (n : Nat) (Γ : Cs) : ∀ ds G Q E, sp_law_alike (n + 1) Γ ds G Q E → t_law_alike (sp_law_alike n Γ) Γ E { nx := fun _ G => Q .non G, rt := Q } (dstart N_law_alike ds) G := by
  rintro ds G Q E ⟨a, b, rfl, h, q⟩
  cases a <;> cases b <;> simp only [same] at h
  case non.non => simp [t_law_alike]; exact q
  case bl.bl => subst h; simp [t_law_alike]; exact q
  case int.int => subst h; simp [t_law_alike]; exact q
  case str.str => subst h; simp [t_law_alike]; exact q
  case tup.tup xs ys =>
    obtain ⟨h1, h2, h3⟩ := h
    simp [t_law_alike, h1]
    refine ⟨by omega, ?_⟩
    refine loop_ind (fun i sd G' => G' = G ∧ ∃ z, sd = [some (.tup xs), some (.tup ys), z]) (fun _ _ _ _ => trivial) ?_ ?_ ⟨rfl, _, rfl⟩
    · rintro i x sd G' K hx ⟨rfl, z, rfl⟩ hK
      obtain ⟨hi, rfl⟩ := rngD_at hx
      obtain ⟨u, hu⟩ : ∃ u, xs[i]? = some u := ⟨xs[i], by simp [h1, hi]⟩
      obtain ⟨v, hv⟩ : ∃ u, ys[i]? = some u := ⟨ys[i], by simp⟩
      simp [t_law_alike_L1, atI_i hu, atI_i hv]
      refine call2 ⟨h3 i u v hu hv, ?_⟩
      simp
      exact hK _ _ ⟨rfl, _, rfl⟩
    · rintro sd G' ⟨rfl, z, rfl⟩
      simp
      exact q
  case ref.ref p p' =>
    obtain ⟨xs, ys, g1, g2, h1, h2, h3⟩ := h
    simp [t_law_alike, g1, g2, h1, tyN]
    refine ⟨by omega, ?_⟩
    refine loop_ind (fun i sd G' => G' = G ∧ ∃ z, sd = [some (.ref p), some (.ref p'), z]) (fun _ _ _ _ => trivial) ?_ ?_ ⟨rfl, _, rfl⟩
    · rintro i x sd G' K hx ⟨rfl, z, rfl⟩ hK
      obtain ⟨hi, rfl⟩ := rngD_at hx
      obtain ⟨u, hu⟩ : ∃ u, xs[i]? = some u := ⟨xs[i], by simp [h1, hi]⟩
      obtain ⟨v, hv⟩ : ∃ u, ys[i]? = some u := ⟨ys[i], by simp⟩
      simp [t_law_alike_L1, g1, g2, atI_i hu, atI_i hv]
      refine call2 ⟨h3 i u v hu hv, ?_⟩
      simp [g1, g2]
      exact hK _ _ ⟨rfl, _, rfl⟩
    · rintro sd G' ⟨rfl, z, rfl⟩
      simp
      exact q
end DL
set_option Elab.async false
set_option linter.all false
set_option maxRecDepth 100000
set_option maxHeartbeats 400000
namespace DL
open PySem PySem.Spec L2
/-! ### drawn offers, drawn knows -/
def tDo (t : Int × Int) : D := .tup [.int t.1, .int t.2]
theorem takes {Γ : Cs} {b l : Addr} {k : Int} {G : Gp} {Q : DQ} {E : DXK} {ts tq te} (h0 : 0 < k) (h1 : k < 1073741824) (B : Box G b l) (q : ∀ r G', 0 ≤ r → r < k → Box G' b l → Exc b l G G' → Q (.int r) G') :
    callP (sp_law_take Γ) [.ref b, .int k] G Q E ts tq te := call2 ⟨b, l, k, rfl, rfl, h0, h1, B, q⟩
theorem er_map {α β : Type} (f : α → β) : ∀ (l : List α) (i : Nat), (l.map f).eraseIdx i = (l.eraseIdx i).map f
  | [], _ => rfl
  | _ :: _, 0 => rfl
  | a :: l, i + 1 => by simp [er_map f l i]
theorem er_perm {α : Type} : ∀ (l : List α) (i : Nat) (h : i < l.length), (l[i] :: l.eraseIdx i).Perm l
  | a :: l, 0, _ => .refl _
  | a :: l, i + 1, h => by
    have ih := er_perm l i (by simpa using h)
    exact (List.Perm.swap _ _ _).trans (ih.cons a)
/-- one taken out of the rest -/
theorem taken {ns : List Int} {r : Int} (r0 : 0 ≤ r) (r1 : r < ns.length) : ∃ k, ns[r.toNat]? = some k ∧ k ∈ ns ∧ (ns.map D.int)[r.toNat]? = some (.int k) ∧ (ns.map D.int).eraseIdx r.toNat = (ns.eraseIdx r.toNat).map D.int ∧ (ns.eraseIdx r.toNat).length + 1 = ns.length ∧ (k :: ns.eraseIdx r.toNat).Perm ns := by
  have hr : r.toNat < ns.length := by omega
  refine ⟨ns[r.toNat], by simp [hr], List.getElem_mem hr, by simp [hr], er_map _ _ _, ?_, er_perm _ _ hr⟩
  rw [List.length_eraseIdx_of_lt hr]
  omega
def sp_law_offers (Γ : Cs) : DSp := sp1 fun x G Q _ => ∃ b l, x = .ref b ∧ Box G b l ∧ ∀ (ps : List (Int × Int)) G', ps ≠ [] → (ps.map (·.1)).Nodup → (∀ p ∈ ps, 0 ≤ p.1 ∧ p.1 ≤ 7 ∧ 0 ≤ p.2 ∧ p.2 ≤ 9999) → ps.length ≤ 8 → Box G' b l → Exc b l G G' → Q (.tup (ps.map tDo)) G'
abbrev N_law_offers : List Str := ["_law_box", "_law_left", "_law_found", "_law_turn"]
def t_law_offers_L1 (Γ : Cs) (ED : DXK) : DTS := dDrop (dBM "list" appR (dVar 2) (daCons (dTup (daCons (dBM "list" popR (dVar 1) (daCons (dCall (sp_law_take Γ) (wx ED) (daCons (dVar 0) (daCons (dCB lenR (daCons (dVar 1) (daNil))) (daNil)))) (daNil))) (daCons (dCall (sp_law_take Γ) (wx ED) (daCons (dVar 0) (daCons (dC (.int 10000)) (daNil)))) (daNil)))) (daNil)))
def t_law_offers (Γ : Cs) (ED : DXK) : DTS := dSeq (dPar 1 2 (daCons (dListRng (dC (.int 8))) (daCons (dLst (daNil)) (daNil)))) (dSeq (dFor (diRng (daCons (dOp addR (dC (.int 1)) (dCall (sp_law_take Γ) (wx ED) (daCons (dVar 0) (daCons (dOp ixR (dLst (daCons (dC (.int 2)) (daCons (dC (.int 4)) (daCons (dC (.int 8)) (daNil))))) (dCall (sp_law_take Γ) (wx ED) (daCons (dVar 0) (daCons (dC (.int 3)) (daNil))))) (daNil))))) (daNil))) (dgName 3) (t_law_offers_L1 Γ ED)) (dRet (dCB tupleR (daCons (dVar 2) (daNil)))))
theorem pure_law_offers (Γ : Cs) : ∀ ds G Q E, sp_law_offers Γ ds G Q E → t_law_offers Γ E { nx := fun _ G => Q .non G, rt := Q } (dstart N_law_offers ds) G := by
  rintro ds G Q E ⟨x, rfl, b, l, rfl, B, q⟩
  simp [t_law_offers]
  intro p hp p2 hp2 p3 hp3
  have n1 := B.ne hp
  have B1 := B.ext (Ext.put (o := .lst (rngD 0 8)) hp)
  have n2 := B1.ne hp2
  have B2 := B1.ext (Ext.put (o := .lst []) hp2)
  have n3 := B2.ne hp3
  have B3 := B2.ext (Ext.put (o := .lst [.int 2, .int 4, .int 8]) hp3)
  have e3 := (Ext.put (o := .lst (rngD 0 8)) hp).trans ((Ext.put (o := .lst []) hp2).trans (Ext.put (o := .lst [.int 2, .int 4, .int 8]) hp3))
  simp only [nw_put] at hp2 hp3
  obtain ⟨m1, m2, hp2⟩ := hp2
  obtain ⟨m3, m4, m5, m6, hp3⟩ := hp3
  refine takes (by decide) (by decide) B3 fun r G1 r0 r1 B4 x1 => ?_
  have hm : ∃ m, atI [D.int 2, .int 4, .int 8] r = some (.int m) ∧ 0 < m ∧ m ≤ 8 := by
    have : r = 0 ∨ r = 1 ∨ r = 2 := by omega
    rcases this with rfl | rfl | rfl
    · exact ⟨2, by simp, by decide, by decide⟩
    · exact ⟨4, by simp, by decide, by decide⟩
    · exact ⟨8, by simp, by decide, by decide⟩
  obtain ⟨m, hm, m0, m8⟩ := hm
  simp [x1 p3 _ n3.1 n3.2 put_same, hm]
  refine takes m0 (by omega) B4 fun r' G2 r0' r1' B5 x2 => ?_
  simp
  have x12 := x1.trans x2
  have gp : G2 p = some (.lst (rngD 0 8)) := x12 p _ n1.1 n1.2 (by simp [put_at, m1, m2, m3, m4, m5, m6])
  have gp2 : G2 p2 = some (.lst []) := x12 p2 _ n2.1 n2.2 (by simp [put_at, m1, m2, m3, m4, m5, m6])
  have x0 : Exc b l G G2 := (Exc.of_ext e3).trans x12
  refine ⟨by omega, by omega, ?_⟩
  refine loop_ind (fun i sd G' => Box G' b l ∧ Exc b l G G' ∧ ∃ (z : Option D) (ps : List (Int × Int)) (ns : List Int), sd = [some (.ref b), some (.ref p), some (.ref p2), z] ∧ G' p = some (.lst (ns.map .int)) ∧ G' p2 = some (.lst (ps.map tDo)) ∧
    ps.length = i ∧ ns.length + i = 8 ∧ (ps.map (·.1) ++ ns).Nodup ∧ (∀ n ∈ ns, 0 ≤ n ∧ n ≤ 7) ∧ (∀ p ∈ ps, 0 ≤ p.1 ∧ p.1 ≤ 7 ∧ 0 ≤ p.2 ∧ p.2 ≤ 9999)) (fun _ _ _ _ => trivial) ?_ ?_ ⟨B5, x0, none, [], [0, 1, 2, 3, 4, 5, 6, 7], rfl, by rw [gp]; rfl, gp2, rfl, rfl, by decide, by decide, by simp⟩
  · rintro i x sd G' K hx ⟨B', x', z, ps, ns, rfl, h1, h2, h3, h4, h5, h6, h7⟩ hK
    obtain ⟨hi, rfl⟩ := rngD_at hx
    simp [t_law_offers_L1, h1, h2]
    refine takes (by omega) (by omega) B' fun r G3 r0 r1 B6 x6 => ?_
    obtain ⟨k, e1, e2, e3, e4, e5, e6⟩ := taken r0 r1
    have g3 := x6 p _ n1.1 n1.2 h1
    have g32 := x6 p2 _ n2.1 n2.2 h2
    simp [g3, e3, e4, r0]
    have B7 := B6.put (o := .lst ((ns.eraseIdx r.toNat).map D.int)) n1.1 n1.2
    refine takes (by decide) (by decide) B7 fun r2 G5 r20 r21 B8 x8 => ?_
    have g5 := x8 p2 _ n2.1 n2.2 (by rw [put_ne (by first | exact m1 | exact m2)]; exact g32)
    have hps : ps.length < sizeLine := by rw [sizeLine_eq]; omega
    simp [g5, hps]
    refine hK _ _ ⟨B8.put n2.1 n2.2, ((((x'.trans x6).fresh hp).trans x8).fresh hp2), _, ps ++ [(k, r2)], ns.eraseIdx r.toNat, rfl, ?_, ?_, by simp [h3], by omega, ?_, fun n hn => h6 n (List.mem_of_mem_eraseIdx hn), fun q hq => ?_⟩
    · rw [put_ne (by first | exact m1 | exact m2)]
      exact x8 p _ n1.1 n1.2 put_same
    · rw [put_same]
      simp [tDo]
    · have : (ps.map (·.1) ++ (k :: ns.eraseIdx r.toNat)).Perm (ps.map (·.1) ++ ns) := List.Perm.append_left _ e6
      simpa using this.nodup_iff.mpr h5
    · rcases List.mem_append.mp hq with hq | hq
      · exact h7 q hq
      · have : q = (k, r2) := by simpa using hq
        subst this
        have := h6 k e2
        exact ⟨this.1, this.2, r20, by show r2 ≤ 9999; omega⟩
  · rintro sd G' ⟨B', x', z, ps, ns, rfl, h1, h2, h3, h4, h5, h6, h7⟩
    rw [rngD_len] at h3
    simp [h2]
    refine q ps G' ?_ (List.nodup_append.mp h5).1 h7 (by omega) B' x'
    intro e
    subst e
    simp at h3
    omega
end DL
set_option Elab.async false
set_option linter.all false
set_option maxRecDepth 100000
set_option maxHeartbeats 400000
namespace DL
open PySem PySem.Spec L2
/-! ### numbers as texts -/
def tl' (x : Str) : List Nat := x.cps.toList
def nS (n : Int) : Str := Str.ofString (toString n)
theorem tl_nS (m : Nat) : tl' (nS (m : Int)) = (Nat.toDigits 10 m).map Char.toNat := PySem.W.KIN.signs_num m
theorem digs_head : ∀ (n m : Nat), m ≤ n → m = 0 ∨ (Nat.toDigits 10 m).head? ≠ some '0'
  | n, 0, _ => .inl rfl
  | 0, m + 1, h => by omega
  | n + 1, m + 1, h => by
    right
    rcases Nat.lt_or_ge (m + 1) 10 with h1 | h1
    · rw [Nat.toDigits_of_lt_base h1]
      have : m + 1 = 1 ∨ m + 1 = 2 ∨ m + 1 = 3 ∨ m + 1 = 4 ∨ m + 1 = 5 ∨ m + 1 = 6 ∨ m + 1 = 7 ∨ m + 1 = 8 ∨ m + 1 = 9 := by omega
      rcases this with e | e | e | e | e | e | e | e | e <;> rw [e] <;> decide
    · have e := Nat.toDigits_append_toDigits (b := 10) (n := (m + 1) / 10) (d := (m + 1) % 10) (by decide) (by omega) (by omega)
      have e2 : 10 * ((m + 1) / 10) + (m + 1) % 10 = m + 1 := by omega
      rw [e2] at e
      rw [← e]
      rcases digs_head n ((m + 1) / 10) (by omega) with h2 | h2
      · omega
      · have hne : Nat.toDigits 10 ((m + 1) / 10) ≠ [] := Nat.toDigits_ne_nil
        cases hd : Nat.toDigits 10 ((m + 1) / 10) with
        | nil => exact (hne hd).elim
        | cons x r => rw [hd] at h2; simpa using h2
theorem digs_one {m : Nat} (h : m < 10000) : (m = 0 ∨ (Nat.toDigits 10 m).head? ≠ some '0') ∧ 1 ≤ (Nat.toDigits 10 m).length ∧ (Nat.toDigits 10 m).length ≤ 4 :=
  ⟨digs_head m m (Nat.le_refl _), List.length_pos_iff.mpr Nat.toDigits_ne_nil, (Nat.length_toDigits_le_iff (by decide) (by decide)).mpr h⟩
theorem digs_rng {m : Nat} : ∀ c ∈ tl' (nS (m : Int)), 48 ≤ c ∧ c ≤ 57 := by
  intro c hc
  rw [tl_nS] at hc
  obtain ⟨ch, hch, e⟩ := List.mem_map.mp hc
  rw [← e]
  exact PyProof.Rows.digit_range (Nat.isDigit_of_mem_toDigits (by decide) (by decide) hch)
theorem ok_small {x : Str} (h : ∀ c ∈ tl' x, c < 128) : OkS x := by
  show x.cps.all (· < 0x110000) = true
  rw [← Array.all_toList, List.all_eq_true]
  intro c hc
  have := h c hc
  simp
  omega
/-- all signs are small -/
def Asc (x : Str) : Prop := ∀ c ∈ tl' x, c < 128
theorem Asc.ok {x : Str} (h : Asc x) : OkS x := ok_small h
theorem tl_app (x y : Str) : tl' (x ++ y) = tl' x ++ tl' y := by
  show (x.cps ++ y.cps).toList = _
  rw [Array.toList_append]
  rfl
theorem len_tl (x : Str) : x.length = (tl' x).length := by show x.cps.size = _; simp [tl']
theorem Asc.app {x y : Str} (h : Asc x) (k : Asc y) : Asc (x ++ y) := fun c hc => by
  rw [tl_app] at hc
  rcases List.mem_append.mp hc with hc | hc
  · exact h c hc
  · exact k c hc
theorem asc_nS {n : Int} (h : 0 ≤ n) : Asc (nS n) := by
  obtain ⟨m, rfl⟩ := Int.eq_ofNat_of_zero_le h
  exact fun c hc => by have := digs_rng (m := m) c hc; omega
theorem nS_len {n : Int} (h : 0 ≤ n) (h1 : n ≤ 9999) : 1 ≤ (nS n).length ∧ (nS n).length ≤ 4 := by
  obtain ⟨m, rfl⟩ := Int.eq_ofNat_of_zero_le h
  rw [len_tl, tl_nS, List.length_map]
  exact (digs_one (by omega)).2
theorem log_small {n : Int} (h : 0 ≤ n) (h1 : n ≤ 9999) : n.natAbs.log2 < 1920 := by
  have : n.natAbs.log2 ≤ n.natAbs := Nat.log2_le_self _
  rcases Nat.lt_or_ge n.natAbs 1920 with h2 | h2
  · omega
  · have : n.natAbs.log2 < 14 := by
      rw [Nat.log2_lt (by omega)]
      omega
    omega
theorem asc_join {y : Str} (hy : Asc y) : ∀ {xs : List Str}, (∀ x ∈ xs, Asc x) → Asc (Txt.join y xs)
  | [], _ => fun c hc => by
    have : tl' (Txt.join y []) = [] := by rw [TL.join_eq]; rfl
    rw [this] at hc; cases hc
  | [x], h => by
    have : Txt.join y [x] = x := by rw [TL.join_eq]; rfl
    rw [this]
    exact h x (by simp)
  | x :: z :: r, h => by
    have e : Txt.join y (x :: z :: r) = x ++ y ++ Txt.join y (z :: r) := by rw [TL.join_eq, TL.join_eq]; rfl
    rw [e]
    exact ((h x (by simp)).app hy).app (asc_join hy fun w hw => h w (by simp [hw]))
theorem len_app (x y : Str) : (x ++ y).length = x.length + y.length := by rw [len_tl, tl_app, List.length_append, ← len_tl, ← len_tl]
theorem len_join {y : Str} : ∀ {xs : List Str}, (Txt.join y xs).length ≤ (xs.map (·.length)).sum + xs.length * y.length
  | [] => by rw [TL.join_eq]; exact Nat.zero_le _
  | [x] => by
    have : Txt.join y [x] = x := by rw [TL.join_eq]; rfl
    rw [this]
    simp
  | x :: z :: r => by
    have e : Txt.join y (x :: z :: r) = x ++ y ++ Txt.join y (z :: r) := by rw [TL.join_eq, TL.join_eq]; rfl
    have := len_join (y := y) (xs := z :: r)
    rw [e, len_app, len_app]
    simp [Nat.add_mul] at *
    omega
end DL
set_option Elab.async false
set_option linter.all false
set_option maxRecDepth 100000
set_option maxHeartbeats 400000
namespace DL
open PySem PySem.Spec L2
/-! ### what a word writes -/
def isDg (c : Nat) : Bool := decide (48 ≤ c) && decide (c ≤ 57)
def numT (x : Str) : Option Int := if 1 ≤ x.length ∧ x.length ≤ 4 ∧ (tl' x).all isDg = true then (if (tl' x).head? ≠ some 48 ∨ x = "0" then PySem.intText? x else none) else none
def numD : Option Int → D
  | some n => .int n
  | none => .non
theorem figs (c : Nat) : (!(Builtin.Str.occurrences ("0123456789" : Str) ⟨#[c]⟩ 0 ("0123456789" : Str).length 1).isEmpty) = isDg c := by
  rw [PySem.StrLaws.found_one]
  have : ("0123456789" : Str).cps.toList = [48, 49, 50, 51, 52, 53, 54, 55, 56, 57] := by decide +kernel
  rw [this]
  by_cases h : isDg c = true
  · rw [h]
    simp [isDg] at h
    simp
    omega
  · have h2 : isDg c = false := by simpa using h
    rw [h2]
    simp [isDg] at h2
    simp
    omega
theorem in_figs {c : Nat} {G : Gp} {Q : DQ} (q : Q (.bl (isDg c != true)) G) : inR true (.str ⟨#[c]⟩) (.str "0123456789") G Q := by
  have f := figs c
  show Q (.bl (!((Builtin.Str.occurrences ("0123456789" : Str) ⟨#[c]⟩ 0 ("0123456789" : Str).length 1).isEmpty != true))) G
  have e : (!((Builtin.Str.occurrences ("0123456789" : Str) ⟨#[c]⟩ 0 ("0123456789" : Str).length 1).isEmpty != true)) = (isDg c != true) := by
    rw [← f]
    cases (Builtin.Str.occurrences ("0123456789" : Str) ⟨#[c]⟩ 0 ("0123456789" : Str).length 1).isEmpty <;> rfl
  rw [e]
  exact q
theorem digs_read {x : Str} (h : (tl' x).all isDg = true) (h1 : 1 ≤ x.length) (h2 : x.length ≤ 4) : ∃ n : Nat, PySem.intText? x = some (n : Int) := by
  refine ⟨_, PySem.intText_digits (x := x) ?_ ?_ ?_⟩
  · intro c hc
    have := List.all_eq_true.mp h c hc
    simpa [isDg] using this
  · intro z
    rw [len_tl] at h1
    unfold tl' at h1
    rw [z] at h1
    simp at h1
  · omega
def sp_number_of (Γ : Cs) : DSp := sp1 fun d G Q _ => ∃ x, d = .str x ∧ x.length ≤ 1000000 ∧ ∀ G', Ext G G' → Q (numD (numT x)) G'
abbrev N_number_of : List Str := ["word", "sign"]
def t_number_of_C1 (Γ : Cs) (ED : DXK) : DTE := dComp (diStr (dVar 0)) (dgName 1) (dTest (dOp (inR true) (dVar 1) (dC (.str "0123456789")))) (dVar 1) [1]
def t_number_of (Γ : Cs) (ED : DXK) : DTS := dSeq (dIf (dOr (dNot (dTest (dChain leR leR (dC (.int 1)) (dCB lenR (daCons (dVar 0) (daNil))) (dC (.int 4))))) (dTest (dOp neR (dN (t_number_of_C1 Γ ED)) (dLst (daNil))))) (dRet (dC .non)) (dNext)) (dRet (dIfE (dOr (dTest (dOp neR (dOp ixR (dVar 0) (dC (.int 0))) (dC (.str "0")))) (dTest (dOp eqR (dVar 0) (dC (.str "0"))))) (dCB intTR (daCons (dVar 0) (daNil))) (dC .non)))
theorem number_of_C1 {Γ : Cs} {E : DXK} {G : Gp} {Q : DQ} {x : Str} {z : Option D} (hx : x.length ≤ 1000000) (q : ∀ p, Nw G p → Q (.ref p) (put G p (.lst (((tl' x).filter fun c => !isDg c).map fun c => .str ⟨#[c]⟩)))) :
    t_number_of_C1 Γ E [some (.str x), z] G Q := by
  refine dComp_pure (items := signsD x) (stay := fun _ => True) (fun d => match d with | .str y => if (tl' y).all isDg then none else some d | _ => none) (fun R h => by simp; exact ⟨by rw [sizeLine_eq]; omega, h⟩) trivial (fun _ _ _ => trivial) (fun p ys d hp hd Qs Qn hQ => ?_) (fun p hp => ?_)
  · obtain ⟨c, hc, rfl⟩ := List.mem_map.mp hd
    have ht : tl' ⟨#[c]⟩ = [c] := rfl
    simp only [ht, List.all_cons, List.all_nil, Bool.and_true] at hQ
    simp
    refine in_figs ?_
    by_cases h : isDg c = true
    · simp [h] at hQ ⊢
      exact hQ
    · simp [h] at hQ ⊢
      exact hQ
  · have : (signsD x).filterMap (fun d => match d with | .str y => if (tl' y).all isDg then none else some d | _ => none) = ((tl' x).filter fun c => !isDg c).map fun c => .str ⟨#[c]⟩ := by
      unfold signsD tl'
      rw [List.filterMap_map]
      induction x.cps.toList with
      | nil => rfl
      | cons c cs ih =>
        have e : (([c] : List Nat).all isDg) = isDg c := by simp
        by_cases h : isDg c = true
        · simp [h, tl'] at ih ⊢; exact ih
        · simp [h, tl'] at ih ⊢; exact ih
    rw [this]
    exact q p hp
theorem pure_number_of (Γ : Cs) : ∀ ds G Q E, sp_number_of Γ ds G Q E → t_number_of Γ E { nx := fun _ G => Q .non G, rt := Q } (dstart N_number_of ds) G := by
  rintro ds G Q E ⟨d, rfl, x, rfl, hx, q⟩
  have sz : x.length ≤ sizeLine := by rw [sizeLine_eq]; omega
  simp [t_number_of, sz]
  have fin0 : ∀ G', Ext G G' → ¬ (1 ≤ x.length ∧ x.length ≤ 4 ∧ (tl' x).all isDg = true) → Q .non G' := fun G' e h => by
    have := q G' e
    unfold numT at this
    rw [if_neg h] at this
    exact this
  by_cases h1 : 1 ≤ x.length
  · have h1' : (1 : Int) ≤ (x.length : Nat) := by omega
    simp [h1']
    by_cases h2 : x.length ≤ 4
    · have h2' : ((x.length : Nat) : Int) ≤ 4 := by omega
      simp [h2']
      refine number_of_C1 hx fun p hp => ?_
      refine eq_new put_same (by
        rw [List.all_map, List.all_eq_true]
        exact fun c _ => dat_str) fun p2 hp2 => ?_
      have e1 : Ext G (put (put G p (.lst (((tl' x).filter fun c => !isDg c).map fun c => .str ⟨#[c]⟩))) p2 (.lst [])) := (Ext.put hp).of_put hp2
      by_cases hd : (tl' x).all isDg = true
      · have hf : (tl' x).filter (fun c => !isDg c) = [] := by
          rw [List.filter_eq_nil_iff]
          intro c hc
          simp [List.all_eq_true.mp hd c hc]
        have ok : 1 ≤ x.length ∧ x.length ≤ 4 ∧ (tl' x).all isDg = true := ⟨h1, h2, hd⟩
        rw [hf] at e1 ⊢
        obtain ⟨c0, r0, hc0⟩ : ∃ c r, tl' x = c :: r := by
          cases h : tl' x with
          | nil => rw [len_tl, h] at h1; simp at h1
          | cons c r => exact ⟨c, r, rfl⟩
        have at0 : atI x.cps.toList 0 = some c0 := by
          have : x.cps.toList = c0 :: r0 := hc0
          rw [this]
          simp
        obtain ⟨n, hn⟩ := digs_read hd h1 h2
        have qq := q _ e1
        unfold numT at qq
        rw [if_pos ok, hc0] at qq
        have e48 : ((⟨#[c0]⟩ : Str) = "0") = (c0 = 48) := by
          refine propext ⟨fun h => ?_, fun h => by subst h; decide +kernel⟩
          have h2 := congrArg (fun z : Str => z.cps.toList) h
          have h3 : ("0" : Str).cps.toList = [48] := by decide +kernel
          simp only [h3] at h2
          simpa using h2
        simp [sz, at0]
        by_cases z1 : c0 = 48
        · subst z1
          have s48 : (⟨#[48]⟩ : Str) = "0" := by decide +kernel
          by_cases z2 : x = "0"
          · simp [s48, z2]
            rw [z2] at hn
            refine ⟨_, hn, by decide +kernel, ?_⟩
            rw [if_pos (.inr z2), z2, hn] at qq
            exact qq
          · rw [if_neg (by simp [z2])] at qq
            simp [s48, z2]
            exact qq
        · rw [if_pos (by simp [z1]), hn] at qq
          simp [e48, z1]
          exact ⟨_, hn, by omega, qq⟩
      · have hf : ((tl' x).filter (fun c => !isDg c)).isEmpty = false := by
          rw [Bool.eq_false_iff]
          intro z
          rw [List.isEmpty_iff, List.filter_eq_nil_iff] at z
          refine hd (List.all_eq_true.mpr fun c hc => ?_)
          have := z c hc
          simpa using this
        simp [hf]
        exact fin0 _ e1 fun h => hd h.2.2
    · have h2' : ¬ ((x.length : Nat) : Int) ≤ 4 := by omega
      simp [h2']
      exact fin0 G (.refl G) fun h => h2 h.2.1
  · have h1' : ¬ (1 : Int) ≤ (x.length : Nat) := by omega
    simp [h1']
    exact fin0 G (.refl G) fun h => h1 h.1
end DL
set_option Elab.async false
set_option linter.all false
set_option maxRecDepth 100000
set_option maxHeartbeats 400000
namespace DL
open PySem PySem.Spec L2
/-! ### cut texts -/
theorem sjoin_len {y : Str} (hy : 1 ≤ y.length) : ∀ {ps : List Str}, ps.length ≤ (Str.join y ps).length + 1 ∧ (∀ z ∈ ps, z.length ≤ (Str.join y ps).length)
  | [] => ⟨by simp, fun _ h => nomatch h⟩
  | [p] => ⟨by simp, fun z h => by simp at h; subst h; exact Nat.le_refl _⟩
  | p :: q :: r => by
    have e : Str.join y (p :: q :: r) = p ++ y ++ Str.join y (q :: r) := rfl
    obtain ⟨i1, i2⟩ := sjoin_len hy (ps := q :: r)
    rw [e, len_app, len_app]
    refine ⟨by simp at *; omega, fun z hz => ?_⟩
    rcases List.mem_cons.mp hz with rfl | hz
    · omega
    · have := i2 z hz
      omega
theorem sjoin_sub {y : Str} : ∀ {ps : List Str}, ∀ z ∈ ps, ∀ c ∈ tl' z, c ∈ tl' (Str.join y ps)
  | [], _, h => nomatch h
  | [p], z, h => fun c hc => by simp at h; subst h; exact hc
  | p :: q :: r, z, h => fun c hc => by
    have e : Str.join y (p :: q :: r) = p ++ y ++ Str.join y (q :: r) := rfl
    rw [e, tl_app, tl_app]
    rcases List.mem_cons.mp h with rfl | h
    · simp [hc]
    · exact List.mem_append_right _ (sjoin_sub z h c hc)
theorem split_sub {x y z : Str} (h : z ∈ Txt.split x y) : ∀ c ∈ tl' z, c ∈ tl' x := fun c hc => by
  have := sjoin_sub (y := y) z h c hc
  rwa [PySem.StrLaws.join_split] at this
theorem split_len {x y : Str} (hy : 1 ≤ y.length) : (Txt.split x y).length ≤ x.length + 1 := by
  have := (sjoin_len hy (ps := Txt.split x y)).1
  rwa [PySem.StrLaws.join_split] at this
theorem split_short {x y z : Str} (hy : 1 ≤ y.length) (h : z ∈ Txt.split x y) : z.length ≤ x.length := by
  have := (sjoin_len hy (ps := Txt.split x y)).2 z h
  rwa [PySem.StrLaws.join_split] at this
theorem Asc.part {x y z : Str} (hx : Asc x) (h : z ∈ Txt.split x y) : Asc z := fun c hc => hx c (split_sub h c hc)
theorem splitR_of {x y : Str} {G : Gp} {Q : DQ} (hy : (y.length == 0) = false) (hx : Asc x) (hl : x.length ≤ 1000000) (q : ∀ p, Nw G p → Q (.ref p) (put G p (.lst ((Txt.split x y).map .str)))) : splitR (.str x) [.str y] G Q := by
  have h1 : 1 ≤ y.length := by
    have : y.length ≠ 0 := by simpa using hy
    omega
  have := split_len (x := x) h1
  exact ⟨hy, by rw [sizeLine_eq]; omega, fun z hz => (hx.part hz).ok, by rw [sizeLine_eq]; omega, q⟩
theorem split_ne {x y : Str} : Txt.split x y ≠ [] ∨ x = Str.empty := by
  cases h : Txt.split x y with
  | nil =>
    right
    have := PySem.StrLaws.join_split x y
    rw [h] at this
    exact this.symm
  | cons _ _ => exact .inl (by simp)
theorem l_comma : ("," : Str).length = 1 := by decide +kernel
theorem l_colon : (":" : Str).length = 1 := by decide +kernel
theorem l_blank : (" " : Str).length = 1 := by decide +kernel
theorem l_line : ("\n" : Str).length = 1 := by decide +kernel
/-! ### offers -/
def offP (y : Str) : Option (Int × Int) := match (Txt.split y ":").map numT with
  | [some a, some b] => if a ≤ 7 ∧ b ≤ 9999 then some (a, b) else none
  | _ => none
def offGo : List Str → List (Int × Int) → Option (List (Int × Int))
  | [], acc => some acc
  | y :: ys, acc => match offP y with
    | some p => offGo ys (acc ++ [p])
    | none => none
def offT (x : Str) : Option (List (Int × Int)) := match offGo (Txt.split x ",") [] with
  | some os => if (dd (os.map (·.1))).length = os.length then some os else none
  | none => none
def tDp (t : Int × Int) : D := .tup [.int t.1, .int t.2]
def offD : Option (List (Int × Int)) → D
  | some os => .tup (os.map tDp)
  | none => .non
theorem lenset_of {a : Addr} {ns : List Int} {G : Gp} {Q : DQ} (g : G a = some (.lst (ns.map .int))) (hl : ns.length ≤ 4000) (q : Q (.int ((dd ns).length : Nat)) G) : lensetD (.ref a) G Q := by
  rw [lensetD_ref, g, lensetO_lst]
  exact ⟨hl, q⟩
def sp_offers_of (Γ : Cs) : DSp := sp1 fun d G Q _ => ∃ x, d = .str x ∧ Asc x ∧ x.length ≤ 3000 ∧ ∀ G', Ext G G' → Q (offD (offT x)) G'
abbrev N_offers_of : List Str := ["word", "found", "part", "numbers", "one", "kind", "number"]
def t_offers_of_C1 (Γ : Cs) (ED : DXK) : DTE := dComp (diSeq (dBM "str" splitR (dVar 2) (daCons (dC (.str ":")) (daNil)))) (dgName 4) dYes (dCall (sp_number_of Γ) W0 (daCons (dVar 4) (daNil))) [4]
def t_offers_of_L1 (Γ : Cs) (ED : DXK) : DTS := dSeq (dAsg (dN (t_offers_of_C1 Γ ED)) (dgName 3)) (dSeq (dIf (dOr (dTest (dOp neR (dCB lenR (daCons (dVar 3) (daNil))) (dC (.int 2)))) (dOr (dTest (dOp (inR false) (dC .non) (dVar 3))) (dOr (dTest (dOp gtR (dOp ixR (dVar 3) (dC (.int 0))) (dC (.int 7)))) (dTest (dOp gtR (dOp ixR (dVar 3) (dC (.int 1))) (dC (.int 9999))))))) (dRet (dC .non)) (dNext)) (dDrop (dBM "list" appR (dVar 1) (daCons (dTup (daCons (dOp ixR (dVar 3) (dC (.int 0))) (daCons (dOp ixR (dVar 3) (dC (.int 1))) (daNil)))) (daNil)))))
def t_offers_of_C2 (Γ : Cs) (ED : DXK) : DTE := dComp (diSeq (dVar 1)) (dgTup 2 (dgCons (dgName 5) (dgCons (dgName 6) (dgNil)))) dYes (dVar 5) [5, 6]
def t_offers_of (Γ : Cs) (ED : DXK) : DTS := dSeq (dAsg (dLst (daNil)) (dgName 1)) (dSeq (dFor (diSeq (dBM "str" splitR (dVar 0) (daCons (dC (.str ",")) (daNil)))) (dgName 2) (t_offers_of_L1 Γ ED)) (dRet (dIfE (dTest (dOp eqR (dLenSet (dN (t_offers_of_C2 Γ ED))) (dCB lenR (daCons (dVar 1) (daNil))))) (dCB tupleR (daCons (dVar 1) (daNil))) (dC .non))))
theorem offers_of_C1 {Γ : Cs} {E : DXK} {G : Gp} {Q : DQ} {x : Str} {z0 z1 z3 z4 z5 z6 : Option D} (ha : Asc x) (hx : x.length ≤ 3000) (q : ∀ p G', Nw G p → Ext G G' → G' p = some (.lst ((Txt.split x ":").map fun y => numD (numT y))) → Q (.ref p) G') :
    t_offers_of_C1 Γ E [z0, z1, some (.str x), z3, z4, z5, z6] G Q := by
  simp [t_offers_of_C1]
  refine splitR_of (y := ":") (by decide +kernel) ha (by omega) fun ps hps => ?_
  simp [put_same]
  refine compB_ext (fun d => match d with | .str y => numD (numT y) | _ => .non) (fun G' e => e _ _ put_same) (fun d G' K hd e hK => ?_) fun p G' hp e g => ?_
  · obtain ⟨y, hy, rfl⟩ := List.mem_map.mp hd
    simp
    exact call1 ⟨y, rfl, by have := split_short (x := x) (y := ":") (by rw [l_colon]; exact Nat.le_refl _) hy; omega, fun G'' e2 => hK G'' e2⟩
  · rw [List.map_map] at g
    exact q p G' (by simp only [nw_put] at hp; exact hp.2.2) ((Ext.put hps).trans e) g
theorem go_acc : ∀ (ys : List Str) (acc os : List (Int × Int)), offGo ys acc = some os → acc.length + ys.length = os.length
  | [], acc, os, h => by cases h; rfl
  | y :: ys, acc, os, h => by
    unfold offGo at h
    cases e : offP y with
    | none => rw [e] at h; cases h
    | some p =>
      rw [e] at h
      have := go_acc ys _ os h
      simp at *
      omega
theorem offers_of_C2 {Γ : Cs} {E : DXK} {G : Gp} {Q : DQ} {p0 : Addr} {os : List (Int × Int)} {z0 z2 z3 z4 z5 z6 : Option D} (g : G p0 = some (.lst (os.map tDp))) (q : ∀ p, Nw G p → Q (.ref p) (put G p (.lst ((os.map (·.1)).map .int)))) :
    t_offers_of_C2 Γ E [z0, some (.ref p0), z2, z3, z4, z5, z6] G Q := by
  refine dComp_pure (items := os.map tDp) (stay := fun G => G p0 = some (.lst (os.map tDp))) (fun d => match d with | .tup [a, _] => some a | _ => none) (fun R h => by simp [g]; exact h) g (fun p ys hp => by rw [put_ne (ne_fr g hp)]; exact g) (fun p ys x hp hx Qs Qn hQ => ?_) (fun p hp => ?_)
  · obtain ⟨⟨a, b⟩, _, rfl⟩ := List.mem_map.mp hx
    simp [tDp] at hQ ⊢
    exact hQ
  · have : (os.map tDp).filterMap (fun d => match d with | .tup [a, _] => some a | _ => none) = (os.map (·.1)).map D.int := by
      rw [List.filterMap_map, List.map_map]
      clear q g
      induction os with
      | nil => rfl
      | cons o os ih => simp [tDp] at ih ⊢; exact ih
    rw [this]
    exact q p hp
theorem numT_rng {x : Str} {n : Int} (h : numT x = some n) : 0 ≤ n := by
  unfold numT at h
  split at h
  · rename_i h1
    split at h
    · obtain ⟨m, e⟩ := digs_read h1.2.2 h1.1 h1.2.1
      rw [e] at h
      cases h
      omega
    · cases h
  · cases h
theorem pure_offers_of (Γ : Cs) : ∀ ds G Q E, sp_offers_of Γ ds G Q E → t_offers_of Γ E { nx := fun _ G => Q .non G, rt := Q } (dstart N_offers_of ds) G := by
  rintro ds G Q E ⟨d, rfl, x, rfl, ha, hx, q⟩
  simp [t_offers_of]
  intro pf hpf
  refine splitR_of (y := ",") (by decide +kernel) ha (by omega) fun ps hps => ?_
  simp only [nw_put] at hps
  have hl := split_len (x := x) (y := ",") (by rw [l_comma]; exact Nat.le_refl _)
  have e0 : Ext G (put (put G pf (.lst [])) ps (.lst ((Txt.split x ",").map .str))) := ((Ext.refl G).nw hpf).nw hps.2.2
  simp [put_at]
  refine loop_ind (fun i sd G' => Ext G G' ∧ G' ps = some (.lst ((Txt.split x ",").map .str)) ∧ ∃ os z2 z3 z4 z5 z6, sd = [some (.str x), some (.ref pf), z2, z3, z4, z5, z6] ∧ G' pf = some (.lst (os.map tDp)) ∧ os.length = i ∧ offGo (Txt.split x ",") [] = offGo ((Txt.split x ",").drop i) os) (fun i sd G' h => h.2.1) ?_ ?_
    ⟨e0, put_same, [], _, _, _, _, _, rfl, by simp [put_at, hps], rfl, rfl⟩
  · rintro i d sd G' K hd ⟨e, gs, os, z2, z3, z4, z5, z6, rfl, gf, ol, hgo⟩ hK
    rw [List.getElem?_map] at hd
    cases hy : (Txt.split x ",")[i]? with
    | none => rw [hy] at hd; cases hd
    | some y =>
      rw [hy] at hd
      cases hd
      have hm := List.mem_of_getElem? hy
      have hi : i < (Txt.split x ",").length := (List.getElem?_eq_some_iff.mp hy).1
      rw [drop_at hy] at hgo
      have hgo : offGo (Txt.split x ",") [] = (match offP y with | some p => offGo ((Txt.split x ",").drop (i + 1)) (os ++ [p]) | none => none) := hgo
      simp [t_offers_of_L1]
      refine offers_of_C1 (ha.part hm) (by have := split_short (x := x) (y := ",") (by rw [l_comma]; exact Nat.le_refl _) hm; omega) fun p1 G1 hp1 e1 g1 => ?_
      have gf1 := e1 _ _ gf
      have gs1 := e1 _ _ gs
      have ns : ∀ (L : List (Option Int)), (Txt.split y ":").map numT = L → (Txt.split y ":").map (fun y => numD (numT y)) = L.map numD := fun L h => by rw [← h, List.map_map]; rfl
      have bad : offP y = none → Q .non G1 := fun h => by
        rw [h] at hgo
        have := q G1 (e.trans e1)
        unfold offT at this
        rw [hgo] at this
        exact this
      cases hL : (Txt.split y ":").map numT with
      | nil =>
        have hb : offP y = none := by unfold offP; rw [hL]
        rw [ns _ hL] at g1
        simp [g1]
        exact bad hb
      | cons u r =>
        cases r with
        | nil =>
          have hb : offP y = none := by unfold offP; rw [hL]; cases u <;> rfl
          rw [ns _ hL] at g1
          simp [g1]
          exact bad hb
        | cons v r =>
          cases r with
          | cons w r =>
            have hb : offP y = none := by unfold offP; rw [hL]; cases u <;> (try rfl); cases v <;> rfl
            rw [ns _ hL] at g1
            have hn : ¬ ((r.length : Int) + 1 + 1 + 1 = 2) := by omega
            simp [g1, hn]
            exact bad hb
          | nil =>
            rw [ns _ hL] at g1
            cases u with
            | none =>
              have hb : offP y = none := by unfold offP; rw [hL]
              cases v <;> simp [g1, numD, dat, dat_int, dat_non, peq, toPD, PyData.eqv] <;> exact bad hb
            | some a =>
              cases v with
              | none =>
                have hb : offP y = none := by unfold offP; rw [hL]
                simp [g1, numD, dat, dat_int, dat_non, peq, toPD, PyData.eqv]
                exact bad hb
              | some b =>
                simp [g1, numD, dat, dat_int, dat_non, peq, toPD, PyData.eqv]
                by_cases ha7 : a ≤ 7
                · have ha7' : ¬ 7 < a := by omega
                  by_cases hb9 : b ≤ 9999
                  · have hb9' : ¬ 9999 < b := by omega
                    have hb : offP y = some (a, b) := by unfold offP; rw [hL]; simp [ha7, hb9]
                    rw [hb] at hgo
                    have n1 : ¬ ps = pf := hps.1
                    simp [ha7', hb9', gf1, g1, numD]
                    refine ⟨by rw [sizeLine_eq]; omega, by rw [put_ne n1]; exact gs1, hK _ _ ⟨?_, by rw [put_ne n1]; exact gs1, os ++ [(a, b)], _, _, _, _, _, rfl, ?_, by simp [ol], hgo⟩⟩
                    · exact (e.trans e1).nw hpf
                    · rw [put_same]; simp [tDp]
                  · have hb9' : 9999 < b := by omega
                    have hb : offP y = none := by unfold offP; rw [hL]; simp [hb9]
                    simp [ha7', hb9', g1, numD]
                    exact bad hb
                · have ha7' : 7 < a := by omega
                  have hb : offP y = none := by unfold offP; rw [hL]; simp [ha7]
                  simp [ha7', g1, numD]
                  exact bad hb
  · rintro sd G' ⟨e, gs, os, z2, z3, z4, z5, z6, rfl, gf, ol, hgo⟩
    rw [List.length_map] at ol hgo
    rw [List.drop_length] at hgo
    simp
    refine offers_of_C2 gf fun p1 hp1 => ?_
    have n1 := Nw.ne gf hp1
    have e1 : Ext G (put G' p1 (.lst ((os.map (·.1)).map .int))) := e.trans (.put hp1)
    have qq := q _ e1
    unfold offT at qq
    rw [hgo] at qq
    simp only [offGo] at qq
    refine lenset_of put_same (by rw [List.length_map]; omega) ?_
    simp [put_at, n1, gf]
    by_cases hd : (dd (os.map (·.1))).length = os.length
    · have hd' : ((dd (os.map (·.1))).length : Int) = (os.length : Int) := by omega
      rw [if_pos hd] at qq
      simp [hd', put_at, n1, gf]
      simpa [offD] using qq
    · have hd' : ¬ ((dd (os.map (·.1))).length : Int) = (os.length : Int) := by omega
      rw [if_neg hd] at qq
      simp [hd']
      simpa [offD] using qq
end DL
set_option Elab.async false
set_option linter.all false
set_option maxRecDepth 100000
set_option maxHeartbeats 400000
namespace DL
open PySem PySem.Spec L2
def tb_SHAPES : List (Str × Str) := [("pick", "nnnnw"), ("over", "nn"), ("off", "n"), ("drop", "n"), ("letgo", "n"), ("make", "no"), ("change", "nnno"), ("throw", "nnn"), ("fall", "n"), ("rise", "n"), ("send", ""), ("carry", "n"), ("lose", "n"), ("twice", "n"), ("settle", "")]
/-! ### parts, steps -/
def partT (c : Nat) (x : Str) : D := if c = 119 then (if x = "move" ∨ x = "copy" then .str x else .non) else if c = 111 then offD (offT x) else numD (numT x)
def sp_part_of (Γ : Cs) : DSp := sp2 fun s d G Q _ => ∃ c x, s = .str ⟨#[c]⟩ ∧ d = .str x ∧ Asc x ∧ x.length ≤ 3000 ∧ ∀ G', Ext G G' → Q (partT c x) G'
abbrev N_part_of : List Str := ["sort", "word"]
def t_part_of (Γ : Cs) (ED : DXK) : DTS := dSeq (dIf (dTest (dOp eqR (dVar 0) (dC (.str "w")))) (dRet (dIfE (dTest (dInC false ["move", "copy"] (dVar 1))) (dVar 1) (dC .non))) (dNext)) (dRet (dIfE (dTest (dOp eqR (dVar 0) (dC (.str "o")))) (dCall (sp_offers_of Γ) (wx ED) (daCons (dVar 1) (daNil))) (dCall (sp_number_of Γ) (wx ED) (daCons (dVar 1) (daNil)))))
theorem sg_eq (c : Nat) (s : Str) (k : Nat) (h : s.cps.toList = [k]) : ((⟨#[c]⟩ : Str) = s) = (c = k) := by
  refine propext ⟨fun e => ?_, fun e => ?_⟩
  · have h2 := congrArg (fun z : Str => z.cps.toList) e
    simp only [h] at h2
    simpa using h2
  · subst e
    obtain ⟨cps⟩ := s
    have : cps = #[c] := Array.toList_inj.mp h
    rw [this]
theorem sg_w (c : Nat) : ((⟨#[c]⟩ : Str) = "w") = (c = 119) := sg_eq c "w" 119 (by decide +kernel)
theorem sg_o (c : Nat) : ((⟨#[c]⟩ : Str) = "o") = (c = 111) := sg_eq c "o" 111 (by decide +kernel)
theorem pure_part_of (Γ : Cs) : ∀ ds G Q E, sp_part_of Γ ds G Q E → t_part_of Γ E { nx := fun _ G => Q .non G, rt := Q } (dstart N_part_of ds) G := by
  rintro ds G Q E ⟨s, d, rfl, c, x, rfl, rfl, ha, hx, q⟩
  unfold partT at q
  simp [t_part_of, sg_w, sg_o]
  by_cases hw : c = 119
  · subst hw
    have qq := q G (.refl G)
    simp at qq
    simp [inCP, dat, dat_str, peq_str]
    by_cases h1 : x = "move"
    · simp [h1] at qq ⊢
      exact qq
    · by_cases h2 : x = "copy"
      · simp [h2] at qq ⊢
        exact qq
      · have h1' : ¬ Str.ofString "move" = x := fun z => h1 z.symm
        have h2' : ¬ Str.ofString "copy" = x := fun z => h2 z.symm
        simp [h1, h2, h1', h2'] at qq ⊢
        exact qq
  · by_cases ho : c = 111
    · subst ho
      simp at q
      simp [sg_o]
      exact call1 ⟨x, rfl, ha, hx, q⟩
    · simp [hw, ho] at q
      simp [hw, ho, sg_o]
      exact call1 ⟨x, rfl, by omega, q⟩
def stepT (line : Str) : D := match Txt.split line " " with
  | [] => .non
  | w :: r => match tb_SHAPES.lookup w with
    | none => .non
    | some sh => if r.length = sh.length then (if D.non ∈ List.zipWith partT (tl' sh) r then .non else .tup (.str w :: List.zipWith partT (tl' sh) r)) else .non
def sp_step_of (Γ : Cs) : DSp := sp1 fun d G Q _ => ∃ x, d = .str x ∧ Asc x ∧ x.length ≤ 3000 ∧ ∀ G', Ext G G' → Q (stepT x) G'
abbrev N_step_of : List Str := ["line", "words", "parts", "sort", "word"]
def t_step_of_C1 (Γ : Cs) (ED : DXK) : DTE := dComp (diZipSL (daCons (dIxK tb_SHAPES (dOp ixR (dVar 1) (dC (.int 0)))) (daCons (dSl (dVar 1) (doSome (dC (.int 1))) (doNone)) (daNil)))) (dgTup 2 (dgCons (dgName 3) (dgCons (dgName 4) (dgNil)))) dYes (dCall (sp_part_of Γ) W0 (daCons (dVar 3) (daCons (dVar 4) (daNil)))) [3, 4]
def t_step_of (Γ : Cs) (ED : DXK) : DTS := dSeq (dAsg (dBM "str" splitR (dVar 0) (daCons (dC (.str " ")) (daNil))) (dgName 1)) (dSeq (dIf (dOr (dTest (dInK true tb_SHAPES (dOp ixR (dVar 1) (dC (.int 0))))) (dTest (dOp neR (dCB lenR (daCons (dVar 1) (daNil))) (dOp addR (dC (.int 1)) (dCB lenR (daCons (dIxK tb_SHAPES (dOp ixR (dVar 1) (dC (.int 0)))) (daNil))))))) (dRet (dC .non)) (dNext)) (dSeq (dAsg (dN (t_step_of_C1 Γ ED)) (dgName 2)) (dRet (dIfE (dTest (dOp (inR false) (dC .non) (dVar 2))) (dC .non) (dCB tupleR (daCons (dOp addR (dSl (dVar 1) (doNone) (doSome (dC (.int 1)))) (dVar 2)) (daNil)))))))
/-- what a part may be -/
def prtD : D → Bool
  | .non => true
  | .int _ => true
  | .str _ => true
  | .tup ds => ds.all fun d => match d with | .tup [.int _, .int _] => true | _ => false
  | _ => false
theorem prt_part {c : Nat} {x : Str} : prtD (partT c x) = true := by
  unfold partT
  split
  · split <;> rfl
  · split
    · cases offT x with
      | none => rfl
      | some os =>
        show ((os.map tDp).all _) = true
        rw [List.all_map, List.all_eq_true]
        exact fun _ _ => rfl
    · cases numT x <;> rfl
theorem prt_dat {d : D} (h : prtD d = true) : dat 20 d = true := by
  cases d with
  | tup ds =>
    show ds.all (dat 19) = true
    rw [List.all_eq_true]
    intro x hx
    have := List.all_eq_true.mp h x hx
    split at this
    · simp [dat, dat_int]
    · cases this
  | non => rfl
  | int _ => rfl
  | str _ => rfl
  | bl _ => cases h
  | ty _ => cases h
  | ref _ => cases h
theorem prt_non {d : D} (h : prtD d = true) : peq d .non = decide (d = .non) := by
  cases d <;> first | (cases h; done) | simp [peq, toPD, PyData.eqv]
theorem any_non {xs : List D} (h : ∀ x ∈ xs, prtD x = true) : (xs.any fun z => peq z .non) = decide (D.non ∈ xs) := by
  induction xs with
  | nil => rfl
  | cons x xs ih =>
    rw [List.any_cons, ih fun y hy => h y (by simp [hy]), prt_non (h x (by simp))]
    by_cases e : x = .non
    · simp [e]
    · have e' : ¬ D.non = x := fun z => e z.symm
      simp [e, e']
theorem sh_small : ∀ w sh, tb_SHAPES.lookup w = some sh → sh.length ≤ 5 := by
  intro w sh h
  have : ∀ q ∈ tb_SHAPES, q.2.length ≤ 5 := by decide +kernel
  have hm : ∀ l : List (Str × Str), l.lookup w = some sh → (w, sh) ∈ l := by
    intro l
    induction l with
    | nil => intro h; cases h
    | cons q l ih =>
      obtain ⟨k, v⟩ := q
      intro h
      rw [List.lookup_cons] at h
      cases e : w == k with
      | true => rw [e] at h; cases h; rw [show w = k by simpa using e]; exact List.mem_cons_self
      | false => rw [e] at h; exact List.mem_cons_of_mem _ (ih h)
  exact this _ (hm _ h)
theorem cut_1h {x : D} {xs : List D} : cutD (x :: xs) none (some 1) = [x] := by simp [cutD, HT.sIx]
theorem cut_1r {x : D} {xs : List D} : cutD (x :: xs) (some 1) none = xs := by simp [cutD, HT.sIx]
theorem step_of_C1 {Γ : Cs} {E : DXK} {G : Gp} {Q : DQ} {p : Addr} {w sh : Str} {r : List Str} {z0 z2 z3 z4 : Option D} (g : G p = some (.lst (.str w :: r.map .str))) (hsh : tb_SHAPES.lookup w = some sh) (hr : ∀ y ∈ r, Asc y ∧ y.length ≤ 3000)
    (q : ∀ p' G', Nw G p' → Ext G G' → G' p' = some (.lst (List.zipWith partT (tl' sh) r)) → Q (.ref p') G') : t_step_of_C1 Γ E [z0, some (.ref p), z2, z3, z4] G Q := by
  have sm := sh_small _ _ hsh
  simp [t_step_of_C1, g, hsh, cut_1r]
  intro ps hps
  simp [put_same]
  refine ⟨by rw [sizeLine_eq]; omega, ?_⟩
  refine compB_ext (fun d => match d with | .tup [.str s, .str y] => partT (s.cps.toList.headD 0) y | _ => .non) (fun G' e => e _ _ put_same) (fun d G' K hd e hK => ?_) fun p' G' hp e g' => ?_
  · obtain ⟨i, hi⟩ := List.mem_iff_getElem?.mp hd
    unfold zipD at hi
    rw [List.getElem?_zipWith] at hi
    cases h1 : (signsD sh)[i]? with
    | none => rw [h1] at hi; cases hi
    | some a =>
      cases h2 : (r.map D.str)[i]? with
      | none => rw [h1, h2] at hi; cases hi
      | some b =>
        rw [h1, h2] at hi
        cases hi
        obtain ⟨c, hc, rfl⟩ := List.mem_map.mp (List.mem_of_getElem? h1)
        obtain ⟨y, hy, rfl⟩ := List.mem_map.mp (List.mem_of_getElem? h2)
        simp
        exact call2 ⟨c, y, rfl, rfl, (hr y hy).1, (hr y hy).2, fun G'' e2 => hK G'' e2⟩
  · refine q p' G' (by simp only [nw_put] at hp; exact hp.2.2) ((Ext.put hps).trans e) ?_
    rw [g']
    congr 2
    unfold zipD signsD tl'
    rw [List.map_zipWith]
    clear hsh g q g' hr sm
    generalize sh.cps.toList = cs
    induction cs generalizing r with
    | nil => rfl
    | cons c cs ih => cases r with
      | nil => rfl
      | cons y r => simp at ih ⊢
theorem pure_step_of (Γ : Cs) : ∀ ds G Q E, sp_step_of Γ ds G Q E → t_step_of Γ E { nx := fun _ G => Q .non G, rt := Q } (dstart N_step_of ds) G := by
  rintro ds G Q E ⟨d, rfl, x, rfl, ha, hx, q⟩
  have hl := split_len (x := x) (y := " ") (by rw [l_blank]; exact Nat.le_refl _)
  simp [t_step_of]
  refine splitR_of (y := " ") (by decide +kernel) ha (by omega) fun p hp => ?_
  have e1 : Ext G (put G p (.lst ((Txt.split x " ").map .str))) := .put hp
  have q1 := q _ e1
  unfold stepT at q1
  cases hs : Txt.split x " " with
  | nil =>
    rcases split_ne (x := x) (y := " ") with h | h
    · exact (h hs).elim
    · subst h
      have : Txt.split Str.empty " " = [Str.empty] := by decide +kernel
      rw [this] at hs
      cases hs
  | cons w r =>
    rw [hs] at q1 e1 hl
    simp only at q1
    simp [put_same]
    cases hsh : tb_SHAPES.lookup w with
    | none =>
      rw [hsh] at q1
      simp
      exact q1
    | some sh =>
      rw [hsh] at q1
      have sm := sh_small _ _ hsh
      have sz : sh.length ≤ sizeLine := by rw [sizeLine_eq]; omega
      simp [put_same, hsh, sz]
      by_cases hr : r.length = sh.length
      · have hr' : (r.length : Int) + 1 = 1 + (sh.length : Int) := by omega
        have hc : (sh.length : Int) + 1 = 1 + (sh.length : Int) := by omega
        simp [hr] at q1
        simp [hr, hc]
        have hall : ∀ y ∈ r, Asc y ∧ y.length ≤ 3000 := fun y hy => by
          have hm : y ∈ Txt.split x " " := by rw [hs]; exact List.mem_cons_of_mem _ hy
          exact ⟨ha.part hm, Nat.le_trans (split_short (y := " ") (by rw [l_blank]; exact Nat.le_refl _) hm) hx⟩
        refine step_of_C1 put_same hsh hall fun p2 G2 hp2 e2 g2 => ?_
        have q2 := q G2 ((Ext.put hp).trans (by rw [hs] at *; exact e2))
        unfold stepT at q2
        rw [hs] at q2
        simp [hsh, hr] at q2
        have g1 := e2 _ _ put_same
        have lz : (List.zipWith partT (tl' sh) r).length ≤ 5 := by rw [List.length_zipWith, ← len_tl]; omega
        have pz : ∀ d ∈ List.zipWith partT (tl' sh) r, prtD d = true := fun d hd => by
          obtain ⟨i, hi⟩ := List.mem_iff_getElem?.mp hd
          rw [List.getElem?_zipWith] at hi
          cases h1 : (tl' sh)[i]? with
          | none => rw [h1] at hi; cases hi
          | some a =>
            cases h2 : r[i]? with
            | none => rw [h1, h2] at hi; cases hi
            | some b =>
              rw [h1, h2] at hi
              cases hi
              exact prt_part
        simp [g2, any_non pz, dat_non]
        refine ⟨fun d hd => prt_dat (pz d hd), ?_⟩
        by_cases hn : D.non ∈ List.zipWith partT (tl' sh) r
        · simp [hn] at q2
          simp [hn]
          exact q2
        · have q3 : ∀ G', Ext G2 G' → Q (.tup (.str w :: List.zipWith partT (tl' sh) r)) G' := fun G' e3 => by
            have qq := q G' (((Ext.put hp).trans (by rw [hs] at *; exact e2)).trans e3)
            unfold stepT at qq
            rw [hs] at qq
            simpa [hsh, hr, hn] using qq
          simp [hn, g1]
          intro p3 hp3
          have z3 := Nw.ne g2 hp3
          rw [cut_1h]
          simp [put_at, z3, g2]
          refine ⟨by rw [sizeLine_eq]; rw [List.length_zipWith] at lz; omega, fun p4 hp4 => ?_⟩
          simp only [nw_put] at hp4
          exact q3 _ (((Ext.refl G2).nw hp3).nw hp4.2.2)
      · have hr' : ¬ ((r.length : Int) + 1 = 1 + (sh.length : Int)) := by omega
        simp [hr] at q1
        simp [hr']
        exact q1
end DL
set_option Elab.async false
set_option linter.all false
set_option maxRecDepth 100000
set_option maxHeartbeats 400000
namespace DL
open PySem PySem.Spec L2
/-! ### the texts of steps -/
def pairT : D → Str
  | .tup [.int k, .int n] => nS k ++ ":" ++ nS n
  | _ => ""
def ptxt : D → Str
  | .int n => nS n
  | .str s => s
  | .tup ds => Txt.join "," (ds.map pairT)
  | _ => ""
def stxt : D → Str
  | .tup (.str w :: ps) => Txt.join " " (w :: ps.map ptxt)
  | _ => ""
def okN (n : Int) : Prop := 0 ≤ n ∧ n ≤ 9999
def okOs (os : List (Int × Int)) : Prop := os ≠ [] ∧ os.length ≤ 8 ∧ (os.map (·.1)).Nodup ∧ ∀ t ∈ os, 0 ≤ t.1 ∧ t.1 ≤ 7 ∧ 0 ≤ t.2 ∧ t.2 ≤ 9999
def okP (c : Nat) (d : D) : Prop := if c = 119 then d = .str "move" ∨ d = .str "copy" else if c = 111 then ∃ os, okOs os ∧ d = .tup (os.map tDp) else ∃ n, okN n ∧ d = .int n
def Okps : List Nat → List D → Prop
  | [], [] => True
  | c :: cs, d :: ds => okP c d ∧ Okps cs ds
  | _, _ => False
def okStep (d : D) : Prop := ∃ w sh ps, d = .tup (.str w :: ps) ∧ tb_SHAPES.lookup w = some sh ∧ Okps (tl' sh) ps
theorem Okps.len : ∀ {cs : List Nat} {ds : List D}, Okps cs ds → ds.length = cs.length
  | [], [], _ => rfl
  | _ :: _, _ :: _, h => by simp [Okps.len h.2]
theorem Okps.at : ∀ {cs : List Nat} {ds : List D}, Okps cs ds → ∀ (i : Nat) (d : D), ds[i]? = some d → ∃ c, cs[i]? = some c ∧ okP c d
  | _ :: _, _ :: _, h, 0, d, e => by simp at e; exact ⟨_, rfl, e ▸ h.1⟩
  | _ :: _, _ :: _, h, i + 1, d, e => by simpa using Okps.at h.2 i d (by simpa using e)
  | [], [], _, _, _, e => by simp at e
  | _ :: _, [], h, _, _, _ => h.elim
  | [], _ :: _, h, _, _, _ => h.elim
theorem small_sz {n : Nat} (h : n ≤ 4000) : n ≤ sizeLine := by rw [sizeLine_eq]; omega
theorem len_pt {k n : Int} (h : okN k) (h2 : okN n) : (nS k ++ ":" ++ nS n).length ≤ 9 := by
  have a := nS_len h.1 h.2
  have b := nS_len h2.1 h2.2
  rw [len_app, len_app, l_colon]
  omega
theorem asc_colon : Asc ":" := by
  intro c hc
  have e : tl' (":" : Str) = [58] := by decide +kernel
  rw [e] at hc
  simp at hc
  omega
theorem asc_comma : Asc "," := by
  intro c hc
  have e : tl' ("," : Str) = [44] := by decide +kernel
  rw [e] at hc
  simp at hc
  omega
theorem asc_blank : Asc " " := by
  intro c hc
  have e : tl' (" " : Str) = [32] := by decide +kernel
  rw [e] at hc
  simp at hc
  omega
theorem asc_line : Asc "\n" := by
  intro c hc
  have e : tl' ("\n" : Str) = [10] := by decide +kernel
  rw [e] at hc
  simp at hc
  omega
theorem asc_pt {k n : Int} (h : okN k) (h2 : okN n) : Asc (nS k ++ ":" ++ nS n) := ((asc_nS h.1).app asc_colon).app (asc_nS h2.1)
theorem okOs.at {os : List (Int × Int)} (h : okOs os) {t : Int × Int} (ht : t ∈ os) : okN t.1 ∧ okN t.2 := by
  have := h.2.2.2 t ht
  unfold okN
  omega
theorem sum_le : ∀ {xs : List Str} {m : Nat}, (∀ x ∈ xs, x.length ≤ m) → (xs.map (·.length)).sum ≤ xs.length * m
  | [], _, _ => by simp
  | x :: xs, m, h => by
    have := sum_le (xs := xs) (m := m) fun y hy => h y (by simp [hy])
    have := h x (by simp)
    simp [Nat.add_mul]
    omega
theorem pairs_ok {os : List (Int × Int)} (h : okOs os) : (∀ x ∈ (os.map tDp).map pairT, Asc x) ∧ ∀ x ∈ (os.map tDp).map pairT, x.length ≤ 9 := by
  constructor <;> · 
    intro x hx
    rw [List.map_map] at hx
    obtain ⟨t, ht, rfl⟩ := List.mem_map.mp hx
    have := h.at ht
    first | exact asc_pt this.1 this.2 | exact len_pt this.1 this.2
theorem os_len {os : List (Int × Int)} (h : okOs os) : (ptxt (.tup (os.map tDp))).length ≤ 80 := by
  have a := len_join (y := ",") (xs := (os.map tDp).map pairT)
  have b := sum_le (pairs_ok h).2
  have l : ((os.map tDp).map pairT).length = os.length := by simp
  rw [l_comma] at a
  rw [l] at a b
  have := h.2.1
  show (Txt.join "," _).length ≤ 80
  omega
theorem part_ok {c : Nat} {d : D} (h : okP c d) : Asc (ptxt d) ∧ (ptxt d).length ≤ 80 := by
  unfold okP at h
  split at h
  · rcases h with rfl | rfl
    · exact ⟨by unfold Asc; decide +kernel, by decide +kernel⟩
    · exact ⟨by unfold Asc; decide +kernel, by decide +kernel⟩
  · split at h
    · obtain ⟨os, h, rfl⟩ := h
      exact ⟨asc_join asc_comma (pairs_ok h).1, os_len h⟩
    · obtain ⟨n, h, rfl⟩ := h
      exact ⟨asc_nS h.1, by have := nS_len h.1 h.2; show (nS n).length ≤ 80; omega⟩
theorem w_ok : ∀ w sh, tb_SHAPES.lookup w = some sh → Asc w ∧ w.length ≤ 6 ∧ 1 ≤ w.length ∧ (tl' w).all (fun c => decide (97 ≤ c)) = true := by
  intro w sh h
  have : ∀ q ∈ tb_SHAPES, (tl' q.1).all (fun c => decide (c < 128)) = true ∧ q.1.length ≤ 6 ∧ 1 ≤ q.1.length ∧ (tl' q.1).all (fun c => decide (97 ≤ c)) = true := by decide +kernel
  have hm : ∀ l : List (Str × Str), l.lookup w = some sh → (w, sh) ∈ l := by
    intro l
    induction l with
    | nil => intro h; cases h
    | cons q l ih =>
      obtain ⟨k, v⟩ := q
      intro h
      rw [List.lookup_cons] at h
      cases e : w == k with
      | true => rw [e] at h; cases h; rw [show w = k by simpa using e]; exact List.mem_cons_self
      | false => rw [e] at h; exact List.mem_cons_of_mem _ (ih h)
  have := this _ (hm _ h)
  refine ⟨fun c hc => ?_, this.2⟩
  have := List.all_eq_true.mp this.1 c hc
  simpa using this
theorem step_ok {d : D} (h : okStep d) : Asc (stxt d) ∧ (stxt d).length ≤ 500 ∧ 1 ≤ (stxt d).length := by
  obtain ⟨w, sh, ps, rfl, hw, hp⟩ := h
  obtain ⟨aw, lw, lw1, _⟩ := w_ok _ _ hw
  have sm := sh_small _ _ hw
  have hl := hp.len
  rw [← len_tl] at hl
  have hall : ∀ x ∈ w :: ps.map ptxt, Asc x ∧ x.length ≤ 80 := fun x hx => by
    rcases List.mem_cons.mp hx with rfl | hx
    · exact ⟨aw, by omega⟩
    · obtain ⟨d, hd, rfl⟩ := List.mem_map.mp hx
      obtain ⟨i, hi⟩ := List.mem_iff_getElem?.mp hd
      obtain ⟨c, _, hc⟩ := hp.at i d hi
      exact part_ok hc
  have a := len_join (y := " ") (xs := w :: ps.map ptxt)
  have b := sum_le fun x hx => (hall x hx).2
  have l : (w :: ps.map ptxt).length = ps.length + 1 := by simp
  rw [l_blank, l] at a
  rw [l] at b
  refine ⟨asc_join asc_blank fun x hx => (hall x hx).1, ?_, ?_⟩
  · show (Txt.join " " _).length ≤ 500
    omega
  · show 1 ≤ (Txt.join " " _).length
    have := (sjoin_len (y := " ") (by rw [l_blank]; exact Nat.le_refl _) (ps := w :: ps.map ptxt)).2 w (by simp)
    rw [← TL.join_eq] at this
    omega
/-! ### offers_text, written -/
theorem reprS {n : Int} : Str.ofString n.repr = nS n := rfl
def sp_offers_text (Γ : Cs) : DSp := sp1 fun d G Q _ => ∃ os, okOs os ∧ d = .tup (os.map tDp) ∧ ∀ G', Ext G G' → Q (.str (ptxt d)) G'
abbrev N_offers_text : List Str := ["offers", "kind", "number"]
def t_offers_text_C1 (Γ : Cs) (ED : DXK) : DTE := dComp (diSeq (dVar 0)) (dgTup 2 (dgCons (dgName 1) (dgCons (dgName 2) (dgNil)))) dYes (dOp addR (dOp addR (dCB strR (daCons (dVar 1) (daNil))) (dC (.str ":"))) (dCB strR (daCons (dVar 2) (daNil)))) [1, 2]
def t_offers_text (Γ : Cs) (ED : DXK) : DTS := dRet (dBM "str" joinR (dC (.str ",")) (daCons (dN (t_offers_text_C1 Γ ED)) (daNil)))
theorem tdp_eq {os : List (Int × Int)} {d : D} (h : d ∈ os.map tDp) : ∃ t ∈ os, d = .tup [.int t.1, .int t.2] := by
  obtain ⟨t, ht, rfl⟩ := List.mem_map.mp h
  exact ⟨t, ht, rfl⟩
theorem strI {n : Int} (h : okN n) : n.natAbs.log2 < 1920 ∧ OkS (nS n) := ⟨log_small h.1 h.2, (asc_nS h.1).ok⟩
theorem offers_text_C1 {Γ : Cs} {E : DXK} {G : Gp} {Q : DQ} {os : List (Int × Int)} {z1 z2 : Option D} (ho : okOs os)
    (q : ∀ p G', Nw G p → Ext G G' → G' p = some (.lst (((os.map tDp).map pairT).map .str)) → Q (.ref p) G') : t_offers_text_C1 Γ E [some (.tup (os.map tDp)), z1, z2] G Q := by
  simp [t_offers_text_C1]
  refine compB_ext (fun d => .str (pairT d)) (fun _ _ => trivial) (fun d G' K hd e hK => ?_) fun p G' hp e g => q p G' hp e (by rw [g]; simp [Function.comp_def])
  obtain ⟨t, ht, rfl⟩ := tdp_eq hd
  obtain ⟨h1, h2⟩ := ho.at ht
  have a := nS_len h1.1 h1.2
  have b := nS_len h2.1 h2.2
  have s1 := strI h1
  have s2 := strI h2
  have l1 := l_colon
  simp [s1.1, s1.2, s2.1, s2.2, reprS]
  refine ⟨s1.2, small_sz ?_, s2.2, small_sz ?_, ?_⟩
  · omega
  · rw [len_app]; omega
  · exact hK _ (.refl _)
theorem pure_offers_text (Γ : Cs) : ∀ ds G Q E, sp_offers_text Γ ds G Q E → t_offers_text Γ E { nx := fun _ G => Q .non G, rt := Q } (dstart N_offers_text ds) G := by
  rintro ds G Q E ⟨d, rfl, os, ho, rfl, q⟩
  simp [t_offers_text]
  refine offers_text_C1 ho fun p G' hp e g => ?_
  simp [g, -List.map_map]
  have l := os_len ho
  have b := sum_le (pairs_ok ho).2
  have l' : ((os.map tDp).map pairT).length = os.length := by simp
  rw [l'] at b
  have := ho.2.1
  have := l_comma
  refine joinO_of (by rw [l', l_comma]; omega) (asc_join asc_comma (pairs_ok ho).1).ok ?_
  exact q _ e
def sp_written (Γ : Cs) : DSp := sp1 fun d G Q _ => ∃ p ss, d = .ref p ∧ G p = some (.lst ss) ∧ (∀ s ∈ ss, okStep s) ∧ ss.length ≤ 1000 ∧ ∀ G', Ext G G' → Q (.str (Txt.join "\n" (ss.map stxt))) G'
abbrev N_written : List Str := ["steps", "rows", "step", "words", "part", "sort"]
def t_written_L1 (Γ : Cs) (ED : DXK) : DTS := dDrop (dBM "list" appR (dVar 3) (daCons (dIfE (dTest (dOp eqR (dVar 5) (dC (.str "o")))) (dCall (sp_offers_text Γ) (wx ED) (daCons (dVar 4) (daNil))) (dCB strR (daCons (dVar 4) (daNil)))) (daNil)))
def t_written_L2 (Γ : Cs) (ED : DXK) : DTS := dSeq (dAsg (dLst (daCons (dOp ixR (dVar 2) (dC (.int 0))) (daNil))) (dgName 3)) (dSeq (dFor (diZipTS (daCons (dSl (dVar 2) (doSome (dC (.int 1))) (doNone)) (daCons (dIxK tb_SHAPES (dOp ixR (dVar 2) (dC (.int 0)))) (daNil)))) (dgTup 2 (dgCons (dgName 4) (dgCons (dgName 5) (dgNil)))) (t_written_L1 Γ ED)) (dDrop (dBM "list" appR (dVar 1) (daCons (dBM "str" joinR (dC (.str " ")) (daCons (dVar 3) (daNil))) (daNil)))))
def t_written (Γ : Cs) (ED : DXK) : DTS := dSeq (dAsg (dLst (daNil)) (dgName 1)) (dSeq (dFor (diSeq (dVar 0)) (dgName 2) (t_written_L2 Γ ED)) (dRet (dBM "str" joinR (dC (.str "\n")) (daCons (dVar 1) (daNil)))))
theorem zip_ok {ps : List D} {sh : Str} {j : Nat} {x : D} (hp : Okps (tl' sh) ps) (hx : (zipD ps (signsD sh))[j]? = some x) : ∃ d c, ps[j]? = some d ∧ okP c d ∧ x = .tup [d, .str ⟨#[c]⟩] := by
  unfold zipD at hx
  rw [List.getElem?_zipWith] at hx
  cases h1 : ps[j]? with
  | none => rw [h1] at hx; cases hx
  | some d =>
    obtain ⟨c, hc, h⟩ := hp.at j d h1
    have h2 : (signsD sh)[j]? = some (.str ⟨#[c]⟩) := by
      unfold signsD
      rw [List.getElem?_map]
      show Option.map _ (tl' sh)[j]? = _
      rw [hc]
      rfl
    rw [h1, h2] at hx
    cases hx
    exact ⟨d, c, rfl, h, rfl⟩
theorem written_L1 {Γ : Cs} {E : DXK} {G : Gp} {DD : DEnds} {d : D} {c : Nat} {b : Addr} {xs : List D} {z0 z1 z2 : Option D} (h : okP c d) (g : G b = some (.lst xs)) (hx : xs.length < sizeLine)
    (q : ∀ G', Ext G G' → DD.nx [z0, z1, z2, some (.ref b), some d, some (.str ⟨#[c]⟩)] (put G' b (.lst (xs ++ [.str (ptxt d)])))) : t_written_L1 Γ E DD [z0, z1, z2, some (.ref b), some d, some (.str ⟨#[c]⟩)] G := by
  obtain ⟨nx, rt, bk, ct⟩ := DD
  simp [t_written_L1, sg_o]
  by_cases ho : c = 111
  · subst ho
    simp [okP] at h
    obtain ⟨os, h, rfl⟩ := h
    simp [g]
    refine call1 ⟨os, h, rfl, fun G' e => ?_⟩
    simp [e _ _ g, hx]
    exact q G' e
  · by_cases hw : c = 119
    · subst hw
      simp [okP] at h
      rcases h with rfl | rfl
      · simp [g, hx]
        exact q G (.refl G)
      · simp [g, hx]
        exact q G (.refl G)
    · simp [okP, ho, hw] at h
      obtain ⟨n, h, rfl⟩ := h
      have s1 := strI h
      simp [ho, reprS, s1.1, g, hx]
      exact ⟨s1.2, q G (.refl G)⟩
theorem written_L2 {Γ : Cs} {E : DXK} {G : Gp} {DD : DEnds} {s : D} {r : Addr} {xs : List D} {z0 z3 z4 z5 : Option D} (h : okStep s) (g : G r = some (.lst xs)) (hx : xs.length < sizeLine)
    (q : ∀ G' z3 z4 z5, Ext G G' → DD.nx [z0, some (.ref r), some s, z3, z4, z5] (put G' r (.lst (xs ++ [.str (stxt s)])))) : t_written_L2 Γ E DD [z0, some (.ref r), some s, z3, z4, z5] G := by
  obtain ⟨w, sh, ps, rfl, hw, hp⟩ := id h
  have sm := sh_small _ _ hw
  have hl := hp.len
  rw [← len_tl] at hl
  obtain ⟨nx, rt, bk, ct⟩ := DD
  simp [t_written_L2, hw, cut_1r]
  intro b hb
  have hrb := ne_nw g hb
  refine ⟨small_sz (by omega), ?_⟩
  refine loop_ind (fun j sd G' => Ext G G' ∧ G' b = some (.lst (((w :: ps.map ptxt).take (j + 1)).map .str)) ∧ ∃ z4 z5, sd = [z0, some (.ref r), some (.tup (.str w :: ps)), some (.ref b), z4, z5]) (fun _ _ _ _ => trivial) ?_ ?_ ⟨.put hb, by simp [put_same], _, _, rfl⟩
  · rintro j x sd G' K hx' ⟨e, g', z4, z5, rfl⟩ hK
    obtain ⟨d, c, h1, h2, rfl⟩ := zip_ok hp hx'
    have hj : j < ps.length := (List.getElem?_eq_some_iff.mp h1).1
    simp
    refine written_L1 h2 g' (by rw [sizeLine_eq]; simp; omega) fun G2 e2 => ?_
    refine hK _ _ ⟨(e.trans e2).nw hb, ?_, _, _, rfl⟩
    rw [put_same, List.take_succ_cons, List.take_succ_cons, List.take_succ, List.getElem?_map, h1]
    simp
  · rintro sd G' ⟨e, g', z4, z5, rfl⟩
    have lz : (zipD ps (signsD sh)).length = ps.length := by
      have : (signsD sh).length = (tl' sh).length := by simp [signsD, tl']
      rw [zipD_len, this, ← len_tl]
      omega
    rw [lz] at g'
    have ht : (w :: ps.map ptxt).take (ps.length + 1) = w :: ps.map ptxt := List.take_of_length_le (by simp)
    rw [ht] at g'
    have st := step_ok h
    simp [e _ _ g, g', -List.map_cons]
    have hall : ∀ x ∈ w :: ps.map ptxt, x.length ≤ 500 := fun x hx => by
      have a := (sjoin_len (y := " ") (by rw [l_blank]; exact Nat.le_refl _) (ps := w :: ps.map ptxt)).2 x hx
      have b : (Txt.join " " (w :: ps.map ptxt)).length ≤ 500 := st.2.1
      rw [TL.join_eq] at b
      omega
    have sm2 := sum_le hall
    have l : (w :: ps.map ptxt).length = ps.length + 1 := by simp
    rw [l] at sm2
    refine joinO_of (by rw [l, l_blank]; omega) st.1.ok ?_
    simp [e _ _ g, hx]
    exact q G' _ _ _ e
theorem pure_written (Γ : Cs) : ∀ ds G Q E, sp_written Γ ds G Q E → t_written Γ E { nx := fun _ G => Q .non G, rt := Q } (dstart N_written ds) G := by
  rintro ds G Q E ⟨d, rfl, p, ss, rfl, g, ok, hl, q⟩
  simp [t_written]
  intro r hr
  have hpr := ne_nw g hr
  simp [put_at, hpr, g]
  refine loop_ind (fun i sd G' => Ext G G' ∧ G' r = some (.lst ((ss.take i).map fun s => .str (stxt s))) ∧ ∃ z2 z3 z4 z5, sd = [some (.ref p), some (.ref r), z2, z3, z4, z5]) ?_ ?_ ?_ ⟨.put hr, put_same, _,_,_,_, rfl⟩
  · rintro i sd G' ⟨e, _⟩
    exact e _ _ g
  · rintro i x sd G' K hx ⟨e, g', z2, z3, z4, z5, rfl⟩ hK
    simp
    have hi : i < ss.length := (List.getElem?_eq_some_iff.mp hx).1
    refine written_L2 (ok x (List.mem_of_getElem? hx)) g' (by rw [sizeLine_eq]; simp; omega) fun G2 z3 z4 z5 e2 => ?_
    have ee := (e.trans e2).nw (o := .lst (((ss.take i).map fun s => .str (stxt s)) ++ [.str (stxt x)])) hr
    refine ⟨ee _ _ g, hK _ _ ⟨ee, ?_, _, _, _, _, rfl⟩⟩
    rw [put_same, List.take_succ, hx]
    simp
  · rintro sd G' ⟨e, g', z2, z3, z4, z5, rfl⟩
    have hm : ((ss.take ss.length).map fun s => D.str (stxt s)) = (ss.map stxt).map .str := by rw [List.take_length, List.map_map]; rfl
    rw [hm] at g'
    simp [g', -List.map_map]
    have hall : ∀ x ∈ ss.map stxt, Asc x ∧ x.length ≤ 500 := fun x hx => by
      obtain ⟨s, hs, rfl⟩ := List.mem_map.mp hx
      have := step_ok (ok s hs)
      exact ⟨this.1, this.2.1⟩
    have sm := sum_le fun x hx => (hall x hx).2
    have l : (ss.map stxt).length = ss.length := by simp
    rw [l] at sm
    exact joinO_of (by rw [l, l_line]; omega) (asc_join asc_line fun x hx => (hall x hx).1).ok (q G' e)
end DL
set_option Elab.async false
set_option linter.all false
set_option maxRecDepth 100000
set_option maxHeartbeats 400000
namespace DL
open PySem PySem.Spec L2
/-! ### read -/
theorem enumD_get' {xs : List D} {i : Nat} {x : D} (h : (enumD xs)[i]? = some x) : ∃ d, xs[i]? = some d ∧ x = .tup [.int (i : Nat), d] := by
  unfold enumD at h
  rw [List.getElem?_mapIdx] at h
  cases e : xs[i]? with
  | none => rw [e] at h; cases h
  | some d => rw [e] at h; cases h; exact ⟨d, rfl, rfl⟩
theorem enumD_len' {xs : List D} : (enumD xs).length = xs.length := by simp [enumD]
def linesT (x : Str) : List Str := if x = "" then [] else Txt.split x "\n"
theorem stepT_form (z : Str) : stepT z = .non ∨ ∃ ds, stepT z = .tup ds := by
  unfold stepT
  split
  · exact .inl rfl
  · split
    · exact .inl rfl
    · split
      · split
        · exact .inl rfl
        · exact .inr ⟨_, rfl⟩
      · exact .inl rfl
def sp_read (Γ : Cs) : DSp := sp1 fun d G Q _ => ∃ x, d = .str x ∧ Asc x ∧ x.length ≤ 900000 ∧ (∀ z ∈ linesT x, z.length ≤ 3000 ∧ stepT z ≠ .non) ∧ ∀ p G', Nw G p → Ext G G' → G' p = some (.lst ((linesT x).map stepT)) → Q (.ref p) G'
abbrev N_read : List Str := ["text", "steps", "number", "line", "step"]
def t_read_L1 (Γ : Cs) (ED : DXK) : DTS := dSeq (dAsg (dCall (sp_step_of Γ) (wx ED) (daCons (dVar 3) (daNil))) (dgName 4)) (dSeq (dIf (dTest (dOp (isNR false) (dVar 4) (dC .non))) (dNever) (dNext)) (dDrop (dBM "list" appR (dVar 1) (daCons (dVar 4) (daNil)))))
def t_read (Γ : Cs) (ED : DXK) : DTS := dSeq (dAsg (dLst (daNil)) (dgName 1)) (dSeq (dFor (diEnum (daCons (dIfE (dTest (dOp neR (dVar 0) (dC (.str "")))) (dBM "str" splitR (dVar 0) (daCons (dC (.str "\n")) (daNil))) (dLst (daNil))) (daNil))) (dgTup 2 (dgCons (dgName 2) (dgCons (dgName 3) (dgNil)))) (t_read_L1 Γ ED)) (dRet (dVar 1)))
theorem read_L1 {Γ : Cs} {E : DXK} {G : Gp} {DD : DEnds} {z : Str} {a : Addr} {xs : List D} {z0 z2 z4 : Option D} (ha : Asc z) (hl : z.length ≤ 3000) (hz : stepT z ≠ .non) (g : G a = some (.lst xs)) (hx : xs.length < sizeLine)
    (q : ∀ G', Ext G G' → DD.nx [z0, some (.ref a), z2, some (.str z), some (stepT z)] (put G' a (.lst (xs ++ [stepT z])))) : t_read_L1 Γ E DD [z0, some (.ref a), z2, some (.str z), z4] G := by
  obtain ⟨nx, rt, bk, ct⟩ := DD
  simp [t_read_L1]
  refine call1 ⟨z, rfl, ha, hl, fun G' e => ?_⟩
  rcases stepT_form z with h | ⟨ds, h⟩
  · exact (hz h).elim
  · have qq := q G' e
    simp [h] at qq ⊢
    simp [e _ _ g, hx]
    exact qq
theorem read_loop {Γ : Cs} {E : DXK} {G : Gp} {DD : DEnds} {L : List Str} {x : Str} {a p : Addr} {z2 z3 z4 : Option D} (gp : G p = some (.lst (L.map .str))) (ga : G a = some (.lst [])) (hne : p ≠ a) (hL : L.length ≤ 900001) (ok : ∀ z ∈ L, Asc z ∧ z.length ≤ 3000 ∧ stepT z ≠ .non)
    (q : ∀ G' z2 z3 z4, (∀ b o, b ≠ a → G b = some o → G' b = some o) → G' a = some (.lst (L.map stepT)) → DD.nx [some (.str x), some (.ref a), z2, z3, z4] G') {t1 t2 t3 t4} :
    loopP (enumD (L.map .str)) (fun G => G p = some (.lst (L.map .str))) (dgTup 2 (dgCons (dgName 2) (dgCons (dgName 3) dgNil))) (t_read_L1 Γ E) DD [some (.str x), some (.ref a), z2, z3, z4] G t1 t2 t3 t4 := by
  obtain ⟨nx, rt, bk, ct⟩ := DD
  refine loop_ind (fun i sd G' => (∀ b o, b ≠ a → G b = some o → G' b = some o) ∧ G' a = some (.lst ((L.take i).map stepT)) ∧ ∃ z2 z3 z4, sd = [some (.str x), some (.ref a), z2, z3, z4]) ?_ ?_ ?_ ⟨fun _ _ _ h => h, ga, _, _, _, rfl⟩
  · rintro i sd G' ⟨k, _⟩
    exact k _ _ hne gp
  · rintro i y sd G' K hx ⟨k, ga', z2, z3, z4, rfl⟩ hK
    obtain ⟨d, hd, rfl⟩ := enumD_get' hx
    rw [List.getElem?_map] at hd
    cases hz : L[i]? with
    | none => rw [hz] at hd; cases hd
    | some z =>
      rw [hz] at hd
      cases hd
      have hi : i < L.length := (List.getElem?_eq_some_iff.mp hz).1
      have hm := ok z (List.mem_of_getElem? hz)
      simp
      refine read_L1 hm.1 hm.2.1 hm.2.2 ga' (by rw [sizeLine_eq]; simp; omega) fun G2 e2 => ?_
      have kk : ∀ b o, b ≠ a → G b = some o → put G2 a (.lst ((L.take i).map stepT ++ [stepT z])) b = some o := fun b o hb h => by
        rw [put_ne hb]
        exact e2 _ _ (k b o hb h)
      refine ⟨kk _ _ hne gp, hK _ _ ⟨kk, ?_, _, _, _, rfl⟩⟩
      rw [put_same, List.take_succ, hz]
      simp
  · rintro sd G' ⟨k, ga', z2, z3, z4, rfl⟩
    have hl : (enumD (L.map D.str)).length = L.length := by rw [enumD_len', List.length_map]
    rw [hl, List.take_length] at ga'
    exact q G' _ _ _ k ga'
theorem Ext.of_nw {G G' : Gp} {a : Addr} (ha : Nw G a) (k : ∀ b o, b ≠ a → G b = some o → G' b = some o) : Ext G G' := fun b o h => k b o (ne_nw h ha) h
theorem pure_read (Γ : Cs) : ∀ ds G Q E, sp_read Γ ds G Q E → t_read Γ E { nx := fun _ G => Q .non G, rt := Q } (dstart N_read ds) G := by
  rintro ds G Q E ⟨d, rfl, x, rfl, ha, hl, ok, q⟩
  simp [t_read]
  intro a hpa
  refine iteP_of (fun h => ?_) (fun h => ?_)
  · have hx : ¬ x = "" := by simpa using h
    have hll := split_len (x := x) (y := "\n") (by rw [l_line]; exact Nat.le_refl _)
    unfold linesT at ok q
    rw [if_neg hx] at ok q
    simp
    refine splitR_of (y := "\n") (by decide +kernel) ha (by omega) fun p hp => ?_
    have hpa' : p ≠ a := fun z => by subst z; exact absurd put_same (by rw [hp]; simp)
    simp [put_same]
    refine read_loop put_same (by rw [put_ne (Ne.symm hpa')]; exact put_same) hpa' (by omega) (fun z hz => ⟨ha.part hz, ok z hz⟩) fun G' z2 z3 z4 k ga => ?_
    simp
    refine q a G' hpa (Ext.of_nw hpa fun b o hb h => ?_) ga
    refine k b o hb ?_
    have hbp : b ≠ p := fun z => by subst z; rw [nw_put] at hp; rw [hp.2.2] at h; cases h
    rw [put_ne hbp, put_ne hb]
    exact h
  · have hx : x = "" := by simpa using h
    unfold linesT at ok q
    rw [if_pos hx] at ok q
    simp
    intro p hp
    have hpa' : p ≠ a := fun z => by subst z; exact absurd put_same (by rw [hp]; simp)
    simp [put_same]
    refine read_loop (L := []) put_same (by rw [put_ne (Ne.symm hpa')]; exact put_same) hpa' (by simp) (fun z hz => by cases hz) fun G' z2 z3 z4 k ga => ?_
    simp
    refine q a G' hpa (Ext.of_nw hpa fun b o hb h => ?_) ga
    refine k b o hb ?_
    have hbp : b ≠ p := fun z => by subst z; rw [nw_put] at hp; rw [hp.2.2] at h; cases h
    rw [put_ne hbp, put_ne hb]
    exact h
end DL
set_option Elab.async false
set_option linter.all false
set_option maxRecDepth 100000
set_option maxHeartbeats 400000
namespace DL
open PySem PySem.Spec L2
/-! ### what is written is read -/
theorem numT_nS {n : Int} (h : okN n) : numT (nS n) = some n := by
  have hl := nS_len h.1 h.2
  obtain ⟨m, rfl⟩ := Int.eq_ofNat_of_zero_le h.1
  unfold numT
  have hd : (tl' (nS (m : Int))).all isDg = true := by
    rw [List.all_eq_true]
    intro c hc
    have := digs_rng c hc
    unfold isDg
    simp
    omega
  rw [if_pos ⟨hl.1, hl.2, hd⟩]
  have hz : (tl' (nS (m : Int))).head? ≠ some 48 ∨ nS (m : Int) = "0" := by
    rcases (digs_one (m := m) (by have := h.2; omega)).1 with e | e
    · subst e
      exact .inr (by decide +kernel)
    · left
      rw [tl_nS, List.head?_map]
      intro z
      cases hh : (Nat.toDigits 10 m).head? with
      | none => rw [hh] at z; cases z
      | some c =>
        rw [hh] at z e
        have : c.toNat = '0'.toNat := by simpa using z
        have : c = '0' := Char.toNat_inj.mp this
        exact e (by rw [this])
  rw [if_pos hz]
  exact PySem.W.KIN.num_reads (by omega) (by have := h.2; omega)
theorem tl_is (x : Str) : TL.tl x = tl' x := rfl
theorem nS_ge {n : Int} (h : okN n) : ∀ c ∈ tl' (nS n), 48 ≤ c ∧ c ≤ 57 := by
  obtain ⟨m, rfl⟩ := Int.eq_ofNat_of_zero_le h.1
  exact digs_rng
theorem tl_colon : tl' (":" : Str) = [58] := by decide +kernel
theorem tl_comma : tl' ("," : Str) = [44] := by decide +kernel
theorem tl_blank : tl' (" " : Str) = [32] := by decide +kernel
theorem tl_line : tl' ("\n" : Str) = [10] := by decide +kernel
theorem pt_ge {k n : Int} (h : okN k) (h2 : okN n) : ∀ c ∈ tl' (nS k ++ ":" ++ nS n), 48 ≤ c ∧ c ≤ 58 := by
  intro c hc
  rw [tl_app, tl_app, tl_colon] at hc
  rcases List.mem_append.mp hc with hc | hc
  · rcases List.mem_append.mp hc with hc | hc
    · have := nS_ge h c hc; omega
    · simp at hc; omega
  · have := nS_ge h2 c hc; omega
theorem offP_pt {k n : Int} (h : okN k) (h2 : okN n) (hk : k ≤ 7) : offP (nS k ++ ":" ++ nS n) = some (k, n) := by
  have e : nS k ++ ":" ++ nS n = Txt.join ":" [nS k, nS n] := by rw [TL.join_eq]; rfl
  have s : Txt.split (Txt.join ":" [nS k, nS n]) ":" = [nS k, nS n] := TL.split_join tl_colon (by decide +kernel) (by simp) fun p hp => by
    intro z
    rw [tl_is] at z
    simp at hp
    rcases hp with rfl | rfl
    · have := nS_ge h _ z; omega
    · have := nS_ge h2 _ z; omega
  unfold offP
  rw [e, s]
  simp [numT_nS h, numT_nS h2]
  exact ⟨hk, h2.2⟩
theorem offGo_pts : ∀ {os acc : List (Int × Int)}, (∀ t ∈ os, okN t.1 ∧ okN t.2 ∧ t.1 ≤ 7) → offGo ((os.map tDp).map pairT) acc = some (acc ++ os)
  | [], acc, _ => by simp [offGo]
  | t :: os, acc, h => by
    have h1 := h t (by simp)
    have ih := offGo_pts (os := os) (acc := acc ++ [t]) fun u hu => h u (by simp [hu])
    have e : pairT (tDp t) = nS t.1 ++ ":" ++ nS t.2 := rfl
    rw [List.map_cons, List.map_cons, offGo, e, offP_pt h1.1 h1.2.1 h1.2.2]
    show offGo _ (acc ++ [t]) = _
    rw [ih]
    simp
theorem offT_os {os : List (Int × Int)} (h : okOs os) : offT (ptxt (.tup (os.map tDp))) = some os := by
  have s : Txt.split (ptxt (.tup (os.map tDp))) "," = (os.map tDp).map pairT := TL.split_join tl_comma (by decide +kernel) (fun z => h.1 (by simpa using z)) fun p hp => by
    intro z
    rw [tl_is] at z
    rw [List.map_map] at hp
    obtain ⟨t, ht, rfl⟩ := List.mem_map.mp hp
    have := h.at ht
    have := pt_ge this.1 this.2 _ z
    omega
  unfold offT
  rw [s, offGo_pts (acc := []) fun t ht => ⟨(h.at ht).1, (h.at ht).2, (h.2.2.2 t ht).2.1⟩]
  simp only [List.nil_append]
  rw [if_pos (dd_of_nodup h.2.2.1 |>.trans (by simp))]
theorem partT_ok {c : Nat} {d : D} (h : okP c d) : partT c (ptxt d) = d ∧ d ≠ .non := by
  unfold okP at h
  unfold partT
  split at h
  · rename_i hc
    rw [if_pos hc]
    rcases h with rfl | rfl
    · exact ⟨by rw [if_pos (.inl rfl)]; rfl, by simp⟩
    · exact ⟨by rw [if_pos (.inr rfl)]; rfl, by simp⟩
  · rename_i hc
    rw [if_neg hc]
    split at h
    · rename_i hc
      rw [if_pos hc]
      obtain ⟨os, h, rfl⟩ := h
      rw [offT_os h]
      exact ⟨rfl, by simp⟩
    · rename_i hc
      rw [if_neg hc]
      obtain ⟨n, h, rfl⟩ := h
      show numD (numT (nS n)) = _ ∧ _
      rw [numT_nS h]
      exact ⟨rfl, by simp⟩
theorem part_ge {c : Nat} {d : D} (h : okP c d) : ∀ c ∈ tl' (ptxt d), 44 ≤ c := by
  unfold okP at h
  split at h
  · rcases h with rfl | rfl
    · decide +kernel
    · decide +kernel
  · split at h
    · obtain ⟨os, h, rfl⟩ := h
      have : ∀ xs : List Str, (∀ x ∈ xs, ∀ c ∈ tl' x, 44 ≤ c) → ∀ c ∈ tl' (Txt.join "," xs), 44 ≤ c := by
        intro xs
        induction xs with
        | nil => intro _ c hc; rw [TL.join_eq] at hc; cases hc
        | cons x xs ih =>
          intro hx c hc
          cases xs with
          | nil =>
            have e : Txt.join "," [x] = x := by rw [TL.join_eq]; rfl
            rw [e] at hc
            exact hx x (by simp) c hc
          | cons y ys =>
            have e : Txt.join "," (x :: y :: ys) = x ++ "," ++ Txt.join "," (y :: ys) := by rw [TL.join_eq, TL.join_eq]; rfl
            rw [e, tl_app, tl_app, tl_comma] at hc
            rcases List.mem_append.mp hc with hc | hc
            · rcases List.mem_append.mp hc with hc | hc
              · exact hx x (by simp) c hc
              · simp at hc; omega
            · exact ih (fun z hz => hx z (by simp [hz])) c hc
      refine this _ fun x hx => ?_
      rw [List.map_map] at hx
      obtain ⟨t, ht, rfl⟩ := List.mem_map.mp hx
      have := h.at ht
      exact fun c hc => by have := pt_ge this.1 this.2 c hc; omega
    · obtain ⟨n, h, rfl⟩ := h
      exact fun c hc => by have := nS_ge h c hc; omega
theorem zip_back : ∀ {cs : List Nat} {ps : List D}, Okps cs ps → List.zipWith partT cs (ps.map ptxt) = ps ∧ D.non ∉ ps
  | [], [], _ => ⟨rfl, by simp⟩
  | c :: cs, p :: ps, h => by
    have ih := zip_back h.2
    have a := partT_ok h.1
    refine ⟨by simp [ih.1, a.1], ?_⟩
    simp [ih.2]
    exact fun z => a.2 z.symm
theorem w_ge {w sh : Str} (h : tb_SHAPES.lookup w = some sh) : ∀ c ∈ tl' w, 97 ≤ c := fun c hc => by
  have := List.all_eq_true.mp (w_ok _ _ h).2.2.2 c hc
  simpa using this
theorem words_ge {w sh : Str} {ps : List D} (h : tb_SHAPES.lookup w = some sh) (hp : Okps (tl' sh) ps) : ∀ x ∈ w :: ps.map ptxt, ∀ c ∈ tl' x, 44 ≤ c := by
  intro x hx c hc
  rcases List.mem_cons.mp hx with rfl | hx
  · have := w_ge h c hc; omega
  · obtain ⟨d, hd, rfl⟩ := List.mem_map.mp hx
    obtain ⟨i, hi⟩ := List.mem_iff_getElem?.mp hd
    obtain ⟨c', _, hc'⟩ := hp.at i d hi
    exact part_ge hc' c hc
theorem stepT_stxt {d : D} (h : okStep d) : stepT (stxt d) = d ∧ d ≠ .non := by
  obtain ⟨w, sh, ps, rfl, hw, hp⟩ := h
  have s : Txt.split (stxt (.tup (.str w :: ps))) " " = w :: ps.map ptxt := TL.split_join tl_blank (by decide +kernel) (by simp) fun p hp' => by
    intro z
    rw [tl_is] at z
    have := words_ge hw hp p hp' _ z
    omega
  have zb := zip_back hp
  unfold stepT
  rw [s]
  simp [hw, hp.len, len_tl, zb.1, zb.2]
theorem stxt_ge {d : D} (h : okStep d) : ∀ c ∈ tl' (stxt d), 32 ≤ c := by
  obtain ⟨w, sh, ps, rfl, hw, hp⟩ := h
  have : ∀ xs : List Str, (∀ x ∈ xs, ∀ c ∈ tl' x, 44 ≤ c) → ∀ c ∈ tl' (Txt.join " " xs), 32 ≤ c := by
    intro xs
    induction xs with
    | nil => intro _ c hc; rw [TL.join_eq] at hc; cases hc
    | cons x xs ih =>
      intro hx c hc
      cases xs with
      | nil =>
        have e : Txt.join " " [x] = x := by rw [TL.join_eq]; rfl
        rw [e] at hc
        have := hx x (by simp) c hc
        omega
      | cons y ys =>
        have e : Txt.join " " (x :: y :: ys) = x ++ " " ++ Txt.join " " (y :: ys) := by rw [TL.join_eq, TL.join_eq]; rfl
        rw [e, tl_app, tl_app, tl_blank] at hc
        rcases List.mem_append.mp hc with hc | hc
        · rcases List.mem_append.mp hc with hc | hc
          · have := hx x (by simp) c hc; omega
          · simp at hc; omega
        · exact ih (fun z hz => hx z (by simp [hz])) c hc
  exact this _ (words_ge hw hp)
theorem lines_back {ss : List D} (h : ∀ s ∈ ss, okStep s) : linesT (Txt.join "\n" (ss.map stxt)) = ss.map stxt := by
  unfold linesT
  cases ss with
  | nil => rw [if_pos (by decide +kernel)]; rfl
  | cons d ss =>
    have ne : ¬ Txt.join "\n" ((d :: ss).map stxt) = "" := by
      intro z
      have a := (step_ok (h d (by simp))).2.2
      have b := (sjoin_len (y := "\n") (by rw [l_line]; exact Nat.le_refl _) (ps := (d :: ss).map stxt)).2 (stxt d) (by simp)
      rw [← TL.join_eq, z] at b
      have : ("" : Str).length = 0 := by decide +kernel
      omega
    rw [if_neg ne]
    refine TL.split_join tl_line (by decide +kernel) (by simp) fun p hp => ?_
    intro z
    rw [tl_is] at z
    obtain ⟨s, hs, rfl⟩ := List.mem_map.mp hp
    have := stxt_ge (h s hs) _ z
    omega
theorem text_ok {ss : List D} (h : ∀ s ∈ ss, okStep s) (hl : ss.length ≤ 1000) : Asc (Txt.join "\n" (ss.map stxt)) ∧ (Txt.join "\n" (ss.map stxt)).length ≤ 900000 := by
  have hall : ∀ x ∈ ss.map stxt, Asc x ∧ x.length ≤ 500 := fun x hx => by
    obtain ⟨s, hs, rfl⟩ := List.mem_map.mp hx
    have := step_ok (h s hs)
    exact ⟨this.1, this.2.1⟩
  have a := len_join (y := "\n") (xs := ss.map stxt)
  have sm := sum_le fun x hx => (hall x hx).2
  have l : (ss.map stxt).length = ss.length := by simp
  rw [l] at sm a
  rw [l_line] at a
  exact ⟨asc_join asc_line fun x hx => (hall x hx).1, by omega⟩
end DL
set_option Elab.async false
set_option linter.all false
set_option maxRecDepth 100000
set_option maxHeartbeats 400000
namespace DL
open PySem PySem.Spec L2
/-! ### the law's own steps -/
theorem tDo_eq : tDo = tDp := rfl
def sp_law_step (Γ : Cs) : DSp := sp1 fun x G Q _ => ∃ b l, x = .ref b ∧ Box G b l ∧ ∀ d G', okStep d → Box G' b l → Exc b l G G' → Q d G'
abbrev N_law_step : List Str := ["_law_box", "_law_worths", "_law_every", "_law_word", "_law_some", "_law_many", "_law_k"]
def t_law_step_C1 (Γ : Cs) (ED : DXK) : DTE := dComp (diRng (daCons (dC (.int 4)) (daNil))) (dgName 6) dYes (dCall (sp_law_take Γ) W0 (daCons (dVar 0) (daCons (dOp ixR (dLst (daCons (dC (.int 10)) (daCons (dC (.int 10000)) (daNil)))) (dCall (sp_law_take Γ) W0 (daCons (dVar 0) (daCons (dC (.int 2)) (daNil))))) (daNil)))) [6]
def t_law_step (Γ : Cs) (ED : DXK) : DTS := dSeq (dAsg (dN (t_law_step_C1 Γ ED)) (dgName 1)) (dSeq (dAsg (dLst (daCons (dC (.str "over")) (daCons (dC (.str "off")) (daCons (dC (.str "drop")) (daCons (dC (.str "letgo")) (daCons (dC (.str "throw")) (daCons (dC (.str "fall")) (daCons (dC (.str "rise")) (daCons (dC (.str "carry")) (daCons (dC (.str "lose")) (daCons (dC (.str "twice")) (daCons (dC (.str "send")) (daCons (dC (.str "settle")) (daNil)))))))))))))) (dgName 2)) (dSeq (dAsg (dOp ixR (dVar 2) (dCall (sp_law_take Γ) (wx ED) (daCons (dVar 0) (daCons (dC (.int 12)) (daNil))))) (dgName 3)) (dSeq (dIf (dTest (dOp eqR (dCall (sp_law_take Γ) (wx ED) (daCons (dVar 0) (daCons (dC (.int 2)) (daNil)))) (dC (.int 0)))) (dSeq (dAsg (dLst (daCons (dOp addR (dOp addR (dTup (daCons (dC (.str "pick")) (daNil))) (dCB tupleR (daCons (dVar 1) (daNil)))) (dTup (daCons (dOp ixR (dLst (daCons (dC (.str "move")) (daCons (dC (.str "copy")) (daNil)))) (dCall (sp_law_take Γ) (wx ED) (daCons (dVar 0) (daCons (dC (.int 2)) (daNil))))) (daNil)))) (daNil))) (dgName 4)) (dSeq (dDrop (dBM "list" appR (dVar 4) (daCons (dTup (daCons (dC (.str "make")) (daCons (dOp ixR (dVar 1) (dC (.int 0))) (daCons (dCall (sp_law_offers Γ) (wx ED) (daCons (dVar 0) (daNil))) (daNil))))) (daNil)))) (dRet (dOp ixR (dOp addR (dVar 4) (dLst (daCons (dOp addR (dOp addR (dTup (daCons (dC (.str "change")) (daNil))) (dCB tupleR (daCons (dSl (dVar 1) (doNone) (doSome (dC (.int 3)))) (daNil)))) (dTup (daCons (dCall (sp_law_offers Γ) (wx ED) (daCons (dVar 0) (daNil))) (daNil)))) (daNil)))) (dCall (sp_law_take Γ) (wx ED) (daCons (dVar 0) (daCons (dC (.int 3)) (daNil)))))))) (dNext)) (dSeq (dAsg (dBM "dict" getR (dDisp [("over", dC (.int 2)), ("throw", dC (.int 3)), ("send", dC (.int 0)), ("settle", dC (.int 0))]) (daCons (dVar 3) (daCons (dC (.int 1)) (daNil)))) (dgName 5)) (dRet (dOp addR (dTup (daCons (dVar 3) (daNil))) (dCB tupleR (daCons (dSl (dVar 1) (doNone) (doSome (dVar 5))) (daNil)))))))))
theorem step_C1 {Γ : Cs} {E : DXK} {G : Gp} {Q : DQ} {b l : Addr} {z1 z2 z3 z4 z5 z6 : Option D} (B : Box G b l)
    (q : ∀ p G' (ns : List Int), Nw G p → Box G' b l → Exc b l G G' → ns.length = 4 → (∀ n ∈ ns, okN n) → G' p = some (.lst (ns.map .int)) → Q (.ref p) G') : t_law_step_C1 Γ E [some (.ref b), z1, z2, z3, z4, z5, z6] G Q := by
  simp [t_law_step_C1]
  refine compB_ind (fun p i acc G' => Box G' b l ∧ Exc b l G G' ∧ G' p = some (.lst acc) ∧ ∃ ns : List Int, acc = ns.map .int ∧ ns.length = i ∧ ∀ n ∈ ns, okN n) trivial (fun p hp => ⟨B.ext (.put hp), .of_ext (.put hp), put_same, [], rfl, rfl, by simp⟩) (fun _ _ _ _ _ _ => trivial) (fun p i x acc G' K hp hx ⟨B1, x1, g1, ns, ha, hl, hn⟩ hK => ?_) (fun p acc G' hp ⟨B1, x1, g1, ns, ha, hl, hn⟩ => ?_)
  · subst ha
    have np := B.ne hp
    obtain ⟨hi, rfl⟩ := rngD_at hx
    simp
    intro p2 hp2
    have n2 := B1.ne hp2
    refine takes (by decide) (by decide) (B1.ext (.put hp2)) fun r G2 r0 r1 B2 x2 => ?_
    have hm : ∃ m, atI [D.int 10, .int 10000] r = some (.int m) ∧ 0 < m ∧ m ≤ 10000 := by
      have : r = 0 ∨ r = 1 := by omega
      rcases this with rfl | rfl
      · exact ⟨10, by simp, by decide, by decide⟩
      · exact ⟨10000, by simp, by decide, by decide⟩
    obtain ⟨m, hm, m0, m8⟩ := hm
    simp [x2 p2 _ n2.1 n2.2 put_same, hm]
    refine takes m0 (by omega) B2 fun r' G3 r0' r1' B3 x3 => ?_
    have g3 : G3 p = some (.lst (ns.map .int)) := x3 _ _ np.1 np.2 (x2 _ _ np.1 np.2 ((Ext.put hp2) _ _ g1))
    have xx : Exc b l G G3 := ((x1.trans (.of_ext (.put hp2))).trans x2).trans x3
    refine ⟨g3, trivial, hK (ns.map D.int ++ [.int r']) _ ⟨B3.put np.1 np.2, xx.fresh hp, put_same, ns ++ [r'], by simp, by simp [hl], fun n hn' => ?_⟩⟩
    rcases List.mem_append.mp hn' with h | h
    · exact hn n h
    · have : n = r' := by simpa using h
      subst this
      exact ⟨r0', by omega⟩
  · subst ha
    exact q p G' ns hp B1 x1 (by rw [hl, rngD_len]) hn g1
theorem wd_ok (wd : Str) (h : wd ∈ (["over", "off", "drop", "letgo", "throw", "fall", "rise", "carry", "lose", "twice", "send", "settle"] : List Str)) :
    ∃ k sh, (valD [(D.str (Str.ofString "over"), D.int 2), (D.str (Str.ofString "throw"), D.int 3), (D.str (Str.ofString "send"), D.int 0), (D.str (Str.ofString "settle"), D.int 0)] (.str wd)).getD (.int 1) = .int ((k : Nat) : Int) ∧ k ≤ 3 ∧ tb_SHAPES.lookup wd = some sh ∧ tl' sh = List.replicate k 110 := by
  simp only [List.mem_cons, List.not_mem_nil, or_false] at h
  rcases h with rfl | rfl | rfl | rfl | rfl | rfl | rfl | rfl | rfl | rfl | rfl | rfl
  · exact ⟨2, "nn", by rfl, by decide, by decide +kernel, by decide +kernel⟩
  · exact ⟨1, "n", by rfl, by decide, by decide +kernel, by decide +kernel⟩
  · exact ⟨1, "n", by rfl, by decide, by decide +kernel, by decide +kernel⟩
  · exact ⟨1, "n", by rfl, by decide, by decide +kernel, by decide +kernel⟩
  · exact ⟨3, "nnn", by rfl, by decide, by decide +kernel, by decide +kernel⟩
  · exact ⟨1, "n", by rfl, by decide, by decide +kernel, by decide +kernel⟩
  · exact ⟨1, "n", by rfl, by decide, by decide +kernel, by decide +kernel⟩
  · exact ⟨1, "n", by rfl, by decide, by decide +kernel, by decide +kernel⟩
  · exact ⟨1, "n", by rfl, by decide, by decide +kernel, by decide +kernel⟩
  · exact ⟨1, "n", by rfl, by decide, by decide +kernel, by decide +kernel⟩
  · exact ⟨0, "", by rfl, by decide, by decide +kernel, by decide +kernel⟩
  · exact ⟨0, "", by rfl, by decide, by decide +kernel, by decide +kernel⟩
theorem okP_n {n : Int} (h : okN n) : okP 110 (.int n) := by
  unfold okP
  rw [if_neg (by decide), if_neg (by decide)]
  exact ⟨n, h, rfl⟩
theorem okps_n : ∀ {ns : List Int}, (∀ n ∈ ns, okN n) → Okps (List.replicate ns.length 110) (ns.map .int)
  | [], _ => trivial
  | n :: ns, h => ⟨okP_n (h n (by simp)), okps_n fun m hm => h m (by simp [hm])⟩
theorem ok_simple {wd sh : Str} {k : Nat} {ns : List Int} (hs : tb_SHAPES.lookup wd = some sh) (ht : tl' sh = List.replicate k 110) (hn : ∀ n ∈ ns, okN n) (hk : ns.length = k) : okStep (.tup (.str wd :: ns.map .int)) :=
  ⟨wd, sh, ns.map .int, rfl, hs, by rw [ht, ← hk]; exact okps_n hn⟩
theorem cut_k {xs : List D} {k : Nat} : cutD xs none (some (k : Int)) = xs.take k := by
  unfold cutD HT.sIx
  have : ¬ ((k : Int) < 0) := by omega
  simp [this]
theorem Exc.back {b l p : Addr} {G G' : Gp} (x : Exc b l G G') (h : Nw G' p) (n : p ≠ b ∧ p ≠ l) : Nw G p := by
  cases e : G p with
  | none => exact e
  | some o =>
    have := x _ _ n.1 n.2 e
    rw [h] at this
    cases this
theorem ok_os {os : List (Int × Int)} (h1 : os ≠ []) (h2 : (os.map (·.1)).Nodup) (h3 : ∀ p ∈ os, 0 ≤ p.1 ∧ p.1 ≤ 7 ∧ 0 ≤ p.2 ∧ p.2 ≤ 9999) (h4 : os.length ≤ 8) : okP 111 (.tup (os.map tDo)) := by
  unfold okP
  rw [if_neg (by decide), if_pos rfl]
  exact ⟨os, ⟨h1, h4, h2, h3⟩, rfl⟩
theorem pure_law_step (Γ : Cs) : ∀ ds G Q E, sp_law_step Γ ds G Q E → t_law_step Γ E { nx := fun _ G => Q .non G, rt := Q } (dstart N_law_step ds) G := by
  rintro ds G Q E ⟨x, rfl, b, l, rfl, B, q⟩
  simp [t_law_step]
  refine step_C1 B fun w G1 ns hw B1 x1 hl hn gw => ?_
  match ns, hl with
  | [a1, a2, a3, a4], _ =>
  have nw := B.ne hw
  simp
  intro p hp
  have np := B1.ne hp
  refine takes (by decide) (by decide) (B1.ext (.put hp)) fun r G2 r0 r1 B2 x2 => ?_
  have gw2 := x2 w _ nw.1 nw.2 ((Ext.put hp) _ _ gw)
  have hm : ∃ wd : Str, atI [D.str "over", .str "off", .str "drop", .str "letgo", .str "throw", .str "fall", .str "rise", .str "carry", .str "lose", .str "twice", .str "send", .str "settle"] r = some (.str wd) ∧ wd ∈ (["over", "off", "drop", "letgo", "throw", "fall", "rise", "carry", "lose", "twice", "send", "settle"] : List Str) := by
    have : r = 0 ∨ r = 1 ∨ r = 2 ∨ r = 3 ∨ r = 4 ∨ r = 5 ∨ r = 6 ∨ r = 7 ∨ r = 8 ∨ r = 9 ∨ r = 10 ∨ r = 11 := by omega
    rcases this with rfl | rfl | rfl | rfl | rfl | rfl | rfl | rfl | rfl | rfl | rfl | rfl <;> exact ⟨_, rfl, by simp⟩
  obtain ⟨wd, hm, hwd⟩ := hm
  simp [x2 p _ np.1 np.2 put_same, hm]
  refine takes (by decide) (by decide) B2 fun r' G3 r0' r1' B3 x3 => ?_
  have gw3 := x3 w _ nw.1 nw.2 gw2
  have x03 : Exc b l G G3 := ((x1.trans (.of_ext (.put hp))).trans x2).trans x3
  simp
  refine iteP_of (fun _ => ?_) (fun _ => ?_)
  · simp [gw3]
    refine ⟨small_sz (by decide), ?_⟩
    intro p5 hp5
    have n5 := B3.ne hp5
    have gw5 := (Ext.put (o := .lst [D.str "move", D.str "copy"]) hp5) _ _ gw3
    refine takes (by decide) (by decide) (B3.ext (.put hp5)) fun r2 G4 r20 r21 B4 x4 => ?_
    have hm2 : ∃ ws : Str, atI [D.str "move", .str "copy"] r2 = some (.str ws) ∧ (ws = "move" ∨ ws = "copy") := by
      have : r2 = 0 ∨ r2 = 1 := by omega
      rcases this with rfl | rfl
      · exact ⟨_, rfl, .inl rfl⟩
      · exact ⟨_, rfl, .inr rfl⟩
    obtain ⟨ws, hm2, hws⟩ := hm2
    have gw4 := x4 _ _ nw.1 nw.2 gw5
    have x04 : Exc b l G G4 := (x03.trans (.of_ext (.put hp5))).trans x4
    simp [x4 p5 _ n5.1 n5.2 put_same, hm2]
    refine ⟨small_sz (by decide), ?_⟩
    intro p6 hp6
    have n6 := B4.ne hp6
    have w6 := ne_nw gw4 hp6
    simp [put_at, w6, gw4, put_same]
    refine call1 ⟨b, l, rfl, B4.ext (.put hp6), fun os G5 h1 h2 h3 h4 B5 x5 => ?_⟩
    have g56 := x5 _ _ n6.1 n6.2 put_same
    have gw56 := x5 _ _ nw.1 nw.2 ((Ext.put hp6) _ _ gw4)
    simp [g56]
    refine ⟨small_sz (by decide), ?_⟩
    have w6' : w ≠ p6 := w6
    have c3 : cutD [D.int a1, D.int a2, D.int a3, D.int a4] none (some 3) = [D.int a1, D.int a2, D.int a3] := by simp [cutD, HT.sIx]
    simp [put_at, w6', gw56, c3]
    intro p7 hp7
    have B6 := B5.put (o := .lst [D.tup [D.str (Str.ofString "pick"), D.int a1, D.int a2, D.int a3, D.int a4, D.str ws], D.tup [D.str (Str.ofString "make"), D.int a1, D.tup (List.map tDo os)]]) n6.1 n6.2
    have x06 : Exc b l G G5 := (x04.trans (.of_ext (.put hp6))).trans x5
    have B7 := B6.ext (Ext.put (o := .lst [D.int a1, D.int a2, D.int a3]) hp7)
    have n7 := B6.ne hp7
    have e7 := Ext.put (o := .lst [D.int a1, D.int a2, D.int a3]) hp7
    refine ⟨small_sz (by decide), ?_⟩
    refine call1 ⟨b, l, rfl, B7, fun os2 G8 k1 k2 k3 k4 B8 x8 => ?_⟩
    have g8 := x8 _ _ n6.1 n6.2 (e7 _ _ put_same)
    simp
    refine ⟨small_sz (by decide), ?_⟩
    intro p9 hp9
    have n9 := B8.ne hp9
    have p69 := ne_nw g8 hp9
    simp [put_at, p69, g8]
    refine ⟨small_sz (by decide), ?_⟩
    intro p10 hp10
    have B9 := B8.ext (Ext.put (o := .lst [.tup [D.str (Str.ofString "change"), .int a1, .int a2, .int a3, .tup (os2.map tDo)]]) hp9)
    have n10 := B9.ne hp10
    refine takes (by decide) (by decide) (B9.ext (.put hp10)) fun r3 G11 r30 r31 B11 x11 => ?_
    have g11 := x11 _ _ n10.1 n10.2 put_same
    have x5' : Exc b l G (put G5 p6 (.lst [D.tup [D.str (Str.ofString "pick"), D.int a1, D.int a2, D.int a3, D.int a4, D.str ws], D.tup [D.str (Str.ofString "make"), D.int a1, D.tup (List.map tDo os)]])) := x06.fresh (x04.back hp6 n6)
    have xx : Exc b l G G11 := ((((x5'.trans (.of_ext e7)).trans x8).trans (.of_ext (.put hp9))).trans (.of_ext (.put hp10))).trans x11
    have hr : r3 = 0 ∨ r3 = 1 ∨ r3 = 2 := by omega
    have hn1 := okP_n (hn a1 (by simp))
    have hn2 := okP_n (hn a2 (by simp))
    have hn3 := okP_n (hn a3 (by simp))
    have hn4 := okP_n (hn a4 (by simp))
    have t1 : tl' "nnnnw" = [110, 110, 110, 110, 119] := by decide +kernel
    have t2 : tl' "no" = [110, 111] := by decide +kernel
    have t3 : tl' "nnno" = [110, 110, 110, 111] := by decide +kernel
    rcases hr with rfl | rfl | rfl
    · simp [g11]
      refine q _ _ ⟨"pick", "nnnnw", _, rfl, by decide +kernel, ?_⟩ B11 xx
      rw [t1]
      refine ⟨hn1, hn2, hn3, hn4, ?_, trivial⟩
      unfold okP
      rw [if_pos rfl]
      rcases hws with rfl | rfl
      · exact .inl rfl
      · exact .inr rfl
    · simp [g11]
      refine q _ _ ⟨"make", "no", _, rfl, by decide +kernel, ?_⟩ B11 xx
      rw [t2]
      exact ⟨hn1, ok_os h1 h2 h3 h4, trivial⟩
    · simp [g11]
      refine q _ _ ⟨"change", "nnno", _, rfl, by decide +kernel, ?_⟩ B11 xx
      rw [t3]
      exact ⟨hn1, hn2, hn3, ok_os k1 k2 k3 k4, trivial⟩
  · simp
    intro p4 hp4
    have hw4 := ne_nw gw3 hp4
    obtain ⟨k, sh, hv, hk, hs, ht⟩ := wd_ok wd hwd
    simp [put_at, hw4, gw3, hv]
    intro p6 hp6
    have hlen : ((([a1, a2, a3, a4].take k)).length) = k := by simp; omega
    have e : cutD [D.int a1, D.int a2, D.int a3, D.int a4] none (some (k : Int)) = ([a1, a2, a3, a4].take k).map D.int := by
      rw [cut_k, List.map_take]
      rfl
    rw [e]
    refine ⟨small_sz (by rw [List.length_map, hlen]; omega), ?_⟩
    rw [put_put] at hp6 ⊢
    have nb4 := B3.ne hp4
    have B4 := B3.ext (Ext.put (o := .dict false [(D.str (Str.ofString "over"), D.int 2), (D.str (Str.ofString "throw"), D.int 3), (D.str (Str.ofString "send"), D.int 0), (D.str (Str.ofString "settle"), D.int 0)]) hp4)
    exact q _ _ (ok_simple hs ht (fun n h => hn n (List.mem_of_mem_take h)) hlen) (B4.ext (.put hp6)) (x03.trans ((Exc.of_ext (.put hp4)).trans (.of_ext (.put hp6))))
end DL
set_option Elab.async false
set_option linter.all false
set_option maxRecDepth 100000
set_option maxHeartbeats 400000
namespace DL
open PySem PySem.Spec L2
/-- the same data on both sides -/
def sdatT : Nat → D → Bool
  | _, .non => true
  | _, .bl _ => true
  | _, .int _ => true
  | _, .str _ => true
  | n + 1, .tup ds => decide (ds.length ≤ 1000000) && ds.all (sdatT n)
  | _, _ => false
theorem same_datT {G : Gp} : ∀ (n : Nat) (d : D), sdatT n d = true → same (n + 1) G d d
  | n, .non, _ => trivial
  | n, .bl _, _ => rfl
  | n, .int _, _ => rfl
  | n, .str _, _ => rfl
  | n, .ty _, h => by cases n <;> cases h
  | n, .ref _, h => by cases n <;> cases h
  | 0, .tup ds, h => by cases h
  | n + 1, .tup ds, h => by
    simp only [sdatT, Bool.and_eq_true, decide_eq_true_eq, List.all_eq_true] at h
    refine ⟨rfl, h.1, fun i x y hx hy => ?_⟩
    rw [hx] at hy
    cases hy
    exact same_datT n x (h.2 x (List.mem_of_getElem? hx))
theorem same_lstT {G : Gp} {n : Nat} {p q : Addr} {xs : List D} (hp : G p = some (.lst xs)) (hq : G q = some (.lst xs)) (hl : xs.length ≤ 1000000) (h : ∀ x ∈ xs, sdatT n x = true) : same (n + 2) G (.ref p) (.ref q) :=
  ⟨xs, xs, hp, hq, rfl, hl, fun i x y hx hy => by
    rw [hx] at hy
    cases hy
    exact same_datT n x (h x (List.mem_of_getElem? hx))⟩

theorem okP_sdat {c : Nat} {d : D} (h : okP c d) : sdatT 3 d = true := by
  unfold okP at h
  split at h
  · rcases h with rfl | rfl <;> rfl
  · split at h
    · obtain ⟨os, h, rfl⟩ := h
      simp only [sdatT, Bool.and_eq_true, decide_eq_true_eq, List.all_eq_true]
      refine ⟨by rw [List.length_map]; have := h.2.1; omega, fun x hx => ?_⟩
      obtain ⟨t, ht, rfl⟩ := List.mem_map.mp hx
      rfl
    · obtain ⟨n, _, rfl⟩ := h
      rfl
theorem okP_dat {c : Nat} {d : D} (h : okP c d) : dat 19 d = true ∧ nob 19 d = true := by
  unfold okP at h
  split at h
  · rcases h with rfl | rfl <;> exact ⟨rfl, rfl⟩
  · split at h
    · obtain ⟨os, h, rfl⟩ := h
      show (os.map tDp).all (dat 18) = true ∧ (os.map tDp).all (nob 18) = true
      rw [List.all_eq_true, List.all_eq_true]
      constructor <;> · 
        intro x hx
        obtain ⟨t, ht, rfl⟩ := List.mem_map.mp hx
        rfl
    · obtain ⟨n, _, rfl⟩ := h
      exact ⟨rfl, rfl⟩
theorem okStep_sdat {d : D} (h : okStep d) : sdatT 4 d = true := by
  obtain ⟨w, sh, ps, rfl, hw, hp⟩ := h
  have sm := sh_small _ _ hw
  have hl := hp.len
  rw [← len_tl] at hl
  simp only [sdatT, Bool.and_eq_true, decide_eq_true_eq, List.all_eq_true]
  refine ⟨by simp; omega, fun x hx => ?_⟩
  rcases List.mem_cons.mp hx with rfl | hx
  · rfl
  · obtain ⟨i, hi⟩ := List.mem_iff_getElem?.mp hx
    obtain ⟨c, _, hc⟩ := hp.at i x hi
    exact okP_sdat hc
theorem okStep_dat {d : D} (h : okStep d) : dat 20 d = true ∧ nob 20 d = true := by
  obtain ⟨w, sh, ps, rfl, hw, hp⟩ := h
  show (D.str w :: ps).all (dat 19) = true ∧ (D.str w :: ps).all (nob 19) = true
  rw [List.all_eq_true, List.all_eq_true]
  constructor <;> · 
    intro x hx
    rcases List.mem_cons.mp hx with rfl | hx
    · rfl
    · obtain ⟨i, hi⟩ := List.mem_iff_getElem?.mp hx
      obtain ⟨c, _, hc⟩ := hp.at i x hi
      first | exact (okP_dat hc).1 | exact (okP_dat hc).2
theorem eqV_lstT {G : Gp} {a b : Addr} {xs ys : List D} {neg : Bool} {Q : DQ} (h1 : G a = some (.lst xs)) (h2 : G b = some (.lst ys)) : eqV neg (.ref a) (.ref b) G Q = ((xs.all (dat 20) && ys.all (dat 20)) = true ∧ Q (.bl (peqL xs ys != neg)) G) := by
  simp only [eqV, h1, h2, lstO]
  simp
theorem ne_sameT {G : Gp} {a b : Addr} {xs : List D} {Q : DQ} (h1 : G a = some (.lst xs)) (h2 : G b = some (.lst xs)) (hd : xs.all (dat 20) = true) (hp : peqL xs xs = true) (q : Q (.bl false) G) : eqV true (.ref a) (.ref b) G Q := by
  rw [eqV_lstT h1 h2, hd, hp]
  exact ⟨rfl, q⟩
theorem peqL_nob {xs : List D} (h : ∀ x ∈ xs, nob 20 x = true) : peqL xs xs = true := by
  rw [peqL_dec (n := 20) (m := 20) h h]
  simp
/-! ### the law -/
abbrev N_law : List Str := ["_law_script", "_law_box", "_law_turn", "_law_steps", "_law_rows", "_law_step_here", "_law_words", "_law_part", "_law_text", "_law_handed", "_law_k", "_law_kind", "_law_worth"]
def t_law_C1 (Γ : Cs) (ED : DXK) : DTE := dComp (diRng (daCons (dCall (sp_law_take Γ) (wx ED) (daCons (dVar 1) (daCons (dC (.int 30)) (daNil)))) (daNil))) (dgName 10) dYes (dCall (sp_law_step Γ) W0 (daCons (dVar 1) (daNil))) [10]
def t_law_C2 (Γ : Cs) (ED : DXK) : DTE := dComp (diSeq (dVar 7)) (dgTup 2 (dgCons (dgName 11) (dgCons (dgName 12) (dgNil)))) dYes (dOp addR (dOp addR (dCB strR (daCons (dVar 11) (daNil))) (dC (.str ":"))) (dCB strR (daCons (dVar 12) (daNil)))) [11, 12]
def t_law_L1 (Γ : Cs) (ED : DXK) : DTS := dIf (dTest (dCB isiR (daCons (dVar 7) (daCons (dC (.ty "tuple")) (daNil))))) (dDrop (dBM "list" appR (dVar 6) (daCons (dBM "str" joinR (dC (.str ",")) (daCons (dN (t_law_C2 Γ ED)) (daNil))) (daNil)))) (dDrop (dBM "list" appR (dVar 6) (daCons (dCB strR (daCons (dVar 7) (daNil))) (daNil))))
def t_law_L2 (Γ : Cs) (ED : DXK) : DTS := dSeq (dAsg (dLst (daNil)) (dgName 6)) (dSeq (dFor (diSeq (dVar 5)) (dgName 7) (t_law_L1 Γ ED)) (dDrop (dBM "list" appR (dVar 4) (daCons (dBM "str" joinR (dC (.str " ")) (daCons (dVar 6) (daNil))) (daNil)))))
def t_law_L3 (Γ : Cs) (ED : DXK) : DTS := dSeq (dAsg (dN (t_law_C1 Γ ED)) (dgName 3)) (dSeq (dAsg (dLst (daNil)) (dgName 4)) (dSeq (dFor (diSeq (dVar 3)) (dgName 5) (t_law_L2 Γ ED)) (dSeq (dPar 8 9 (daCons (dBM "str" joinR (dC (.str "\n")) (daCons (dVar 4) (daNil))) (daCons (dCB listR (daCons (dVar 3) (daNil))) (daNil)))) (dIf (dOr (dNot (dTest (dCall (sp_law_alike 6 Γ) (wx ED) (daCons (dCall (sp_written Γ) (wx ED) (daCons (dVar 9) (daNil))) (daCons (dVar 8) (daNil)))))) (dOr (dNot (dTest (dCall (sp_law_alike 6 Γ) (wx ED) (daCons (dCall (sp_read Γ) (wx ED) (daCons (dVar 8) (daNil))) (daCons (dVar 3) (daNil)))))) (dTest (dOp neR (dVar 9) (dVar 3))))) (dRet (dC (.bl false))) (dNext)))))
def t_law (Γ : Cs) (ED : DXK) : DTS := dSeq (dFor (diRng (daCons (dC (.int 5)) (daNil))) (dgName 2) (t_law_L3 Γ ED)) (dRet (dC (.bl true)))
theorem law_C2 {Γ : Cs} {E : DXK} {G : Gp} {Q : DQ} {os : List (Int × Int)} {z0 z1 z2 z3 z4 z5 z6 z8 z9 z10 z11 z12 : Option D} (ho : okOs os)
    (q : ∀ p G', Nw G p → Ext G G' → G' p = some (.lst (((os.map tDp).map pairT).map .str)) → Q (.ref p) G') : t_law_C2 Γ E [z0, z1, z2, z3, z4, z5, z6, some (.tup (os.map tDp)), z8, z9, z10, z11, z12] G Q := by
  simp [t_law_C2]
  refine compB_ext (fun d => .str (pairT d)) (fun _ _ => trivial) (fun d G' K hd e hK => ?_) fun p G' hp e g => q p G' hp e (by rw [g]; simp [Function.comp_def])
  obtain ⟨t, ht, rfl⟩ := tdp_eq hd
  obtain ⟨h1, h2⟩ := ho.at ht
  have a := nS_len h1.1 h1.2
  have b := nS_len h2.1 h2.2
  have s1 := strI h1
  have s2 := strI h2
  have l1 := l_colon
  simp [s1.1, s1.2, s2.1, s2.2, reprS]
  refine ⟨s1.2, small_sz ?_, s2.2, small_sz ?_, ?_⟩
  · omega
  · rw [len_app]; omega
  · exact hK _ (.refl _)
theorem law_L1 {Γ : Cs} {E : DXK} {G : Gp} {DD : DEnds} {d : D} {b : Addr} {xs : List D} {z0 z1 z2 z3 z4 z5 z8 z9 z10 z11 z12 : Option D} (h : (∃ c, okP c d) ∨ ∃ w, d = .str w) (g : G b = some (.lst xs)) (hx : xs.length < sizeLine)
    (q : ∀ G', Ext G G' → DD.nx [z0, z1, z2, z3, z4, z5, some (.ref b), some d, z8, z9, z10, z11, z12] (put G' b (.lst (xs ++ [.str (ptxt d)])))) : t_law_L1 Γ E DD [z0, z1, z2, z3, z4, z5, some (.ref b), some d, z8, z9, z10, z11, z12] G := by
  obtain ⟨nx, rt, bk, ct⟩ := DD
  simp [t_law_L1]
  have hs : ∀ w, d = .str w → ∃ c, True := fun _ _ => ⟨0, trivial⟩
  have key : (∃ os, okOs os ∧ d = .tup (os.map tDp)) ∨ (∃ n, okN n ∧ d = .int n) ∨ ∃ w, d = .str w := by
    rcases h with ⟨c, h⟩ | h
    · unfold okP at h
      split at h
      · rcases h with rfl | rfl
        · exact .inr (.inr ⟨_, rfl⟩)
        · exact .inr (.inr ⟨_, rfl⟩)
      · split at h
        · exact .inl h
        · exact .inr (.inl h)
    · exact .inr (.inr h)
  rcases key with ⟨os, ho, rfl⟩ | ⟨n, hn, rfl⟩ | ⟨w, rfl⟩
  · simp [g]
    refine law_C2 ho fun p G' hp e g' => ?_
    simp [g', -List.map_map]
    have b' := sum_le (pairs_ok ho).2
    have l' : ((os.map tDp).map pairT).length = os.length := by simp
    rw [l'] at b'
    have := ho.2.1
    have := l_comma
    refine joinO_of (by rw [l', l_comma]; omega) (asc_join asc_comma (pairs_ok ho).1).ok ?_
    simp only [ptxt, List.map_map] at q
    simp [e _ _ g, hx]
    exact q G' e
  · have s1 := strI hn
    simp [reprS, s1.1, g, hx]
    exact ⟨s1.2, q G (.refl G)⟩
  · simp [g, hx]
    exact q G (.refl G)
theorem law_L2 {Γ : Cs} {E : DXK} {G : Gp} {DD : DEnds} {s : D} {r : Addr} {xs : List D} {z0 z1 z2 z3 z6 z7 z8 z9 z10 z11 z12 : Option D} (h : okStep s) (g : G r = some (.lst xs)) (hx : xs.length < sizeLine)
    (q : ∀ G' z6 z7, Ext G G' → DD.nx [z0, z1, z2, z3, some (.ref r), some s, z6, z7, z8, z9, z10, z11, z12] (put G' r (.lst (xs ++ [.str (stxt s)])))) : t_law_L2 Γ E DD [z0, z1, z2, z3, some (.ref r), some s, z6, z7, z8, z9, z10, z11, z12] G := by
  obtain ⟨w, sh, ps, rfl, hw, hp⟩ := id h
  have sm := sh_small _ _ hw
  have hl := hp.len
  rw [← len_tl] at hl
  obtain ⟨nx, rt, bk, ct⟩ := DD
  simp [t_law_L2]
  intro b hb
  have hrb := ne_nw g hb
  refine loop_ind (fun j sd G' => Ext G G' ∧ G' b = some (.lst (((w :: ps.map ptxt).take j).map .str)) ∧ ∃ z7, sd = [z0, z1, z2, z3, some (.ref r), some (.tup (.str w :: ps)), some (.ref b), z7, z8, z9, z10, z11, z12]) (fun _ _ _ _ => trivial) ?_ ?_ ⟨.put hb, by simp [put_same], _, rfl⟩
  · rintro j x sd G' K hx' ⟨e, g', z7, rfl⟩ hK
    have hj : j < (D.str w :: ps).length := (List.getElem?_eq_some_iff.mp hx').1
    have hd : (∃ c, okP c x) ∨ ∃ w, x = .str w := by
      cases j with
      | zero => simp at hx'; exact .inr ⟨w, hx'.symm⟩
      | succ j =>
        obtain ⟨c, _, hc⟩ := hp.at j x (by simpa using hx')
        exact .inl ⟨c, hc⟩
    simp
    refine law_L1 hd g' (by rw [sizeLine_eq]; simp at hj ⊢; omega) fun G2 e2 => ?_
    refine hK _ _ ⟨(e.trans e2).nw hb, ?_, _, rfl⟩
    rw [put_same, List.take_succ]
    have : (w :: ps.map ptxt)[j]? = some (ptxt x) := by
      cases j with
      | zero => simp at hx' ⊢; rw [← hx']; rfl
      | succ j => simp at hx' ⊢; exact ⟨_, hx', rfl⟩
    rw [this]
    simp
  · rintro sd G' ⟨e, g', z7, rfl⟩
    have ht : (w :: ps.map ptxt).take (D.str w :: ps).length = w :: ps.map ptxt := List.take_of_length_le (by simp)
    rw [ht] at g'
    have st := step_ok h
    simp [e _ _ g, g', -List.map_cons]
    have hall : ∀ x ∈ w :: ps.map ptxt, x.length ≤ 500 := fun x hx => by
      have a := (sjoin_len (y := " ") (by rw [l_blank]; exact Nat.le_refl _) (ps := w :: ps.map ptxt)).2 x hx
      have b : (Txt.join " " (w :: ps.map ptxt)).length ≤ 500 := st.2.1
      rw [TL.join_eq] at b
      omega
    have sm2 := sum_le hall
    have l : (w :: ps.map ptxt).length = ps.length + 1 := by simp
    rw [l] at sm2
    refine joinO_of (by rw [l, l_blank]; omega) st.1.ok ?_
    simp [e _ _ g, hx]
    exact q G' _ _ e
theorem law_C1 {Γ : Cs} {E : DXK} {G : Gp} {Q : DQ} {b l : Addr} {z0 z2 z3 z4 z5 z6 z7 z8 z9 z10 z11 z12 : Option D} (B : Box G b l)
    (q : ∀ p G' (ss : List D), Box G' b l → ss.length ≤ 30 → (∀ s ∈ ss, okStep s) → p ≠ b → p ≠ l → G' p = some (.lst ss) → Q (.ref p) G') : t_law_C1 Γ E [z0, some (.ref b), z2, z3, z4, z5, z6, z7, z8, z9, z10, z11, z12] G Q := by
  simp [t_law_C1]
  refine takes (by decide) (by decide) B fun r G1 r0 r1 B1 x1 => ?_
  simp
  refine ⟨by omega, by omega, ?_⟩
  refine compB_ind (fun p i acc G' => Box G' b l ∧ Exc b l G1 G' ∧ G' p = some (.lst acc) ∧ acc.length = i ∧ ∀ s ∈ acc, okStep s) trivial (fun p hp => ⟨B1.ext (.put hp), .of_ext (.put hp), put_same, rfl, by simp⟩) (fun _ _ _ _ _ _ => trivial) (fun p i x acc G' K hp hx ⟨B2, x2, g2, hl, hs⟩ hK => ?_) (fun p acc G' hp ⟨B2, x2, g2, hl, hs⟩ => ?_)
  · have np := B1.ne hp
    obtain ⟨hi, rfl⟩ := rngD_at hx
    simp
    refine call1 ⟨b, l, rfl, B2, fun d G3 ok B3 x3 => ?_⟩
    refine ⟨x3 _ _ np.1 np.2 g2, trivial, hK (acc ++ [d]) _ ⟨B3.put np.1 np.2, (x2.trans x3).fresh hp, put_same, by simp [hl], fun s hs' => ?_⟩⟩
    rcases List.mem_append.mp hs' with h | h
    · exact hs s h
    · have : s = d := by simpa using h
      subst this
      exact ok
  · have np := B1.ne hp
    rw [rngD_len] at hl
    exact q p G' acc B2 (by omega) hs np.1 np.2 g2
theorem pure_law (Γ : Cs) (b l : Addr) (G : Gp) (sd : SD) (B : Box G b l) (hf : ∀ a, a ≠ b → a ≠ l → G a = none) (h1 : sd[1]? = some (some (.ref b))) (h2 : sd.length = N_law.length) : t_law Γ (fun _ _ _ => False) { nx := fun _ _ => False, rt := fun d _ => d = .bl true } sd G := by
  match sd, h1, h2 with
  | [s0, s1, s2, s3, s4, s5, s6, s7, s8, s9, s10, s11, s12], h1, h2 =>
    cases h1
    simp [t_law]
    refine loop_ind (fun i sd G' => Box G' b l ∧ ∃ x2 x3 x4 x5 x6 x7 x8 x9 x10 x11 x12, sd = [s0, some (.ref b), x2, x3, x4, x5, x6, x7, x8, x9, x10, x11, x12]) (fun _ _ _ _ => trivial) ?_ ?_ ⟨B, _, _, _, _, _, _, _, _, _, _, _, rfl⟩
    · rintro i x sd G1 K hx ⟨B1, y2, y3, y4, y5, y6, y7, y8, y9, y10, y11, y12, rfl⟩ hK
      simp [t_law_L3]
      refine law_C1 B1 fun p G2 ss B2 hl ok nb nl g2 => ?_
      simp
      intro r hr
      have B3 := B2.ext (.put (o := .lst []) hr)
      have nr := B2.ne hr
      have npr := ne_nw g2 hr
      simp [put_at, npr, g2]
      refine loop_ind (fun i sd G' => Ext G2 G' ∧ G' r = some (.lst ((ss.take i).map fun s => .str (stxt s))) ∧ ∃ x5 x6 x7, sd = [s0, some (.ref b), some x, some (.ref p), some (.ref r), x5, x6, x7, y8, y9, y10, y11, y12]) ?_ ?_ ?_ ⟨.put hr, put_same, _, _, _, rfl⟩
      · rintro i sd G' ⟨e, _⟩
        exact e _ _ g2
      · rintro i s sd G' K2 hs ⟨e, g', x5, x6, x7, rfl⟩ hK2
        simp
        have hi : i < ss.length := (List.getElem?_eq_some_iff.mp hs).1
        refine law_L2 (ok s (List.mem_of_getElem? hs)) g' (by rw [sizeLine_eq]; simp; omega) fun G3 z6 z7 e3 => ?_
        have ee := (e.trans e3).nw (o := .lst (((ss.take i).map fun s => .str (stxt s)) ++ [.str (stxt s)])) hr
        refine ⟨ee _ _ g2, hK2 _ _ ⟨ee, ?_, _, _, _, rfl⟩⟩
        rw [put_same, List.take_succ, hs]
        simp
      · rintro sd G' ⟨e, g', x5, x6, x7, rfl⟩
        have hm : ((ss.take ss.length).map fun s => D.str (stxt s)) = (ss.map stxt).map .str := by rw [List.take_length, List.map_map]; rfl
        rw [hm] at g'
        simp [g', -List.map_map]
        have hall : ∀ x ∈ ss.map stxt, Asc x ∧ x.length ≤ 500 := fun x hx => by
          obtain ⟨s, hs, rfl⟩ := List.mem_map.mp hx
          have := step_ok (ok s hs)
          exact ⟨this.1, this.2.1⟩
        have sm := sum_le fun x hx => (hall x hx).2
        have l' : (ss.map stxt).length = ss.length := by simp
        rw [l'] at sm
        refine joinO_of (by rw [l', l_line]; omega) (asc_join asc_line fun x hx => (hall x hx).1).ok ?_
        simp [e _ _ g2]
        intro h hh
        have e' := e.trans (Ext.put (o := .lst ss) hh)
        have nph := ne_nw (e _ _ g2) hh
        refine call1 ⟨h, ss, rfl, put_same, ok, by omega, fun G4 e4 => ?_⟩
        simp
        refine call2 ⟨rfl, ?_⟩
        simp
        have tx := text_ok ok (by omega)
        refine call1 ⟨_, rfl, tx.1, tx.2, fun z hz => ?_, fun p5 G5 n5 e5 g5 => ?_⟩
        · rw [lines_back ok] at hz
          obtain ⟨s, hs, rfl⟩ := List.mem_map.mp hz
          have := step_ok (ok s hs)
          exact ⟨by omega, by rw [(stepT_stxt (ok s hs)).1]; exact (stepT_stxt (ok s hs)).2⟩
        rw [lines_back ok, List.map_map] at g5
        have hid : ss.map (stepT ∘ stxt) = ss := by
          conv => rhs; rw [← List.map_id ss]
          exact List.map_congr_left fun s hs => (stepT_stxt (ok s hs)).1
        rw [hid] at g5
        have gp5 : G5 p = some (.lst ss) := e5 _ _ (e4 _ _ (e' _ _ g2))
        have gh5 : G5 h = some (.lst ss) := e5 _ _ (e4 _ _ put_same)
        simp
        refine call2 ⟨same_lstT g5 gp5 (by omega) fun s hs => okStep_sdat (ok s hs), ?_⟩
        simp [gp5, gh5]
        refine ne_sameT gh5 gp5 (List.all_eq_true.mpr fun s hs => (okStep_dat (ok s hs)).1) (peqL_nob fun s hs => (okStep_dat (ok s hs)).2) ?_
        simp
        exact hK _ _ ⟨((((B2.ext e').ext e4)).ext e5), _, _, _, _, _, _, _, _, _, _, _, rfl⟩
    · rintro sd G' ⟨B', x2, x3, x4, x5, x6, x7, x8, x9, x10, x11, x12, rfl⟩
      simp
end DL
set_option Elab.async false
set_option linter.all false
set_option maxRecDepth 100000
set_option maxHeartbeats 0
namespace DL
open PySem PySem.Spec L2
def top (i : Nat) : Stmt := PySem.Challenge.pw_carrydrop_k16_steps_written.main.body.getD i (.Pass ⟨0, 0, 0, 0⟩)
abbrev W0x : DXK := fun _ _ _ => False
def d_law_begun : He.DefD := ⟨("_law_begun", none), "_law_begun", "_law_begun", defArgs (top 20), defBody (top 20), defScope (top 20), [], []⟩
def d_law_alike : He.DefD := ⟨("_law_alike", none), "_law_alike", "_law_alike", defArgs (top 22), defBody (top 22), defScope (top 22), [], []⟩
def d_law_take : He.DefD := ⟨("_law_take", none), "_law_take", "_law_take", defArgs (top 21), defBody (top 21), defScope (top 21), [], []⟩
def d_law_offers : He.DefD := ⟨("_law_offers", none), "_law_offers", "_law_offers", defArgs (top 23), defBody (top 23), defScope (top 23), [], []⟩
def d_law_step : He.DefD := ⟨("_law_step", none), "_law_step", "_law_step", defArgs (top 27), defBody (top 27), defScope (top 27), [], []⟩
def d_number_of : He.DefD := ⟨("number_of", none), "number_of", "number_of", defArgs (top 14), defBody (top 14), defScope (top 14), [], []⟩
def d_offers_of : He.DefD := ⟨("offers_of", none), "offers_of", "offers_of", defArgs (top 15), defBody (top 15), defScope (top 15), [], []⟩
def d_part_of : He.DefD := ⟨("part_of", none), "part_of", "part_of", defArgs (top 16), defBody (top 16), defScope (top 16), [], []⟩
def d_step_of : He.DefD := ⟨("step_of", none), "step_of", "step_of", defArgs (top 17), defBody (top 17), defScope (top 17), [], []⟩
def d_read : He.DefD := ⟨("read", none), "read", "read", defArgs (top 18), defBody (top 18), defScope (top 18), [], []⟩
def d_offers_text : He.DefD := ⟨("offers_text", none), "offers_text", "offers_text", defArgs (top 12), defBody (top 12), defScope (top 12), [], []⟩
def d_written : He.DefD := ⟨("written", none), "written", "written", defArgs (top 13), defBody (top 13), defScope (top 13), [], []⟩
def d_law : He.DefD := ⟨("law", none), "law", "law", defArgs (top 28), defBody (top 28), defScope (top 28), [], []⟩
def fn : List He.DefD := [d_law_begun, d_law_alike, d_law_take, d_law_offers, d_law_step, d_number_of, d_offers_of, d_part_of, d_step_of, d_read, d_offers_text, d_written, d_law]
def fa : List He.Fa := [.free "range", .free "tuple", .free "isinstance", .free "str", .free "list", .free "bool", .free "int", .free "len", .free "enumerate", .glo "SHAPES", .free "zip", .glo "WISHES", .int "MOST_FIGURES" 4, .str "FIGURES" "0123456789", .int "MOST_KIND" 7, .int "MOST_NUMBER" 9999, .free "set", .glo "_law_begun", .glo "_law_alike", .glo "_law_take", .glo "_law_offers", .glo "_law_step", .glo "number_of", .glo "offers_of", .glo "part_of", .glo "step_of", .glo "read", .glo "offers_text", .glo "written", .glo "law"]
def tb : List He.Tab := [(fun K => He.ga K "SHAPES", ["pick", "over", "off", "drop", "letgo", "make", "change", "throw", "fall", "rise", "send", "carry", "lose", "twice", "settle"])]
def xb (K : PySem.W.Frag) : Bool := [tblB K (He.ga K "SHAPES") [("pick", some "nnnnw"), ("over", some "nn"), ("off", some "n"), ("drop", some "n"), ("letgo", some "n"), ("make", some "no"), ("change", some "nnno"), ("throw", some "nnn"), ("fall", some "n"), ("rise", some "n"), ("send", some ""), ("carry", some "n"), ("lose", some "n"), ("twice", some "n"), ("settle", some "")], tupB K (He.ga K "WISHES") ["move", "copy"]].all id
theorem xp0 {K : PySem.W.Frag} (h : xb K = true) : tblB K (He.ga K "SHAPES") [("pick", some "nnnnw"), ("over", some "nn"), ("off", some "n"), ("drop", some "n"), ("letgo", some "n"), ("make", some "no"), ("change", some "nnno"), ("throw", some "nnn"), ("fall", some "n"), ("rise", some "n"), ("send", some ""), ("carry", some "n"), ("lose", some "n"), ("twice", some "n"), ("settle", some "")] = true := List.all_eq_true.mp h _ (List.mem_of_getElem? (i := 0) rfl)
theorem xp1 {K : PySem.W.Frag} (h : xb K = true) : tupB K (He.ga K "WISHES") ["move", "copy"] = true := List.all_eq_true.mp h _ (List.mem_of_getElem? (i := 1) rfl)
section
variable {P : Program} {w : World} {K : PySem.W.Frag} {mg : Str → Option Value} {base : Heap}
theorem sc_begun : FnScope ["_law_script", "_law_stirred", "_law_cell"] ["_law_script"] (defScope (top 20)) := ⟨rfl, rfl, rfl, by decide +kernel, rfl, by decide +kernel, by decide +kernel⟩
theorem ok_begun (S : SaidX fa fn tb xb w K mg) : ∃ fd : FuncData, FnOk P w K mg base (L2.CX P w) 1 (He.fAd K d_law_begun.at_) fd ["_law_script"] (spBegun K) ∧ mg "_law_begun" = some (.ref (He.fAd K d_law_begun.at_)) ∧ PySem.W.keepIn K (.ref (He.fAd K d_law_begun.at_)) = true ∧ Binds K fd ["_law_script"] [] := by
  obtain ⟨fd, F⟩ := S.c.def_ 0 (d := d_law_begun) rfl
  refine ⟨fd, F.ok sc_begun (fun vs H Q E h => ?_) (fun cdv A outer s H vs Q E hr h => ⟨rawBegun K, ?_, pure_begun vs H Q E h⟩), S.glo 17, F.kp, F.bindsN fun _ _ _ _ _ _ us hl => match us, hl with | [_], _ => rfl⟩
  · obtain ⟨a, ns, rfl, _⟩ := h
    rfl
  · have nd := sc_begun.nd
    have po := passes_of (X := Bd P w K mg base ["_law_script", "_law_stirred", "_law_cell"] "_law_begun" (defScope (top 20)) (He.fAd K d_law_begun.at_) cdv A outer s H E) rfl
    exact pss_cons (ps_set (i := 1) nd rfl (Or.inl rfl) pe_int) (pss_cons (ps_for po rfl (DL.pi_seq (pv 0)) (pg_name (i := 2) nd rfl (Or.inl rfl)) (pss_one (ps_set (i := 1) nd rfl (Or.inl rfl) (pe_op L2.op_mod (pe_op L2.op_add (pe_op L2.op_add (pe_op L2.op_mul (pv 1) pe_int) (pe_op L2.op_mul (pe_op L2.op_mod (pv 2) pe_int) pe_int)) pe_int) pe_int))))
      (pss_one (ps_ret (pe_lst (pa_cons (pe_callTy call_list_of rfl (S.free 4) (by decide +kernel) (pa_cons (pv 0) pa_nil)) (pa_cons (pe_op L2.op_mul (pv 1) (pe_callTy call_int1 rfl (S.free 6) (by decide +kernel) (pa_cons (pe_cmpR L2.op_gt (pe_callB call_len rfl (S.free 7) (by decide +kernel) (pa_cons (pv 0) pa_nil)) pe_int (nomark _)) pa_nil))) pa_nil))))))
theorem sc_law_alike : FnScope N_law_alike ["_law_found", "_law_due"] (defScope (top 22)) := ⟨rfl, rfl, rfl, by decide +kernel, rfl, by decide +kernel, by decide +kernel⟩
theorem ok_law_alike (S : SaidX fa fn tb xb w K mg) : ∀ n, Cal P w K mg base n "_law_alike" (sp_law_alike n (cs K))
  | 0 => by
    obtain ⟨fd, F⟩ := S.c.def_ 1 (d := d_law_alike) rfl
    refine ⟨_, fd, ["_law_found", "_law_due"], ⟨fun vs H Q E h => ?_, fun A outer s H args us vs Q E _ _ _ _ h => ?_⟩, S.glo 18, F.kp, F.bindsN fun _ _ _ _ _ _ us hl => match us, hl with | [_, _], _ => rfl⟩
    · obtain ⟨_, _, _, _, _, _, q, _⟩ := h
      exact (nil_law_alike _ _ _ _ _ q).elim
    · obtain ⟨_, _, _, _, _, _, q, _⟩ := h
      exact (nil_law_alike _ _ _ _ _ q).elim
  | n + 1 => by
    have okr := ok_law_alike S n
    obtain ⟨fd, F⟩ := S.c.def_ 1 (d := d_law_alike) rfl
    have nd := sc_law_alike.nd
    refine ⟨_, fd, _, dfn_ok (t := t_law_alike (sp_law_alike n (cs K)) (cs K)) F sc_law_alike sp2_len (pure_law_alike n (cs K)) (fun cdv A outer s H E ED hr po tk => ?_), S.glo 18, F.kp, F.bindsN fun _ _ _ _ _ _ us hl => match us, hl with | [_, _], _ => rfl⟩
    exact (dss_cons (ds_if (dt_cmp op_isN (dv 1) de_non) (dss_one (ds_ret (de_cmp op_isN (dv 0) de_non))) dss_nil)
    (dss_cons (ds_if (dt_of_val (de_callB dc_isi rfl (S.free 2) (by decide +kernel) (da_cons (dv 1) (da_cons (de_ty rfl (S.free 5) (by decide +kernel)) da_nil)))) (dss_one (ds_ret (de_and (de_callB dc_isi rfl (S.free 2) (by decide +kernel) (da_cons (dv 0) (da_cons (de_ty rfl (S.free 5) (by decide +kernel)) da_nil))) (de_one (de_cmp (op_eq (r64 hr)) (dv 0) (dv 1)))))) dss_nil)
    (dss_cons (ds_if (dt_of_val (de_callB dc_isi rfl (S.free 2) (by decide +kernel) (da_cons (dv 1) (da_cons (de_ty rfl (S.free 6) (by decide +kernel)) da_nil)))) (dss_one (ds_ret (de_and (de_callB dc_isi rfl (S.free 2) (by decide +kernel) (da_cons (dv 0) (da_cons (de_ty rfl (S.free 6) (by decide +kernel)) da_nil))) (de_and (de_not (de_callB dc_isi rfl (S.free 2) (by decide +kernel) (da_cons (dv 0) (da_cons (de_ty rfl (S.free 5) (by decide +kernel)) da_nil)))) (de_one (de_cmp (op_eq (r64 hr)) (dv 0) (dv 1))))))) dss_nil)
    (dss_cons (ds_if (dt_of_val (de_callB dc_isi rfl (S.free 2) (by decide +kernel) (da_cons (dv 1) (da_cons (de_ty rfl (S.free 3) (by decide +kernel)) da_nil)))) (dss_one (ds_ret (de_and (de_callB dc_isi rfl (S.free 2) (by decide +kernel) (da_cons (dv 0) (da_cons (de_ty rfl (S.free 3) (by decide +kernel)) da_nil))) (de_one (de_cmp (op_eq (r64 hr)) (dv 0) (dv 1)))))) dss_nil)
    (dss_cons (ds_if (DW.dt (dw_or (dt_cmp (op_ne (r64 hr)) (de_callB dc_isi rfl (S.free 2) (by decide +kernel) (da_cons (dv 1) (da_cons (de_ty rfl (S.free 1) (by decide +kernel)) da_nil))) (de_callB dc_isi rfl (S.free 2) (by decide +kernel) (da_cons (dv 0) (da_cons (de_ty rfl (S.free 1) (by decide +kernel)) da_nil)))) (dw_or1 (dt_cmp (op_ne (r64 hr)) (de_callB dc_isi rfl (S.free 2) (by decide +kernel) (da_cons (dv 1) (da_cons (de_ty rfl (S.free 4) (by decide +kernel)) da_nil))) (de_callB dc_isi rfl (S.free 2) (by decide +kernel) (da_cons (dv 0) (da_cons (de_ty rfl (S.free 4) (by decide +kernel)) da_nil))))))) (dss_one (ds_ret de_bl)) dss_nil)
    (dss_cons (ds_if (dt_cmp (op_ne (r64 hr)) (de_callB dc_len rfl (S.free 7) (by decide +kernel) (da_cons (dv 0) da_nil)) (de_callB dc_len rfl (S.free 7) (by decide +kernel) (da_cons (dv 1) da_nil))) (dss_one (ds_ret de_bl)) dss_nil)
    (dss_cons (ds_for po rfl (di_rng rfl (S.free 0) (da_cons (de_callB dc_len rfl (S.free 7) (by decide +kernel) (da_cons (dv 1) da_nil)) da_nil)) (dg_name (i := 2) nd rfl (Or.inl rfl)) (dss_one (ds_if (dt_not (dt_of_val (ce_call okr hr (Nat.le_refl _) rfl tk (da_cons (de_ix (r1 hr) (dv 0) (dv 2)) (da_cons (de_ix (r1 hr) (dv 1) (dv 2)) da_nil))))) (dss_one (ds_ret de_bl)) dss_nil)))
    (dss_one (ds_ret de_bl)))))))))
theorem sc_law_take : FnScope N_law_take ["_law_box", "_law_many"] (defScope (top 21)) := ⟨rfl, rfl, rfl, by decide +kernel, rfl, by decide +kernel, by decide +kernel⟩
theorem ok_law_take (S : SaidX fa fn tb xb w K mg) : Cal P w K mg base 1 "_law_take" (sp_law_take (cs K)) := by
  obtain ⟨fd, F⟩ := S.c.def_ 2 (d := d_law_take) rfl
  have nd := sc_law_take.nd
  refine ⟨_, fd, _, dfn_ok (t := t_law_take (cs K)) F sc_law_take sp2_len (pure_law_take (cs K)) (fun cdv A outer s H E ED hr po tk => ?_), S.glo 19, F.kp, F.bindsN fun _ _ _ _ _ _ us hl => match us, hl with | [_, _], _ => rfl⟩
  exact (dss_cons (ds_if (dt_cmp (op_eq (r64 hr)) (de_ix (r1 hr) (dv 0) de_int) (de_lst da_nil)) (dss_cons (ds_asg (de_op op_mod (de_op op_mul (de_ix (r1 hr) (dv 0) de_int) de_int) de_int) (dg_sub (r1 hr) (dv 0) de_int))
    (dss_one (ds_ret (de_op op_mod (de_op op_div (de_ix (r1 hr) (dv 0) de_int) de_int) (dv 1))))) dss_nil)
    (dss_cons (ds_set (i := 2) nd rfl (Or.inl rfl) (de_ix (r1 hr) (de_ix (r1 hr) (dv 0) de_int) de_int))
    (dss_cons (ds_asg (de_op op_div (dv 2) (dv 1)) (dg_sub (r1 hr) (de_ix (r1 hr) (dv 0) de_int) de_int))
    (dss_cons (ds_if (DW.dt (dw_or (dt_cmp (op_eq (r64 hr)) (de_ix (r1 hr) (de_ix (r1 hr) (dv 0) de_int) de_int) de_int) (dw_or1 (dt_cmp (op_eq (r64 hr)) (de_ix (r1 hr) (de_ix (r1 hr) (dv 0) de_int) de_int) de_neg)))) (dss_one (ds_expr (de_bm PySem.F.plainAttrs_list PySem.F.slot_list_pop PySem.F.type_list_pop dm_popAt (de_ix (r1 hr) (dv 0) de_int) (da_cons de_int da_nil)))) dss_nil)
    (dss_one (ds_ret (de_op op_mod (dv 2) (dv 1))))))))
theorem sc_law_offers : FnScope N_law_offers ["_law_box"] (defScope (top 23)) := ⟨rfl, rfl, rfl, by decide +kernel, rfl, by decide +kernel, by decide +kernel⟩
theorem ok_law_offers (S : SaidX fa fn tb xb w K mg) : Cal P w K mg base 2 "_law_offers" (sp_law_offers (cs K)) := by
  obtain ⟨fd, F⟩ := S.c.def_ 3 (d := d_law_offers) rfl
  have nd := sc_law_offers.nd
  refine ⟨_, fd, _, dfn_ok (t := t_law_offers (cs K)) F sc_law_offers sp1_len (pure_law_offers (cs K)) (fun cdv A outer s H E ED hr po tk => ?_), S.glo 20, F.kp, F.bindsN fun _ _ _ _ _ _ us hl => match us, hl with | [_], _ => rfl⟩
  exact (dss_cons (ds_par (i := 1) (j := 2) rfl nd rfl rfl (by decide) rfl rfl (da_cons (de_listRng rfl rfl (S.free 4) rfl (S.free 0) de_int) (da_cons (de_lst da_nil) da_nil)) rfl)
    (dss_cons (ds_for po rfl (di_rng rfl (S.free 0) (da_cons (de_op op_add de_int (ce_call (ok_law_take S) hr (by decide) rfl tk (da_cons (dv 0) (da_cons (de_ix (r1 hr) (de_lst (da_cons de_int (da_cons de_int (da_cons de_int da_nil)))) (ce_call (ok_law_take S) hr (by decide) rfl tk (da_cons (dv 0) (da_cons de_int da_nil)))) da_nil)))) da_nil)) (dg_name (i := 3) nd rfl (Or.inl rfl)) (dss_one (ds_expr (de_bm PySem.F.plainAttrs_list PySem.F.slot_list_append PySem.F.type_list_append dm_append (dv 2) (da_cons (de_tup (da_cons (de_bm PySem.F.plainAttrs_list PySem.F.slot_list_pop PySem.F.type_list_pop dm_popAt (dv 1) (da_cons (ce_call (ok_law_take S) hr (by decide) rfl tk (da_cons (dv 0) (da_cons (de_callB dc_len rfl (S.free 7) (by decide +kernel) (da_cons (dv 1) da_nil)) da_nil))) da_nil)) (da_cons (ce_call (ok_law_take S) hr (by decide) rfl tk (da_cons (dv 0) (da_cons de_int da_nil))) da_nil))) da_nil)))))
    (dss_one (ds_ret (de_callTy dc_tuple rfl (S.free 1) (by decide +kernel) (da_cons (dv 2) da_nil))))))
theorem sc_law_step : FnScope N_law_step ["_law_box"] (defScope (top 27)) := ⟨rfl, rfl, rfl, by decide +kernel, rfl, by decide +kernel, by decide +kernel⟩
theorem ok_law_step (S : SaidX fa fn tb xb w K mg) : Cal P w K mg base 3 "_law_step" (sp_law_step (cs K)) := by
  obtain ⟨fd, F⟩ := S.c.def_ 4 (d := d_law_step) rfl
  have nd := sc_law_step.nd
  refine ⟨_, fd, _, dfn_ok (t := t_law_step (cs K)) F sc_law_step sp1_len (pure_law_step (cs K)) (fun cdv A outer s H E ED hr po tk => ?_), S.glo 21, F.kp, F.bindsN fun _ _ _ _ _ _ us hl => match us, hl with | [_], _ => rfl⟩
  exact (dss_cons (ds_setLc (i := 1) (own := [("_law_k", 6)]) rfl nd rfl rfl (sw_true rfl rfl rfl (by decide +kernel)) (di_rng rfl (S.free 0) (da_cons de_int da_nil)) (blkOk_by (N := N_law_step) (sc := defScope (top 27)) (by decide +kernel)) (by decide) (fun _ _ _ _ _ => (dg_name (i := 6) nd rfl (Or.inl rfl))) (fun _ _ _ _ _ => dts_nil) (fun _ _ _ _ _ => (ce_call (ok_law_take S) hr (by decide) rfl wish0 (da_cons (dv 0) (da_cons (de_ix (r1 hr) (de_lst (da_cons de_int (da_cons de_int da_nil))) (ce_call (ok_law_take S) hr (by decide) rfl wish0 (da_cons (dv 0) (da_cons de_int da_nil)))) da_nil)))))
    (dss_cons (ds_set (i := 2) nd rfl (Or.inl rfl) (de_lst (da_cons de_str (da_cons de_str (da_cons de_str (da_cons de_str (da_cons de_str (da_cons de_str (da_cons de_str (da_cons de_str (da_cons de_str (da_cons de_str (da_cons de_str (da_cons de_str da_nil))))))))))))))
    (dss_cons (ds_set (i := 3) nd rfl (Or.inl rfl) (de_ix (r1 hr) (dv 2) (ce_call (ok_law_take S) hr (by decide) rfl tk (da_cons (dv 0) (da_cons de_int da_nil)))))
    (dss_cons (ds_if (dt_cmp (op_eq (r64 hr)) (ce_call (ok_law_take S) hr (by decide) rfl tk (da_cons (dv 0) (da_cons de_int da_nil))) de_int) (dss_cons (ds_set (i := 4) nd rfl (Or.inl rfl) (de_lst (da_cons (de_op op_add (de_op op_add (de_tup (da_cons de_str da_nil)) (de_callTy dc_tuple rfl (S.free 1) (by decide +kernel) (da_cons (dv 1) da_nil))) (de_tup (da_cons (de_ix (r1 hr) (de_lst (da_cons de_str (da_cons de_str da_nil))) (ce_call (ok_law_take S) hr (by decide) rfl tk (da_cons (dv 0) (da_cons de_int da_nil)))) da_nil))) da_nil)))
    (dss_cons (ds_expr (de_bm PySem.F.plainAttrs_list PySem.F.slot_list_append PySem.F.type_list_append dm_append (dv 4) (da_cons (de_tup (da_cons de_str (da_cons (de_ix (r1 hr) (dv 1) de_int) (da_cons (ce_call (ok_law_offers S) hr (by decide) rfl tk (da_cons (dv 0) da_nil)) da_nil)))) da_nil)))
    (dss_one (ds_ret (de_ix (r1 hr) (de_op op_add (dv 4) (de_lst (da_cons (de_op op_add (de_op op_add (de_tup (da_cons de_str da_nil)) (de_callTy dc_tuple rfl (S.free 1) (by decide +kernel) (da_cons (de_slice (dv 1) do_none (do_some de_int)) da_nil))) (de_tup (da_cons (ce_call (ok_law_offers S) hr (by decide) rfl tk (da_cons (dv 0) da_nil)) da_nil))) da_nil))) (ce_call (ok_law_take S) hr (by decide) rfl tk (da_cons (dv 0) (da_cons de_int da_nil)))))))) dss_nil)
    (dss_cons (ds_set (i := 5) nd rfl (Or.inl rfl) (de_bm PySem.F.plainAttrs_dict PySem.F.slot_dict_get PySem.F.type_dict_get (dm_get (r1 hr)) (de_disp (dps_cons de_str pe_str de_int (dps_cons de_str pe_str de_int (dps_cons de_str pe_str de_int (dps_cons de_str pe_str de_int dps_nil))))) (da_cons (dv 3) (da_cons de_int da_nil))))
    (dss_one (ds_ret (de_op op_add (de_tup (da_cons (dv 3) da_nil)) (de_callTy dc_tuple rfl (S.free 1) (by decide +kernel) (da_cons (de_slice (dv 1) do_none (do_some (dv 5))) da_nil))))))))))
theorem sc_number_of : FnScope N_number_of ["word"] (defScope (top 14)) := ⟨rfl, rfl, rfl, by decide +kernel, rfl, by decide +kernel, by decide +kernel⟩
theorem ok_number_of (S : SaidX fa fn tb xb w K mg) : Cal P w K mg base 1 "number_of" (sp_number_of (cs K)) := by
  obtain ⟨fd, F⟩ := S.c.def_ 5 (d := d_number_of) rfl
  have nd := sc_number_of.nd
  refine ⟨_, fd, _, dfn_ok (t := t_number_of (cs K)) F sc_number_of sp1_len (pure_number_of (cs K)) (fun cdv A outer s H E ED hr po tk => ?_), S.glo 22, F.kp, F.bindsN fun _ _ _ _ _ _ us hl => match us, hl with | [_], _ => rfl⟩
  exact (dss_cons (ds_if (DW.dt (dw_or (dt_not (dt_chain op_le op_le de_int (de_callB dc_len rfl (S.free 7) (by decide +kernel) (da_cons (dv 0) da_nil)) (de_gint rfl (S.int 12)))) (dw_or1 (dt_cmp (op_ne (r64 hr)) (de_lc (own := [("sign", 1)]) rfl nd (di_str (dv 0)) (blkOk_by (N := N_number_of) (sc := defScope (top 14)) (by decide +kernel)) (by decide) (fun _ _ _ _ _ => (dg_name (i := 1) nd rfl (Or.inl rfl))) (fun _ _ _ _ _ => (dts_one (dt_cmp (op_notIn (r65 hr)) (dv 1) (de_gstr rfl (S.str 13))))) (fun _ _ _ _ _ => (dv 1))) (de_lst da_nil))))) (dss_one (ds_ret de_non)) dss_nil)
    (dss_one (ds_ret (de_if (DW.dt (dw_or (dt_cmp (op_ne (r64 hr)) (de_ix (r1 hr) (dv 0) de_int) de_str) (dw_or1 (dt_cmp (op_eq (r64 hr)) (dv 0) de_str)))) (de_callTy dc_intT rfl (S.free 6) (by decide +kernel) (da_cons (dv 0) da_nil)) de_non))))
theorem sc_offers_of : FnScope N_offers_of ["word"] (defScope (top 15)) := ⟨rfl, rfl, rfl, by decide +kernel, rfl, by decide +kernel, by decide +kernel⟩
theorem ok_offers_of (S : SaidX fa fn tb xb w K mg) : Cal P w K mg base 2 "offers_of" (sp_offers_of (cs K)) := by
  obtain ⟨fd, F⟩ := S.c.def_ 6 (d := d_offers_of) rfl
  have nd := sc_offers_of.nd
  refine ⟨_, fd, _, dfn_ok (t := t_offers_of (cs K)) F sc_offers_of sp1_len (pure_offers_of (cs K)) (fun cdv A outer s H E ED hr po tk => ?_), S.glo 23, F.kp, F.bindsN fun _ _ _ _ _ _ us hl => match us, hl with | [_], _ => rfl⟩
  exact (dss_cons (ds_set (i := 1) nd rfl (Or.inl rfl) (de_lst da_nil))
    (dss_cons (ds_for po rfl (di_seq (de_bm PySem.F.plainAttrs_str PySem.F.slot_str_split PySem.F.type_str_split dm_split (dv 0) (da_cons de_str da_nil))) (dg_name (i := 2) nd rfl (Or.inl rfl)) (dss_cons (ds_setLc (i := 3) (own := [("one", 4)]) rfl nd rfl rfl (sw_true rfl rfl rfl (by decide +kernel)) (di_seq (de_bm PySem.F.plainAttrs_str PySem.F.slot_str_split PySem.F.type_str_split dm_split (dv 2) (da_cons de_str da_nil))) (blkOk_by (N := N_offers_of) (sc := defScope (top 15)) (by decide +kernel)) (by decide) (fun _ _ _ _ _ => (dg_name (i := 4) nd rfl (Or.inl rfl))) (fun _ _ _ _ _ => dts_nil) (fun _ _ _ _ _ => (ce_call (ok_number_of S) hr (by decide) rfl wish0 (da_cons (dv 4) da_nil))))
    (dss_cons (ds_if (DW.dt (dw_or (dt_cmp (op_ne (r64 hr)) (de_callB dc_len rfl (S.free 7) (by decide +kernel) (da_cons (dv 3) da_nil)) de_int) (dw_or (dt_cmp (op_in (r65 hr)) de_non (dv 3)) (dw_or (dt_cmp op_gt (de_ix (r1 hr) (dv 3) de_int) (de_gint rfl (S.int 14))) (dw_or1 (dt_cmp op_gt (de_ix (r1 hr) (dv 3) de_int) (de_gint rfl (S.int 15)))))))) (dss_one (ds_ret de_non)) dss_nil)
    (dss_one (ds_expr (de_bm PySem.F.plainAttrs_list PySem.F.slot_list_append PySem.F.type_list_append dm_append (dv 1) (da_cons (de_tup (da_cons (de_ix (r1 hr) (dv 3) de_int) (da_cons (de_ix (r1 hr) (dv 3) de_int) da_nil))) da_nil)))))))
    (dss_one (ds_ret (de_if (dt_cmp (op_eq (r64 hr)) (de_lenSet rfl (S.free 7) rfl (S.free 16) (de_lc (own := [("kind", 5), ("number", 6)]) rfl nd (di_seq (dv 1)) (blkOk_by (N := N_offers_of) (sc := defScope (top 15)) (by decide +kernel)) (by decide) (fun _ _ _ _ _ => (dg_tup rfl (dgs_cons (dg_name (i := 5) nd rfl (Or.inl rfl)) (dgs_cons (dg_name (i := 6) nd rfl (Or.inl rfl)) dgs_nil)))) (fun _ _ _ _ _ => dts_nil) (fun _ _ _ _ _ => (dv 5)))) (de_callB dc_len rfl (S.free 7) (by decide +kernel) (da_cons (dv 1) da_nil))) (de_callTy dc_tuple rfl (S.free 1) (by decide +kernel) (da_cons (dv 1) da_nil)) de_non)))))
theorem sc_part_of : FnScope N_part_of ["sort", "word"] (defScope (top 16)) := ⟨rfl, rfl, rfl, by decide +kernel, rfl, by decide +kernel, by decide +kernel⟩
theorem ok_part_of (S : SaidX fa fn tb xb w K mg) : Cal P w K mg base 3 "part_of" (sp_part_of (cs K)) := by
  obtain ⟨fd, F⟩ := S.c.def_ 7 (d := d_part_of) rfl
  have nd := sc_part_of.nd
  refine ⟨_, fd, _, dfn_ok (t := t_part_of (cs K)) F sc_part_of sp2_len (pure_part_of (cs K)) (fun cdv A outer s H E ED hr po tk => ?_), S.glo 24, F.kp, F.bindsN fun _ _ _ _ _ _ us hl => match us, hl with | [_, _], _ => rfl⟩
  exact (dss_cons (ds_if (dt_cmp (op_eq (r64 hr)) (dv 0) de_str) (dss_one (ds_ret (de_if (dt_inC (neg := false) rfl (dv 1) rfl (S.glo 11) (xp1 S.x)) (dv 1) de_non))) dss_nil)
    (dss_one (ds_ret (de_if (dt_cmp (op_eq (r64 hr)) (dv 0) de_str) (ce_call (ok_offers_of S) hr (by decide) rfl tk (da_cons (dv 1) da_nil)) (ce_call (ok_number_of S) hr (by decide) rfl tk (da_cons (dv 1) da_nil))))))
theorem sc_step_of : FnScope N_step_of ["line"] (defScope (top 17)) := ⟨rfl, rfl, rfl, by decide +kernel, rfl, by decide +kernel, by decide +kernel⟩
theorem ok_step_of (S : SaidX fa fn tb xb w K mg) : Cal P w K mg base 4 "step_of" (sp_step_of (cs K)) := by
  obtain ⟨fd, F⟩ := S.c.def_ 8 (d := d_step_of) rfl
  have nd := sc_step_of.nd
  refine ⟨_, fd, _, dfn_ok (t := t_step_of (cs K)) F sc_step_of sp1_len (pure_step_of (cs K)) (fun cdv A outer s H E ED hr po tk => ?_), S.glo 25, F.kp, F.bindsN fun _ _ _ _ _ _ us hl => match us, hl with | [_], _ => rfl⟩
  exact (dss_cons (ds_set (i := 1) nd rfl (Or.inl rfl) (de_bm PySem.F.plainAttrs_str PySem.F.slot_str_split PySem.F.type_str_split dm_split (dv 0) (da_cons de_str da_nil)))
    (dss_cons (ds_if (DW.dt (dw_or (dt_notInK (tab_of S.t 0 rfl (tbl := tb_SHAPES) (xp0 S.x) rfl) rfl (S.glo 9) (de_ix (r1 hr) (dv 1) de_int)) (dw_or1 (dt_cmp (op_ne (r64 hr)) (de_callB dc_len rfl (S.free 7) (by decide +kernel) (da_cons (dv 1) da_nil)) (de_op op_add de_int (de_callB dc_len rfl (S.free 7) (by decide +kernel) (da_cons (de_ixK (tab_of S.t 0 rfl (tbl := tb_SHAPES) (xp0 S.x) rfl) rfl (S.glo 9) (de_ix (r1 hr) (dv 1) de_int)) da_nil))))))) (dss_one (ds_ret de_non)) dss_nil)
    (dss_cons (ds_setLc (i := 2) (own := [("sort", 3), ("word", 4)]) rfl nd rfl rfl (sw_true rfl rfl rfl (by decide +kernel)) (di_zipSL rfl (S.free 10) (da_cons (de_ixK (tab_of S.t 0 rfl (tbl := tb_SHAPES) (xp0 S.x) rfl) rfl (S.glo 9) (de_ix (r1 hr) (dv 1) de_int)) (da_cons (de_slice (dv 1) (do_some de_int) do_none) da_nil))) (blkOk_by (N := N_step_of) (sc := defScope (top 17)) (by decide +kernel)) (by decide) (fun _ _ _ _ _ => (dg_tup rfl (dgs_cons (dg_name (i := 3) nd rfl (Or.inl rfl)) (dgs_cons (dg_name (i := 4) nd rfl (Or.inl rfl)) dgs_nil)))) (fun _ _ _ _ _ => dts_nil) (fun _ _ _ _ _ => (ce_call (ok_part_of S) hr (by decide) rfl wish0 (da_cons (dv 3) (da_cons (dv 4) da_nil)))))
    (dss_one (ds_ret (de_if (dt_cmp (op_in (r65 hr)) de_non (dv 2)) de_non (de_callTy dc_tuple rfl (S.free 1) (by decide +kernel) (da_cons (de_op op_add (de_slice (dv 1) do_none (do_some de_int)) (dv 2)) da_nil))))))))
theorem sc_read : FnScope N_read ["text"] (defScope (top 18)) := ⟨rfl, rfl, rfl, by decide +kernel, rfl, by decide +kernel, by decide +kernel⟩
theorem ok_read (S : SaidX fa fn tb xb w K mg) : Cal P w K mg base 5 "read" (sp_read (cs K)) := by
  obtain ⟨fd, F⟩ := S.c.def_ 9 (d := d_read) rfl
  have nd := sc_read.nd
  refine ⟨_, fd, _, dfn_ok (t := t_read (cs K)) F sc_read sp1_len (pure_read (cs K)) (fun cdv A outer s H E ED hr po tk => ?_), S.glo 26, F.kp, F.bindsN fun _ _ _ _ _ _ us hl => match us, hl with | [_], _ => rfl⟩
  exact (dss_cons (ds_set (i := 1) nd rfl (Or.inl rfl) (de_lst da_nil))
    (dss_cons (ds_for po rfl (di_enum rfl (S.free 8) (da_cons (de_if (dt_cmp (op_ne (r64 hr)) (dv 0) de_str) (de_bm PySem.F.plainAttrs_str PySem.F.slot_str_split PySem.F.type_str_split dm_split (dv 0) (da_cons de_str da_nil)) (de_lst da_nil)) da_nil)) (dg_tup rfl (dgs_cons (dg_name (i := 2) nd rfl (Or.inl rfl)) (dgs_cons (dg_name (i := 3) nd rfl (Or.inl rfl)) dgs_nil))) (dss_cons (ds_set (i := 4) nd rfl (Or.inl rfl) (ce_call (ok_step_of S) hr (by decide) rfl tk (da_cons (dv 3) da_nil)))
    (dss_cons (ds_if (dt_cmp op_isN (dv 4) de_non) (dss_one ds_never) dss_nil)
    (dss_one (ds_expr (de_bm PySem.F.plainAttrs_list PySem.F.slot_list_append PySem.F.type_list_append dm_append (dv 1) (da_cons (dv 4) da_nil)))))))
    (dss_one (ds_ret (dv 1)))))
theorem sc_offers_text : FnScope N_offers_text ["offers"] (defScope (top 12)) := ⟨rfl, rfl, rfl, by decide +kernel, rfl, by decide +kernel, by decide +kernel⟩
theorem ok_offers_text (S : SaidX fa fn tb xb w K mg) : Cal P w K mg base 1 "offers_text" (sp_offers_text (cs K)) := by
  obtain ⟨fd, F⟩ := S.c.def_ 10 (d := d_offers_text) rfl
  have nd := sc_offers_text.nd
  refine ⟨_, fd, _, dfn_ok (t := t_offers_text (cs K)) F sc_offers_text sp1_len (pure_offers_text (cs K)) (fun cdv A outer s H E ED hr po tk => ?_), S.glo 27, F.kp, F.bindsN fun _ _ _ _ _ _ us hl => match us, hl with | [_], _ => rfl⟩
  exact (dss_one (ds_ret (de_bm PySem.F.plainAttrs_str PySem.F.slot_str_join PySem.F.type_str_join dm_join de_str (da_cons (de_lc (own := [("kind", 1), ("number", 2)]) rfl nd (di_seq (dv 0)) (blkOk_by (N := N_offers_text) (sc := defScope (top 12)) (by decide +kernel)) (by decide) (fun _ _ _ _ _ => (dg_tup rfl (dgs_cons (dg_name (i := 1) nd rfl (Or.inl rfl)) (dgs_cons (dg_name (i := 2) nd rfl (Or.inl rfl)) dgs_nil)))) (fun _ _ _ _ _ => dts_nil) (fun _ _ _ _ _ => (de_op op_add (de_op op_add (de_callTy dc_str rfl (S.free 3) (by decide +kernel) (da_cons (dv 1) da_nil)) de_str) (de_callTy dc_str rfl (S.free 3) (by decide +kernel) (da_cons (dv 2) da_nil))))) da_nil))))
theorem sc_written : FnScope N_written ["steps"] (defScope (top 13)) := ⟨rfl, rfl, rfl, by decide +kernel, rfl, by decide +kernel, by decide +kernel⟩
theorem ok_written (S : SaidX fa fn tb xb w K mg) : Cal P w K mg base 2 "written" (sp_written (cs K)) := by
  obtain ⟨fd, F⟩ := S.c.def_ 11 (d := d_written) rfl
  have nd := sc_written.nd
  refine ⟨_, fd, _, dfn_ok (t := t_written (cs K)) F sc_written sp1_len (pure_written (cs K)) (fun cdv A outer s H E ED hr po tk => ?_), S.glo 28, F.kp, F.bindsN fun _ _ _ _ _ _ us hl => match us, hl with | [_], _ => rfl⟩
  exact (dss_cons (ds_set (i := 1) nd rfl (Or.inl rfl) (de_lst da_nil))
    (dss_cons (ds_for po rfl (di_seq (dv 0)) (dg_name (i := 2) nd rfl (Or.inl rfl)) (dss_cons (ds_set (i := 3) nd rfl (Or.inl rfl) (de_lst (da_cons (de_ix (r1 hr) (dv 2) de_int) da_nil)))
    (dss_cons (ds_for po rfl (di_zipTS rfl (S.free 10) (da_cons (de_slice (dv 2) (do_some de_int) do_none) (da_cons (de_ixK (tab_of S.t 0 rfl (tbl := tb_SHAPES) (xp0 S.x) rfl) rfl (S.glo 9) (de_ix (r1 hr) (dv 2) de_int)) da_nil))) (dg_tup rfl (dgs_cons (dg_name (i := 4) nd rfl (Or.inl rfl)) (dgs_cons (dg_name (i := 5) nd rfl (Or.inl rfl)) dgs_nil))) (dss_one (ds_expr (de_bm PySem.F.plainAttrs_list PySem.F.slot_list_append PySem.F.type_list_append dm_append (dv 3) (da_cons (de_if (dt_cmp (op_eq (r64 hr)) (dv 5) de_str) (ce_call (ok_offers_text S) hr (by decide) rfl tk (da_cons (dv 4) da_nil)) (de_callTy dc_str rfl (S.free 3) (by decide +kernel) (da_cons (dv 4) da_nil))) da_nil)))))
    (dss_one (ds_expr (de_bm PySem.F.plainAttrs_list PySem.F.slot_list_append PySem.F.type_list_append dm_append (dv 1) (da_cons (de_bm PySem.F.plainAttrs_str PySem.F.slot_str_join PySem.F.type_str_join dm_join de_str (da_cons (dv 3) da_nil)) da_nil)))))))
    (dss_one (ds_ret (de_bm PySem.F.plainAttrs_str PySem.F.slot_str_join PySem.F.type_str_join dm_join de_str (da_cons (dv 1) da_nil))))))
theorem sc_law : FnScope N_law ["_law_script"] (defScope (top 28)) := ⟨rfl, rfl, rfl, by decide +kernel, rfl, by decide +kernel, by decide +kernel⟩
theorem ok_law (S : SaidX fa fn tb xb w K mg) : ∃ fd : FuncData, (∀ (s : Shared) (v : Value), BindsTo s fd ⟨[v], []⟩ [("_law_script", v)]) ∧ ∀ base : Heap, FnOk P w K mg base (L2.CX P w) 7 (He.fAd K d_law.at_) fd ["_law_script"] (spLaw K) := by
  obtain ⟨fd, F⟩ := S.c.def_ 12 (d := d_law) rfl
  have nd := sc_law.nd
  have b := FunD.bindsA (ps := ["_law_script"]) F fun _ _ _ _ _ _ us hl => match us, hl with | [_], _ => rfl
  refine ⟨fd, fun s v => b s [v] rfl, fun base => ?_⟩
  obtain ⟨fb, GB, g1, g2, g3⟩ := ok_begun (P := P) (w := w) (base := base) S
  refine law_ok (t := t_law (cs K) W0x) F sc_law rfl (fun b l G sd B f h1 h2 => pure_law (cs K) b l G sd B f h1 h2) (by decide) (fun cdv A outer s H E hr => ?_) (fun cdv A outer s H E hr po tk => ?_)
  · exact ps_set (i := 1) nd rfl (by first | exact Or.inl rfl | exact Or.inr rfl) (pe_callS (E := WE fun _ _ _ _ => False) GB (hr.mono (by decide)) rfl g1 g2 g3 (passAt takes0) (pa_cons (pv 0) pa_nil))
  · exact (dss_cons (ds_for po rfl (di_rng rfl (S.free 0) (da_cons de_int da_nil)) (dg_name (i := 2) nd rfl (Or.inl rfl)) (dss_cons (ds_setLc (i := 3) (own := [("_law_k", 10)]) rfl nd rfl rfl (sw_true rfl rfl rfl (by decide +kernel)) (di_rng rfl (S.free 0) (da_cons (ce_call (ok_law_take S) hr (by decide) rfl tk (da_cons (dv 1) (da_cons de_int da_nil))) da_nil)) (blkOk_by (N := N_law) (sc := defScope (top 28)) (by decide +kernel)) (by decide) (fun _ _ _ _ _ => (dg_name (i := 10) nd rfl (Or.inl rfl))) (fun _ _ _ _ _ => dts_nil) (fun _ _ _ _ _ => (ce_call (ok_law_step S) hr (by decide) rfl wish0 (da_cons (dv 1) da_nil))))
    (dss_cons (ds_set (i := 4) nd rfl (Or.inl rfl) (de_lst da_nil))
    (dss_cons (ds_for po rfl (di_seq (dv 3)) (dg_name (i := 5) nd rfl (Or.inl rfl)) (dss_cons (ds_set (i := 6) nd rfl (Or.inl rfl) (de_lst da_nil))
    (dss_cons (ds_for po rfl (di_seq (dv 5)) (dg_name (i := 7) nd rfl (Or.inl rfl)) (dss_one (ds_if (dt_of_val (de_callB dc_isi rfl (S.free 2) (by decide +kernel) (da_cons (dv 7) (da_cons (de_ty rfl (S.free 1) (by decide +kernel)) da_nil)))) (dss_one (ds_expr (de_bm PySem.F.plainAttrs_list PySem.F.slot_list_append PySem.F.type_list_append dm_append (dv 6) (da_cons (de_bm PySem.F.plainAttrs_str PySem.F.slot_str_join PySem.F.type_str_join dm_join de_str (da_cons (de_lc (own := [("_law_kind", 11), ("_law_worth", 12)]) rfl nd (di_seq (dv 7)) (blkOk_by (N := N_law) (sc := defScope (top 28)) (by decide +kernel)) (by decide) (fun _ _ _ _ _ => (dg_tup rfl (dgs_cons (dg_name (i := 11) nd rfl (Or.inl rfl)) (dgs_cons (dg_name (i := 12) nd rfl (Or.inl rfl)) dgs_nil)))) (fun _ _ _ _ _ => dts_nil) (fun _ _ _ _ _ => (de_op op_add (de_op op_add (de_callTy dc_str rfl (S.free 3) (by decide +kernel) (da_cons (dv 11) da_nil)) de_str) (de_callTy dc_str rfl (S.free 3) (by decide +kernel) (da_cons (dv 12) da_nil))))) da_nil)) da_nil)))) (dss_one (ds_expr (de_bm PySem.F.plainAttrs_list PySem.F.slot_list_append PySem.F.type_list_append dm_append (dv 6) (da_cons (de_callTy dc_str rfl (S.free 3) (by decide +kernel) (da_cons (dv 7) da_nil)) da_nil)))))))
    (dss_one (ds_expr (de_bm PySem.F.plainAttrs_list PySem.F.slot_list_append PySem.F.type_list_append dm_append (dv 4) (da_cons (de_bm PySem.F.plainAttrs_str PySem.F.slot_str_join PySem.F.type_str_join dm_join de_str (da_cons (dv 6) da_nil)) da_nil)))))))
    (dss_cons (ds_par (i := 8) (j := 9) rfl nd rfl rfl (by decide) rfl rfl (da_cons (de_bm PySem.F.plainAttrs_str PySem.F.slot_str_join PySem.F.type_str_join dm_join de_str (da_cons (dv 4) da_nil)) (da_cons (de_callTy dc_list rfl (S.free 4) (by decide +kernel) (da_cons (dv 3) da_nil)) da_nil)) rfl)
    (dss_one (ds_if (DW.dt (dw_or (dt_not (dt_of_val (ce_call (ok_law_alike S 6) hr (by decide) rfl tk (da_cons (ce_call (ok_written S) hr (by decide) rfl tk (da_cons (dv 9) da_nil)) (da_cons (dv 8) da_nil))))) (dw_or (dt_not (dt_of_val (ce_call (ok_law_alike S 6) hr (by decide) rfl tk (da_cons (ce_call (ok_read S) hr (by decide) rfl tk (da_cons (dv 8) da_nil)) (da_cons (dv 3) da_nil))))) (dw_or1 (dt_cmp (op_ne (r64 hr)) (dv 9) (dv 3)))))) (dss_one (ds_ret de_bl)) dss_nil)))))))
    (dss_one (ds_ret de_bl)))
end
def loose : List Str := (["CarryError", "BadText", "offers_text", "written", "number_of", "offers_of", "part_of", "step_of", "read", "_law_begun", "_law_take", "_law_alike", "_law_offers", "_law_knows", "_law_best", "_law_ends", "_law_step", "MOST_KIND", "MOST_NUMBER", "MOVE", "COPY", "WISHES", "SHAPES", "FIGURES", "MOST_FIGURES", "__name__"] : List Str)
abbrev R : PySem.W.OpenRow := PySem.W.OpenLaw.row PySem.Challenge.rw_carrydrop_k16_steps_written
abbrev hk : PySem.W.Hook := hookX 4 fa fn tb xb
def ob (s : PySem.W.SharedT) : AlX := obsXG 4 fa fn tb xb (HandSHeadRun.getT s)
theorem ob_eq (s : PySem.W.SharedT) : ob s = hk.obs s.abs := obsXG_eq (HandSHeadRun.getT_eq s)
theorem run (w : World) : HandSHeadRun.RunEq R (PySem.W.view R.prog [28]) hk ob 4000 loose w := PySem.W.byRow2 "special-get-raises" (P := fun w => HandSHeadRun.RunEq R (PySem.W.view R.prog [28]) hk ob 4000 loose w)
  (fun w => by
    intro os
    kernel_rfl) (fun w => by
    intro os
    kernel_rfl) w
end DL
open PySem PySem.W PySem.Calls PyProof.Rows
theorem PySem.Challenge.cw_carrydrop_k16_steps_written_holds : PySem.Challenge.rw_carrydrop_k16_steps_written.Holds := by
  w_on; o_law
  refine HandSHeadRun.head_any (r := OpenLaw.row PySem.Challenge.rw_carrydrop_k16_steps_written) (q := view (OpenLaw.row PySem.Challenge.rw_carrydrop_k16_steps_written).prog [28]) (H := DL.hk) (ob := DL.ob) (M := 4000) (loose := DL.loose) (d := HandSHeadRun.topDef (OpenLaw.row PySem.Challenge.rw_carrydrop_k16_steps_written).prog 28) (kwd := []) DL.ob_eq
    (by kernel_rfl) (fun s => by kernel_rfl) DL.run (by kernel_rfl) (by kernel_rfl) (by kernel_rfl) (by rfl) (by first | assumption | decide +kernel) (by decide +kernel) ⟨rfl, rfl, rfl, rfl, rfl, by decide +kernel⟩ ?hw ?hc
  case hw => w_witness2
  case hc =>
    refine LamX.walk_ofTsE (l := PySem.Challenge.rw_carrydrop_k16_steps_written) (n := 63) (k := 7) (x := "_law_script") (CX := fun w => L2.CX (PySem.Challenge.rw_carrydrop_k16_steps_written).prog w) rfl (by decide) (by kernel_rfl) ⟨rfl, by decide, by decide⟩ ?F DL.hCX
    intro w mg fa h Y G hmg0
    obtain ⟨K, KX, c⟩ := Y
    have hmg : mg ("law" : PySem.Str) = some (.ref fa) := by
      have e : (HandSHeadRun.topDef (OpenLaw.row PySem.Challenge.rw_carrydrop_k16_steps_written).prog 28).name = ("law" : PySem.Str) := by kernel_rfl
      rw [← e]
      exact hmg0
    have S : DL.SaidX DL.fa DL.fn DL.tb DL.xb w K mg := DL.saidX c KX G
    have e := hmg.symm.trans (S.glo 29)
    obtain ⟨fd, hb, F⟩ := DL.ok_law (P := (PySem.Challenge.rw_carrydrop_k16_steps_written).prog) (w := w) S
    cases e
    refine ⟨K, KX, fd, [], DL.spLaw K, nofun, nofun, nofun, hb, fun H a ns hl _ _ hS => ⟨a, ns, rfl, hS, hl, fun v H' e => e⟩, fun base _ _ _ => F base⟩
