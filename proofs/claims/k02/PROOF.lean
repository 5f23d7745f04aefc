import PyProof.Rows.All
import Wide.All
import OpenK.AllK
import Wide.FinOn
import HandS.ForMost
import HandS.ForExc
import HandS.Walk
import HandS.Zip
import HandS.TupAny
import HandS.IsInst
import HandS.Deep
import HandS.Conv
import HandS.TupLen
import HandS.DictTup
import HandS.Flow
import HandS.Defaults
import HandS.WordsList
import HandS.Words
import HandS.Exc
import HandS.ExcOwn
import HandS.WordsExc
import HandS.SetFor
import HandS.HeadHook1
import HandS.HeadHook2
import HandS.HeadWalk
import HandS.HeadEnd
import HandS.Head0
import HandS.Head1
import HandS.Head2
import PySem.Challenge.RW_carrydrop_k02_the_best_kind
set_option Elab.async false
set_option linter.all false
set_option maxRecDepth 100000
set_option maxHeartbeats 4000000
/-! DL: values by value (tuples too), a heap of lists, dicts, instances; its judgements lie over HandS's. -/
namespace DL
open PySem PySem.Spec L2

/-! ### values -/
inductive D where
  | non | bl (b : Bool) | int (i : Int) | str (s : Str) | ty (n : String) | tup (ds : List D) | ref (a : Addr)

mutual
def D.beq : D → D → Bool
  | .non, .non => true
  | .bl a, .bl b => a == b
  | .int a, .int b => decide (a = b)
  | .str a, .str b => decide (a = b)
  | .ty a, .ty b => decide (a = b)
  | .ref a, .ref b => decide (a = b)
  | .tup as, .tup bs => D.beqL as bs
  | _, _ => false
def D.beqL : List D → List D → Bool
  | [], [] => true
  | a :: as, b :: bs => D.beq a b && D.beqL as bs
  | _, _ => false
end
mutual
theorem D.beq_iff : ∀ a b : D, D.beq a b = true ↔ a = b
  | .tup as, b => by
    cases b <;> simp [D.beq]
    rename_i bs
    exact D.beqL_iff as bs
  | .non, b => by cases b <;> simp [D.beq]
  | .bl a, b => by cases b <;> simp [D.beq]
  | .int a, b => by cases b <;> simp [D.beq]
  | .str a, b => by cases b <;> simp [D.beq]
  | .ty a, b => by cases b <;> simp [D.beq]
  | .ref a, b => by cases b <;> simp [D.beq]
theorem D.beqL_iff : ∀ as bs : List D, D.beqL as bs = true ↔ as = bs
  | [], bs => by cases bs <;> simp [D.beqL]
  | a :: as, bs => by
    cases bs with
    | nil => simp [D.beqL]
    | cons b bs => simp [D.beqL, D.beq_iff a b, D.beqL_iff as bs]
end
instance : DecidableEq D := fun a b => decidable_of_iff _ (D.beq_iff a b)

/-- a text that Python may have -/
abbrev OkS (x : Str) : Prop := PySem.PyData.strOk x = true

mutual
/-- v stands for d in H: tuples by what they hold -/
def Rel (H : Hp) : D → V → Prop
  | .non, v => v = .non
  | .bl b, v => v = .bl b
  | .int i, v => v = .int i
  | .str s, v => v = .str s ∧ OkS s
  | .ty n, v => v = .ty n
  | .ref a, v => v = .ref a
  | .tup ds, v => ∃ a xs, v = .ref a ∧ H a = some (.tup xs) ∧ RelL H ds xs ∧ ds.length ≤ sizeLine
def RelL (H : Hp) : List D → List V → Prop
  | [], xs => xs = []
  | d :: ds, xs => ∃ x r, xs = x :: r ∧ Rel H d x ∧ RelL H ds r
end

theorem relL_nil {H : Hp} {xs : List V} : RelL H [] xs ↔ xs = [] := Iff.rfl
theorem relL_cons {H : Hp} {d : D} {ds : List D} {x : V} {xs : List V} : RelL H (d :: ds) (x :: xs) ↔ Rel H d x ∧ RelL H ds xs :=
  ⟨fun ⟨y, r, e, h1, h2⟩ => by cases e; exact ⟨h1, h2⟩, fun ⟨h1, h2⟩ => ⟨_, _, rfl, h1, h2⟩⟩
theorem RelL.length {H : Hp} : ∀ {ds : List D} {xs : List V}, RelL H ds xs → ds.length = xs.length
  | [], xs, h => by cases (relL_nil.mp h); rfl
  | d :: ds, xs, h => by
    obtain ⟨x, r, rfl, _, h2⟩ := h
    simp [RelL.length h2]
theorem RelL.get {H : Hp} : ∀ {ds : List D} {xs : List V}, RelL H ds xs → ∀ (i : Nat) {d : D}, ds[i]? = some d → ∃ x, xs[i]? = some x ∧ Rel H d x
  | [], _, _, i, d, e => by simp at e
  | d :: ds, xs, h, 0, d', e => by
    obtain ⟨x, r, rfl, h1, h2⟩ := h
    simp at e
    subst e
    exact ⟨x, rfl, h1⟩
  | d :: ds, xs, h, i + 1, d', e => by
    obtain ⟨x, r, rfl, h1, h2⟩ := h
    obtain ⟨y, e1, e2⟩ := RelL.get h2 i (d := d') (by simpa using e)
    exact ⟨y, by simpa using e1, e2⟩
theorem RelL.append {H : Hp} : ∀ {ds es : List D} {xs ys : List V}, RelL H ds xs → RelL H es ys → RelL H (ds ++ es) (xs ++ ys)
  | [], es, xs, ys, h, k => by
    cases (relL_nil.mp h)
    exact k
  | d :: ds, es, xs, ys, h, k => by
    obtain ⟨x, r, rfl, h1, h2⟩ := h
    exact ⟨x, r ++ ys, rfl, h1, RelL.append h2 k⟩
theorem RelL.one {H : Hp} {d : D} {x : V} (h : Rel H d x) : RelL H [d] [x] := ⟨x, [], rfl, h, rfl⟩
theorem RelL.set {H : Hp} {d : D} {x : V} (hd : Rel H d x) : ∀ {ds : List D} {xs : List V}, RelL H ds xs → ∀ i : Nat, RelL H (ds.set i d) (xs.set i x)
  | [], xs, h, _ => by
    cases (relL_nil.mp h)
    exact rfl
  | e :: ds, xs, h, 0 => by
    obtain ⟨y, r, rfl, h1, h2⟩ := h
    exact ⟨x, r, rfl, hd, h2⟩
  | e :: ds, xs, h, i + 1 => by
    obtain ⟨y, r, rfl, h1, h2⟩ := h
    exact ⟨y, r.set i x, rfl, h1, RelL.set hd h2 i⟩
theorem RelL.erase {H : Hp} : ∀ {ds : List D} {xs : List V}, RelL H ds xs → ∀ i : Nat, RelL H (ds.eraseIdx i) (xs.eraseIdx i)
  | [], xs, h, _ => by
    cases (relL_nil.mp h)
    exact rfl
  | e :: ds, xs, h, 0 => by
    obtain ⟨y, r, rfl, h1, h2⟩ := h
    exact h2
  | e :: ds, xs, h, i + 1 => by
    obtain ⟨y, r, rfl, h1, h2⟩ := h
    exact ⟨y, r.eraseIdx i, rfl, h1, RelL.erase h2 i⟩
theorem RelL.take {H : Hp} : ∀ {ds : List D} {xs : List V}, RelL H ds xs → ∀ i : Nat, RelL H (ds.take i) (xs.take i)
  | [], xs, h, _ => by
    cases (relL_nil.mp h)
    simp [RelL]
  | e :: ds, xs, h, 0 => rfl
  | e :: ds, xs, h, i + 1 => by
    obtain ⟨y, r, rfl, h1, h2⟩ := h
    exact ⟨y, r.take i, rfl, h1, RelL.take h2 i⟩
theorem RelL.drop {H : Hp} : ∀ {ds : List D} {xs : List V}, RelL H ds xs → ∀ i : Nat, RelL H (ds.drop i) (xs.drop i)
  | [], xs, h, _ => by
    cases (relL_nil.mp h)
    simp [RelL]
  | e :: ds, xs, h, 0 => h
  | e :: ds, xs, h, i + 1 => by
    obtain ⟨y, r, rfl, h1, h2⟩ := h
    exact RelL.drop h2 i
theorem RelL.rev {H : Hp} : ∀ {ds : List D} {xs : List V}, RelL H ds xs → RelL H ds.reverse xs.reverse
  | [], xs, h => by
    cases (relL_nil.mp h)
    exact rfl
  | d :: ds, xs, h => by
    obtain ⟨x, r, rfl, h1, h2⟩ := h
    rw [List.reverse_cons, List.reverse_cons]
    exact RelL.append (RelL.rev h2) (.one h1)
theorem RelL.rep {H : Hp} {ds : List D} {xs : List V} (h : RelL H ds xs) : ∀ k : Nat, RelL H (List.replicate k ds).flatten (List.replicate k xs).flatten
  | 0 => rfl
  | k + 1 => by
    rw [List.replicate_succ, List.replicate_succ, List.flatten_cons, List.flatten_cons]
    exact RelL.append h (RelL.rep h k)
theorem RelL.split {H : Hp} : ∀ {ds es : List D} {zs : List V}, RelL H (ds ++ es) zs → ∃ xs ys, zs = xs ++ ys ∧ RelL H ds xs ∧ RelL H es ys
  | [], es, zs, h => ⟨[], zs, rfl, rfl, h⟩
  | d :: ds, es, zs, h => by
    obtain ⟨x, r, rfl, h1, h2⟩ := h
    obtain ⟨xs, ys, rfl, h3, h4⟩ := RelL.split h2
    exact ⟨x :: xs, ys, rfl, ⟨x, xs, rfl, h1, h3⟩, h4⟩

/-- tuples stay -/
def Kp (H H' : Hp) : Prop := ∀ a xs, H a = some (.tup xs) → H' a = some (.tup xs)
theorem Kp.refl (H : Hp) : Kp H H := fun _ _ h => h
theorem Kp.trans {H H1 H2 : Hp} (a : Kp H H1) (b : Kp H1 H2) : Kp H H2 := fun c xs h => b c xs (a c xs h)
mutual
theorem Rel.mono {H H' : Hp} (k : Kp H H') : ∀ {d : D} {v : V}, Rel H d v → Rel H' d v
  | .non, _, h => h
  | .bl _, _, h => h
  | .int _, _, h => h
  | .str _, _, h => h
  | .ty _, _, h => h
  | .ref _, _, h => h
  | .tup ds, v, ⟨a, xs, e, h1, h2, h3⟩ => ⟨a, xs, e, k _ _ h1, RelL.mono k h2, h3⟩
theorem RelL.mono {H H' : Hp} (k : Kp H H') : ∀ {ds : List D} {xs : List V}, RelL H ds xs → RelL H' ds xs
  | [], _, h => h
  | d :: ds, xs, ⟨x, r, e, h1, h2⟩ => ⟨x, r, e, Rel.mono k h1, RelL.mono k h2⟩
end
/-! ### slots -/
abbrev SD := List (Option D)
def RelS (H : Hp) (σ : St) (sd : SD) : Prop := σ.length = sd.length ∧ ∀ (i : Nat) (d : D), sd[i]? = some (some d) → ∃ v, σ[i]? = some (some v) ∧ Rel H d v
theorem RelS.mono {H H' : Hp} {σ : St} {sd : SD} (k : Kp H H') (h : RelS H σ sd) : RelS H' σ sd := ⟨h.1, fun i d e => by
  obtain ⟨v, e1, r⟩ := h.2 i d e
  exact ⟨v, e1, r.mono k⟩⟩
theorem RelS.set {H : Hp} {σ : St} {sd : SD} {d : D} {v : V} (h : RelS H σ sd) (r : Rel H d v) (i : Nat) : RelS H (σ.set i (some v)) (sd.set i (some d)) := ⟨by simp [h.1], fun j e q => by
  by_cases hj : i = j
  · subst hj
    rw [List.getElem?_set] at q
    by_cases hl : i < sd.length
    · rw [if_pos rfl, if_pos hl] at q
      cases q
      exact ⟨v, by rw [List.getElem?_set_self (by rw [h.1]; exact hl)], r⟩
    · rw [if_pos rfl, if_neg hl] at q
      cases q
  · rw [List.getElem?_set_ne hj] at q
    obtain ⟨u, e1, r1⟩ := h.2 j e q
    exact ⟨u, by rw [List.getElem?_set_ne hj]; exact e1, r1⟩⟩
/-- a slot forgotten -/
theorem RelS.drop {H : Hp} {σ : St} {sd : SD} (h : RelS H σ sd) (i : Nat) (x : Option V) : RelS H (σ.set i x) (sd.set i none) := ⟨by simp [h.1], fun j e q => by
  by_cases hj : i = j
  · subst hj
    rw [List.getElem?_set] at q
    by_cases hl : i < sd.length
    · rw [if_pos rfl, if_pos hl] at q
      cases q
    · rw [if_pos rfl, if_neg hl] at q
      cases q
  · rw [List.getElem?_set_ne hj] at q
    obtain ⟨u, e1, r1⟩ := h.2 j e q
    exact ⟨u, by rw [List.getElem?_set_ne hj]; exact e1, r1⟩⟩

/-! ### the heap -/
inductive DO where
  | lst (xs : List D)
  | rol (xs : List D)
  | dict (t : Bool) (kvs : List (D × D))
  | ldict (t : Bool) (kvs : List (D × D))
  | ins (C : Addr) (ns : List Str) (fs : List D)
abbrev Gp := Addr → Option DO
def put (G : Gp) (a : Addr) (o : DO) : Gp := fun b => if b = a then some o else G b
theorem put_same {G : Gp} {a : Addr} {o : DO} : put G a o a = some o := by unfold put; rw [if_pos rfl]
theorem put_ne {G : Gp} {a b : Addr} {o : DO} (h : b ≠ a) : put G a o b = G b := by unfold put; rw [if_neg h]
theorem put_put {G : Gp} {a : Addr} {o u : DO} : put (put G a o) a u = put G a u := by
  funext b; unfold put; split <;> rfl

/-- keys -/
def kD : Key → D
  | .inl i => .int i
  | .inr x => .str x
/-- what stands around: the names of a class's attributes, in order; the heap at the def's entry -/
structure Bx where
  H0 : Hp
def RepO (K : PySem.W.Frag) (H : Hp) (a : Addr) : DO → Prop
  | .lst ds => ∃ xs, H a = some (.lst xs) ∧ RelL H ds xs ∧ ds.length ≤ sizeLine
  | .rol ds => ∃ xs, Rd H a (.lst xs) ∧ RelL H ds xs ∧ ds.length ≤ sizeLine
  | .dict false kvs => kvs.length ≤ sizeLine ∧ ∃ ks : List (Key × V), H a = some (.dK ks) ∧ kvs.map (·.1) = ks.map (fun k => kD k.1) ∧ RelL H (kvs.map (·.2)) (ks.map (·.2))
  | .dict true kvs => kvs.length ≤ sizeLine ∧ ∃ ks : List (List Key × V), H a = some (.dT ks) ∧ kvs.map (·.1) = ks.map (fun k => D.tup (k.1.map kD)) ∧ RelL H (kvs.map (·.2)) (ks.map (·.2))
  | .ldict false kvs => kvs.length ≤ sizeLine ∧ ∃ (ob : Obj) (ks : List (Key × V)), H a = some (.frz ob (.dK ks)) ∧ kvs.map (·.1) = ks.map (fun k => kD k.1) ∧ RelL H (kvs.map (·.2)) (ks.map (·.2))
  | .ldict true kvs => kvs.length ≤ sizeLine ∧ ∃ (ob : Obj) (ks : List (List Key × V)), H a = some (.frz ob (.dT ks)) ∧ kvs.map (·.1) = ks.map (fun k => D.tup (k.1.map kD)) ∧ RelL H (kvs.map (·.2)) (ks.map (·.2))
  | .ins C ns ds => ∃ dx fs, H a = some (.ins C dx fs) ∧ fs.map (·.1) = ns.take ds.length ∧ RelL H ds (fs.map (·.2))
structure Rep (K : PySem.W.Frag) (B : Bx) (H : Hp) (G : Gp) : Prop where
  k0 : Kp B.H0 H
  at_ : ∀ a o, G a = some o → RepO K H a o

section
variable {K : PySem.W.Frag} {B : Bx} {H H' : Hp} {G : Gp} {a b p : Addr} {o o' : DO}
theorem Rd.same (e : H' a = H a) {u : HO} (h : Rd H a u) : Rd H' a u := by
  rcases h with h | ⟨ob, h⟩
  · exact .inl (e.trans h)
  · exact .inr ⟨ob, e.trans h⟩
theorem RepO.mono (e : H' a = H a) (k : Kp H H') : ∀ {o : DO}, RepO K H a o → RepO K H' a o
  | .lst _, ⟨xs, h, r, z⟩ => ⟨xs, e.trans h, r.mono k, z⟩
  | .rol _, ⟨xs, h, r, z⟩ => ⟨xs, Rd.same e h, r.mono k, z⟩
  | .dict false _, ⟨z, ks, h, q, r⟩ => ⟨z, ks, e.trans h, q, r.mono k⟩
  | .dict true _, ⟨z, ks, h, q, r⟩ => ⟨z, ks, e.trans h, q, r.mono k⟩
  | .ldict false _, ⟨z, ob, ks, h, q, r⟩ => ⟨z, ob, ks, e.trans h, q, r.mono k⟩
  | .ldict true _, ⟨z, ob, ks, h, q, r⟩ => ⟨z, ob, ks, e.trans h, q, r.mono k⟩
  | .ins _ _ _, ⟨dx, fs, h, q, r⟩ => ⟨dx, fs, e.trans h, q, r.mono k⟩
theorem Kp.fresh {u : HO} (n : H p = none) : Kp H (upd H p u) := fun c xs h => by rw [upd_ne (ne_of_none h n)]; exact h
theorem Kp.write {u v : HO} (e : H a = some u) (n : ∀ xs, u ≠ .tup xs) : Kp H (upd H a v) := fun c xs h => by
  rw [upd_ne (ne_of h e fun z => n xs z.symm)]
  exact h
/-- what is not in the abstract heap below is not in G -/
theorem Rep.gnone (R : Rep K B H G) (n : H p = none) : G p = none := by
  cases e : G p with
  | none => rfl
  | some o =>
    have r := R.at_ p o e
    cases o with
    | lst ds => obtain ⟨xs, h, _⟩ := r; rw [n] at h; cases h
    | rol ds => obtain ⟨xs, h | ⟨_, h⟩, _⟩ := r <;> (rw [n] at h; cases h)
    | dict t kvs => cases t <;> (obtain ⟨_, ks, h, _⟩ := r; rw [n] at h; cases h)
    | ldict t kvs => cases t <;> (obtain ⟨_, _, ks, h, _⟩ := r; rw [n] at h; cases h)
    | ins C ns ds => obtain ⟨dx, fs, h, _⟩ := r; rw [n] at h; cases h
/-- an object off the books is laid (a tuple, an iterator ..) -/
theorem Rep.fresh {u : HO} (R : Rep K B H G) (n : H p = none) : Rep K B (upd H p u) G :=
  ⟨R.k0.trans (.fresh n), fun a o e => RepO.mono (upd_ne fun z => by subst z; rw [R.gnone n] at e; cases e) (.fresh n) (R.at_ a o e)⟩
/-- an object is laid -/
theorem Rep.laid {u : HO} (R : Rep K B H G) (n : H p = none) (h : RepO K (upd H p u) p o) : Rep K B (upd H p u) (put G p o) :=
  ⟨R.k0.trans (.fresh n), fun a o' e => by
    by_cases ha : a = p
    · subst ha
      rw [put_same] at e
      cases e
      exact h
    · rw [put_ne ha] at e
      exact RepO.mono (upd_ne ha) (.fresh n) (R.at_ a o' e)⟩
/-- an object is written -/
theorem Rep.write {u v : HO} (R : Rep K B H G) (e : H a = some u) (n : ∀ xs, u ≠ .tup xs) (h : RepO K (upd H a v) a o) : Rep K B (upd H a v) (put G a o) :=
  ⟨R.k0.trans (.write e n), fun b o' q => by
    by_cases ha : b = a
    · subst ha
      rw [put_same] at q
      cases q
      exact h
    · rw [put_ne ha] at q
      exact RepO.mono (upd_ne ha) (.write e n) (R.at_ b o' q)⟩
/-- part of the books is given up -/
theorem Rep.sub {G' : Gp} (R : Rep K B H G) (h : ∀ a o, G' a = some o → G a = some o) : Rep K B H G' := ⟨R.k0, fun a o e => R.at_ a o (h a o e)⟩
theorem Rel.fresh {u : HO} {d : D} {v : V} (r : Rel H d v) (n : H p = none) : Rel (upd H p u) d v := r.mono (.fresh n)
end

/-! ### judgements -/
abbrev DQ := D → Gp → Prop
abbrev DTE := SD → Gp → DQ → Prop
abbrev DTT := SD → Gp → (Bool → Gp → Prop) → Prop
abbrev DTA := SD → Gp → (List D → Gp → Prop) → Prop
structure DEnds where
  nx : SD → Gp → Prop
  rt : DQ
  bk : SD → Gp → Prop := fun _ _ => False
  ct : SD → Gp → Prop := fun _ _ => False
abbrev DTS := DEnds → SD → Gp → Prop
/-- what is wanted below, by what is wanted here -/
def PostE (K : PySem.W.Frag) (B : Bx) (H : Hp) (Q : DQ) (P : VK) : Prop := ∀ v d H' G', Kp H H' → Rel H' d v → Rep K B H' G' → Q d G' → P v H'
def PostT (K : PySem.W.Frag) (B : Bx) (H : Hp) (Q : Bool → Gp → Prop) (P : Bool → Hp → Prop) : Prop := ∀ b H' G', Kp H H' → Rep K B H' G' → Q b G' → P b H'
def PostA (K : PySem.W.Frag) (B : Bx) (n : Nat) (H : Hp) (Q : List D → Gp → Prop) (P : List V → Hp → Prop) : Prop := ∀ vs ds H' G', ds.length = n → Kp H H' → RelL H' ds vs → Rep K B H' G' → Q ds G' → P vs H'
def PostN (K : PySem.W.Frag) (B : Bx) (H : Hp) (Q : SD → Gp → Prop) (P : St → Hp → Prop) : Prop := ∀ σ' sd' H' G', Kp H H' → RelS H' σ' sd' → Rep K B H' G' → Q sd' G' → P σ' H'
structure PostS (K : PySem.W.Frag) (B : Bx) (H : Hp) (DD : DEnds) (D : Ends) : Prop where
  nx : PostN K B H DD.nx D.nx
  rt : PostE K B H DD.rt D.rt
  bk : PostN K B H DD.bk D.bk
  ct : PostN K B H DD.ct D.ct
structure DE (X : Cx) (B : Bx) (e : Expr) (t : DTE) : Prop where
  ex : ∃ te : TE, PE X e te ∧ ∀ σ H sd G Q P, RelS H σ sd → Rep X.K B H G → t sd G Q → PostE X.K B H Q P → te σ H P
structure DT (X : Cx) (B : Bx) (e : Expr) (t : DTT) : Prop where
  ex : ∃ te : TT, PT X e te ∧ ∀ σ H sd G Q P, RelS H σ sd → Rep X.K B H G → t sd G Q → PostT X.K B H Q P → te σ H P
structure DW (X : Cx) (B : Bx) (e : Expr) (t : DTT) : Prop where
  ex : ∃ te : TT, PW X e te ∧ ∀ σ H sd G Q P, RelS H σ sd → Rep X.K B H G → t sd G Q → PostT X.K B H Q P → te σ H P
structure DA (X : Cx) (B : Bx) (es : List Expr) (t : DTA) : Prop where
  ex : ∃ te : TA, PA X es te ∧ ∀ σ H sd G Q P, RelS H σ sd → Rep X.K B H G → t sd G Q → PostA X.K B es.length H Q P → te σ H P
structure DS (X : Cx) (B : Bx) (st : Stmt) (t : DTS) : Prop where
  ex : ∃ ts : TS, PS X st ts ∧ ∀ σ H sd G DD D, RelS H σ sd → Rep X.K B H G → t DD sd G → PostS X.K B H DD D → ts D σ H
structure DSs (X : Cx) (B : Bx) (st : List Stmt) (t : DTS) : Prop where
  ex : ∃ ts : TS, PSs X st ts ∧ ∀ σ H sd G DD D, RelS H σ sd → Rep X.K B H G → t DD sd G → PostS X.K B H DD D → ts D σ H
theorem DW.dt {X : Cx} {B : Bx} {e : Expr} {t : DTT} (h : DW X B e t) : DT X B e t := let ⟨te, h1, h2⟩ := h.ex; ⟨te, h1.pt, h2⟩
section
variable {K : PySem.W.Frag} {B : Bx} {H H' : Hp}
theorem PostE.mono (k : Kp H H') {Q : DQ} {P : VK} (h : PostE K B H Q P) : PostE K B H' Q P := fun v d H2 G2 k2 => h v d H2 G2 (k.trans k2)
theorem PostT.mono (k : Kp H H') {Q : Bool → Gp → Prop} {P : Bool → Hp → Prop} (h : PostT K B H Q P) : PostT K B H' Q P := fun b H2 G2 k2 => h b H2 G2 (k.trans k2)
theorem PostA.mono (k : Kp H H') {Q : List D → Gp → Prop} {P : List V → Hp → Prop} {n : Nat} (h : PostA K B n H Q P) : PostA K B n H' Q P := fun b c H2 G2 hn k2 => h b c H2 G2 hn (k.trans k2)
theorem PostN.mono (k : Kp H H') {Q : SD → Gp → Prop} {P : St → Hp → Prop} (h : PostN K B H Q P) : PostN K B H' Q P := fun b c H2 G2 k2 => h b c H2 G2 (k.trans k2)
theorem PostS.mono (k : Kp H H') {DD : DEnds} {D : Ends} (h : PostS K B H DD D) : PostS K B H' DD D := ⟨h.nx.mono k, h.rt.mono k, h.bk.mono k, h.ct.mono k⟩
end

/-! ### names, constants -/
@[simp] def dVar (i : Nat) : DTE := fun sd G Q => match sd[i]? with
  | some (some d) => Q d G
  | _ => False
@[simp] def dC (d : D) : DTE := fun _ G Q => Q d G
section
variable {X : Cx} {B : Bx} {pos : Pos}
theorem de_of_var {i : Nat} {e : Expr} (h : PE X e (tVar i)) : DE X B e (dVar i) := ⟨tVar i, h, fun σ H sd G Q P hs R t hp => by
  have t' : (match sd[i]? with | some (some d) => Q d G | _ => False) := t
  cases q : sd[i]? with
  | none => rw [q] at t'; exact t'.elim
  | some o =>
    cases o with
    | none => rw [q] at t'; exact t'.elim
    | some d =>
      rw [q] at t'
      obtain ⟨v, e1, r⟩ := hs.2 i d q
      exact ⟨v, e1, hp v d H G (.refl H) r R t'⟩⟩
theorem dv (i : Nat) {x : Str} (hN : X.N[i]? = some x := by rfl) (hv : Vis X.env.scope x := by first | exact Or.inl rfl | exact Or.inr (Or.inl rfl) | exact Or.inr (Or.inr rfl)) (hd : (x == ("__debug__" : Str)) = false := by decide)
    (hcd : (x == ("__classdict__" : Str)) = false := by decide) : DE X B (.Name x pos) (dVar i) := de_of_var (pe_var hN hv hd hcd)
theorem de_of_c {e : Expr} {v : V} {d : D} (h : PE X e (tC v)) (r : ∀ H, Rel H d v) : DE X B e (dC d) := ⟨tC v, h, fun σ H sd G Q P hs R t hp => hp v d H G (.refl H) (r H) R t⟩
theorem de_int {i j} : DE X B (.Constant (.int i) j pos) (dC (.int i)) := de_of_c pe_int fun _ => rfl
theorem de_bl {b j} : DE X B (.Constant (.bool b) j pos) (dC (.bl b)) := de_of_c pe_bl fun _ => rfl
theorem de_non {j} : DE X B (.Constant .none j pos) (dC .non) := de_of_c pe_non fun _ => rfl
theorem de_str {x j} (h : OkS x := by decide +kernel) : DE X B (.Constant (.str x) j pos) (dC (.str x)) := de_of_c pe_str fun _ => ⟨rfl, h⟩
end

/-! ### operators by values -/
abbrev DR1 := D → Gp → DQ → Prop
abbrev DR2 := D → D → Gp → DQ → Prop
def DOp (X : Cx) (B : Bx) (f : Value → Value → Sem Value) (rD : DR2) : Prop :=
  ∃ r : R2, OpR X f r ∧ ∀ H G x y d e Q P, Rel H d x → Rel H e y → Rep X.K B H G → rD d e G Q → PostE X.K B H Q P → r x y H P
@[simp] def dOp (rD : DR2) (ta tb : DTE) : DTE := fun sd G Q => ta sd G fun d G1 => tb sd G1 fun e G2 => rD d e G2 Q
section
variable {X : Cx} {B : Bx} {a b c : Expr} {ta tb tc : DTE} {pos : Pos} {rD rD' : DR2}
/-- two parts in a row -/
theorem two_parts {ta' tb' : TE} {R : V → V → Hp → Prop} {ta tb : DTE} {RD : D → D → Gp → Prop} {σ : L2.St} {H : Hp} {sd : SD} {G : Gp}
    (ha : ∀ σ H sd G Q P, RelS H σ sd → Rep X.K B H G → ta sd G Q → PostE X.K B H Q P → ta' σ H P)
    (hb : ∀ σ H sd G Q P, RelS H σ sd → Rep X.K B H G → tb sd G Q → PostE X.K B H Q P → tb' σ H P)
    (hs : RelS H σ sd) (R0 : Rep X.K B H G) (t : ta sd G fun d G1 => tb sd G1 fun e G2 => RD d e G2)
    (hr : ∀ x y d e H2 G2, Kp H H2 → Rel H2 d x → Rel H2 e y → Rep X.K B H2 G2 → RD d e G2 → R x y H2) : ta' σ H fun x H1 => tb' σ H1 fun y H2 => R x y H2 := by
  refine ha σ H sd G _ _ hs R0 t fun x d H1 G1 k1 r1 R1 q1 => ?_
  refine hb σ H1 sd G1 _ _ (hs.mono k1) R1 q1 fun y e H2 G2 k2 r2 R2 q2 => ?_
  exact hr x y d e H2 G2 (k1.trans k2) (r1.mono k2) r2 R2 q2
theorem de_op {op : Operator} (ho : DOp X B (binaryOp op) rD) (ha : DE X B a ta) (hb : DE X B b tb) : DE X B (.BinOp a op b pos) (dOp rD ta tb) := by
  obtain ⟨ta', pa, ha⟩ := ha.ex
  obtain ⟨tb', pb, hb⟩ := hb.ex
  obtain ⟨r, ho, hr⟩ := ho
  refine ⟨_, pe_op ho pa pb, fun σ H sd G Q P hs R t hp => ?_⟩
  exact two_parts (R := fun x y H2 => r x y H2 P) ha hb hs R t fun x y d e H2 G2 k r1 r2 R2 q => hr H2 G2 x y d e Q P r1 r2 R2 q (hp.mono k)
theorem de_cmp {op : CmpOp} (ho : DOp X B (compareOp op) rD) (ha : DE X B a ta) (hb : DE X B b tb) (hm : behindInMarks op b = false := by first | exact nobehind _ (by decide) (by decide) | rfl) : DE X B (.Compare a [op] [b] pos) (dOp rD ta tb) := by
  obtain ⟨ta', pa, ha⟩ := ha.ex
  obtain ⟨tb', pb, hb⟩ := hb.ex
  obtain ⟨r, ho, hr⟩ := ho
  refine ⟨_, pe_cmpR ho pa pb hm, fun σ H sd G Q P hs R t hp => ?_⟩
  exact two_parts (R := fun x y H2 => r x y H2 P) ha hb hs R t fun x y d e H2 G2 k r1 r2 R2 q => hr H2 G2 x y d e Q P r1 r2 R2 q (hp.mono k)
end
end DL
set_option Elab.async false
set_option linter.all false
set_option maxRecDepth 100000
set_option maxHeartbeats 4000000
namespace DL
open PySem PySem.Spec L2
/-! ### tests -/
/-- what comes is a bool -/
@[simp] def dB (Q : Bool → Gp → Prop) : DQ := fun d G => match d with
  | .bl b => Q b G
  | _ => False
@[simp] def dTest (t : DTE) : DTT := fun sd G Q => t sd G (dB Q)
@[simp] def dChain (r r' : DR2) (ta tb tc : DTE) : DTE := fun sd G Q => ta sd G fun x G1 => tb sd G1 fun y G2 => r x y G2 (dB fun k G3 => if k = true then tc sd G3 fun z G4 => r' y z G4 Q else Q (.bl false) G3)
@[simp] def dIfE (c : DTT) (t u : DTE) : DTE := fun sd G Q => c sd G fun b G1 => if b = true then t sd G1 Q else u sd G1 Q
@[simp] def dAnd (t u : DTT) : DTT := fun sd G Q => t sd G fun c G1 => if c = true then u sd G1 Q else Q false G1
@[simp] def dOr (t u : DTT) : DTT := fun sd G Q => t sd G fun c G1 => if c = true then Q true G1 else u sd G1 Q
@[simp] def dNot (t : DTT) : DTT := fun sd G Q => t sd G fun c G1 => Q (!c) G1
/-- and, or, not as values (bools) -/
@[simp] def dAndV (ta tb : DTE) : DTE := fun sd G Q => ta sd G (dB fun c G1 => if c = true then tb sd G1 Q else Q (.bl false) G1)
@[simp] def dOrV (ta tb : DTE) : DTE := fun sd G Q => ta sd G (dB fun c G1 => if c = true then Q (.bl true) G1 else tb sd G1 Q)
@[simp] def dNotV (ta : DTE) : DTE := fun sd G Q => ta sd G (dB fun c G1 => Q (.bl (!c)) G1)
section
variable {X : Cx} {B : Bx} {a b c : Expr} {ta tb tc : DTE} {tA tB tC : DTT} {pos : Pos} {rD rD' : DR2} {rest : List Expr}
theorem post_bl {K : PySem.W.Frag} {H : Hp} {Q : Bool → Gp → Prop} {P : Bool → Hp → Prop} (hp : PostT K B H Q P) : PostE K B H (dB Q) (fun x H' => ∃ k, x = .bl k ∧ P k H') := fun v d H' G' k r R q => by
  cases d with
  | bl b => exact ⟨b, r, hp b H' G' k R q⟩
  | _ => exact (show False from q).elim
theorem post_blC {K : PySem.W.Frag} {H : Hp} {Q : Bool → Gp → Prop} {P : Bool → Hp → Prop} (hp : ∀ b H' G', Kp H H' → Rep K B H' G' → Q b G' → P b H') : PostE K B H (dB Q) (fun x H' => ∃ k, x = .bl k ∧ P k H') := post_bl hp
theorem dt_of_val (h : DE X B a ta) (he : ∀ whole, isTrue a X.env whole = (do let v ← whole; standAt a.pos; holding [v] (truthy v)) := by intro _; rfl) : DT X B a (dTest ta) := by
  obtain ⟨ta', pa, ha⟩ := h.ex
  exact ⟨_, pt_val pa he, fun σ H sd G Q P hs R t hp => ha σ H sd G _ _ hs R t (post_bl hp)⟩
theorem dt_cmp {op : CmpOp} (ho : DOp X B (compareOp op) rD) (ha : DE X B a ta) (hb : DE X B b tb) (hm : behindInMarks op b = false := by first | exact nobehind _ (by decide) (by decide) | rfl) : DT X B (.Compare a [op] [b] pos) (dTest (dOp rD ta tb)) := by
  obtain ⟨ta', pa, ha⟩ := ha.ex
  obtain ⟨tb', pb, hb⟩ := hb.ex
  obtain ⟨r, ho, hr⟩ := ho
  refine ⟨_, pt_cmpR ho pa pb hm, fun σ H sd G Q P hs R t hp => ?_⟩
  exact two_parts (X := X) ha hb hs R t fun x y d e H2 G2 k r1 r2 R2 q => hr H2 G2 x y d e _ _ r1 r2 R2 q (post_bl (hp.mono k))
theorem chain_at {ta' tb' tc' : TE} {r r' : R2} {σ : L2.St} {H : Hp} {sd : SD} {G : Gp} {Q : DQ} {P : VK}
    (ha : ∀ σ H sd G Q P, RelS H σ sd → Rep X.K B H G → ta sd G Q → PostE X.K B H Q P → ta' σ H P)
    (hb : ∀ σ H sd G Q P, RelS H σ sd → Rep X.K B H G → tb sd G Q → PostE X.K B H Q P → tb' σ H P)
    (hc : ∀ σ H sd G Q P, RelS H σ sd → Rep X.K B H G → tc sd G Q → PostE X.K B H Q P → tc' σ H P)
    (hr : ∀ H G x y d e Q P, Rel H d x → Rel H e y → Rep X.K B H G → rD d e G Q → PostE X.K B H Q P → r x y H P)
    (hr' : ∀ H G x y d e Q P, Rel H d x → Rel H e y → Rep X.K B H G → rD' d e G Q → PostE X.K B H Q P → r' x y H P)
    (hs : RelS H σ sd) (R : Rep X.K B H G) (t : dChain rD rD' ta tb tc sd G Q) (hp : PostE X.K B H Q P) : tChain r r' ta' tb' tc' σ H P := by
  refine two_parts (X := X) ha hb hs R t fun x y d e H2 G2 k r1 r2 R2 q => ?_
  refine hr H2 G2 x y d e _ _ r1 r2 R2 q (post_bl fun b H3 G3 k3 R3 q3 => ?_)
  cases b with
  | false => exact hp _ (.bl false) H3 G3 (k.trans k3) rfl R3 q3
  | true =>
    refine hc σ H3 sd G3 _ _ (hs.mono (k.trans k3)) R3 q3 fun w f H4 G4 k4 r4 R4 q4 => ?_
    exact hr' H4 G4 y w e f Q P (r2.mono (k3.trans k4)) r4 R4 q4 (hp.mono ((k.trans k3).trans k4))
theorem de_chain {op op' : CmpOp} (ho : DOp X B (compareOp op) rD) (ho' : DOp X B (compareOp op') rD') (ha : DE X B a ta) (hb : DE X B b tb) (hc : DE X B c tc)
    (hm : lastMarks [op, op'] [b, c] = false := by with_unfolding_all rfl) : DE X B (.Compare a [op, op'] [b, c] pos) (dChain rD rD' ta tb tc) := by
  obtain ⟨ta', pa, ha⟩ := ha.ex
  obtain ⟨tb', pb, hb⟩ := hb.ex
  obtain ⟨tc', pc, hc⟩ := hc.ex
  obtain ⟨r, ho, hr⟩ := ho
  obtain ⟨r', ho', hr'⟩ := ho'
  exact ⟨_, pe_chain ho ho' pa pb pc hm, fun σ H sd G Q P hs R t hp => chain_at (X := X) ha hb hc hr hr' hs R t hp⟩
theorem dt_chain {op op' : CmpOp} (ho : DOp X B (compareOp op) rD) (ho' : DOp X B (compareOp op') rD') (ha : DE X B a ta) (hb : DE X B b tb) (hc : DE X B c tc)
    (hm : lastMarks [op, op'] [b, c] = false := by with_unfolding_all rfl) : DT X B (.Compare a [op, op'] [b, c] pos) (dTest (dChain rD rD' ta tb tc)) := by
  obtain ⟨ta', pa, ha⟩ := ha.ex
  obtain ⟨tb', pb, hb⟩ := hb.ex
  obtain ⟨tc', pc, hc⟩ := hc.ex
  obtain ⟨r, ho, hr⟩ := ho
  obtain ⟨r', ho', hr'⟩ := ho'
  exact ⟨_, pt_chain ho ho' pa pb pc hm, fun σ H sd G Q P hs R t hp => chain_at (X := X) ha hb hc hr hr' hs R t (post_bl hp)⟩
theorem de_if (hc : DT X B c tA) (ha : DE X B a ta) (hb : DE X B b tb) : DE X B (.IfExp c a b pos) (dIfE tA ta tb) := by
  obtain ⟨tc', pc, hc⟩ := hc.ex
  obtain ⟨ta', pa, ha⟩ := ha.ex
  obtain ⟨tb', pb, hb⟩ := hb.ex
  refine ⟨_, pe_ifExp pc pa pb, fun σ H sd G Q P hs R t hp => ?_⟩
  refine hc σ H sd G _ _ hs R t fun k H1 G1 k1 R1 q1 => ?_
  cases k with
  | true => exact ha σ H1 sd G1 Q P (hs.mono k1) R1 q1 (hp.mono k1)
  | false => exact hb σ H1 sd G1 Q P (hs.mono k1) R1 q1 (hp.mono k1)
theorem dw_and1 (ha : DT X B a tA) : DW X B (.BoolOp .And [a] pos) tA := let ⟨ta', pa, ha⟩ := ha.ex; ⟨_, pw_and1 pa, ha⟩
theorem dw_or1 (ha : DT X B a tA) : DW X B (.BoolOp .Or [a] pos) tA := let ⟨ta', pa, ha⟩ := ha.ex; ⟨_, pw_or1 pa, ha⟩
theorem dw_and (ha : DT X B a tA) (hb : DW X B (.BoolOp .And (b :: rest) pos) tB) : DW X B (.BoolOp .And (a :: b :: rest) pos) (dAnd tA tB) := by
  obtain ⟨ta', pa, ha⟩ := ha.ex
  obtain ⟨tb', pb, hb⟩ := hb.ex
  refine ⟨_, pw_and pa pb, fun σ H sd G Q P hs R t hp => ?_⟩
  refine ha σ H sd G _ _ hs R t fun k H1 G1 k1 R1 q1 => ?_
  cases k with
  | true => exact hb σ H1 sd G1 Q P (hs.mono k1) R1 q1 (hp.mono k1)
  | false => exact hp _ _ _ k1 R1 q1
theorem dw_or (ha : DT X B a tA) (hb : DW X B (.BoolOp .Or (b :: rest) pos) tB) : DW X B (.BoolOp .Or (a :: b :: rest) pos) (dOr tA tB) := by
  obtain ⟨ta', pa, ha⟩ := ha.ex
  obtain ⟨tb', pb, hb⟩ := hb.ex
  refine ⟨_, pw_or pa pb, fun σ H sd G Q P hs R t hp => ?_⟩
  refine ha σ H sd G _ _ hs R t fun k H1 G1 k1 R1 q1 => ?_
  cases k with
  | false => exact hb σ H1 sd G1 Q P (hs.mono k1) R1 q1 (hp.mono k1)
  | true => exact hp _ _ _ k1 R1 q1
theorem dt_not (ha : DT X B a tA) : DT X B (.UnaryOp .Not a pos) (dNot tA) := by
  obtain ⟨ta', pa, ha⟩ := ha.ex
  exact ⟨_, pt_not pa, fun σ H sd G Q P hs R t hp => ha σ H sd G _ _ hs R t fun k H1 G1 k1 R1 q1 => hp _ _ _ k1 R1 q1⟩
theorem de_one {op} (h : DE X B a ta) : DE X B (.BoolOp op [a] pos) ta := let ⟨ta', pa, ha⟩ := h.ex; ⟨_, pe_one pa, ha⟩
theorem de_and (ha : DE X B a ta) (hb : DE X B (.BoolOp .And (b :: rest) pos) tb) : DE X B (.BoolOp .And (a :: b :: rest) pos) (dAndV ta tb) := by
  obtain ⟨ta', pa, ha⟩ := ha.ex
  obtain ⟨tb', pb, hb⟩ := hb.ex
  refine ⟨_, pe_and pa pb, fun σ H sd G Q P hs R t hp => ?_⟩
  refine ha σ H sd G _ _ hs R t (post_bl fun k H1 G1 k1 R1 q1 => ?_)
  cases k with
  | true => exact hb σ H1 sd G1 Q P (hs.mono k1) R1 q1 (hp.mono k1)
  | false => exact hp _ (.bl false) _ _ k1 rfl R1 q1
theorem de_or (ha : DE X B a ta) (hb : DE X B (.BoolOp .Or (b :: rest) pos) tb) : DE X B (.BoolOp .Or (a :: b :: rest) pos) (dOrV ta tb) := by
  obtain ⟨ta', pa, ha⟩ := ha.ex
  obtain ⟨tb', pb, hb⟩ := hb.ex
  refine ⟨_, pe_or pa pb, fun σ H sd G Q P hs R t hp => ?_⟩
  refine ha σ H sd G _ _ hs R t (post_bl fun k H1 G1 k1 R1 q1 => ?_)
  cases k with
  | false => exact hb σ H1 sd G1 Q P (hs.mono k1) R1 q1 (hp.mono k1)
  | true => exact hp _ (.bl true) _ _ k1 rfl R1 q1
theorem de_not (ha : DE X B a ta) : DE X B (.UnaryOp .Not a pos) (dNotV ta) := by
  obtain ⟨ta', pa, ha⟩ := ha.ex
  exact ⟨_, pe_not pa, fun σ H sd G Q P hs R t hp => ha σ H sd G _ _ hs R t (post_bl fun k H1 G1 k1 R1 q1 => hp _ (.bl (!k)) _ _ k1 rfl R1 q1)⟩
end

/-! ### statements -/
@[simp] def dNext : DTS := fun D sd G => D.nx sd G
@[simp] def dSeq (t u : DTS) : DTS := fun D sd G => t { D with nx := u D } sd G
@[simp] def dDrop (te : DTE) : DTS := fun D sd G => te sd G fun _ G1 => D.nx sd G1
@[simp] def dRet (te : DTE) : DTS := fun D sd G => te sd G D.rt
@[simp] def dRetN : DTS := fun D _ G => D.rt .non G
@[simp] def dIf (c : DTT) (t u : DTS) : DTS := fun D sd G => c sd G fun b G1 => if b = true then t D sd G1 else u D sd G1
def dNever : DTS := fun _ _ _ => False
@[simp] def dSkip : DTS := fun D sd G => D.ct sd G
@[simp] def dBreak : DTS := fun D sd G => D.bk sd G
section
variable {X : Cx} {B : Bx} {st : Stmt} {rest : List Stmt} {t u : DTS} {e : Expr} {te : DTE} {pos : Pos} {tc : DTT}
theorem dss_nil : DSs X B [] dNext := ⟨_, pss_nil, fun σ H sd G DD D hs R t hp => hp.nx σ sd H G (.refl H) hs R t⟩
theorem dss_cons (h1 : DS X B st t) (h2 : DSs X B rest u) : DSs X B (st :: rest) (dSeq t u) := by
  obtain ⟨t', p1, h1⟩ := h1.ex
  obtain ⟨u', p2, h2⟩ := h2.ex
  refine ⟨_, pss_cons p1 p2, fun σ H sd G DD D hs R t hp => ?_⟩
  exact h1 σ H sd G _ _ hs R t ⟨fun σ1 sd1 H1 G1 k1 hs1 R1 q1 => h2 σ1 H1 sd1 G1 DD D hs1 R1 q1 (hp.mono k1), hp.rt, hp.bk, hp.ct⟩
theorem dss_one (h1 : DS X B st t) : DSs X B [st] t := let ⟨t', p1, h1⟩ := h1.ex; ⟨_, pss_one p1, h1⟩
theorem dss_never {sts : List Stmt} : DSs X B sts dNever := ⟨_, pss_never, fun _ _ _ _ _ _ _ _ t _ => t.elim⟩
theorem ds_never : DS X B st dNever := ⟨_, ps_never, fun _ _ _ _ _ _ _ _ t _ => t.elim⟩
theorem ds_pass : DS X B (.Pass pos) dNext := ⟨_, ps_pass, fun σ H sd G DD D hs R t hp => hp.nx σ sd H G (.refl H) hs R t⟩
theorem ds_break : DS X B (.Break pos) dBreak := ⟨_, ps_break, fun σ H sd G DD D hs R t hp => hp.bk σ sd H G (.refl H) hs R t⟩
theorem ds_continue : DS X B (.Continue pos) dSkip := ⟨_, ps_continue, fun σ H sd G DD D hs R t hp => hp.ct σ sd H G (.refl H) hs R t⟩
theorem ds_expr (he : DE X B e te) (hs : swapsWith e none pos.line X.env = pure false := by rfl) : DS X B (.Expr e pos) (dDrop te) := by
  obtain ⟨te', pe, he⟩ := he.ex
  refine ⟨_, ps_expr pe hs, fun σ H sd G DD D hs R t hp => ?_⟩
  exact he σ H sd G _ _ hs R t fun v d H1 G1 k1 r1 R1 q1 => hp.nx σ sd H1 G1 k1 (hs.mono k1) R1 q1
theorem ds_ret (he : DE X B e te) : DS X B (.Return (some e) pos) (dRet te) := by
  obtain ⟨te', pe, he⟩ := he.ex
  exact ⟨_, ps_ret pe, fun σ H sd G DD D hs R t hp => he σ H sd G _ _ hs R t hp.rt⟩
theorem ds_retN : DS X B (.Return none pos) dRetN := ⟨_, ps_retN, fun σ H sd G DD D hs R t hp => hp.rt _ .non H G (.refl H) rfl R t⟩
theorem ds_if {c : Expr} {a b : List Stmt} (hc : DT X B c tc) (ha : DSs X B a t) (hb : DSs X B b u) : DS X B (.If c a b pos) (dIf tc t u) := by
  obtain ⟨tc', pc, hc⟩ := hc.ex
  obtain ⟨t', p1, h1⟩ := ha.ex
  obtain ⟨u', p2, h2⟩ := hb.ex
  refine ⟨_, ps_if pc p1 p2, fun σ H sd G DD D hs R t hp => ?_⟩
  refine hc σ H sd G _ _ hs R t fun k H1 G1 k1 R1 q1 => ?_
  cases k with
  | true => exact h1 σ H1 sd G1 DD D (hs.mono k1) R1 q1 (hp.mono k1)
  | false => exact h2 σ H1 sd G1 DD D (hs.mono k1) R1 q1 (hp.mono k1)
end

/-! ### targets -/
abbrev DTG := D → SD → Gp → (SD → Gp → Prop) → Prop
abbrev DTGs := List D → SD → Gp → (SD → Gp → Prop) → Prop
/-- only the slots ws change -/
def Only (ws : List Nat) (σ σ' : St) : Prop := σ'.length = σ.length ∧ ∀ i, i ∉ ws → σ'[i]? = σ[i]?
theorem Only.refl (ws : List Nat) (σ : St) : Only ws σ σ := ⟨rfl, fun _ _ => rfl⟩
theorem Only.trans {ws : List Nat} {σ σ1 σ2 : St} (a : Only ws σ σ1) (b : Only ws σ1 σ2) : Only ws σ σ2 := ⟨b.1.trans a.1, fun i h => (b.2 i h).trans (a.2 i h)⟩
theorem Only.mono {ws vs : List Nat} {σ σ1 : St} (a : Only ws σ σ1) (h : ∀ i ∈ ws, i ∈ vs) : Only vs σ σ1 := ⟨a.1, fun i q => a.2 i fun z => q (h i z)⟩
def PostG (K : PySem.W.Frag) (B : Bx) (ws : List Nat) (σ : St) (H : Hp) (Q : SD → Gp → Prop) (P : St → Hp → Prop) : Prop := ∀ σ' sd' H' G', Only ws σ σ' → Kp H H' → RelS H' σ' sd' → Rep K B H' G' → Q sd' G' → P σ' H'
theorem PostN.g {K : PySem.W.Frag} {B : Bx} {ws : List Nat} {σ : St} {H : Hp} {Q : SD → Gp → Prop} {P : St → Hp → Prop} (h : PostN K B H Q P) : PostG K B ws σ H Q P := fun a b c d _ => h a b c d
structure DG (X : Cx) (B : Bx) (target : Expr) (ws : List Nat) (t : DTG) : Prop where
  ex : ∃ g : TG, PG X target g ∧ ∀ v d σ H sd G Q P, Rel H d v → RelS H σ sd → Rep X.K B H G → t d sd G Q → PostG X.K B ws σ H Q P → g v σ H P
structure DGs (X : Cx) (B : Bx) (targets : List Expr) (ws : List Nat) (t : DTGs) : Prop where
  ex : ∃ g : TGs, PGs X targets g ∧ ∀ vs ds σ H sd G Q P, RelL H ds vs → RelS H σ sd → Rep X.K B H G → t ds sd G Q → PostG X.K B ws σ H Q P → g vs σ H P
@[simp] def dgName (i : Nat) : DTG := fun d sd G Q => Q (sd.set i (some d)) G
@[simp] def dgNil : DTGs := fun ds sd G Q => match ds with
  | [] => Q sd G
  | _ => False
@[simp] def dgCons (t : DTG) (u : DTGs) : DTGs := fun ds sd G Q => match ds with
  | d :: r => t d sd G fun sd' G' => u r sd' G' Q
  | [] => False
@[simp] def dgTup (n : Nat) (t : DTGs) : DTG := fun d sd G Q => match d with
  | .tup ds => if ds.length = n then t ds sd G Q else False
  | _ => False
@[simp] def dAsg (te : DTE) (g : DTG) : DTS := fun D sd G => te sd G fun d G1 => g d sd G1 D.nx
section
variable {X : Cx} {B : Bx} {pos : Pos} {e : Expr} {te : DTE} {g : DTG} {gs : DTGs} {ws vs : List Nat}
theorem dg_name {i : Nat} {x : Str} (hN : X.N.Nodup) (hi : X.N[i]? = some x) (hx : Loc X.env.scope x) (hf : X.fn x = true ∨ X.env.scope.names.lookup x = some .local := by first | exact .inl rfl | exact .inr rfl | assumption) : DG X B (.Name x pos) [i] (dgName i) :=
  ⟨_, pg_name hN hi hx hf, fun v d σ H sd G Q P r hs R t hp => hp _ _ H G ⟨by simp, fun j hj => List.getElem?_set_ne fun z => hj (by simp [z])⟩ (.refl H) (hs.set r i) R t⟩
theorem dgs_nil : DGs X B [] [] dgNil := ⟨_, pgs_nil, fun vs ds σ H sd G Q P r hs R t hp => by
  cases ds with
  | nil => exact ⟨relL_nil.mp r, hp σ sd H G (.refl _ σ) (.refl H) hs R t⟩
  | cons _ _ => exact (show False from t).elim⟩
theorem dgs_cons {es : List Expr} (h1 : DG X B e ws g) (h2 : DGs X B es vs gs) (hs : (assignEach (e :: es) X.env).map (·.2) = assign e X.env :: (assignEach es X.env).map (·.2) := by rfl) : DGs X B (e :: es) (ws ++ vs) (dgCons g gs) := by
  obtain ⟨g', p1, h1⟩ := h1.ex
  obtain ⟨gs', p2, h2⟩ := h2.ex
  refine ⟨_, pgs_cons p1 p2 hs, fun vs ds σ H sd G Q P r hs R t hp => ?_⟩
  cases ds with
  | nil => exact (show False from t).elim
  | cons d ds =>
    obtain ⟨x, xr, rfl, r1, r2⟩ := r
    refine ⟨x, xr, rfl, h1 x d σ H sd G _ _ r1 hs R t fun σ1 sd1 H1 G1 o1 k1 hs1 R1 q1 => ?_⟩
    exact h2 xr ds σ1 H1 sd1 G1 Q P (r2.mono k1) hs1 R1 q1 fun σ2 sd2 H2 G2 o2 k2 hs2 R2 q2 =>
      hp σ2 sd2 H2 G2 ((o1.mono fun i h => List.mem_append_left _ h).trans (o2.mono fun i h => List.mem_append_right _ h)) (k1.trans k2) hs2 R2 q2
theorem dg_tup {es : List Expr} {k n : Nat} (hc : X.calm = true) (h : DGs X B es ws gs) (hn : (assignEach es X.env).length = n := by rfl) (hst : (assignEach es X.env).findIdx? (·.1) = none := by rfl) : DG X B (.Tuple es k pos) ws (dgTup n gs) := by
  obtain ⟨g', p1, h1⟩ := h.ex
  refine ⟨_, pg_tup hc p1 hn hst, fun v d σ H sd G Q P r hs R t hp => ?_⟩
  cases d with
  | tup ds =>
    obtain ⟨a, xs, rfl, e1, r1, z1⟩ := r
    have t' : (if ds.length = n then gs ds sd G Q else False) := t
    by_cases hl : ds.length = n
    · rw [if_pos hl] at t'
      exact ⟨a, xs, rfl, SqT.of e1, by rw [← r1.length]; exact hl, h1 xs ds σ H sd G Q P r1 hs R t' hp⟩
    · rw [if_neg hl] at t'
      exact t'.elim
  | _ => exact (show False from t).elim
theorem ds_asg {tg : Expr} (he : DE X B e te) (hg : DG X B tg ws g) (hs : swapsWithSole [tg] e pos.line X.env = pure false := by rfl) (hw : swappedStores [tg] e X.env = pure none := by rfl)
    (h1 : (assignEach [tg] X.env).map (·.2) = [assign tg X.env] := by rfl) : DS X B (.Assign [tg] e pos) (dAsg te g) := by
  obtain ⟨te', pe, he⟩ := he.ex
  obtain ⟨g', pg, hg⟩ := hg.ex
  refine ⟨_, ps_asg pe pg hs hw h1, fun σ H sd G DD D hs R t hp => ?_⟩
  refine he σ H sd G _ _ hs R t fun v d H1 G1 k1 r1 R1 q1 => ?_
  exact hg v d σ H1 sd G1 _ _ r1 (hs.mono k1) R1 q1 (hp.nx.mono k1).g
theorem ds_set {i : Nat} {x : Str} {pos' : Pos} (hN : X.N.Nodup) (hi : X.N[i]? = some x) (hx : Loc X.env.scope x) (he : DE X B e te) (hs : swapsWith e (some (.Name x pos')) pos.line X.env = pure false := by rfl)
    (hf : X.fn x = true ∨ X.env.scope.names.lookup x = some .local := by first | exact .inl rfl | exact .inr rfl | assumption) : DS X B (.Assign [.Name x pos'] e pos) (dAsg te (dgName i)) := by
  obtain ⟨te', pe, he⟩ := he.ex
  refine ⟨_, ps_set hN hi hx pe hs hf, fun σ H sd G DD D hs R t hp => ?_⟩
  refine he σ H sd G _ _ hs R t fun v d H1 G1 k1 r1 R1 q1 => ?_
  exact hp.nx _ _ H1 G1 k1 ((hs.mono k1).set r1 i) R1 q1
/-- a, b = x, y -/
@[simp] def dPar (i j : Nat) (ta : DTA) : DTS := fun D sd G => ta sd G fun ds G1 => match ds with
  | [d, e] => D.nx ((sd.set i (some d)).set j (some e)) G1
  | _ => False
theorem ds_par {i j : Nat} {x y : Str} {a b : Expr} {ta : DTA} {px py pt : Pos} {kt k2 pt2} (hc : X.calm = true) (hN : X.N.Nodup) (hi : X.N[i]? = some x) (hj : X.N[j]? = some y) (hij : i ≠ j)
    (hx : X.env.scope.names.lookup x = some .local) (hy : X.env.scope.names.lookup y = some .local) (ha : DA X B [a, b] ta)
    (hw : swappedStores [.Tuple [.Name x px, .Name y py] kt pt] (.Tuple [a, b] k2 pt2) X.env = pure (some [x, y]))
    (hs : swapsWithSole [.Tuple [.Name x px, .Name y py] kt pt] (.Tuple [a, b] k2 pt2) pos.line X.env = pure false := by rfl) :
    DS X B (.Assign [.Tuple [.Name x px, .Name y py] kt pt] (.Tuple [a, b] k2 pt2) pos) (dPar i j ta) := by
  obtain ⟨ta', pa, ha⟩ := ha.ex
  refine ⟨_, ps_par hc hN hi hj hij hx hy pa hw hs, fun σ H sd G DD D hs R t hp => ?_⟩
  refine ha σ H sd G _ _ hs R t fun vs ds H1 G1 _ k1 r1 R1 q1 => ?_
  match ds, q1, r1 with
  | [d, e], q1, r1 =>
    obtain ⟨v, r, rfl, h1, w, r', rfl, h2, h3⟩ := r1
    cases (relL_nil.mp h3)
    exact ⟨v, w, rfl, hp.nx _ _ H1 G1 k1 (((hs.mono k1).set h1 i).set h2 j) R1 q1⟩
  | [], q1, _ => exact (show False from q1).elim
  | [_], q1, _ => exact (show False from q1).elim
  | _ :: _ :: _ :: _, q1, _ => exact (show False from q1).elim
end

/-! ### arguments, displays -/
@[simp] def daNil : DTA := fun _ G Q => Q [] G
@[simp] def daCons (ta : DTE) (tr : DTA) : DTA := fun sd G Q => ta sd G fun d G1 => tr sd G1 fun ds G2 => Q (d :: ds) G2
@[simp] def dTup (t : DTA) : DTE := fun sd G Q => t sd G fun ds G1 => Q (.tup ds) G1
@[simp] def dLst (t : DTA) : DTE := fun sd G Q => t sd G fun ds G1 => ∀ p, G1 p = none → Q (.ref p) (put G1 p (.lst ds))
section
variable {X : Cx} {B : Bx} {pos : Pos} {e : Expr} {es : List Expr} {te : DTE} {t : DTA}
theorem da_nil : DA X B [] daNil := ⟨_, pa_nil, fun σ H sd G Q P hs R t hp => hp [] [] H G rfl (.refl H) rfl R t⟩
theorem da_cons (ha : DE X B e te) (hr : DA X B es t) (hs : starEach (e :: es) X.env = (false, eval e X.env) :: starEach es X.env := by rfl) : DA X B (e :: es) (daCons te t) := by
  obtain ⟨te', pe, he⟩ := ha.ex
  obtain ⟨t', pa, ha⟩ := hr.ex
  refine ⟨_, pa_cons pe pa hs, fun σ H sd G Q P hs R t hp => ?_⟩
  refine he σ H sd G _ _ hs R t fun v d H1 G1 k1 r1 R1 q1 => ?_
  refine ha σ H1 sd G1 _ _ (hs.mono k1) R1 q1 fun vs ds H2 G2 n2 k2 r2 R2 q2 => ?_
  exact hp (v :: vs) (d :: ds) H2 G2 (by simp [n2]) (k1.trans k2) (relL_cons.mpr ⟨r1.mono k2, r2⟩) R2 q2
/-- displays are short -/
theorem de_tup {x1} (h : DA X B es t) (hz : es.length ≤ 1000 := by decide) : DE X B (.Tuple es x1 pos) (dTup t) := by
  obtain ⟨t', pa, ha⟩ := h.ex
  refine ⟨_, pe_tup pa, fun σ H sd G Q P hs R t hp => ?_⟩
  refine ha σ H sd G _ _ hs R t fun vs ds H1 G1 n1 k1 r1 R1 q1 => ?_
  refine ⟨by rw [← r1.length, n1]; exact Nat.le_trans hz (by decide), fun p hp1 => ?_⟩
  exact hp _ (.tup ds) _ G1 (k1.trans (.fresh hp1)) ⟨p, vs, rfl, upd_same, r1.mono (.fresh hp1), by rw [n1]; exact Nat.le_trans hz (by decide)⟩ (R1.fresh hp1) q1
theorem de_lst (h : DA X B es t) (hz : es.length ≤ 1000 := by decide) : DE X B (.List es pos) (dLst t) := by
  obtain ⟨t', pa, ha⟩ := h.ex
  refine ⟨_, pe_lst pa, fun σ H sd G Q P hs R t hp => ?_⟩
  refine ha σ H sd G _ _ hs R t fun vs ds H1 G1 n1 k1 r1 R1 q1 => ?_
  refine ⟨by rw [← r1.length, n1]; exact Nat.le_trans hz (by decide), fun p hp1 => ?_⟩
  exact hp _ (.ref p) _ _ (k1.trans (.fresh hp1)) rfl (R1.laid (o := .lst ds) hp1 ⟨vs, upd_same, r1.mono (.fresh hp1), by rw [n1]; exact Nat.le_trans hz (by decide)⟩) (q1 p (R1.gnone hp1))
end

/-! ### the uniform reading -/
def LE (K : PySem.W.Frag) (B : Bx) (t : DTE) : TE := fun σ H P => ∃ sd G Q, RelS H σ sd ∧ Rep K B H G ∧ t sd G Q ∧ PostE K B H Q P
def LT (K : PySem.W.Frag) (B : Bx) (t : DTT) : TT := fun σ H P => ∃ sd G Q, RelS H σ sd ∧ Rep K B H G ∧ t sd G Q ∧ PostT K B H Q P
def LG (K : PySem.W.Frag) (B : Bx) (ws : List Nat) (t : DTG) : TG := fun v σ H P => ∃ d sd G Q, Rel H d v ∧ RelS H σ sd ∧ Rep K B H G ∧ t d sd G Q ∧ PostG K B ws σ H Q P
section
variable {X : Cx} {B : Bx} {e : Expr} {t : DTE} {tt : DTT} {g : DTG} {ws : List Nat}
theorem DE.pe (h : DE X B e t) : PE X e (LE X.K B t) := by
  obtain ⟨te, p, w⟩ := h.ex
  exact ⟨fun pins s σ H Q I ⟨sd, G, Q', h1, h2, h3, h4⟩ => p.run pins s σ H Q I (w σ H sd G Q' Q h1 h2 h3 h4)⟩
theorem DT.pt (h : DT X B e tt) : PT X e (LT X.K B tt) := by
  obtain ⟨te, p, w⟩ := h.ex
  exact ⟨fun pins s σ H Q I ⟨sd, G, Q', h1, h2, h3, h4⟩ => p.run pins s σ H Q I (w σ H sd G Q' Q h1 h2 h3 h4)⟩
theorem DG.pg (h : DG X B e ws g) : PG X e (LG X.K B ws g) := by
  obtain ⟨te, p, w⟩ := h.ex
  exact ⟨fun pins s σ H v u Q I r ⟨d, sd, G, Q', h0, h1, h2, h3, h4⟩ => p.run pins s σ H v u Q I r (w v d σ H sd G Q' Q h0 h1 h2 h3 h4)⟩
end
end DL
set_option Elab.async false
set_option linter.all false
set_option maxRecDepth 100000
set_option maxHeartbeats 4000000
namespace DL
open PySem PySem.Spec L2

/-! ### what a loop walks -/
structure ItsD (K : PySem.W.Frag) (B : Bx) (H1 : Hp) (items : List D) (stay : Gp → Prop) (J : It) : Prop where
  len : items.length ≤ sizeLine
  ex : ∃ (GG : Hp → Prop) (Y : Nat → Hp → V → Hp → Prop), Walk J items.length GG Y ∧ (∀ H G, Kp H1 H → Rep K B H G → stay G → GG H) ∧
    (∀ i H G x H', i < items.length → Kp H1 H → Rep K B H G → stay G → Y i H x H' → ∃ d, items[i]? = some d ∧ Rel H' d x ∧ Kp H H' ∧ Rep K B H' G)
abbrev DTI := SD → Gp → (List D → (Gp → Prop) → Gp → Prop) → Prop
structure DI (X : Cx) (B : Bx) (tg iter : Expr) (t : DTI) : Prop where
  ex : ∃ wi : TI, PI X tg iter wi ∧ ∀ σ H sd G QD R, RelS H σ sd → Rep X.K B H G → t sd G QD →
    (∀ J items stay H1 G1, Kp H H1 → Rep X.K B H1 G1 → ItsD X.K B H1 items stay J → QD items stay G1 → R J H1) → wi σ H R

/-! ### for -/
def dForL (stay : Gp → Prop) (g : DTG) (tb : DTS) (DD : DEnds) : List D → SD → Gp → Prop
  | [], sd, G => DD.nx sd G
  | x :: xs, sd, G => g x sd G fun sd1 G1 => tb { DD with nx := fun sd2 G2 => stay G2 ∧ dForL stay g tb DD xs sd2 G2, ct := fun sd2 G2 => stay G2 ∧ dForL stay g tb DD xs sd2 G2, bk := DD.nx } sd1 G1
def dFor (ti : DTI) (g : DTG) (tb : DTS) : DTS := fun DD sd G => ti sd G fun items stay G1 => stay G1 ∧ dForL stay g tb DD items sd G1
theorem drop_at {α : Type} {l : List α} {i : Nat} {d : α} (h : l[i]? = some d) : l.drop i = d :: l.drop (i + 1) := by
  obtain ⟨hl, e⟩ := List.getElem?_eq_some_iff.mp h
  rw [List.drop_eq_getElem_cons hl, e]
section
variable {X : Cx} {B : Bx} {tg iter : Expr} {body : List Stmt} {ti : DTI} {g : DTG} {tb : DTS} {ws : List Nat} {pos : Pos}
theorem ds_for (hp : PassesOwn (model X.prog X.w) X.A X.env X.xe) (hc : X.calm = true) (hi : DI X B tg iter ti) (hg : DG X B tg ws g) (hb : DSs X B body tb)
    (hs : ∀ x, foldedSetIterable iter X.env x = pure x := by intro _; rfl) : DS X B (.For tg iter body [] pos) (dFor ti g tb) := by
  obtain ⟨wi, pi, hi⟩ := hi.ex
  obtain ⟨g', pg, hg⟩ := hg.ex
  obtain ⟨tb', pb, hb⟩ := hb.ex
  refine ⟨_, ps_for hp hc pi pg pb hs, fun σ H sd G DD D hS R t hP => ?_⟩
  refine hi σ H sd G _ _ hS R t fun J items stay H1 G1 k1 R1 its q => ?_
  obtain ⟨GG, Y, w, link, yld⟩ := its.ex
  refine for_it w (fun i σ' H' => ∃ sd' G', RelS H' σ' sd' ∧ Rep X.K B H' G' ∧ Kp H1 H' ∧ stay G' ∧ dForL stay g tb DD (items.drop i) sd' G')
    ⟨sd, G1, hS.mono k1, R1, .refl H1, q.1, q.2⟩ (fun i σ' H' _ ⟨sd', G', h1, h2, h3, h4, _⟩ => link H' G' h3 h2 h4) ?_ ?_
  · rintro i x σ2 H2 H2' hlt ⟨sd2, G2, h1, h2, h3, h4, h5⟩ y
    obtain ⟨d, e, r, k2, R2⟩ := yld i H2 G2 x H2' hlt h3 h2 h4 y
    rw [drop_at e] at h5
    refine hg x d σ2 H2' sd2 G2 _ _ r (h1.mono k2) R2 h5 fun σ3 sd3 H3 G3 o3 k3 hs3 R3 q3 => ?_
    have kk : Kp H H3 := k1.trans (h3.trans (k2.trans k3))
    refine hb σ3 H3 sd3 G3 _ _ hs3 R3 q3 ⟨fun σ4 sd4 H4 G4 k4 hs4 R4 q4 => ?_, hP.rt.mono kk, hP.nx.mono kk, fun σ4 sd4 H4 G4 k4 hs4 R4 q4 => ?_⟩
    · exact ⟨sd4, G4, hs4, R4, h3.trans (k2.trans (k3.trans k4)), q4.1, q4.2⟩
    · exact ⟨sd4, G4, hs4, R4, h3.trans (k2.trans (k3.trans k4)), q4.1, q4.2⟩
  · rintro σ2 H2 ⟨sd2, G2, h1, h2, h3, h4, h5⟩
    rw [List.drop_length] at h5
    exact hP.nx σ2 sd2 H2 G2 (k1.trans h3) h1 h2 h5
end

/-! ### list comprehensions -/
@[simp] def dwipe (sd : SD) : List Nat → SD
  | [] => sd
  | v :: vs => (dwipe sd vs).set v none
theorem RelS.wipe {H : Hp} {σ : St} {sd : SD} (h : RelS H σ sd) : ∀ vs : List Nat, RelS H (wipe σ vs) (dwipe sd vs)
  | [] => h
  | v :: vs => (RelS.wipe h vs).drop v none
theorem wipe_get (σ : St) (i : Nat) : ∀ vs : List Nat, (wipe σ vs)[i]? = if i ∈ vs then (if i < σ.length then some none else none) else σ[i]?
  | [] => by simp [wipe]
  | v :: vs => by
    unfold wipe
    by_cases hv : v = i
    · subst hv
      rw [List.getElem?_set]
      simp [wipe_length]
    · rw [List.getElem?_set_ne hv, wipe_get σ i vs]
      have hv' : ¬ i = v := fun z => hv z.symm
      simp [List.mem_cons, hv']
theorem wipe_only {σ σ2 : St} {vs : List Nat} (o : Only vs (wipe σ vs) σ2) : wipe σ2 vs = wipe σ vs := by
  have hl : σ2.length = σ.length := o.1.trans (wipe_length σ vs)
  refine List.ext_getElem? fun i => ?_
  rw [wipe_get, hl]
  by_cases h : i ∈ vs
  · rw [if_pos h, wipe_get, if_pos h]
  · rw [if_neg h, o.2 i h]
structure DTs (X : Cx) (B : Bx) (ifs : List Expr) (t : DTT) : Prop where
  pts : PTs X ifs (LT X.K B t)
@[simp] def dYes : DTT := fun _ G Q => Q true G
theorem dts_nil {X : Cx} {B : Bx} : DTs X B [] dYes := ⟨⟨fun pins s σ H Q I ⟨sd, G, Q', h1, h2, h3, h4⟩ => pts_nil.run pins s σ H Q I (h4 true H G (.refl H) h2 h3)⟩⟩
theorem dts_one {X : Cx} {B : Bx} {c : Expr} {t : DTT} (h : DT X B c t) : DTs X B [c] t := ⟨pts_one h.pt⟩

def dcL (stay : Gp → Prop) (g : DTG) (tt : DTT) (te : DTE) (sdw : SD) (p : Addr) (Q : Gp → Prop) : List D → List D → Gp → Prop
  | [], _, G => Q G
  | x :: xs, acc, G => g x sdw G fun sd2 G2 => tt sd2 G2 fun b G3 =>
      if b = true then te sd2 G3 fun y G4 => G4 p = some (.lst acc) ∧ stay (put G4 p (.lst (acc ++ [y]))) ∧ dcL stay g tt te sdw p Q xs (acc ++ [y]) (put G4 p (.lst (acc ++ [y]))) else stay G3 ∧ dcL stay g tt te sdw p Q xs acc G3
def dComp (ti : DTI) (g : DTG) (tt : DTT) (te : DTE) (vs : List Nat) : DTE := fun sd G Q => ti sd G fun items stay G1 => stay G1 ∧
  ∀ p, G1 p = none → stay (put G1 p (.lst [])) ∧ dcL stay g tt te (dwipe sd vs) p (Q (.ref p)) items [] (put G1 p (.lst []))
section
variable {X : Cx} {B : Bx} {elt tg iter : Expr} {ifs : List Expr} {scope : Scope} {own : List (Str × Nat)} {pos : Pos} {ti : DTI} {g : DTG} {tt : DTT} {te : DTE} {ws : List Nat}
theorem comp_at {wi : TI} {σ : L2.St} {H : Hp} {sd : SD} {G : Gp} {Q : DQ} {P : VK} {vs : List Nat}
    (hi : ∀ σ H sd G QD R, RelS H σ sd → Rep X.K B H G → ti sd G QD → (∀ J items stay H1 G1, Kp H H1 → Rep X.K B H1 G1 → ItsD X.K B H1 items stay J → QD items stay G1 → R J H1) → wi σ H R)
    (hws : ∀ i ∈ ws, i ∈ vs) (hS : RelS H σ sd) (R : Rep X.K B H G) (t : dComp ti g tt te vs sd G Q) (hP : PostE X.K B H Q P) : tLc wi (LG X.K B ws g) (LT X.K B tt) (LE X.K B te) vs σ H P := by
  refine hi σ H sd G _ _ hS R t fun J items stay H1 G1 k1 R1 its q => ?_
  obtain ⟨GG, Y, w, link, yld⟩ := its.ex
  intro D hD
  have gD := R1.gnone hD
  obtain ⟨q0, q⟩ := q
  obtain ⟨q1, q⟩ := q D gD
  have R2 : Rep X.K B (upd H1 D (.lst [])) (put G1 D (.lst [])) := R1.laid (o := .lst []) hD ⟨[], upd_same, rfl, Nat.zero_le _⟩
  have kD : Kp H1 (upd H1 D (.lst [])) := .fresh hD
  refine lc_it w (fun i H' => ∃ acc G', Rep X.K B H' G' ∧ Kp H1 H' ∧ stay G' ∧ acc.length ≤ i ∧ dcL stay g tt te (dwipe sd vs) D (Q (.ref D)) (items.drop i) acc G')
    ⟨[], _, R2, kD, q1, Nat.le_refl _, q⟩ (fun i H' _ ⟨acc, G', h1, h2, h3, _⟩ => link H' G' h2 h1 h3) ?_ ?_
  · rintro i x H2 H2' hlt ⟨acc, G2, h1, h2, h3, h4, h5⟩ y
    obtain ⟨d, e, r, k2, R3⟩ := yld i H2 G2 x H2' hlt h2 h1 h3 y
    rw [drop_at e] at h5
    have kk : Kp H H2' := k1.trans (h2.trans k2)
    refine ⟨d, dwipe sd vs, G2, _, r, (hS.mono kk).wipe vs, R3, h5, fun σ3 sd3 H3 G3 o3 k3 hs3 R3 q3 => ⟨wipe_only (o3.mono hws), ?_⟩⟩
    refine ⟨sd3, G3, _, hs3, R3, q3, fun b H4 G4 k4 R4 q4 => ?_⟩
    cases b with
    | true =>
      rw [if_pos rfl]
      rw [if_pos rfl] at q4
      refine ⟨sd3, G4, _, hs3.mono k4, R4, q4, fun v f H5 G5 k5 r5 R5 q5 => ?_⟩
      obtain ⟨g5, s5, q5⟩ := q5
      obtain ⟨xs, e5, rl, z5⟩ := R5.at_ D _ g5
      have hz : xs.length < sizeLine := by
        rw [← rl.length]
        exact Nat.lt_of_le_of_lt h4 (Nat.lt_of_lt_of_le hlt its.len)
      have kw : Kp H5 (upd H5 D (.lst (xs ++ [v]))) := .write e5 fun _ z => nomatch z
      refine ⟨xs, e5, hz, acc ++ [f], put G5 D (.lst (acc ++ [f])), R5.write e5 (fun _ z => nomatch z) ⟨_, upd_same, (rl.mono kw).append (.one (r5.mono kw)), by simp [rl.length]; omega⟩, ?_, s5, by simp; omega, q5⟩
      exact h2.trans (k2.trans (k3.trans (k4.trans (k5.trans kw))))
    | false =>
      rw [if_neg (by decide)]
      rw [if_neg (by decide)] at q4
      exact ⟨acc, G4, R4, h2.trans (k2.trans (k3.trans k4)), q4.1, by omega, q4.2⟩
  · rintro H2 ⟨acc, G2, h1, h2, h3, h4, h5⟩
    rw [List.drop_length] at h5
    exact hP (.ref D) (.ref D) H2 G2 (k1.trans h2) rfl h1 h5
theorem de_lc (hc : X.calm = true) (hN : X.N.Nodup) (hi : DI X B tg iter ti) (ok : BlkOk X.N X.env.scope scope own) (hws : ∀ i ∈ ws, i ∈ own.map (·.2))
    (hg : ∀ (s : Shared) (H : Hp) (C : Addr) (cl : List (Str × Addr)) (fp : List Addr), DG (X.blk s H scope (compEnvC scope cl C X.env) fp) B tg ws g)
    (ht : ∀ (s : Shared) (H : Hp) (C : Addr) (cl : List (Str × Addr)) (fp : List Addr), DTs (X.blk s H scope (compEnvC scope cl C X.env) fp) B ifs tt)
    (he : ∀ (s : Shared) (H : Hp) (C : Addr) (cl : List (Str × Addr)) (fp : List Addr), DE (X.blk s H scope (compEnvC scope cl C X.env) fp) B elt te)
    (hs : ∀ x, foldedSetIterable iter X.env x = pure x := by intro _; rfl) : DE X B (.ListComp elt [⟨tg, iter, ifs, 0⟩] scope pos) (dComp ti g tt te (own.map (·.2))) := by
  obtain ⟨wi, pi, hi⟩ := hi.ex
  exact ⟨_, pe_lc (g := LG X.K B ws g) (tt := LT X.K B tt) (te := LE X.K B te) hc hN pi ok (fun s H C cl fp => (hg s H C cl fp).pg) (fun s H C cl fp => (ht s H C cl fp).pts) (fun s H C cl fp => (he s H C cl fp).pe) hs,
    fun σ H sd G Q P hS R t hP => comp_at (X := X) hi hws hS R t hP⟩
theorem ds_setLc {i : Nat} {y : Str} {py spos : Pos} (hc : X.calm = true) (hN : X.N.Nodup) (hy : X.N[i]? = some y) (hyl : X.env.scope.names.lookup y = some .local)
    (hsw : swapsWith (.ListComp elt [⟨tg, iter, ifs, 0⟩] scope pos) (some (.Name y py)) spos.line X.env = pure true) (hi : DI X B tg iter ti) (ok : BlkOk X.N X.env.scope scope own) (hws : ∀ i ∈ ws, i ∈ own.map (·.2))
    (hg : ∀ (s : Shared) (H : Hp) (C : Addr) (cl : List (Str × Addr)) (fp : List Addr), DG (X.blk s H scope (compEnvC scope cl C X.env) fp) B tg ws g)
    (ht : ∀ (s : Shared) (H : Hp) (C : Addr) (cl : List (Str × Addr)) (fp : List Addr), DTs (X.blk s H scope (compEnvC scope cl C X.env) fp) B ifs tt)
    (he : ∀ (s : Shared) (H : Hp) (C : Addr) (cl : List (Str × Addr)) (fp : List Addr), DE (X.blk s H scope (compEnvC scope cl C X.env) fp) B elt te)
    (hs : ∀ x, foldedSetIterable iter X.env x = pure x := by intro _; rfl) : DS X B (.Assign [.Name y py] (.ListComp elt [⟨tg, iter, ifs, 0⟩] scope pos) spos) (dAsg (dComp ti g tt te (own.map (·.2))) (dgName i)) := by
  obtain ⟨wi, pi, hi⟩ := hi.ex
  refine ⟨_, ps_setLc (g := LG X.K B ws g) (tt := LT X.K B tt) (te := LE X.K B te) hc hN hy hyl hsw pi ok (fun s H C cl fp => (hg s H C cl fp).pg) (fun s H C cl fp => (ht s H C cl fp).pts) (fun s H C cl fp => (he s H C cl fp).pe) hs, fun σ H sd G DD D hS R t hP => ?_⟩
  refine comp_at (X := X) hi hws hS R t fun v d H1 G1 k1 r1 R1 q1 => ?_
  exact hP.nx _ _ H1 G1 k1 ((hS.mono k1).set r1 i) R1 q1
end

/-! ### comprehensions that only look -/
def Ext (G G' : Gp) : Prop := ∀ a o, G a = some o → G' a = some o
theorem Ext.refl (G : Gp) : Ext G G := fun _ _ h => h
theorem Ext.trans {G G1 G2 : Gp} (a : Ext G G1) (b : Ext G1 G2) : Ext G G2 := fun c o h => b c o (a c o h)
theorem Ext.put {G : Gp} {p : Addr} {o : DO} (h : G p = none) : Ext G (put G p o) := fun c u e => by
  rw [put_ne (fun z => by rw [z, h] at e; cases e)]
  exact e
/-- one turn: f x = some y: y is put; none: passed by -/
def turnIs (g : DTG) (tt : DTT) (te : DTE) (sdw : SD) (x : D) (G : Gp) (r : Option D) : Prop :=
  ∀ (Qs : D → Gp → Prop) (Qn : Gp → Prop), r.elim (Qn G) (fun y => Qs y G) → g x sdw G fun sd2 G2 => tt sd2 G2 fun b G3 => if b = true then te sd2 G3 Qs else Qn G3
theorem dcL_pure {stay : Gp → Prop} {g : DTG} {tt : DTT} {te : DTE} {sdw : SD} {p : Addr} {Q : Gp → Prop} (f : D → Option D) {G : Gp} (hp : G p = none) (hst : ∀ ys, stay (put G p (.lst ys))) :
    ∀ (items acc : List D), (∀ x ∈ items, ∀ ys, turnIs g tt te sdw x (put G p (.lst ys)) (f x)) → Q (put G p (.lst (acc ++ items.filterMap f))) → dcL stay g tt te sdw p Q items acc (put G p (.lst acc))
  | [], acc, _, q => by simpa [dcL] using q
  | x :: xs, acc, h, q => by
    have ih : ∀ acc', Q (put G p (.lst (acc' ++ xs.filterMap f))) → dcL stay g tt te sdw p Q xs acc' (put G p (.lst acc')) := fun acc' q' => dcL_pure f hp hst xs acc' (fun y hy => h y (List.mem_cons_of_mem _ hy)) q'
    refine h x List.mem_cons_self acc _ _ ?_
    cases e : f x with
    | none =>
      refine ⟨hst _, ih acc ?_⟩
      rw [List.filterMap_cons, e] at q
      exact q
    | some y =>
      rw [List.filterMap_cons, e] at q
      show put G p (DO.lst acc) p = some (DO.lst acc) ∧ stay (put (put G p (DO.lst acc)) p (DO.lst (acc ++ [y]))) ∧ dcL stay g tt te sdw p Q xs (acc ++ [y]) (put (put G p (DO.lst acc)) p (DO.lst (acc ++ [y])))
      rw [put_put]
      exact ⟨put_same, hst _, ih _ (by simpa using q)⟩
end DL
set_option Elab.async false
set_option linter.all false
set_option maxRecDepth 100000
set_option maxHeartbeats 4000000
namespace DL
open PySem PySem.Spec L2

/-! ### what is walked -/
def iSeq (K : PySem.W.Frag) (te : TE) : TI := fun σ H R => te σ H fun x H1 => ∃ a, x = .ref a ∧ (((∃ xs, SqL K H1 a xs) ∧ R (Itl K a) H1) ∨ ((∃ xs, SqT K H1 a xs) ∧ R (Itt K a) H1))
theorem pi_seq {X : Cx} {tg l : Expr} {tl : TE} (hl : PE X l tl) : PI X tg l (iSeq X.K tl) := by
  refine ⟨fun pins s σ H R I h => ?_⟩
  refine thn (hl.run pins s σ H _ I h) fun v s1 ⟨x, H1, I1, r1, q1⟩ => ?_
  obtain ⟨a, e, q1⟩ := q1
  subst e
  cases r1
  rcases q1 with ⟨⟨xs, hq⟩, q⟩ | ⟨⟨xs, hq⟩, q⟩
  · obtain ⟨its, rv, p, hz⟩ := I1.list hq
    refine wpAny_pyIter_list p.isList ?_
    refine ⟨s1.heap.objs.size, [s1.heap.objs.size], _, _, H1, rfl, I1.kept (t' := s1.toks) fun b o e => Heap.get?_push_of_some _ e, turn_list a _, ⟨_, Heap.get?_push_size _ rfl, rfl, rfl⟩, fun b hb => ?_, q⟩
    have e : b = s1.heap.objs.size := by simpa using hb
    subst e
    exact I1.fpOk (Nat.le_refl _) (I1.hok.fresh (Nat.le_refl _))
  · obtain ⟨its, rv, p, hz⟩ := I1.tuple hq
    refine wpAny_pyIter_tuple (show s1.heap.IsTuple a its.toArray from p) ?_
    refine ⟨s1.heap.objs.size, [s1.heap.objs.size], _, _, H1, rfl, I1.kept (t' := s1.toks) fun b o e => Heap.get?_push_of_some _ e, turn_tuple a _, ⟨_, Heap.get?_push_size _ rfl, rfl, rfl⟩, fun b hb => ?_, q⟩
    have e : b = s1.heap.objs.size := by simpa using hb
    subst e
    exact I1.fpOk (Nat.le_refl _) (I1.hok.fresh (Nat.le_refl _))
/-- a list to be read -/
def IsLst (G : Gp) (a : Addr) (ds : List D) : Prop := G a = some (.lst ds) ∨ G a = some (.rol ds)
/-- a list, of it -/
def lstO (o : DO) (P : List D → Prop) : Prop := match o with
  | .lst ds => P ds
  | .rol ds => P ds
  | _ => False
theorem lstO_is {G : Gp} {a : Addr} {o : DO} {P : List D → Prop} (h : G a = some o) (q : lstO o P) : ∃ ds, IsLst G a ds ∧ P ds ∧ (o = .lst ds ∨ o = .rol ds) := by
  cases o with
  | lst ds => exact ⟨ds, .inl h, q, .inl rfl⟩
  | rol ds => exact ⟨ds, .inr h, q, .inr rfl⟩
  | _ => exact (show False from q).elim
def diSeq (te : DTE) : DTI := fun sd G R => te sd G fun d G1 => match d with
  | .tup ds => R ds (fun _ => True) G1
  | .ref a => ∃ o, G1 a = some o ∧ lstO o fun ds => R ds (fun G => G a = some o) G1
  | _ => False
section
variable {X : Cx} {B : Bx} {tg e : Expr} {te : DTE} {ta : DTA} {pos p : Pos}
theorem lstRd {K : PySem.W.Frag} {H : Hp} {G : Gp} {a : Addr} {ds : List D} (R : Rep K B H G) (h : IsLst G a ds) : ∃ xs, Rd H a (.lst xs) ∧ RelL H ds xs ∧ ds.length ≤ sizeLine := by
  rcases h with h | h
  · obtain ⟨xs, h1, h2, h3⟩ := R.at_ a _ h
    exact ⟨xs, .inl h1, h2, h3⟩
  · exact R.at_ a _ h
theorem itsL {K : PySem.W.Frag} {H1 : Hp} {a : Addr} {ds : List D} {o : DO} (ho : o = .lst ds ∨ o = .rol ds) (hz : ds.length ≤ sizeLine) : ItsD K B H1 ds (fun G => G a = some o) (Itl K a) := by
  have rd : ∀ {H : Hp} {G : Gp}, Rep K B H G → G a = some o → ∃ xs, Rd H a (.lst xs) ∧ RelL H ds xs ∧ ds.length ≤ sizeLine := fun {H G} R g => lstRd R (by rcases ho with rfl | rfl <;> simp [IsLst, g])
  refine ⟨hz, fun H => ∃ xs, SqL K H a xs ∧ xs.length = ds.length, fun i H x H' => H' = H ∧ ∀ xs, SqL K H a xs → xs[i]? = some x, ⟨fun i H hi ⟨xs, h1, h2⟩ => ⟨xs, xs[i]'(by omega), h1, by simp [h2, hi]⟩, fun H ⟨xs, h1, h2⟩ => ⟨xs, h1, by omega⟩, fun i H x H' hi _ y => y⟩, ?_, ?_⟩
  · intro H G k R st
    obtain ⟨xs, h1, h2, _⟩ := rd R st
    exact ⟨xs, .inl h1, h2.length.symm⟩
  · rintro i H G x H' hi k R st ⟨rfl, y⟩
    obtain ⟨xs, h1, h2, _⟩ := rd R st
    obtain ⟨v, e1, r⟩ := h2.get i (d := ds[i]) (by simp [hi])
    have e2 := y xs (.inl h1)
    rw [e1] at e2
    cases e2
    exact ⟨ds[i], by simp [hi], r, .refl _, R⟩
theorem di_seq (he : DE X B e te) : DI X B tg e (diSeq te) := by
  obtain ⟨te', pe, he⟩ := he.ex
  refine ⟨_, pi_seq pe, fun σ H sd G QD R hS R0 t hP => ?_⟩
  refine he σ H sd G _ _ hS R0 t fun v d H1 G1 k1 r1 R1 q1 => ?_
  cases d with
  | tup ds =>
    obtain ⟨a, xs, rfl, h1, h2, hz⟩ := r1
    refine ⟨a, rfl, .inr ⟨⟨xs, SqT.of h1⟩, ?_⟩⟩
    refine hP _ ds (fun _ => True) H1 G1 k1 R1 ⟨hz, fun H => SqT X.K H a xs, YAt xs, by rw [h2.length]; exact walk_tup, fun H G k _ _ => SqT.of (k _ _ h1), ?_⟩ q1
    rintro i H G x H' hi k R _ ⟨rfl, y⟩
    obtain ⟨v, e1, r⟩ := h2.get i (d := ds[i]) (by simp [hi])
    rw [e1] at y
    cases y
    exact ⟨ds[i], by simp [hi], r.mono k, .refl _, R⟩
  | ref a =>
    cases r1
    obtain ⟨o, g, q1⟩ := q1
    obtain ⟨ds, q, q1, ho⟩ := lstO_is g q1
    obtain ⟨xs, h1, h2, h3⟩ := lstRd R1 q
    exact ⟨a, rfl, .inl ⟨⟨xs, .inl h1⟩, hP _ ds _ H1 G1 k1 R1 (itsL ho h3) q1⟩⟩
  | _ => exact (show False from q1).elim
/-- range(n) -/
def rngD (lo : Int) (n : Nat) : List D := (List.range n).map fun i => .int (lo + (i : Nat))
def diRng (ta : DTA) : DTI := fun sd G R => ta sd G fun ds G1 => match ds with
  | [.int j] => -(2 ^ 62) ≤ j ∧ j ≤ 1000000 ∧ R (rngD 0 j.toNat) (fun _ => True) G1
  | _ => False
def diRng2 (ta : DTA) : DTI := fun sd G R => ta sd G fun ds G1 => match ds with
  | [.int i, .int j] => (-(2 ^ 62) ≤ i ∧ i ≤ 1000000 ∧ -(2 ^ 62) ≤ j ∧ j ≤ 1000000 ∧ j - i ≤ 1000000) ∧ R (rngD i (j - i).toNat) (fun _ => True) G1
  | _ => False
theorem itsR {K : PySem.W.Frag} {H1 : Hp} {lo : Int} {n : Nat} (hz : n ≤ sizeLine) : ItsD K B H1 (rngD lo n) (fun _ => True) (Itr lo n) := by
  refine ⟨by simpa [rngD] using hz, fun _ => True, YFn fun i => .int (lo + i), by simpa [rngD] using walk_range, fun _ _ _ _ _ => True.intro, ?_⟩
  rintro i H G x H' hi k R _ ⟨rfl, rfl⟩
  have hi' : i < n := by simpa [rngD] using hi
  exact ⟨.int (lo + (i : Nat)), by simp [rngD, hi'], rfl, .refl _, R⟩
theorem di_rng {a : Expr} (hg : Gl X "range") (hm : X.mg "range" = none) (ha : DA X B [a] ta) (hs : starEach [a] X.env = [(false, eval a X.env)] := by rfl) : DI X B tg (.Call (.Name "range" p) [a] [] pos) (diRng ta) := by
  obtain ⟨ta', pa, ha⟩ := ha.ex
  refine ⟨_, pi_range1 hg hm pa hs, fun σ H sd G QD R hS R0 t hP => ?_⟩
  refine ha σ H sd G _ _ hS R0 t fun vs ds H1 G1 _ k1 r1 R1 q1 => ?_
  match ds, q1, r1 with
  | [.int j], q1, r1 =>
    obtain ⟨q2, q3, q4⟩ := q1
    obtain ⟨v, r, rfl, h1, h2⟩ := r1
    cases (relL_nil.mp h2)
    cases h1
    have hz : j.toNat ≤ sizeLine := by rw [sizeLine_eq]; omega
    exact ⟨j, rfl, q2, by omega, hP _ _ _ H1 G1 k1 R1 (itsR hz) q4⟩
theorem di_rng2 {a b : Expr} (hg : Gl X "range") (hm : X.mg "range" = none) (ha : DA X B [a, b] ta) (hs : starEach [a, b] X.env = [(false, eval a X.env), (false, eval b X.env)] := by rfl) (hs2 : starEach [b] X.env = [(false, eval b X.env)] := by rfl) :
    DI X B tg (.Call (.Name "range" p) [a, b] [] pos) (diRng2 ta) := by
  obtain ⟨ta', pa, ha⟩ := ha.ex
  refine ⟨_, pi_range2 hg hm pa hs hs2, fun σ H sd G QD R hS R0 t hP => ?_⟩
  refine ha σ H sd G _ _ hS R0 t fun vs ds H1 G1 _ k1 r1 R1 q1 => ?_
  match ds, q1, r1 with
  | [.int i, .int j], q1, r1 =>
    obtain ⟨⟨q2, q3, q5, q6, q7⟩, q4⟩ := q1
    obtain ⟨v, r, rfl, h1, v', r', rfl, h1', h2⟩ := r1
    cases (relL_nil.mp h2)
    cases h1
    cases h1'
    have hz : (j - i).toNat ≤ sizeLine := by rw [sizeLine_eq]; omega
    exact ⟨i, j, rfl, ⟨q2, by omega, q5, by omega⟩, hP _ _ _ H1 G1 k1 R1 (itsR hz) q4⟩
end
end DL
set_option Elab.async false
set_option linter.all false
set_option maxRecDepth 100000
set_option maxHeartbeats 4000000
namespace DL
open PySem PySem.Spec L2

/-! ### arithmetic -/
def addR : DR2 := fun d e G Q => match d, e with
  | .int i, .int j => Q (.int (i + j)) G
  | .str x, .str y => x.length + y.length ≤ sizeLine ∧ Q (.str (x ++ y)) G
  | .tup x, .tup y => x.length + y.length ≤ sizeLine ∧ Q (.tup (x ++ y)) G
  | .ref a, .ref b => ∃ x y, G a = some (.lst x) ∧ G b = some (.lst y) ∧ x.length + y.length ≤ sizeLine ∧ ∀ p, G p = none → Q (.ref p) (put G p (.lst (x ++ y)))
  | _, _ => False
def subR : DR2 := fun d e G Q => match d, e with
  | .int i, .int j => Q (.int (i - j)) G
  | _, _ => False
def mulR : DR2 := fun d e G Q => match d, e with
  | .int i, .int j => CMul i j ∧ Q (.int (i * j)) G
  | .ref a, .int k => ∃ x, G a = some (.lst x) ∧ (-(2 ^ 63) ≤ k ∧ k < 2 ^ 63 ∧ x.length * k.toNat ≤ sizeLine) ∧ ∀ p, G p = none → Q (.ref p) (put G p (.lst (List.replicate k.toNat x).flatten))
  | _, _ => False
def modR : DR2 := fun d e G Q => match d, e with
  | .int i, .int j => 0 < j ∧ Q (.int (i % j)) G
  | _, _ => False
def divR : DR2 := fun d e G Q => match d, e with
  | .int i, .int j => CDiv i j ∧ Q (.int (i / j)) G
  | _, _ => False
def cmpR (p : Int → Int → Bool) : DR2 := fun d e G Q => match d, e with
  | .int i, .int j => Q (.bl (p i j)) G
  | _, _ => False
abbrev ltR := cmpR fun i j => decide (i < j)
abbrev leR := cmpR fun i j => decide (i ≤ j)
abbrev gtR := cmpR fun i j => decide (j < i)
abbrev geR := cmpR fun i j => decide (j ≤ i)
section
variable {X : Cx} {B : Bx}
/-- an operator of two ints -/
theorem dop_int {f : Value → Value → Sem Value} {g : Int → Int → V} {g' : Int → Int → D} {rD : DR2} (h : OpR X f (rI0 g)) (hD : ∀ d e G Q, rD d e G Q → ∃ i j, d = .int i ∧ e = .int j ∧ Q (g' i j) G) (hg : ∀ H i j, Rel H (g' i j) (g i j)) : DOp X B f rD := by
  refine ⟨_, h, fun H G x y d e Q P r1 r2 R q hp => ?_⟩
  obtain ⟨i, j, rfl, rfl, q2⟩ := hD d e G Q q
  cases r1
  cases r2
  exact ⟨i, j, rfl, rfl, hp _ _ H G (.refl H) (hg H i j) R q2⟩
theorem dop_intC {f : Value → Value → Sem Value} {C : Int → Int → Prop} {g : Int → Int → V} {g' : Int → Int → D} {rD : DR2} (h : OpR X f (rI C g)) (hD : ∀ d e G Q, rD d e G Q → ∃ i j, d = .int i ∧ e = .int j ∧ C i j ∧ Q (g' i j) G) (hg : ∀ H i j, Rel H (g' i j) (g i j)) : DOp X B f rD := by
  refine ⟨_, h, fun H G x y d e Q P r1 r2 R q hp => ?_⟩
  obtain ⟨i, j, rfl, rfl, c, q2⟩ := hD d e G Q q
  cases r1
  cases r2
  exact ⟨i, j, rfl, rfl, c, hp _ _ H G (.refl H) (hg H i j) R q2⟩
theorem op_sub : DOp X B (binaryOp .Sub) subR := dop_int (g' := fun i j => .int (i - j)) L2.op_sub (fun d e G Q h => by cases d <;> cases e <;> first | exact (show False from h).elim | exact ⟨_, _, rfl, rfl, h⟩) fun _ _ _ => rfl
theorem op_mod : DOp X B (binaryOp .Mod) modR := dop_intC (g' := fun i j => .int (i % j)) L2.op_mod (fun d e G Q h => by cases d <;> cases e <;> first | exact (show False from h).elim | exact ⟨_, _, rfl, rfl, h⟩) fun _ _ _ => rfl
theorem op_div : DOp X B (binaryOp .FloorDiv) divR := dop_intC (g' := fun i j => .int (i / j)) L2.op_fdiv (fun d e G Q h => by cases d <;> cases e <;> first | exact (show False from h).elim | exact ⟨_, _, rfl, rfl, h⟩) fun _ _ _ => rfl
theorem op_lt : DOp X B (compareOp .Lt) ltR := dop_int (g' := fun i j => .bl (decide (i < j))) L2.op_lt (fun d e G Q h => by cases d <;> cases e <;> first | exact (show False from h).elim | exact ⟨_, _, rfl, rfl, h⟩) fun _ _ _ => rfl
theorem op_le : DOp X B (compareOp .LtE) leR := dop_int (g' := fun i j => .bl (decide (i ≤ j))) L2.op_le (fun d e G Q h => by cases d <;> cases e <;> first | exact (show False from h).elim | exact ⟨_, _, rfl, rfl, h⟩) fun _ _ _ => rfl
theorem op_gt : DOp X B (compareOp .Gt) gtR := dop_int (g' := fun i j => .bl (decide (j < i))) L2.op_gt (fun d e G Q h => by cases d <;> cases e <;> first | exact (show False from h).elim | exact ⟨_, _, rfl, rfl, h⟩) fun _ _ _ => rfl
theorem op_ge : DOp X B (compareOp .GtE) geR := dop_int (g' := fun i j => .bl (decide (j ≤ i))) L2.op_ge (fun d e G Q h => by cases d <;> cases e <;> first | exact (show False from h).elim | exact ⟨_, _, rfl, rfl, h⟩) fun _ _ _ => rfl
theorem okS_append {x y : Str} (hx : OkS x) (hy : OkS y) : OkS (x ++ y) := by
  unfold OkS PyData.strOk at *
  have e : (x ++ y).cps = x.cps ++ y.cps := rfl
  rw [e, Array.all_append, hx, hy]
  rfl
theorem tup_new {K : PySem.W.Frag} {H : Hp} {G : Gp} {p : Addr} {ds : List D} {xs : List V} (n : H p = none) (r : RelL H ds xs) (z : ds.length ≤ sizeLine) (R : Rep K B H G) : Kp H (upd H p (.tup xs)) ∧ Rel (upd H p (.tup xs)) (.tup ds) (.ref p) ∧ Rep K B (upd H p (.tup xs)) G :=
  ⟨.fresh n, ⟨p, xs, rfl, upd_same, r.mono (.fresh n), z⟩, R.fresh n⟩
theorem lst_new {K : PySem.W.Frag} {H : Hp} {G : Gp} {p : Addr} {ds : List D} {xs : List V} (n : H p = none) (r : RelL H ds xs) (z : ds.length ≤ sizeLine) (R : Rep K B H G) : Kp H (upd H p (.lst xs)) ∧ Rep K B (upd H p (.lst xs)) (put G p (.lst ds)) :=
  ⟨.fresh n, R.laid n ⟨xs, upd_same, r.mono (.fresh n), z⟩⟩
theorem lst_at {K : PySem.W.Frag} {H : Hp} {G : Gp} {a : Addr} {ds : List D} (R : Rep K B H G) (h : G a = some (.lst ds)) : ∃ xs, H a = some (.lst xs) ∧ RelL H ds xs ∧ ds.length ≤ sizeLine := R.at_ a _ h
theorem op_add : DOp X B (binaryOp .Add) addR := by
  refine ⟨_, (L2.op_add.or (L2.op_add_str.or (L2.op_catA.or L2.op_cat))), fun H G x y d e Q P r1 r2 R q hp => ?_⟩
  cases d with
  | int i =>
    cases e <;> first | exact (show False from q).elim | skip
    cases r1
    cases r2
    exact .inl ⟨_, _, rfl, rfl, hp _ (.int _) H G (.refl H) rfl R q⟩
  | str i =>
    cases e <;> first | exact (show False from q).elim | skip
    rename_i j
    obtain ⟨rfl, o1⟩ := r1
    obtain ⟨rfl, o2⟩ := r2
    exact .inr (.inl ⟨_, _, rfl, rfl, q.1, hp _ (.str (i ++ j)) H G (.refl H) ⟨rfl, okS_append o1 o2⟩ R q.2⟩)
  | tup ds =>
    cases e <;> first | exact (show False from q).elim | skip
    rename_i es
    obtain ⟨a, xs, rfl, h1, h2, h3⟩ := r1
    obtain ⟨b, ys, rfl, h1', h2', h3'⟩ := r2
    have q' : ds.length + es.length ≤ sizeLine ∧ Q (.tup (ds ++ es)) G := q
    refine .inr (.inr (.inl ⟨a, b, xs, ys, rfl, rfl, SqT.of h1, SqT.of h1', by rw [← h2.length, ← h2'.length]; exact q'.1, fun e => ?_, fun e e2 => ?_, fun _ _ p hn => ?_⟩))
    · have z : ds = [] := List.eq_nil_of_length_eq_zero (by rw [h2.length, e]; rfl)
      subst z
      exact hp _ (.tup es) H G (.refl H) ⟨b, ys, rfl, h1', h2', h3'⟩ R q'.2
    · have z : es = [] := List.eq_nil_of_length_eq_zero (by rw [h2'.length, e2]; rfl)
      subst z
      rw [List.append_nil] at q'
      exact hp _ (.tup ds) H G (.refl H) ⟨a, xs, rfl, h1, h2, h3⟩ R q'.2
    · obtain ⟨k, r, R'⟩ := tup_new hn (h2.append h2') (by rw [List.length_append]; exact q'.1) R
      exact hp _ _ _ G k r R' q'.2
  | ref a =>
    cases e <;> first | exact (show False from q).elim | skip
    rename_i b
    obtain ⟨xd, yd, h1, h2, hz, q⟩ := q
    cases r1
    cases r2
    obtain ⟨xs, e1, r1, _⟩ := lst_at R h1
    obtain ⟨ys, e2, r2, _⟩ := lst_at R h2
    refine .inr (.inr (.inr ⟨a, b, xs, ys, rfl, rfl, e1, e2, by rw [← r1.length, ← r2.length]; exact hz, fun p hn => ?_⟩))
    obtain ⟨k, R'⟩ := lst_new hn (r1.append r2) (by rw [List.length_append]; exact hz) R
    exact hp _ (.ref p) _ _ k rfl R' (q p (R.gnone hn))
  | _ => exact (show False from q).elim
theorem op_mul : DOp X B (binaryOp .Mult) mulR := by
  refine ⟨_, (L2.op_mul.or L2.op_rep), fun H G x y d e Q P r1 r2 R q hp => ?_⟩
  cases d with
  | int i =>
    cases e <;> first | exact (show False from q).elim | skip
    cases r1
    cases r2
    exact .inl ⟨_, _, rfl, rfl, q.1, hp _ (.int _) H G (.refl H) rfl R q.2⟩
  | ref a =>
    cases e <;> first | exact (show False from q).elim | skip
    rename_i k
    obtain ⟨xd, h1, ⟨hz1, hz2, hz⟩, q⟩ := q
    cases r1
    cases r2
    obtain ⟨xs, e1, r1, _⟩ := lst_at R h1
    refine .inr ⟨a, k, xs, rfl, rfl, e1, hz1, hz2, by rw [← r1.length]; exact hz, fun p hn => ?_⟩
    obtain ⟨kp, R'⟩ := lst_new hn (r1.rep k.toNat) (by rw [(r1.rep k.toNat).length]; simp [← r1.length, Nat.mul_comm] at hz ⊢; exact hz) R
    exact hp _ (.ref p) _ _ kp rfl R' (q p (R.gnone hn))
  | _ => exact (show False from q).elim
end
end DL
set_option Elab.async false
set_option linter.all false
set_option maxRecDepth 100000
set_option maxHeartbeats 4000000
namespace DL
open PySem PySem.Spec L2

/-! ### data: no references, a depth -/
def dat : Nat → D → Bool
  | _, .non => true
  | _, .bl _ => true
  | _, .int _ => true
  | _, .str _ => true
  | n + 1, .tup ds => ds.all (dat n)
  | _, _ => false
mutual
def toPD : D → PyData
  | .non => .none
  | .bl b => .bool b
  | .int i => .int i
  | .str s => .str s
  | .tup ds => .tuple (toPDs ds)
  | .ty _ => .none
  | .ref _ => .none
def toPDs : List D → List PyData
  | [] => []
  | d :: ds => toPD d :: toPDs ds
end
theorem toPDs_map : ∀ ds : List D, toPDs ds = ds.map toPD
  | [] => rfl
  | d :: ds => by simp [toPDs, toPDs_map ds]
/-- Python's == of data -/
def peq (d e : D) : Bool := PyData.eqv (toPD d) (toPD e)
def peqL (ds es : List D) : Bool := PyData.eqvAll (ds.map toPD) (es.map toPD)
theorem canLayAll0_iff : ∀ ds : List PyData, PyData.canLayAll0 ds = true ↔ ∀ d ∈ ds, d.canLay0 = true
  | [] => by simp [PyData.canLayAll0]
  | d :: ds => by simp [PyData.canLayAll0, canLayAll0_iff ds]
theorem depthAll_le : ∀ (ds : List PyData) (n : Nat), (∀ d ∈ ds, d.depth ≤ n) → PyData.depthAll ds ≤ n
  | [], n, _ => by simp [PyData.depthAll]
  | d :: ds, n, h => by
    have h1 := h d List.mem_cons_self
    have h2 := depthAll_le ds n fun e he => h e (List.mem_cons_of_mem _ he)
    simp [PyData.depthAll]
    omega
mutual
theorem dat_dp {K : PySem.W.Frag} {H : Hp} : ∀ (d : D) (n : Nat) (v : V), dat n d = true → Rel H d v → Dp K H v (toPD d) ∧ (toPD d).canLay0 = true ∧ (toPD d).depth ≤ n
  | .non, n, v, _, r => by cases r; exact ⟨.non, by simp [toPD, PyData.canLay0], by simp [toPD, PyData.depth]⟩
  | .bl b, n, v, _, r => by cases r; exact ⟨.bl b, by simp [toPD, PyData.canLay0], by simp [toPD, PyData.depth]⟩
  | .int b, n, v, _, r => by cases r; exact ⟨.int b, by simp [toPD, PyData.canLay0], by simp [toPD, PyData.depth]⟩
  | .str b, n, v, _, r => by obtain ⟨rfl, o⟩ := r; exact ⟨.str b, by simpa [toPD, PyData.canLay0] using o, by simp [toPD, PyData.depth]⟩
  | .tup ds, 0, v, h, _ => by cases h
  | .tup ds, n + 1, v, h, r => by
    obtain ⟨a, xs, rfl, h1, h2, _⟩ := r
    have hd : ∀ d ∈ ds, dat n d = true := by simpa [dat, List.all_eq_true] using h
    obtain ⟨q1, q2, q3⟩ := dat_dpL ds n xs hd h2
    refine ⟨.tup (SqT.of h1) q1, ?_, ?_⟩
    · simp only [toPD, PyData.canLay0]
      exact (canLayAll0_iff _).mpr q2
    · have := depthAll_le _ n q3
      simp only [toPD, PyData.depth]
      omega
  | .ty _, n, v, h, _ => by cases n <;> cases h
  | .ref _, n, v, h, _ => by cases n <;> cases h
theorem dat_dpL {K : PySem.W.Frag} {H : Hp} : ∀ (ds : List D) (n : Nat) (xs : List V), (∀ d ∈ ds, dat n d = true) → RelL H ds xs → DpAll K H xs (toPDs ds) ∧ (∀ d ∈ toPDs ds, d.canLay0 = true) ∧ (∀ d ∈ toPDs ds, d.depth ≤ n)
  | [], n, xs, _, r => by cases (relL_nil.mp r); exact ⟨.nil, by simp [toPDs], by simp [toPDs]⟩
  | d :: ds, n, xs, h, r => by
    obtain ⟨x, r, rfl, r1, r2⟩ := r
    obtain ⟨a1, a2, a3⟩ := dat_dp (K := K) d n x (h d List.mem_cons_self) r1
    obtain ⟨b1, b2, b3⟩ := dat_dpL (K := K) ds n r (fun e he => h e (List.mem_cons_of_mem _ he)) r2
    exact ⟨.cons a1 b1, by simp [toPDs]; exact ⟨a2, b2⟩, by simp [toPDs]; exact ⟨a3, b3⟩⟩
end

theorem shaped_of {d : PyData} (h1 : d.canLay0 = true) (h2 : d.depth ≤ 64) : SeqAt.shaped d = true := by
  unfold SeqAt.shaped
  rw [h1, decide_eq_true h2]
  rfl
theorem dat_dp' {K : PySem.W.Frag} {H : Hp} {d : D} {v : V} (h : dat 20 d = true) (r : Rel H d v) : Dp K H v (toPD d) ∧ SeqAt.shaped (toPD d) = true := by
  obtain ⟨h1, h2, h3⟩ := dat_dp (K := K) d 20 v h r
  exact ⟨h1, shaped_of h2 (by omega)⟩
theorem dat_dpL' {K : PySem.W.Frag} {B : Bx} {H : Hp} {G : Gp} {a : Addr} {o : DO} {ds : List D} (R : Rep K B H G) (g : G a = some o) (ho : o = .lst ds ∨ o = .rol ds) (h : ds.all (dat 20) = true) : Dp K H (.ref a) (.list (ds.map toPD)) ∧ SeqAt.shaped (.list (ds.map toPD)) = true := by
  have il : IsLst G a ds := by rcases ho with rfl | rfl <;> simp [IsLst, g]
  obtain ⟨xs, h1, h2, _⟩ := lstRd R il
  obtain ⟨q1, q2, q3⟩ := dat_dpL (K := K) ds 20 xs (by simpa [List.all_eq_true] using h) h2
  rw [toPDs_map] at q1 q2 q3
  refine ⟨.lst (.inl h1) q1, shaped_of ?_ ?_⟩
  · simp only [PyData.canLay0]
    exact (canLayAll0_iff _).mpr q2
  · have := depthAll_le _ 20 q3
    simp only [PyData.depth]
    omega
/-- d == e -/
def eqV (neg : Bool) : DR2 := fun d e G Q => match d, e with
  | .ref a, .ref b => ∃ o, G a = some o ∧ lstO o fun x => ∃ o', G b = some o' ∧ lstO o' fun y => (x.all (dat 20) && y.all (dat 20)) = true ∧ Q (.bl (peqL x y != neg)) G
  | .ref a, e => ∃ o, G a = some o ∧ lstO o fun x => (x.all (dat 20) && dat 20 e) = true ∧ Q (.bl neg) G
  | e, .ref a => ∃ o, G a = some o ∧ lstO o fun x => (x.all (dat 20) && dat 20 e) = true ∧ Q (.bl neg) G
  | d, e => (dat 20 d && dat 20 e) = true ∧ Q (.bl (peq d e != neg)) G
abbrev eqR : DR2 := eqV false
abbrev neR : DR2 := eqV true
/-- .. as data -/
theorem eqV_data {K : PySem.W.Frag} {B : Bx} {H : Hp} {G : Gp} {d e : D} {x y : V} {neg : Bool} {Q : DQ} (r1 : Rel H d x) (r2 : Rel H e y) (R : Rep K B H G) (q : eqV neg d e G Q) :
    ∃ pd pe, Dp K H x pd ∧ Dp K H y pe ∧ SeqAt.shaped pd = true ∧ SeqAt.shaped pe = true ∧ Q (.bl (PyData.eqv pd pe != neg)) G := by
  have lists : ∀ {a : Addr} {e : D} {y : V}, Rel H e y → (∃ o, G a = some o ∧ lstO o fun x => (x.all (dat 20) && dat 20 e) = true ∧ Q (.bl neg) G) →
      ∃ (l : List PyData), Dp K H (.ref a) (.list l) ∧ Dp K H y (toPD e) ∧ SeqAt.shaped (.list l) = true ∧ SeqAt.shaped (toPD e) = true ∧ Q (.bl neg) G := fun {a e y} r ⟨o, g, q⟩ => by
    obtain ⟨ds, il, ⟨h, q⟩, ho⟩ := lstO_is g q
    obtain ⟨z1, z2⟩ := Bool.and_eq_true_iff.mp h
    obtain ⟨a1, a2⟩ := dat_dpL' R g ho z1
    obtain ⟨b1, b2⟩ := dat_dp' (K := K) z2 r
    exact ⟨_, a1, b1, a2, b2, q⟩
  have plain : (dat 20 d && dat 20 e) = true ∧ Q (.bl (peq d e != neg)) G → ∃ pd pe, Dp K H x pd ∧ Dp K H y pe ∧ SeqAt.shaped pd = true ∧ SeqAt.shaped pe = true ∧ Q (.bl (PyData.eqv pd pe != neg)) G := fun ⟨h, q⟩ => by
    obtain ⟨z1, z2⟩ := Bool.and_eq_true_iff.mp h
    obtain ⟨a1, a2⟩ := dat_dp' (K := K) z1 r1
    obtain ⟨b1, b2⟩ := dat_dp' (K := K) z2 r2
    exact ⟨_, _, a1, b1, a2, b2, q⟩
  cases d with
  | ref a =>
    cases r1
    cases e with
    | ref b =>
      cases r2
      obtain ⟨o, g, q⟩ := q
      obtain ⟨ds, il, ⟨o', g', q⟩, ho⟩ := lstO_is g q
      obtain ⟨es, il', ⟨h, q⟩, ho'⟩ := lstO_is g' q
      obtain ⟨z1, z2⟩ := Bool.and_eq_true_iff.mp h
      obtain ⟨a1, a2⟩ := dat_dpL' R g ho z1
      obtain ⟨b1, b2⟩ := dat_dpL' R g' ho' z2
      refine ⟨_, _, a1, b1, a2, b2, ?_⟩
      simpa [PyData.eqv, peqL] using q
    | non => obtain ⟨l, a1, b1, a2, b2, q⟩ := lists r2 q; exact ⟨_, _, a1, b1, a2, b2, by simpa [PyData.eqv, toPD] using q⟩
    | bl _ => obtain ⟨l, a1, b1, a2, b2, q⟩ := lists r2 q; exact ⟨_, _, a1, b1, a2, b2, by simpa [PyData.eqv, toPD] using q⟩
    | int _ => obtain ⟨l, a1, b1, a2, b2, q⟩ := lists r2 q; exact ⟨_, _, a1, b1, a2, b2, by simpa [PyData.eqv, toPD] using q⟩
    | str _ => obtain ⟨l, a1, b1, a2, b2, q⟩ := lists r2 q; exact ⟨_, _, a1, b1, a2, b2, by simpa [PyData.eqv, toPD] using q⟩
    | ty _ => obtain ⟨o, g, q⟩ := q; obtain ⟨ds, il, ⟨h, q⟩, ho⟩ := lstO_is g q; simp [dat] at h
    | tup _ => obtain ⟨l, a1, b1, a2, b2, q⟩ := lists r2 q; exact ⟨_, _, a1, b1, a2, b2, by simpa [PyData.eqv, toPD] using q⟩
  | non =>
    cases e with
    | ref b => cases r2; obtain ⟨l, a1, b1, a2, b2, q⟩ := lists r1 q; exact ⟨_, _, b1, a1, b2, a2, by simpa [PyData.eqv, toPD] using q⟩
    | _ => exact plain q
  | bl _ =>
    cases e with
    | ref b => cases r2; obtain ⟨l, a1, b1, a2, b2, q⟩ := lists r1 q; exact ⟨_, _, b1, a1, b2, a2, by simpa [PyData.eqv, toPD] using q⟩
    | _ => exact plain q
  | int _ =>
    cases e with
    | ref b => cases r2; obtain ⟨l, a1, b1, a2, b2, q⟩ := lists r1 q; exact ⟨_, _, b1, a1, b2, a2, by simpa [PyData.eqv, toPD] using q⟩
    | _ => exact plain q
  | str _ =>
    cases e with
    | ref b => cases r2; obtain ⟨l, a1, b1, a2, b2, q⟩ := lists r1 q; exact ⟨_, _, b1, a1, b2, a2, by simpa [PyData.eqv, toPD] using q⟩
    | _ => exact plain q
  | ty _ =>
    cases e with
    | ref b => obtain ⟨o, g, q⟩ := q; obtain ⟨ds, il, ⟨h, q⟩, ho⟩ := lstO_is g q; simp [dat] at h
    | _ => exact absurd q.1 (by simp [dat])
  | tup _ =>
    cases e with
    | ref b => cases r2; obtain ⟨l, a1, b1, a2, b2, q⟩ := lists r1 q; exact ⟨_, _, b1, a1, b2, a2, by simpa [PyData.eqv, toPD] using q⟩
    | _ => exact plain q
section
variable {X : Cx} {B : Bx}
theorem op_eq (hu : X.A.units + 64 < cLine) : DOp X B (compareOp .Eq) eqR := by
  refine ⟨_, op_eqD hu, fun H G x y d e Q P r1 r2 R q hp => ?_⟩
  obtain ⟨pd, pe, a1, a2, a3, a4, q⟩ := eqV_data r1 r2 R q
  exact ⟨pd, pe, a1, a2, a3, a4, hp _ (.bl _) H G (.refl H) rfl R (by simpa using q)⟩
theorem op_ne (hu : X.A.units + 64 < cLine) : DOp X B (compareOp .NotEq) neR := by
  refine ⟨_, op_neD hu, fun H G x y d e Q P r1 r2 R q hp => ?_⟩
  obtain ⟨pd, pe, a1, a2, a3, a4, q⟩ := eqV_data r1 r2 R q
  exact ⟨pd, pe, a1, a2, a3, a4, hp _ (.bl _) H G (.refl H) rfl R (by simpa using q)⟩
end
/-! == where no bools stand -/
def nob : Nat → D → Bool
  | _, .non => true
  | _, .int _ => true
  | _, .str _ => true
  | n + 1, .tup ds => ds.all (nob n)
  | _, _ => false
mutual
theorem peq_iff : ∀ (d e : D) (n m : Nat), nob n d = true → nob m e = true → (peq d e = true ↔ d = e)
  | .non, e, n, m, h1, h2 => by cases e <;> simp [peq, toPD, PyData.eqv]; all_goals (cases m <;> simp [nob] at h2)
  | .int i, e, n, m, h1, h2 => by cases e <;> simp [peq, toPD, PyData.eqv]; all_goals (cases m <;> simp [nob] at h2)
  | .str i, e, n, m, h1, h2 => by cases e <;> simp [peq, toPD, PyData.eqv]; all_goals (cases m <;> simp [nob] at h2)
  | .tup ds, e, n, m, h1, h2 => by
    cases n with
    | zero => simp [nob] at h1
    | succ n =>
      cases e with
      | tup es =>
        cases m with
        | zero => simp [nob] at h2
        | succ m =>
          have q := peqL_iff ds es n m (by simpa [nob, List.all_eq_true] using h1) (by simpa [nob, List.all_eq_true] using h2)
          simpa [peq, toPD, PyData.eqv, peqL, toPDs_map] using q
      | _ => simp [peq, toPD, PyData.eqv]; all_goals (cases m <;> simp [nob] at h2)
  | .bl _, e, n, m, h1, h2 => by cases n <;> simp [nob] at h1
  | .ty _, e, n, m, h1, h2 => by cases n <;> simp [nob] at h1
  | .ref _, e, n, m, h1, h2 => by cases n <;> simp [nob] at h1
theorem peqL_iff : ∀ (ds es : List D) (n m : Nat), (∀ d ∈ ds, nob n d = true) → (∀ e ∈ es, nob m e = true) → (peqL ds es = true ↔ ds = es)
  | [], es, n, m, h1, h2 => by cases es <;> simp [peqL, PyData.eqvAll]
  | d :: ds, es, n, m, h1, h2 => by
    cases es with
    | nil => simp [peqL, PyData.eqvAll]
    | cons e es =>
      have q1 := peq_iff d e n m (h1 d List.mem_cons_self) (h2 e List.mem_cons_self)
      have q2 := peqL_iff ds es n m (fun x hx => h1 x (List.mem_cons_of_mem _ hx)) (fun x hx => h2 x (List.mem_cons_of_mem _ hx))
      simp only [peqL, List.map_cons, PyData.eqvAll, Bool.and_eq_true, List.cons.injEq]
      exact and_congr q1 q2
end
theorem peq_dec {d e : D} {n m : Nat} (h1 : nob n d = true) (h2 : nob m e = true) : peq d e = decide (d = e) := by
  have q := peq_iff d e n m h1 h2
  cases h : peq d e with
  | true => exact (decide_eq_true (q.mp h)).symm
  | false => exact (decide_eq_false fun z => by rw [q.mpr z] at h; cases h).symm
theorem peqL_dec {ds es : List D} {n m : Nat} (h1 : ∀ d ∈ ds, nob n d = true) (h2 : ∀ d ∈ es, nob m d = true) : peqL ds es = decide (ds = es) := by
  have q := peqL_iff ds es n m h1 h2
  cases h : peqL ds es with
  | true => exact (decide_eq_true (q.mp h)).symm
  | false => exact (decide_eq_false fun z => by rw [q.mpr z] at h; cases h).symm
theorem peq_int (i j : Int) : peq (.int i) (.int j) = decide (i = j) := by simp [peq, toPD, PyData.eqv, Bool.beq_eq_decide_eq]
theorem peq_str (i j : Str) : peq (.str i) (.str j) = decide (i = j) := by simp [peq, toPD, PyData.eqv, Bool.beq_eq_decide_eq]
theorem peqL_nil : peqL [] [] = true := rfl
theorem peqL_cons_nil (d : D) (ds : List D) : peqL (d :: ds) [] = false := rfl
theorem peqL_nil_cons (d : D) (ds : List D) : peqL [] (d :: ds) = false := rfl
theorem peqL_is_nil (ds : List D) : peqL ds [] = ds.isEmpty := by cases ds <;> rfl
end DL
set_option Elab.async false
set_option linter.all false
set_option maxRecDepth 100000
set_option maxHeartbeats 4000000
namespace DL
open PySem PySem.Spec L2

/-! ### dicts -/
def dKey : D → Option Key
  | .int i => some (.inl i)
  | .str s => some (.inr s)
  | _ => none
def dKeys : List D → Option (List Key)
  | [] => some []
  | d :: ds => match dKey d, dKeys ds with
    | some k, some ks => some (k :: ks)
    | _, _ => none
/-- may d be a key of a dict of this kind (true: tuples) -/
def keyOk : Bool → D → Bool
  | false, d => (dKey d).isSome
  | true, .tup ds => (dKeys ds).isSome
  | true, _ => false
theorem dKey_eq {d : D} {k : Key} (h : dKey d = some k) : d = kD k := by
  cases d <;> simp [dKey] at h <;> (subst h; rfl)
theorem dKeys_eq : ∀ {ds : List D} {ks : List Key}, dKeys ds = some ks → ds = ks.map kD
  | [], ks, h => by simp [dKeys] at h; subst h; rfl
  | d :: ds, ks, h => by
    cases h1 : dKey d with
    | none => simp [dKeys, h1] at h
    | some k =>
      cases h2 : dKeys ds with
      | none => simp [dKeys, h1, h2] at h
      | some r =>
        simp [dKeys, h1, h2] at h
        subst h
        rw [dKey_eq h1, dKeys_eq h2]
        rfl
theorem kD_inj {a b : Key} (h : kD a = kD b) : a = b := by
  cases a <;> cases b <;> simp [kD] at h <;> simp [h]
theorem kDs_inj : ∀ {a b : List Key}, a.map kD = b.map kD → a = b
  | [], [], _ => rfl
  | [], _ :: _, h => by simp at h
  | _ :: _, [], h => by simp at h
  | x :: a, y :: b, h => by
    simp only [List.map_cons, List.cons.injEq] at h
    rw [kD_inj h.1, kDs_inj h.2]
theorem rel_kD {H : Hp} {k : Key} {v : V} (r : Rel H (kD k) v) : v = kV k := by
  cases k with
  | inl i => exact r
  | inr s => exact r.1
theorem rel_kDs {H : Hp} : ∀ {ks : List Key} {vs : List V}, RelL H (ks.map kD) vs → vs = ks.map kV
  | [], vs, r => relL_nil.mp r
  | k :: ks, vs, ⟨v, r, e, h1, h2⟩ => by
    rw [e, rel_kD h1, rel_kDs h2]
    rfl
/-- what a dict holds at d -/
def valD (kvs : List (D × D)) (d : D) : Option D := (kvs.find? fun kv => decide (kv.1 = d)).map (·.2)
def putD (kvs : List (D × D)) (d e : D) : List (D × D) := if (kvs.any fun kv => decide (kv.1 = d)) = true then kvs.map (fun kv => if kv.1 = d then (kv.1, e) else kv) else kvs ++ [(d, e)]
def dropD (kvs : List (D × D)) (d : D) : List (D × D) := kvs.filter fun kv => decide (kv.1 ≠ d)
section
variable {κ : Type} [DecidableEq κ] {H : Hp} {f : κ → D} (hf : ∀ a b, f a = f b → a = b)
include hf
theorem find_rel : ∀ {kvs : List (D × D)} {ks : List (κ × V)} (k : κ), kvs.map (·.1) = ks.map (fun q => f q.1) → RelL H (kvs.map (·.2)) (ks.map (·.2)) →
    match valD kvs (f k), valV ks k with
    | some d, some v => Rel H d v
    | none, none => True
    | _, _ => False
  | [], [], k, _, _ => True.intro
  | [], _ :: _, k, h, _ => by simp at h
  | _ :: _, [], k, h, _ => by simp at h
  | (d, e) :: kvs, (q, v) :: ks, k, h, r => by
    simp only [List.map_cons, List.cons.injEq] at h
    obtain ⟨h1, h2⟩ := h
    have r' : RelL H (e :: kvs.map (·.2)) (v :: ks.map (·.2)) := r
    obtain ⟨r1, r2⟩ := relL_cons.mp r'
    have ih := find_rel (kvs := kvs) (ks := ks) k h2 r2
    by_cases hq : q = k
    · subst hq
      simp [valD, valV, List.find?_cons, h1, r1]
    · have hd : ¬ d = f k := fun z => hq (hf _ _ (h1.symm.trans z))
      simpa [valD, valV, List.find?_cons, hd, hq] using ih
end

theorem dk_rel {K : PySem.W.Frag} {B : Bx} {H : Hp} {G : Gp} {a : Addr} {t : Bool} {kvs : List (D × D)} {o : DO} (R : Rep K B H G) (g : G a = some o) (ho : o = .dict t kvs ∨ o = .ldict t kvs) {d : D} {v : V} (r : Rel H d v) (hk : keyOk t d = true) :
    ∃ r : Option V, DGet H a v r ∧ match valD kvs d, r with
      | some d, some v => Rel H d v
      | none, none => True
      | _, _ => False := by
  have x := R.at_ a o g
  cases t with
  | false =>
    obtain ⟨k, hk⟩ := Option.isSome_iff_exists.mp (show (dKey d).isSome = true from hk)
    have e := dKey_eq hk
    subst e
    have ev := rel_kD r
    subst ev
    have x' : ∃ ks : List (Key × V), Rd H a (.dK ks) ∧ kvs.map (·.1) = ks.map (fun k => kD k.1) ∧ RelL H (kvs.map (·.2)) (ks.map (·.2)) := by
      rcases ho with rfl | rfl
      · obtain ⟨_, ks, h1, h2, h3⟩ := x
        exact ⟨ks, .inl h1, h2, h3⟩
      · obtain ⟨_, ob, ks, h1, h2, h3⟩ := x
        exact ⟨ks, .inr ⟨ob, h1⟩, h2, h3⟩
    obtain ⟨ks, h1, h2, h3⟩ := x'
    exact ⟨_, .inl ⟨ks, k, h1, rfl, rfl⟩, find_rel (f := kD) (fun _ _ => kD_inj) k h2 h3⟩
  | true =>
    cases d with
    | tup ds =>
      obtain ⟨k, hk⟩ := Option.isSome_iff_exists.mp (show (dKeys ds).isSome = true from hk)
      have e := dKeys_eq hk
      subst e
      obtain ⟨b, xs, rfl, hb, rl, _⟩ := r
      have ev := rel_kDs rl
      subst ev
      have x' : ∃ ks : List (List Key × V), Rd H a (.dT ks) ∧ kvs.map (·.1) = ks.map (fun k => D.tup (k.1.map kD)) ∧ RelL H (kvs.map (·.2)) (ks.map (·.2)) := by
        rcases ho with rfl | rfl
        · obtain ⟨_, ks, h1, h2, h3⟩ := x
          exact ⟨ks, .inl h1, h2, h3⟩
        · obtain ⟨_, ob, ks, h1, h2, h3⟩ := x
          exact ⟨ks, .inr ⟨ob, h1⟩, h2, h3⟩
      obtain ⟨ks, h1, h2, h3⟩ := x'
      exact ⟨_, .inr ⟨ks, k, b, h1, rfl, hb, rfl⟩, find_rel (f := fun k : List Key => D.tup (k.map kD)) (fun _ _ z => kDs_inj (D.tup.inj z)) k h2 h3⟩
    | _ => exact absurd hk (by simp [keyOk])
/-- a dict, of it -/
def dictO (o : DO) (P : Bool → List (D × D) → Prop) : Prop := match o with
  | .dict t kvs => P t kvs
  | .ldict t kvs => P t kvs
  | _ => False
theorem dictO_is {o : DO} {P : Bool → List (D × D) → Prop} (q : dictO o P) : ∃ t kvs, P t kvs ∧ (o = .dict t kvs ∨ o = .ldict t kvs) := by
  cases o with
  | dict t ds => exact ⟨t, ds, q, .inl rfl⟩
  | ldict t ds => exact ⟨t, ds, q, .inr rfl⟩
  | _ => exact (show False from q).elim

/-! ### in -/
/-- a list or a dict, of either -/
def anyO (o : DO) (P : List D → Prop) (P' : Bool → List (D × D) → Prop) : Prop := match o with
  | .lst ds => P ds
  | .rol ds => P ds
  | .dict t kvs => P' t kvs
  | .ldict t kvs => P' t kvs
  | _ => False
def inR (neg : Bool) : DR2 := fun d e G Q => match e with
  | .tup ds => (ds.all (dat 0) && dat 0 d) = true ∧ Q (.bl (ds.any (fun z => peq z d) != neg)) G
  | .ref a => ∃ o, G a = some o ∧ anyO o (fun ds => (ds.all (dat 20) && dat 20 d) = true ∧ Q (.bl (ds.any (fun z => peq z d) != neg)) G) fun t kvs => keyOk t d = true ∧ Q (.bl ((valD kvs d).isSome != neg)) G
  | .str y => (match d with
    | .str x => Q (.bl (!(Builtin.Str.occurrences y x 0 y.length 1).isEmpty != neg)) G
    | _ => False)
  | _ => False
def rInDct (neg : Bool) : R2 := fun x y H Q => ∃ a o, y = .ref a ∧ DGet H a x o ∧ Q (.bl (o.isSome != neg)) H
section
variable {X : Cx} {B : Bx}
theorem op_in_dct (hu : X.A.units + 1 < cLine) : OpR X (compareOp .In) (rInDct false) := by
  intro pins s σ H x y v u Q I rx ry h
  obtain ⟨a, o, rfl, g, q⟩ := h
  cases ry
  exact d_in hu I g rx fun s' I' => ⟨.bl o.isSome, H, I', rfl, by simpa using q⟩
theorem op_notIn_dct (hu : X.A.units + 1 < cLine) : OpR X (compareOp .NotIn) (rInDct true) := by
  intro pins s σ H x y v u Q I rx ry h
  obtain ⟨a, o, rfl, g, q⟩ := h
  cases ry
  exact d_notIn hu I g rx fun s' I' => ⟨.bl (!o.isSome), H, I', rfl, by simpa using q⟩
theorem flat_rel {H : Hp} {d : D} {v : V} (h : dat 0 d = true) (r : Rel H d v) : flatV v = true := by
  cases d with
  | non => cases r; rfl
  | bl _ => cases r; rfl
  | int _ => cases r; rfl
  | str _ => obtain ⟨rfl, _⟩ := r; rfl
  | _ => simp [dat] at h
theorem flat_rels {H : Hp} : ∀ {ds : List D} {vs : List V}, ds.all (dat 0) = true → RelL H ds vs → vs.all flatV = true
  | [], vs, _, r => by cases (relL_nil.mp r); rfl
  | d :: ds, vs, h, ⟨v, r, e, r1, r2⟩ => by
    subst e
    have h' : dat 0 d = true ∧ ds.all (dat 0) = true := by simpa using h
    simp [flat_rel h'.1 r1, flat_rels h'.2 r2]
theorem eqV_rel {H : Hp} {d e : D} {v u : V} (hd : dat 0 d = true) (he : dat 0 e = true) (r1 : Rel H d v) (r2 : Rel H e u) : L2.eqV v u = peq d e := by
  cases d <;> simp [dat] at hd <;> cases e <;> simp [dat] at he <;> simp only [Rel] at r1 r2 <;> (try obtain ⟨rfl, _⟩ := r1) <;> (try obtain ⟨rfl, _⟩ := r2) <;> (try subst r1) <;> (try subst r2) <;> simp [L2.eqV, peq, toPD, PyData.eqv, Bool.beq_eq_decide_eq]
theorem any_rel {H : Hp} {d : D} {v : V} (hd : dat 0 d = true) (rd : Rel H d v) : ∀ {ds : List D} {vs : List V}, ds.all (dat 0) = true → RelL H ds vs → inV v vs = ds.any fun z => peq z d
  | [], vs, _, r => by cases (relL_nil.mp r); rfl
  | e :: ds, vs, h, ⟨u, r, q, r1, r2⟩ => by
    subst q
    have h' : dat 0 e = true ∧ ds.all (dat 0) = true := by simpa using h
    have ih := any_rel hd rd h'.2 r2
    unfold inV at ih ⊢
    rw [List.any_cons, List.any_cons, ih, eqV_rel h'.1 hd r1 rd]
theorem in_all {K : PySem.W.Frag} {H : Hp} {G : Gp} {d e : D} {x y : V} {neg : Bool} {Q : DQ} {P : VK} (r1 : Rel H d x) (r2 : Rel H e y) (R : Rep K B H G) (q : inR neg d e G Q) (hp : PostE K B H Q P) :
    (∃ p xs, y = .ref p ∧ SqT K H p xs ∧ flatV x = true ∧ xs.all flatV = true ∧ P (.bl (inV x xs != neg)) H) ∨
    (∃ pd ds, Dp K H x pd ∧ Dp K H y (.list ds) ∧ SeqAt.shaped pd = true ∧ SeqAt.shaped (.list ds) = true ∧ P (.bl (ds.any (fun z => PyData.eqv z pd) != neg)) H) ∨
    (∃ a o, y = .ref a ∧ DGet H a x o ∧ P (.bl (o.isSome != neg)) H) ∨
    (∃ i j, x = .str i ∧ y = .str j ∧ P (.bl (!(Builtin.Str.occurrences j i 0 j.length 1).isEmpty != neg)) H) := by
  cases e with
  | tup ds =>
    obtain ⟨a, xs, rfl, h1, h2, h3⟩ := r2
    obtain ⟨h, q⟩ := q
    obtain ⟨z1, z2⟩ := Bool.and_eq_true_iff.mp h
    exact .inl ⟨a, xs, rfl, SqT.of h1, flat_rel z2 r1, flat_rels z1 h2, by rw [any_rel z2 r1 z1 h2]; exact hp _ (.bl _) H G (.refl H) rfl R q⟩
  | ref a =>
    cases r2
    obtain ⟨o, g, q⟩ := q
    have lists : ∀ {ds : List D}, (o = .lst ds ∨ o = .rol ds) → (ds.all (dat 20) && dat 20 d) = true ∧ Q (.bl (ds.any (fun z => peq z d) != neg)) G →
        ∃ pd ds, Dp K H x pd ∧ Dp K H (.ref a) (.list ds) ∧ SeqAt.shaped pd = true ∧ SeqAt.shaped (.list ds) = true ∧ P (.bl (ds.any (fun z => PyData.eqv z pd) != neg)) H := fun {ds} ho ⟨h, q⟩ => by
      obtain ⟨z1, z2⟩ := Bool.and_eq_true_iff.mp h
      obtain ⟨a1, a2⟩ := dat_dpL' R g ho z1
      obtain ⟨b1, b2⟩ := dat_dp' (K := K) z2 r1
      refine ⟨_, _, b1, a1, b2, a2, ?_⟩
      rw [List.any_map]
      exact hp _ (.bl _) H G (.refl H) rfl R q
    have dicts : ∀ {t : Bool} {kvs : List (D × D)}, (o = .dict t kvs ∨ o = .ldict t kvs) → keyOk t d = true ∧ Q (.bl ((valD kvs d).isSome != neg)) G → ∃ o, DGet H a x o ∧ P (.bl (o.isSome != neg)) H := fun {t kvs} ho ⟨h, q⟩ => by
      obtain ⟨r, h1, h2⟩ := dk_rel R g ho r1 h
      refine ⟨r, h1, ?_⟩
      have e : r.isSome = (valD kvs d).isSome := by
        cases h3 : valD kvs d <;> cases r <;> simp_all
      rw [e]
      exact hp _ (.bl _) H G (.refl H) rfl R q
    cases o with
    | lst ds => exact .inr (.inl (lists (.inl rfl) q))
    | rol ds => exact .inr (.inl (lists (.inr rfl) q))
    | dict t kvs => obtain ⟨o, h1, h2⟩ := dicts (.inl rfl) q; exact .inr (.inr (.inl ⟨a, o, rfl, h1, h2⟩))
    | ldict t kvs => obtain ⟨o, h1, h2⟩ := dicts (.inr rfl) q; exact .inr (.inr (.inl ⟨a, o, rfl, h1, h2⟩))
    | ins C ns fs => exact (show False from q).elim
  | str y' =>
    cases d with
    | str x' =>
      obtain ⟨rfl, _⟩ := r1
      obtain ⟨rfl, _⟩ := r2
      exact .inr (.inr (.inr ⟨_, _, rfl, rfl, hp _ (.bl _) H G (.refl H) rfl R q⟩))
    | _ => exact (show False from q).elim
  | _ => exact (show False from q).elim
theorem op_in (hu : X.A.units + 65 < cLine) : DOp X B (compareOp .In) (inR false) := by
  refine ⟨_, (op_in_seq.or ((op_inD hu).or ((op_in_dct (by omega)).or L2.op_in_str))), fun H G x y d e Q P r1 r2 R q hp => ?_⟩
  rcases in_all r1 r2 R q hp with ⟨p, xs, h1, h2, h3, h4, h5⟩ | ⟨pd, ds, h1, h2, h3, h4, h5⟩ | ⟨a, o, h1, h2, h3⟩ | ⟨i, j, h1, h2, h3⟩
  · exact .inl ⟨p, xs, h1, .inr h2, h3, h4, by simpa using h5⟩
  · exact .inr (.inl ⟨pd, ds, h1, h2, h3, h4, by simpa using h5⟩)
  · exact .inr (.inr (.inl ⟨a, o, h1, h2, by simpa using h3⟩))
  · exact .inr (.inr (.inr ⟨i, j, h1, h2, by simpa using h3⟩))
theorem op_notIn (hu : X.A.units + 65 < cLine) : DOp X B (compareOp .NotIn) (inR true) := by
  refine ⟨_, (op_notIn_seq.or ((op_notInD hu).or ((op_notIn_dct (by omega)).or L2.op_notin_str))), fun H G x y d e Q P r1 r2 R q hp => ?_⟩
  rcases in_all r1 r2 R q hp with ⟨p, xs, h1, h2, h3, h4, h5⟩ | ⟨pd, ds, h1, h2, h3, h4, h5⟩ | ⟨a, o, h1, h2, h3⟩ | ⟨i, j, h1, h2, h3⟩
  · exact .inl ⟨p, xs, h1, .inr h2, h3, h4, by simpa using h5⟩
  · exact .inr (.inl ⟨pd, ds, h1, h2, h3, h4, by simpa using h5⟩)
  · exact .inr (.inr (.inl ⟨a, o, h1, h2, by simpa using h3⟩))
  · exact .inr (.inr (.inr ⟨i, j, h1, h2, by simpa using h3⟩))
/-- is None, is not None -/
def isNR (neg : Bool) : DR2 := fun d e G Q => match e with
  | .non => Q (.bl (decide (d = .non) != neg)) G
  | _ => False
theorem non_rel {H : Hp} {d : D} {v : V} (r : Rel H d v) : decide (v = .non) = decide (d = .non) := by
  cases d <;> simp only [Rel] at r
  case str => obtain ⟨rfl, _⟩ := r; simp
  case tup => obtain ⟨a, xs, rfl, _⟩ := r; simp
  all_goals (subst r; simp)
theorem op_isN : DOp X B (compareOp .Is) (isNR false) := by
  refine ⟨_, L2.op_isN, fun H G x y d e Q P r1 r2 R q hp => ?_⟩
  cases e with
  | non => exact ⟨r2, hp _ (.bl _) H G (.refl H) (by rw [non_rel r1]; simp [Rel]) R q⟩
  | _ => exact (show False from q).elim
theorem op_notN : DOp X B (compareOp .IsNot) (isNR true) := by
  refine ⟨_, L2.op_notN, fun H G x y d e Q P r1 r2 R q hp => ?_⟩
  cases e with
  | non => exact ⟨r2, hp _ (.bl _) H G (.refl H) (by rw [non_rel r1]; simp [Rel]) R q⟩
  | _ => exact (show False from q).elim
end
end DL
set_option Elab.async false
set_option linter.all false
set_option maxRecDepth 100000
set_option maxHeartbeats 4000000
namespace DL
open PySem PySem.Spec L2

/-! ### subscripts -/
section
open PyProof.Rows
theorem subD_tail {prog : Program} {w : World} {A : Around} {E : Value → Shared → Prop} {s : Shared} {value slice : Expr} {T id : String} {o i : Value} {Q : Value → Shared → Prop}
    (hl : typeLookup (.type T) "__getitem__" = pure (some (.builtin id))) (hs : subscripted slice false o i = operate [o, i] (getItem o i)) (hT : s.TypeIs o T)
    (h : wpAny (model prog w) A (getItem o i) Q E s) : wpAny (model prog w) A (subscriptTail value slice o i) Q E s := by
  unfold subscriptTail
  refine wpAny_bind ?_
  rw [getitemInPython_of_ne hT.not_modules]
  refine wpAny_bind (wpAny_specialOf hT hl ?_)
  have fin : wpAny (model prog w) A (subscripted slice false o i) (fun r s₃ => wpAny (model prog w) A (letTemporaryGo value o r >>= fun _ => pure r) Q E s₃) E s := by
    rw [hs]
    exact wpAny_operating (wpAny_mono h (fun r s₃ h₃ => wpAny_bind (wpAny_letTemporaryGo (wpAny_pure h₃))) fun _ _ x => x)
  first
    | exact wpAny_pure (wpAny_bind fin)
    | exact wpAny_bind (wpAny_pure (wpAny_bind fin))
    | exact wpAny_bind fin
end
def rIxD : R2 := fun x y H Q => ∃ a v, x = .ref a ∧ DGet H a y (some v) ∧ Q v H
theorem ix_dict {X : Cx} (hu : X.A.units + 1 < cLine) : IxR X rIxD := by
  intro value slice pins s σ H x y v u Q I rx ry h hs
  obtain ⟨a, z, rfl, g, q⟩ := h
  cases rx
  exact subD_tail PySem.F.slot_dict_getitem.lookup hs (dict_typeIs I g) (d_getItem hu I g ry fun w' s3 I3 rw' => ⟨z, H, I3, rw', q⟩)
def ixR : DR2 := fun d e G Q => match d with
  | .tup ds => (match e with
    | .int i => ∃ v, atI ds i = some v ∧ Q v G
    | _ => False)
  | .str z => (match e with
    | .int i => z.length ≤ sizeLine ∧ ∃ c, atI z.cps.toList i = some c ∧ Q (.str ⟨#[c]⟩) G
    | _ => False)
  | .ref a => ∃ o, G a = some o ∧ anyO o (fun ds => ∃ i v, e = .int i ∧ atI ds i = some v ∧ Q v G) fun t kvs => keyOk t e = true ∧ ∃ v, valD kvs e = some v ∧ Q v G
  | _ => False
theorem atI_rel {H : Hp} {ds : List D} {xs : List V} {i : Int} {d : D} (r : RelL H ds xs) (h : atI ds i = some d) : ∃ v, atI xs i = some v ∧ Rel H d v := by
  unfold atI at h ⊢
  rw [← r.length]
  cases e : ixN ds.length i with
  | none => rw [e] at h; cases h
  | some j =>
    rw [e] at h
    exact r.get j h
section
variable {X : Cx} {B : Bx} {a b : Expr} {ta tb : DTE} {pos : Pos}
theorem okS_sign {z : Str} {c : Nat} {i : Int} (h : OkS z) (e : atI z.cps.toList i = some c) : OkS ⟨#[c]⟩ := by
  unfold OkS PyData.strOk at *
  have hm : c ∈ z.cps.toList := by
    unfold atI at e
    cases q : ixN z.cps.toList.length i with
    | none => rw [q] at e; cases e
    | some j =>
      rw [q] at e
      exact List.mem_of_getElem? e
  have := Array.all_eq_true_iff_forall_mem.mp h c (by simpa using hm)
  simpa using this
theorem de_ix (hu : X.A.units + 1 < cLine) (ha : DE X B a ta) (hb : DE X B b tb) (hs : PlainIx b := by exact fun _ _ => rfl) : DE X B (.Subscript a b pos) (dOp ixR ta tb) := by
  obtain ⟨ta', pa, ha⟩ := ha.ex
  obtain ⟨tb', pb, hb⟩ := hb.ex
  refine ⟨_, pe_ix (ix_list.or (ix_tup.or (ix_str.or (ix_dict hu)))) pa pb hs, fun σ H sd G Q P hS R t hp => ?_⟩
  refine two_parts (X := X) ha hb hS R t fun x y d e H2 G2 k r1 r2 R2 q => ?_
  have hp := hp.mono k
  cases d with
  | tup ds =>
    cases e <;> first | exact (show False from q).elim | skip
    obtain ⟨p, xs, rfl, h1, h2, _⟩ := r1
    cases r2
    obtain ⟨v, e, q⟩ := q
    obtain ⟨u, e2, r⟩ := atI_rel h2 e
    exact .inr (.inl ⟨p, xs, _, u, rfl, rfl, SqT.of h1, e2, hp u v H2 G2 (.refl _) r R2 q⟩)
  | str z =>
    cases e <;> first | exact (show False from q).elim | skip
    obtain ⟨rfl, ok⟩ := r1
    cases r2
    obtain ⟨hz, c, e, q⟩ := q
    exact .inr (.inr (.inl ⟨z, _, c, rfl, rfl, hz, e, hp _ (.str ⟨#[c]⟩) H2 G2 (.refl _) ⟨rfl, okS_sign ok e⟩ R2 q⟩))
  | ref p =>
    cases r1
    obtain ⟨o, g, q⟩ := q
    have lists : ∀ {ds : List D}, (o = .lst ds ∨ o = .rol ds) → (∃ i v, e = .int i ∧ atI ds i = some v ∧ Q v G2) → rIxL X.K (.ref p) y H2 P := fun {ds} ho ⟨i, v, e1, e2, qv⟩ => by
      subst e1
      cases r2
      obtain ⟨xs, h1, h2, _⟩ := lstRd R2 (by rcases ho with rfl | rfl <;> simp [IsLst, g] : IsLst G2 p ds)
      obtain ⟨u, e3, r⟩ := atI_rel h2 e2
      exact ⟨p, xs, i, u, rfl, rfl, .inl h1, e3, hp u v H2 G2 (.refl _) r R2 qv⟩
    have dicts : ∀ {t : Bool} {kvs : List (D × D)}, (o = .dict t kvs ∨ o = .ldict t kvs) → (keyOk t e = true ∧ ∃ v, valD kvs e = some v ∧ Q v G2) → rIxD (.ref p) y H2 P := fun {t kvs} ho ⟨h, v, e1, q⟩ => by
      obtain ⟨r, h1, h2⟩ := dk_rel R2 g ho r2 h
      rw [e1] at h2
      cases r with
      | none => exact h2.elim
      | some u => exact ⟨p, u, rfl, h1, hp u v H2 G2 (.refl _) h2 R2 q⟩
    cases o with
    | lst ds => exact .inl (lists (.inl rfl) q)
    | rol ds => exact .inl (lists (.inr rfl) q)
    | dict t kvs => exact .inr (.inr (.inr (dicts (.inl rfl) q)))
    | ldict t kvs => exact .inr (.inr (.inr (dicts (.inr rfl) q)))
    | ins C ns fs => exact (show False from q).elim
  | _ => exact (show False from q).elim
end

/-! ### slices -/
abbrev DTO := SD → Gp → (Option Int → Gp → Prop) → Prop
structure DO' (X : Cx) (B : Bx) (e : Option Expr) (t : DTO) : Prop where
  ex : ∃ te : TO, PO X e te ∧ ∀ σ H sd G Q (P : Option Int → Hp → Prop), RelS H σ sd → Rep X.K B H G → t sd G Q → (∀ o H' G', Kp H H' → Rep X.K B H' G' → Q o G' → P o H') → te σ H P
@[simp] def doNone : DTO := fun _ G Q => Q none G
@[simp] def doSome (t : DTE) : DTO := fun sd G Q => t sd G fun d G1 => match d with
  | .int i => Q (some i) G1
  | _ => False
def cutD (xs : List D) (lo hi : Option Int) : List D := (xs.drop (HT.sIx xs.length 0 lo)).take (HT.sIx xs.length xs.length hi - HT.sIx xs.length 0 lo)
def slR : D → Option Int → Option Int → Gp → DQ → Prop := fun d lo hi G Q => match d with
  | .tup ds => Q (.tup (cutD ds lo hi)) G
  | .ref a => ∃ o, G a = some o ∧ lstO o fun ds => ∀ p, G p = none → Q (.ref p) (put G p (.lst (cutD ds lo hi)))
  | _ => False
@[simp] def dSl (te : DTE) (tl th : DTO) : DTE := fun sd G Q => te sd G fun d G1 => tl sd G1 fun l G2 => th sd G2 fun u G3 => slR d l u G3 Q
section
variable {X : Cx} {B : Bx} {e : Expr} {te : DTE} {tl th : DTO} {lo hi : Option Expr} {pos p2 : Pos}
theorem do_none : DO' X B none doNone := ⟨_, po_none, fun σ H sd G Q P hS R t hp => hp none H G (.refl H) R t⟩
theorem do_some (h : DE X B e te) : DO' X B (some e) (doSome te) := by
  obtain ⟨te', pe, he⟩ := h.ex
  refine ⟨_, po_some pe, fun σ H sd G Q P hS R t hp => ?_⟩
  refine he σ H sd G _ _ hS R t fun v d H1 G1 k1 r1 R1 q1 => ?_
  cases d with
  | int i => cases r1; exact ⟨i, rfl, hp _ H1 G1 k1 R1 q1⟩
  | _ => exact (show False from q1).elim
theorem cut_rel {H : Hp} {ds : List D} {xs : List V} (r : RelL H ds xs) (lo hi : Option Int) : RelL H (cutD ds lo hi) (cutV xs lo hi) := by
  unfold cutD cutV
  rw [r.length]
  exact (r.drop _).take _
theorem cutD_length (xs : List D) (lo hi : Option Int) : (cutD xs lo hi).length ≤ xs.length := by
  unfold cutD
  rw [List.length_take, List.length_drop]
  omega
theorem cutD_whole {xs : List D} {lo hi : Option Int} (h : HT.sIx xs.length 0 lo = 0 ∧ HT.sIx xs.length xs.length hi = xs.length) : cutD xs lo hi = xs := by
  unfold cutD
  rw [h.1, h.2]
  simp
theorem de_slice (he : DE X B e te) (hl : DO' X B lo tl) (hh : DO' X B hi th) : DE X B (.Subscript e (.Slice lo hi none p2) pos) (dSl te tl th) := by
  obtain ⟨te', pe, he⟩ := he.ex
  obtain ⟨tl', pl, hl⟩ := hl.ex
  obtain ⟨th', ph, hh⟩ := hh.ex
  refine ⟨_, pe_slice (sl_tupA.or sl_list) pe pl ph, fun σ H sd G Q P hS R t hp => ?_⟩
  refine he σ H sd G _ _ hS R t fun v d H1 G1 k1 r1 R1 q1 => ?_
  refine hl σ H1 sd G1 _ _ (hS.mono k1) R1 q1 fun l H2 G2 k2 R2 q2 => ?_
  refine hh σ H2 sd G2 _ _ (hS.mono (k1.trans k2)) R2 q2 fun u H3 G3 k3 R3 q3 => ?_
  have hp := hp.mono (k1.trans (k2.trans k3))
  have r3 := r1.mono (k2.trans k3)
  cases d with
  | tup ds =>
    obtain ⟨p, xs, rfl, h1, h2, hz⟩ := r3
    refine .inl ⟨p, xs, rfl, SqT.of h1, fun hw => ?_, fun _ q hq => ?_⟩
    · have e : cutD ds l u = ds := cutD_whole (by rw [h2.length]; exact hw)
      have q3' : Q (.tup (cutD ds l u)) G3 := q3
      rw [e] at q3'
      exact hp _ (.tup ds) H3 G3 (.refl _) ⟨p, xs, rfl, h1, h2, hz⟩ R3 q3'
    · obtain ⟨k, r, R'⟩ := tup_new hq (cut_rel h2 l u) (Nat.le_trans (cutD_length _ _ _) hz) R3
      exact hp _ _ _ G3 k r R' q3
  | ref a =>
    cases r3
    obtain ⟨o, g, q3⟩ := q3
    obtain ⟨ds, il, q3, ho⟩ := lstO_is g q3
    obtain ⟨xs, h1, h2, hz⟩ := lstRd R3 il
    refine .inr ⟨a, xs, rfl, .inl h1, fun p hn => ?_⟩
    obtain ⟨k, R'⟩ := lst_new hn (cut_rel h2 l u) (Nat.le_trans (cutD_length _ _ _) hz) R3
    exact hp _ (.ref p) _ _ k rfl R' (q3 p (R3.gnone hn))
  | _ => exact (show False from q3).elim
end
end DL
set_option Elab.async false
set_option linter.all false
set_option maxRecDepth 100000
set_option maxHeartbeats 4000000
namespace DL
open PySem PySem.Spec L2

/-! ### o[i] = v -/
section
variable {κ : Type} [DecidableEq κ] {H : Hp} {f : κ → D} (hf : ∀ a b, f a = f b → a = b)
include hf
theorem any_key : ∀ {kvs : List (D × D)} {ks : List (κ × V)} (k : κ), kvs.map (·.1) = ks.map (fun q => f q.1) → (kvs.any fun kv => decide (kv.1 = f k)) = ks.any fun kv => decide (kv.1 = k)
  | [], [], k, _ => rfl
  | [], _ :: _, k, h => by simp at h
  | _ :: _, [], k, h => by simp at h
  | (d, e) :: kvs, (q, v) :: ks, k, h => by
    simp only [List.map_cons, List.cons.injEq] at h
    obtain ⟨h1, h2⟩ := h
    have ih := any_key (kvs := kvs) (ks := ks) k h2
    rw [List.any_cons, List.any_cons, ih]
    by_cases hq : q = k
    · subst hq; simp [h1]
    · have hd : ¬ d = f k := fun z => hq (hf _ _ (h1.symm.trans z))
      simp [hd, hq]
theorem repl_rel {e : D} {v : V} (r : Rel H e v) : ∀ {kvs : List (D × D)} {ks : List (κ × V)} (k : κ), kvs.map (·.1) = ks.map (fun q => f q.1) → RelL H (kvs.map (·.2)) (ks.map (·.2)) →
    (kvs.map fun kv => if kv.1 = f k then (kv.1, e) else kv).map (·.1) = (ks.map fun kv => if kv.1 = k then (kv.1, v) else kv).map (fun q => f q.1) ∧
    RelL H ((kvs.map fun kv => if kv.1 = f k then (kv.1, e) else kv).map (·.2)) ((ks.map fun kv => if kv.1 = k then (kv.1, v) else kv).map (·.2))
  | [], [], k, _, _ => ⟨rfl, rfl⟩
  | [], _ :: _, k, h, _ => by simp at h
  | _ :: _, [], k, h, _ => by simp at h
  | (d, e') :: kvs, (q, u) :: ks, k, h, rl => by
    simp only [List.map_cons, List.cons.injEq] at h
    obtain ⟨h1, h2⟩ := h
    have rl' : RelL H (e' :: kvs.map (·.2)) (u :: ks.map (·.2)) := rl
    obtain ⟨r1, r2⟩ := relL_cons.mp rl'
    obtain ⟨ih1, ih2⟩ := repl_rel r (kvs := kvs) (ks := ks) k h2 r2
    by_cases hq : q = k
    · subst hq
      simp only [List.map_cons, h1, if_true]
      exact ⟨by rw [ih1], relL_cons.mpr ⟨r, ih2⟩⟩
    · have hd : ¬ d = f k := fun z => hq (hf _ _ (h1.symm.trans z))
      simp only [List.map_cons, if_neg hd, if_neg hq]
      exact ⟨by rw [ih1, h1], relL_cons.mpr ⟨r1, ih2⟩⟩
theorem put_rel {e : D} {v : V} (r : Rel H e v) {kvs : List (D × D)} {ks : List (κ × V)} (k : κ) (h : kvs.map (·.1) = ks.map (fun q => f q.1)) (rl : RelL H (kvs.map (·.2)) (ks.map (·.2))) :
    (putD kvs (f k) e).map (·.1) = (putK ks k v).map (fun q => f q.1) ∧ RelL H ((putD kvs (f k) e).map (·.2)) ((putK ks k v).map (·.2)) := by
  unfold putD putK
  rw [any_key hf k h]
  by_cases z : (ks.any fun kv => decide (kv.1 = k)) = true
  · rw [if_pos z, if_pos z]
    exact repl_rel hf r k h rl
  · rw [if_neg z, if_neg z]
    refine ⟨by simp [h], ?_⟩
    rw [List.map_append, List.map_append]
    exact rl.append (.one r)
theorem drop_rel : ∀ {kvs : List (D × D)} {ks : List (κ × V)} (k : κ), kvs.map (·.1) = ks.map (fun q => f q.1) → RelL H (kvs.map (·.2)) (ks.map (·.2)) →
    (dropD kvs (f k)).map (·.1) = (dropK ks k).map (fun q => f q.1) ∧ RelL H ((dropD kvs (f k)).map (·.2)) ((dropK ks k).map (·.2))
  | [], [], k, _, _ => ⟨rfl, rfl⟩
  | [], _ :: _, k, h, _ => by simp at h
  | _ :: _, [], k, h, _ => by simp at h
  | (d, e') :: kvs, (q, u) :: ks, k, h, rl => by
    simp only [List.map_cons, List.cons.injEq] at h
    obtain ⟨h1, h2⟩ := h
    have rl' : RelL H (e' :: kvs.map (·.2)) (u :: ks.map (·.2)) := rl
    obtain ⟨r1, r2⟩ := relL_cons.mp rl'
    obtain ⟨ih1, ih2⟩ := drop_rel (kvs := kvs) (ks := ks) k h2 r2
    unfold dropD dropK at ih1 ih2 ⊢
    by_cases hq : q = k
    · subst hq
      simp only [List.filter_cons, h1, ne_eq, not_true_eq_false, decide_false, Bool.false_eq_true, if_false]
      exact ⟨ih1, ih2⟩
    · have hd : ¬ d = f k := fun z => hq (hf _ _ (h1.symm.trans z))
      simp only [List.filter_cons, ne_eq, hd, hq, not_false_eq_true, decide_true, if_true, List.map_cons]
      exact ⟨by rw [ih1, h1], relL_cons.mpr ⟨r1, ih2⟩⟩
end
theorem putD_length (kvs : List (D × D)) (d e : D) : (putD kvs d e).length ≤ kvs.length + 1 := by
  unfold putD
  split <;> simp
theorem dropD_length (kvs : List (D × D)) (d : D) : (dropD kvs d).length ≤ kvs.length := List.length_filter_le _ _
def setR : D → D → D → Gp → (Gp → Prop) → Prop := fun o i v G Q => match o with
  | .ref a => ∃ ob, G a = some ob ∧ (match ob with
    | .lst ds => ∃ k j, i = .int k ∧ ixN ds.length k = some j ∧ Q (put G a (.lst (ds.set j v)))
    | .dict t kvs => keyOk t i = true ∧ kvs.length < sizeLine ∧ Q (put G a (.dict t (putD kvs i v)))
    | _ => False)
  | _ => False
def rSetD : TSet := fun o i v H Q => ∃ a H', o = .ref a ∧ DPut H a i v H' ∧ Q H'
theorem set_dict {X : Cx} (hu : X.A.units + 1 < cLine) : PSet X rSetD := by
  intro pins s σ H o i v ov iv u Q I ro ri rv h
  obtain ⟨a, H', rfl, g, q⟩ := h
  cases ro
  exact d_setItem hu I g ri rv fun s' I' => ⟨H', I', q⟩
theorem psetOr {X : Cx} {r r' : TSet} (h : PSet X r) (h' : PSet X r') : PSet X (fun o i v H Q => r o i v H Q ∨ r' o i v H Q) := by
  intro pins s σ H o i v ov iv u Q I ro ri rv q
  rcases q with q | q
  · exact h pins s σ H o i v ov iv u Q I ro ri rv q
  · exact h' pins s σ H o i v ov iv u Q I ro ri rv q
@[simp] def dgSub (to ti : DTE) : DTG := fun v sd G Q => to sd G fun o G1 => ti sd G1 fun i G2 => setR o i v G2 fun G3 => Q sd G3
/-- where the dict's put goes -/
theorem dput_at {K : PySem.W.Frag} {B : Bx} {H : Hp} {G : Gp} {a : Addr} {t : Bool} {kvs : List (D × D)} (R : Rep K B H G) (g : G a = some (.dict t kvs)) {d e : D} {v u : V} (r : Rel H d v) (re : Rel H e u) (hk : keyOk t d = true) (hl : kvs.length < sizeLine) :
    ∃ H', DPut H a v u H' ∧ Kp H H' ∧ Rep K B H' (put G a (.dict t (putD kvs d e))) := by
  have x := R.at_ a _ g
  have hz : (putD kvs d e).length ≤ sizeLine := Nat.le_trans (putD_length _ _ _) hl
  cases t with
  | false =>
    obtain ⟨k, hk⟩ := Option.isSome_iff_exists.mp (show (dKey d).isSome = true from hk)
    have e := dKey_eq hk
    subst e
    have ev := rel_kD r
    subst ev
    obtain ⟨_, ks, h1, h2, h3⟩ := x
    have hl2 : ks.length < sizeLine := by
      have := congrArg List.length h2
      simp at this
      omega
    have kw : Kp H (upd H a (.dK (putK ks k u))) := .write h1 fun _ z => nomatch z
    obtain ⟨q1, q2⟩ := put_rel (f := kD) (fun _ _ => kD_inj) (re.mono kw) k h2 (h3.mono kw)
    exact ⟨_, DPut.k h1 hl2, kw, R.write h1 (fun _ z => nomatch z) ⟨hz, _, upd_same, q1, q2⟩⟩
  | true =>
    cases d with
    | tup ds =>
      obtain ⟨k, hk⟩ := Option.isSome_iff_exists.mp (show (dKeys ds).isSome = true from hk)
      have e := dKeys_eq hk
      subst e
      obtain ⟨b, xs, rfl, hb, rl, _⟩ := r
      have ev := rel_kDs rl
      subst ev
      obtain ⟨_, ks, h1, h2, h3⟩ := x
      have hl2 : ks.length < sizeLine := by
        have := congrArg List.length h2
        simp at this
        omega
      have kw : Kp H (upd H a (.dT (putK ks k u))) := .write h1 fun _ z => nomatch z
      obtain ⟨q1, q2⟩ := put_rel (f := fun k : List Key => D.tup (k.map kD)) (fun _ _ z => kDs_inj (D.tup.inj z)) (re.mono kw) k h2 (h3.mono kw)
      exact ⟨_, DPut.t h1 hb hl2, kw, R.write h1 (fun _ z => nomatch z) ⟨hz, _, upd_same, q1, q2⟩⟩
    | _ => exact absurd hk (by simp [keyOk])
section
variable {X : Cx} {B : Bx} {o i : Expr} {to ti : DTE} {pos : Pos}
theorem dg_sub (hu : X.A.units + 1 < cLine) (ho : DE X B o to) (hi : DE X B i ti)
    (ha : ∀ v, assign (.Subscript o i pos) X.env v = (do
      let ov ← holding [v] (eval o X.env)
      let iv ← holding [v, ov] (eval i X.env)
      standAt pos
      holding [v, ov, iv] (setItem ov iv v)
      release [v, ov, iv] []) := by intro _; rfl) : DG X B (.Subscript o i pos) [] (dgSub to ti) := by
  obtain ⟨to', po, ho⟩ := ho.ex
  obtain ⟨ti', pi, hi⟩ := hi.ex
  refine ⟨_, pg_sub po pi (psetOr set_list (set_dict hu)) ha, fun v d σ H sd G Q P r hS R t hp => ?_⟩
  refine ho σ H sd G _ _ hS R t fun x dx H1 G1 k1 r1 R1 q1 => ?_
  refine hi σ H1 sd G1 _ _ (hS.mono k1) R1 q1 fun y dy H2 G2 k2 r2 R2 q2 => ?_
  have r1 := r1.mono k2
  have rv := r.mono (k1.trans k2)
  cases dx with
  | ref a =>
    cases r1
    obtain ⟨ob, g, q⟩ := q2
    cases ob with
    | lst ds =>
      obtain ⟨k, j, e1, e2, q⟩ := q
      subst e1
      cases r2
      obtain ⟨xs, h1, h2, hz⟩ := lst_at R2 g
      have kw : Kp H2 (upd H2 a (.lst (xs.set j v))) := .write h1 fun _ z => nomatch z
      exact .inl ⟨a, xs, k, j, rfl, rfl, h1, by rw [← h2.length]; exact e2, hp σ sd _ _ (.refl _ σ) (k1.trans (k2.trans kw)) (hS.mono (k1.trans (k2.trans kw)))
        (R2.write (o := .lst (ds.set j d)) h1 (fun _ z => nomatch z) ⟨_, upd_same, RelL.set (rv.mono kw) (h2.mono kw) j, by rw [List.length_set]; exact hz⟩) q⟩
    | dict t kvs =>
      obtain ⟨e1, e2, q⟩ := q
      obtain ⟨H3, g3, k3, R3⟩ := dput_at R2 g r2 rv e1 e2
      exact .inr ⟨a, H3, rfl, g3, hp σ sd H3 _ (.refl _ σ) (k1.trans (k2.trans k3)) (hS.mono (k1.trans (k2.trans k3))) R3 q⟩
    | _ => exact (show False from q).elim
  | _ => exact (show False from q2).elim
end
end DL
set_option Elab.async false
set_option linter.all false
set_option maxRecDepth 100000
set_option maxHeartbeats 4000000
namespace DL
open PySem PySem.Spec L2

/-! ### built-ins called -/
def DCall (X : Cx) (B : Bx) (f : Value) (rD : List D → Gp → DQ → Prop) : Prop :=
  ∃ r : List V → Hp → VK → Prop, CallR X f r ∧ ∀ H G xs ds Q P, RelL H ds xs → Rep X.K B H G → rD ds G Q → PostE X.K B H Q P → r xs H P
@[simp] def dCB (rD : List D → Gp → DQ → Prop) (t : DTA) : DTE := fun sd G Q => t sd G fun ds G1 => rD ds G1 Q
section
variable {X : Cx} {B : Bx} {x : Str} {id T : String} {e : Expr} {es : List Expr} {p pos : Pos} {t : DTA} {rD : List D → Gp → DQ → Prop}
theorem de_callB (hc : DCall X B (.builtin id) rD) (hg : Gl X x) (hm : X.mg x = none) (hv : bootBuiltins x = some (.builtin id)) (ha : DA X B (e :: es) t)
    (hn : x ≠ "__name__" := by decide) (hd : (x == ("__debug__" : Str)) = false := by decide) (he : starEach (e :: es) X.env = (false, eval e X.env) :: starEach es X.env := by rfl) (hpl : (backTo pos (starEach es X.env)).any (·.1) = false := by rfl) :
    DE X B (.Call (.Name x p) (e :: es) [] pos) (dCB rD t) := by
  obtain ⟨r, hc, hr⟩ := hc
  obtain ⟨t', pa, ha⟩ := ha.ex
  refine ⟨_, pe_callB hc hg hm hv pa hn hd he hpl, fun σ H sd G Q P hS R t hp => ?_⟩
  exact ha σ H sd G _ _ hS R t fun vs ds H1 G1 _ k1 r1 R1 q1 => hr H1 G1 vs ds Q P r1 R1 q1 (hp.mono k1)
theorem de_callTy (hc : DCall X B (.type T) rD) (hg : Gl X x) (hm : X.mg x = none) (hv : bootBuiltins x = some (.type T)) (ha : DA X B (e :: es) t)
    (hn : x ≠ "__name__" := by decide) (hd : (x == ("__debug__" : Str)) = false := by decide) (he : starEach (e :: es) X.env = (false, eval e X.env) :: starEach es X.env := by rfl) (hpl : (backTo pos (starEach es X.env)).any (·.1) = false := by rfl) :
    DE X B (.Call (.Name x p) (e :: es) [] pos) (dCB rD t) := by
  obtain ⟨r, hc, hr⟩ := hc
  obtain ⟨t', pa, ha⟩ := ha.ex
  refine ⟨_, pe_callTy hc hg hm hv pa hn hd he hpl, fun σ H sd G Q P hS R t hp => ?_⟩
  exact ha σ H sd G _ _ hS R t fun vs ds H1 G1 _ k1 r1 R1 q1 => hr H1 G1 vs ds Q P r1 R1 q1 (hp.mono k1)
theorem rel1 {H : Hp} {d : D} {xs : List V} (r : RelL H [d] xs) : ∃ x, xs = [x] ∧ Rel H d x := by
  obtain ⟨x, r, e, h1, h2⟩ := r
  cases (relL_nil.mp h2)
  exact ⟨x, e, h1⟩
theorem rel2 {H : Hp} {d e : D} {xs : List V} (r : RelL H [d, e] xs) : ∃ x y, xs = [x, y] ∧ Rel H d x ∧ Rel H e y := by
  obtain ⟨x, r, e, h1, y, r', e', h2, h3⟩ := r
  cases (relL_nil.mp h3)
  subst e'
  exact ⟨x, y, e, h1, h2⟩
/-- len -/
def lenR : List D → Gp → DQ → Prop := fun ds G Q => match ds with
  | [.tup xs] => Q (.int (xs.length : Nat)) G
  | [.str z] => z.length ≤ sizeLine ∧ Q (.int (z.length : Nat)) G
  | [.ref a] => ∃ o, G a = some o ∧ (match o with
    | .lst ds => Q (.int (ds.length : Nat)) G
    | .rol ds => Q (.int (ds.length : Nat)) G
    | .dict _ kvs => Q (.int (kvs.length : Nat)) G
    | _ => False)
  | _ => False
theorem dc_len : DCall X B (.builtin "len") lenR := by
  refine ⟨_, (call_len.or (call_lenD.or call_len_dT)), fun H G xs ds Q P r R q hp => ?_⟩
  match ds, q, r with
  | [.tup ys], q, r =>
    obtain ⟨x, rfl, rx⟩ := rel1 r
    obtain ⟨a, vs, rfl, h1, h2, _⟩ := rx
    exact .inl ⟨_, vs.length, rfl, .inr ⟨vs, SqT.of h1, rfl⟩, by rw [← h2.length]; exact hp _ (.int _) H G (.refl H) rfl R q⟩
  | [.str z], q, r =>
    obtain ⟨x, rfl, rx⟩ := rel1 r
    obtain ⟨rfl, _⟩ := rx
    exact .inl ⟨_, z.length, rfl, ⟨q.1, rfl⟩, hp _ (.int _) H G (.refl H) rfl R q.2⟩
  | [.ref a], q, r =>
    obtain ⟨x, rfl, rx⟩ := rel1 r
    cases rx
    obtain ⟨o, g, q⟩ := q
    cases o with
    | lst ds =>
      obtain ⟨vs, h1, h2, _⟩ := lstRd R (.inl g)
      exact .inl ⟨_, vs.length, rfl, .inl ⟨vs, .inl h1, rfl⟩, by rw [← h2.length]; exact hp _ (.int _) H G (.refl H) rfl R q⟩
    | rol ds =>
      obtain ⟨vs, h1, h2, _⟩ := lstRd R (.inr g)
      exact .inl ⟨_, vs.length, rfl, .inl ⟨vs, .inl h1, rfl⟩, by rw [← h2.length]; exact hp _ (.int _) H G (.refl H) rfl R q⟩
    | dict t kvs =>
      have z := R.at_ a _ g
      cases t with
      | false =>
        obtain ⟨_, ks, h1, h2, _⟩ := z
        have hl : ks.length = kvs.length := by simpa using (congrArg List.length h2).symm
        exact .inr (.inl ⟨a, ks, rfl, h1, by rw [hl]; exact hp _ (.int _) H G (.refl H) rfl R q⟩)
      | true =>
        obtain ⟨_, ks, h1, h2, _⟩ := z
        have hl : ks.length = kvs.length := by simpa using (congrArg List.length h2).symm
        exact .inr (.inr ⟨a, ks, rfl, h1, by rw [hl]; exact hp _ (.int _) H G (.refl H) rfl R q⟩)
    | _ => exact (show False from q).elim
/-- isinstance(x, T) of a built-in class -/
def tyN (G : Gp) : D → Option String
  | .non => some "NoneType"
  | .bl _ => some "bool"
  | .int _ => some "int"
  | .str _ => some "str"
  | .tup _ => some "tuple"
  | .ref a => (match G a with
    | some (.lst _) => some "list"
    | some (.rol _) => some "list"
    | some (.dict _ _) => some "dict"
    | _ => none)
  | .ty _ => none
@[simp] def isTy (a T : String) : Bool := a == T || (a == "bool" && T == "int")
def tyNames : List String := ["NoneType", "bool", "int", "str", "tuple", "list", "dict"]
theorem kit_all : ∀ a ∈ tyNames, ∀ b ∈ tyNames, kitB a b = some (isTy a b) := by decide +kernel
@[simp] def isiR : List D → Gp → DQ → Prop := fun ds G Q => match ds with
  | [d, .ty T] => T ∈ tyNames ∧ ∃ a, tyN G d = some a ∧ Q (.bl (isTy a T)) G
  | _ => False
theorem tyN_ok {K : PySem.W.Frag} {H : Hp} {G : Gp} {d : D} {v : V} {a : String} (R : Rep K B H G) (r : Rel H d v) (h : tyN G d = some a) : a ∈ tyNames ∧ TyX K H v (.type a) := by
  cases d with
  | non => cases r; cases h; exact ⟨by decide, .base .non⟩
  | bl b => cases r; cases h; exact ⟨by decide, .base (.bl b)⟩
  | int i => cases r; cases h; exact ⟨by decide, .base (.int i)⟩
  | str s => obtain ⟨rfl, _⟩ := r; cases h; exact ⟨by decide, .base (.str s)⟩
  | tup ds => obtain ⟨p, xs, rfl, h1, _⟩ := r; cases h; exact ⟨by decide, .base (.tup h1)⟩
  | ref p =>
    cases r
    simp only [tyN] at h
    cases g : G p with
    | none => rw [g] at h; cases h
    | some o =>
      rw [g] at h
      cases o with
      | lst ds => cases h; obtain ⟨xs, h1, _⟩ := R.at_ p _ g; exact ⟨by decide, .base (.lst h1)⟩
      | rol ds =>
        cases h
        obtain ⟨xs, h1 | ⟨ob, h1⟩, _⟩ := R.at_ p _ g
        · exact ⟨by decide, .base (.lst h1)⟩
        · exact ⟨by decide, .base (.frz h1)⟩
      | dict t kvs =>
        cases h
        have z := R.at_ p _ g
        cases t with
        | false => obtain ⟨_, ks, h1, _⟩ := z; exact ⟨by decide, .base (.dK h1)⟩
        | true => obtain ⟨_, ks, h1, _⟩ := z; exact ⟨by decide, .base (.dT h1)⟩
      | _ => cases h
  | ty n => cases h
theorem dc_isi : DCall X B (.builtin "isinstance") isiR := by
  refine ⟨_, call_isi, fun H G xs ds Q P r R q hp => ?_⟩
  match ds, q, r with
  | [d, .ty T], q, r =>
    obtain ⟨x, y, rfl, r1, r2⟩ := rel2 r
    cases r2
    obtain ⟨hT, a, h, q⟩ := q
    obtain ⟨hm, ty⟩ := tyN_ok R r1 h
    exact ⟨x, .ty T, .type a, .type T, _, rfl, .ty T, ty, kit_ty (kit_all a hm T hT), hp _ (.bl _) H G (.refl H) rfl R q⟩
theorem de_ty {n : Str} {T : String} (hg : Gl X n) (hm : X.mg n = none) (hv : bootBuiltins n = some (.type T)) (hn : n ≠ "__name__" := by decide) (hd : (n == ("__debug__" : Str)) = false := by decide) : DE X B (.Name n pos) (dC (.ty T)) :=
  de_of_c (pe_bltn (v := .ty T) hg hm hv rfl hn hd) fun _ => rfl
/-- a module's constant -/
theorem de_gint {n : Str} {i : Int} (hg : Gl X n) (hm : ∃ t, X.mg n = some (.int i t)) (hd : (n == ("__debug__" : Str)) = false := by decide) : DE X B (.Name n pos) (dC (.int i)) := by
  obtain ⟨t, hm⟩ := hm
  exact de_of_c (pe_glob (v := .int i) hg hm ⟨t, rfl⟩ hd) fun _ => rfl
theorem de_gstr {n s : Str} (hg : Gl X n) (hm : ∃ t, X.mg n = some (.str s t)) (ok : OkS s := by decide +kernel) (hd : (n == ("__debug__" : Str)) = false := by decide) : DE X B (.Name n pos) (dC (.str s)) := by
  obtain ⟨t, hm⟩ := hm
  exact de_of_c (pe_glob (v := .str s) hg hm ⟨t, rfl⟩ hd) fun _ => ⟨rfl, ok⟩
/-- int(x), str(x), tuple(x), list(x), max(x, y) -/
def intR : List D → Gp → DQ → Prop := fun ds G Q => match ds with
  | [.int i] => Q (.int i) G
  | [.bl b] => Q (.int (if b then 1 else 0)) G
  | _ => False
theorem dc_int : DCall X B (.type "int") intR := by
  refine ⟨_, call_int1, fun H G xs ds Q P r R q hp => ?_⟩
  match ds, q, r with
  | [.int i], q, r =>
    obtain ⟨x, rfl, rx⟩ := rel1 r
    cases rx
    exact .inl ⟨i, rfl, hp _ (.int _) H G (.refl H) rfl R q⟩
  | [.bl b], q, r =>
    obtain ⟨x, rfl, rx⟩ := rel1 r
    cases rx
    exact .inr ⟨b, rfl, hp _ (.int _) H G (.refl H) rfl R q⟩
def tupleR : List D → Gp → DQ → Prop := fun ds G Q => match ds with
  | [.tup ds] => Q (.tup ds) G
  | [.ref a] => ∃ o, G a = some o ∧ lstO o fun ds => Q (.tup ds) G
  | _ => False
theorem dc_tuple : DCall X B (.type "tuple") tupleR := by
  refine ⟨_, call_tuple_of, fun H G xs ds Q P r R q hp => ?_⟩
  match ds, q, r with
  | [.tup ys], q, r =>
    obtain ⟨x, rfl, rx⟩ := rel1 r
    obtain ⟨a, vs, rfl, h1, h2, hz⟩ := rx
    exact ⟨a, vs, rfl, .inr ⟨SqT.of h1, hp _ (.tup ys) H G (.refl H) ⟨a, vs, rfl, h1, h2, hz⟩ R q⟩⟩
  | [.ref a], q, r =>
    obtain ⟨x, rfl, rx⟩ := rel1 r
    cases rx
    obtain ⟨o, g, q⟩ := q
    obtain ⟨ds, il, q, ho⟩ := lstO_is g q
    obtain ⟨vs, h1, h2, hz⟩ := lstRd R il
    refine ⟨a, vs, rfl, .inl ⟨.inl h1, fun p hn => ?_⟩⟩
    obtain ⟨k, r, R'⟩ := tup_new hn h2 hz R
    exact hp _ _ _ G k r R' q
def listR : List D → Gp → DQ → Prop := fun ds G Q => match ds with
  | [.tup ds] => ∀ p, G p = none → Q (.ref p) (put G p (.lst ds))
  | [.ref a] => ∃ o, G a = some o ∧ lstO o fun ds => ∀ p, G p = none → Q (.ref p) (put G p (.lst ds))
  | _ => False
theorem dc_list : DCall X B (.type "list") listR := by
  refine ⟨_, call_list_of, fun H G xs ds Q P r R q hp => ?_⟩
  match ds, q, r with
  | [.tup ys], q, r =>
    obtain ⟨x, rfl, rx⟩ := rel1 r
    obtain ⟨a, vs, rfl, h1, h2, hz⟩ := rx
    refine ⟨a, vs, rfl, .inr (SqT.of h1), fun p hn => ?_⟩
    obtain ⟨k, R'⟩ := lst_new hn h2 hz R
    exact hp _ (.ref p) _ _ k rfl R' (q p (R.gnone hn))
  | [.ref a], q, r =>
    obtain ⟨x, rfl, rx⟩ := rel1 r
    cases rx
    obtain ⟨o, g, q⟩ := q
    obtain ⟨ds, il, q, ho⟩ := lstO_is g q
    obtain ⟨vs, h1, h2, hz⟩ := lstRd R il
    refine ⟨a, vs, rfl, .inl (.inl h1), fun p hn => ?_⟩
    obtain ⟨k, R'⟩ := lst_new hn h2 hz R
    exact hp _ (.ref p) _ _ k rfl R' (q p (R.gnone hn))
def maxR : List D → Gp → DQ → Prop := fun ds G Q => match ds with
  | [.int i, .int j] => Q (.int (max i j)) G
  | _ => False
theorem dc_max (hc : X.calm = true) : DCall X B (.builtin "max") maxR := by
  refine ⟨_, call_max2 hc, fun H G xs ds Q P r R q hp => ?_⟩
  match ds, q, r with
  | [.int i, .int j], q, r =>
    obtain ⟨x, y, rfl, r1, r2⟩ := rel2 r
    cases r1
    cases r2
    have e : (if j > i then j else i) = max i j := by omega
    exact ⟨i, j, rfl, hp _ (.int _) H G (.refl H) (by rw [e]; rfl) R q⟩
end
end DL
set_option Elab.async false
set_option linter.all false
set_option maxRecDepth 100000
set_option maxHeartbeats 4000000
namespace DL
open PySem PySem.Spec L2

/-! ### len(set(ints)) -/
/-- the first of equal ones stays -/
def dd (ns : List Int) : List Int := ns.foldl (fun acc x => if acc.any (· == x) then acc else acc ++ [x]) []
theorem dd_go : ∀ (ns acc : List Int), acc.Nodup → (ns.foldl (fun acc x => if acc.any (· == x) then acc else acc ++ [x]) acc).Nodup ∧ ∀ x, x ∈ ns.foldl (fun acc x => if acc.any (· == x) then acc else acc ++ [x]) acc ↔ x ∈ acc ∨ x ∈ ns
  | [], acc, h => ⟨h, by simp⟩
  | n :: ns, acc, h => by
    rw [List.foldl_cons]
    by_cases hn : acc.any (· == n) = true
    · rw [if_pos hn]
      obtain ⟨h1, h2⟩ := dd_go ns acc h
      refine ⟨h1, fun x => ?_⟩
      rw [h2]
      have hm : n ∈ acc := by simpa using hn
      constructor
      · rintro (z | z)
        · exact .inl z
        · exact .inr (List.mem_cons_of_mem _ z)
      · rintro (z | z)
        · exact .inl z
        · rcases List.mem_cons.mp z with rfl | z
          · exact .inl hm
          · exact .inr z
    · rw [if_neg hn]
      have hm : n ∉ acc := by simpa using hn
      obtain ⟨h1, h2⟩ := dd_go ns (acc ++ [n]) (by
        rw [List.nodup_append]
        exact ⟨h, by simp, fun a ha b hb => by
          have e : b = n := by simpa using hb
          rw [e]
          exact fun z => hm (z ▸ ha)⟩)
      refine ⟨h1, fun x => ?_⟩
      rw [h2]
      simp [or_assoc]
theorem dd_nodup (ns : List Int) : (dd ns).Nodup := (dd_go ns [] (by simp)).1
theorem dd_mem (ns : List Int) (x : Int) : x ∈ dd ns ↔ x ∈ ns := ((dd_go ns [] List.nodup_nil).2 x).trans ⟨fun h => h.elim (fun z => nomatch z) id, .inr⟩
theorem dd_length {ns ms : List Int} (h : ms.Nodup) (hm : ∀ x, x ∈ ms ↔ x ∈ ns) : ms.length = (dd ns).length :=
  ((List.perm_ext_iff_of_nodup h (dd_nodup ns)).mpr fun x => (hm x).trans (dd_mem ns x).symm).length_eq
theorem dd_of_nodup {ns : List Int} (h : ns.Nodup) : (dd ns).length = ns.length := (dd_length h fun _ => Iff.rfl).symm
theorem nodup_of_dd {ns : List Int} (h : (dd ns).length = ns.length) : ns.Nodup := by
  have key : ∀ ms : List Int, ¬ ms.Nodup → (dd ms).length < ms.length := by
    intro ms hn
    obtain ⟨x, hx⟩ : ∃ x, 2 ≤ ms.count x := by
      refine Classical.byContradiction fun z => hn ?_
      rw [List.nodup_iff_count]
      intro a
      refine Nat.le_of_not_lt fun q => z ⟨a, q⟩
    have h1 : (dd ms).length ≤ (ms.erase x).length := (dd_nodup ms).length_le_of_subset fun y hy => by
      have hy' := (dd_mem ms y).mp hy
      by_cases e : y = x
      · subst e
        rw [← List.count_pos_iff, List.count_erase_self]
        omega
      · exact (List.mem_erase_of_ne e).mpr hy'
    have hm : x ∈ ms := List.count_pos_iff.mp (by omega)
    rw [List.length_erase_of_mem hm] at h1
    have := List.length_pos_of_mem hm
    omega
  by_cases hn : ns.Nodup
  · exact hn
  · exact absurd h (Nat.ne_of_lt (key ns hn))
theorem firstMet_take (ns : List Int) : ∀ i, i ≤ ns.length → PyProof.Rows.firstMet (fun i => ns.getD i 0) i = dd (ns.take i)
  | 0, _ => rfl
  | i + 1, hi => by
    have e2 : ns.take (i + 1) = ns.take i ++ [ns[i]] := by rw [List.take_add_one, List.getElem?_eq_getElem hi] <;> rfl
    have e1 : ns.getD i 0 = ns[i] := by rw [List.getD_eq_getElem?_getD, List.getElem?_eq_getElem hi] <;> rfl
    rw [PyProof.Rows.firstMet_succ, firstMet_take ns i (Nat.le_of_lt hi), e2, e1]
    unfold dd
    rw [List.foldl_append]
    rfl
def dLenSet (ta : DTE) : DTE := fun sd G Q => ta sd G fun d G1 => ∃ ns : List Int, ns.length ≤ 4000 ∧ Q (.int ((dd ns).length : Nat)) G1 ∧ (match d with
  | .tup ds => ds = ns.map .int
  | .ref a => ∃ o, G1 a = some o ∧ lstO o fun ds => ds = ns.map .int
  | _ => False)
def tLenSetA (K : PySem.W.Frag) (ta : TE) : TE := fun σ H Q => ta σ H fun x H1 => ∃ (l : Addr) (ns : List Int), x = .ref l ∧ (SqL K H1 l (ns.map V.int) ∨ SqT K H1 l (ns.map V.int)) ∧ ns.length ≤ 4000 ∧ Q (.int ((dd ns).length : Nat)) H1
section
open PyProof.Rows
theorem pe_lenSetA {X : Cx} {a : Expr} {ta : TE} {p p2 q pos : Pos} (hg : Gl X "len") (hm : X.mg "len" = none) (hg2 : Gl X "set") (hm2 : X.mg "set" = none) (ha : PE X a ta) (hc : X.calm = true := by rfl)
    (na : starEach [a] X.env = (false, eval a X.env) :: starEach [] X.env := by rfl) : PE X (.Call (.Name "len" p) [.Call (.Name "set" p2) [a] [] q] [] pos) (tLenSetA X.K ta) := by
  refine ⟨fun pins s σ H Q I h => ?_⟩
  refine Call_ (ld_blt I hg hm PySem.boot_len ?_)
  refine PyProof.Rows.callWith_builtin1 (PyProof.Rows.args_cons ?_ rfl) rfl rfl
  refine Call_ (ld_blt I hg2 hm2 (by decide +kernel : bootBuiltins "set" = some (.type "set")) ?_)
  refine PyProof.Rows.callWith_type1 (PyProof.Rows.args_cons (thn (ha.run pins s σ H _ I h) fun v s1 ⟨x, H1, I1, r1, q1⟩ => PyProof.Rows.args_nil ?_) na) na rfl
  obtain ⟨l, ns, rfl, hq, hl, q1⟩ := q1
  cases r1
  rcases hq with hq | hq
  · obtain ⟨its, r, pl, hz⟩ := I1.list hq
    have hlen : its.toArray.size = ns.length := by rw [List.size_toArray, ← r.length, List.length_map]
    refine call_set_list (I1.ok.hd hc) pl.isList (ns := ns) (by simpa using r.ints) (by rw [hlen]; unfold scanBound; omega) fun h' tk hS hk => ?_
    refine PyProof.Rows.args_nil ?_
    rw [hlen, firstMet_take ns ns.length (Nat.le_refl _), List.take_length] at hS
    obtain ⟨o, es, ep, t, ho, hex, hd, _, _, _, hf, hn⟩ := hS
    have I2 : Inv X pins σ H1 { s1 with heap := h', toks := tk } := I1.kept fun b o e => hk b o (Heap.lt_size e) e
    have hdd : (dd ns).length ≤ ns.length := (dd_nodup ns).length_le_of_subset fun y hy => (dd_mem ns y).mp hy
    exact PySem.call_len_set ho hex hd hf (by rw [hn] <;> omega) ⟨.int (dd ns).length, H1, I2.tok _, ⟨_, by rw [hn]⟩, q1⟩
  · obtain ⟨its, r, pl, hz⟩ := I1.tuple hq
    have hit : IntsAre its ns := r.ints
    refine L2.call_set_tupI ns (I1.ok.hd hc) (show s1.heap.IsTuple l its.toArray from pl) (by simpa using hit) (by unfold scanBound; omega) fun h' tk c R1 hcn hk => ?_
    refine PyProof.Rows.args_nil ?_
    obtain ⟨o, es, ep, t, ho, hex, hd, _, nd, hmem, _, hf, hn, _⟩ := R1
    have I2 : Inv X pins σ H1 { s1 with heap := h', toks := tk } := I1.kept fun b o e => hk b o e
    have hc2 : es.size = (dd ns).length := by
      have := dd_length (ns := ns) nd fun x => (hmem x).symm.trans (by simp)
      rw [← this]
      simp
    exact PySem.call_len_set ho hex hd hf (by rw [hn] <;> omega) ⟨.int (dd ns).length, H1, I2.tok _, ⟨_, by rw [hc2]⟩, q1⟩
end
end DL
namespace DL
open PySem PySem.Spec L2
section
variable {X : Cx} {B : Bx} {a : Expr} {ta : DTE} {p p2 q pos : Pos}
theorem rel_ints {H : Hp} : ∀ {ns : List Int} {xs : List V}, RelL H (ns.map D.int) xs → xs = ns.map V.int
  | [], xs, r => relL_nil.mp r
  | n :: ns, xs, ⟨x, r, e, h1, h2⟩ => by
    rw [e, show x = V.int n from h1, rel_ints h2]
    rfl
theorem de_lenSet (hg : Gl X "len") (hm : X.mg "len" = none) (hg2 : Gl X "set") (hm2 : X.mg "set" = none) (ha : DE X B a ta) (hc : X.calm = true := by rfl)
    (na : starEach [a] X.env = (false, eval a X.env) :: starEach [] X.env := by rfl) : DE X B (.Call (.Name "len" p) [.Call (.Name "set" p2) [a] [] q] [] pos) (dLenSet ta) := by
  obtain ⟨ta', pa, ha⟩ := ha.ex
  refine ⟨_, pe_lenSetA hg hm hg2 hm2 pa hc na, fun σ H sd G Q P hS R t hp => ?_⟩
  refine ha σ H sd G _ _ hS R t fun v d H1 G1 k1 r1 R1 q1 => ?_
  obtain ⟨ns, h1, h2, h3⟩ := q1
  cases d with
  | tup ds =>
    have e : ds = ns.map .int := h3
    subst e
    obtain ⟨l, xs, rfl, e1, e2, _⟩ := r1
    cases rel_ints e2
    exact ⟨l, ns, rfl, .inr (SqT.of e1), h1, hp _ (.int _) H1 G1 k1 rfl R1 h2⟩
  | ref l =>
    cases r1
    obtain ⟨o, g, h3⟩ := h3
    obtain ⟨ds, il, e, _⟩ := lstO_is g h3
    subst e
    obtain ⟨xs, e1, e2, _⟩ := lstRd R1 il
    cases rel_ints e2
    exact ⟨l, ns, rfl, .inl (.inl e1), h1, hp _ (.int _) H1 G1 k1 rfl R1 h2⟩
  | _ => exact (show False from h3).elim
/-- list(range(n)) -/
def dListRng (ta : DTE) : DTE := fun sd G Q => ta sd G fun d G1 => match d with
  | .int n => (0 ≤ n ∧ n ≤ 1000000) ∧ ∀ p, G1 p = none → Q (.ref p) (put G1 p (.lst (rngD 0 n.toNat)))
  | _ => False
theorem rngD_rel {H : Hp} (lo : Int) : ∀ n : Nat, RelL H (rngD lo n) ((List.range n).map fun i => V.int (lo + (i : Nat)))
  | 0 => rfl
  | n + 1 => by
    unfold rngD
    rw [List.range_succ, List.map_append, List.map_append]
    exact (rngD_rel lo n).append (.one rfl)
theorem de_listRng (hc : X.calm = true) (hg0 : Gl X "list") (hm0 : X.mg "list" = none) (hg : Gl X "range") (hm : X.mg "range" = none) (ha : DE X B a ta)
    (na : starEach [a] X.env = (false, eval a X.env) :: starEach [] X.env := by rfl) (na2 : starEach [.Call (.Name "range" p2) [a] [] q] X.env = (false, eval (.Call (.Name "range" p2) [a] [] q) X.env) :: starEach [] X.env := by rfl) :
    DE X B (.Call (.Name "list" p) [.Call (.Name "range" p2) [a] [] q] [] pos) (dListRng ta) := by
  obtain ⟨ta', pa, ha⟩ := ha.ex
  refine ⟨_, pe_listRg hc hg0 hm0 (prg_1 hg hm pa na) na2, fun σ H sd G Q P hS R t hp => ?_⟩
  refine ha σ H sd G _ _ hS R t fun v d H1 G1 k1 r1 R1 q1 => ?_
  cases d with
  | int n =>
    cases r1
    obtain ⟨⟨z1, z2⟩, q1⟩ := q1
    refine ⟨n, rfl, .of_le (by omega) (by omega) (by omega) (by omega), fun p hn => ?_⟩
    have e : rgV 0 n = (List.range n.toNat).map fun i => V.int (0 + (i : Nat)) := by unfold rgV; rw [Int.sub_zero]
    rw [e]
    obtain ⟨k, R'⟩ := lst_new hn (rngD_rel 0 n.toNat) (by simp [rngD, sizeLine_eq]; omega) R1
    exact hp _ (.ref p) _ _ (k1.trans k) rfl R' (q1 p (R1.gnone hn))
  | _ => exact (show False from q1).elim
end

/-! ### methods of built-in types -/
def tyD (T : String) (d : D) (G : Gp) : Prop := match d with
  | .str _ => T = "str"
  | .ref a => ∃ o, G a = some o ∧ (match o with
    | .lst _ => T = "list"
    | .rol _ => T = "list"
    | .dict _ _ => T = "dict"
    | _ => False)
  | _ => False
theorem tyD_ok {K : PySem.W.Frag} {B : Bx} {H : Hp} {G : Gp} {d : D} {v : V} {T : String} (R : Rep K B H G) (r : Rel H d v) (h : tyD T d G) : tyV K T v H := by
  cases d with
  | str s => obtain ⟨rfl, _⟩ := r; exact h
  | ref a =>
    cases r
    obtain ⟨o, g, h⟩ := h
    cases o with
    | lst ds => obtain ⟨xs, h1, _⟩ := R.at_ a _ g; exact .inl ⟨h, xs, .inl (.inl h1)⟩
    | rol ds => obtain ⟨xs, h1, _⟩ := R.at_ a _ g; exact .inl ⟨h, xs, .inl h1⟩
    | dict t kvs =>
      have z := R.at_ a _ g
      cases t with
      | false => obtain ⟨_, ks, h1, _⟩ := z; exact .inr (.inr (.inl ⟨h, .inl ⟨ks, h1⟩⟩))
      | true => obtain ⟨_, ks, h1, _⟩ := z; exact .inr (.inr (.inl ⟨h, .inr ⟨ks, h1⟩⟩))
    | _ => exact (show False from h).elim
  | _ => exact (show False from h).elim
def DMt (X : Cx) (B : Bx) (id : String) (rD : D → List D → Gp → DQ → Prop) : Prop :=
  ∃ r : V → List V → Hp → VK → Prop, MtR X id r ∧ ∀ H G x d xs ds Q P, Rel H d x → RelL H ds xs → Rep X.K B H G → rD d ds G Q → PostE X.K B H Q P → r x xs H P
@[simp] def dBM (T : String) (rD : D → List D → Gp → DQ → Prop) (to : DTE) (t : DTA) : DTE := fun sd G Q => to sd G fun d G1 => tyD T d G1 ∧ t sd G1 fun ds G2 => rD d ds G2 Q
section
variable {X : Cx} {B : Bx} {o e : Expr} {es : List Expr} {to : DTE} {t : DTA} {name : Str} {apos cpos : Pos} {T id : String} {rD : D → List D → Gp → DQ → Prop}
theorem de_bm0 (pa : PlainAttrs T) (slot : Slot T name id) (hty : typeOf (.builtin id) = pure (.type "method_descriptor")) (hm : DMt X B id rD) (ho : DE X B o to)
    (hbase : attributeBase o name X.env (eval o X.env) = eval o X.env := by rfl) (hline : (apos.endLine == cpos.line) = true := by rfl) : DE X B (.Call (.Attribute o name apos) [] [] cpos) (dBM T rD to daNil) := by
  obtain ⟨r, hm, hr⟩ := hm
  obtain ⟨to', po, ho⟩ := ho.ex
  refine ⟨_, pe_bm0 pa slot hty hm po hbase hline, fun σ H sd G Q P hS R t hp => ?_⟩
  exact ho σ H sd G _ _ hS R t fun v d H1 G1 k1 r1 R1 q1 => ⟨tyD_ok R1 r1 q1.1, hr H1 G1 v d [] [] Q P r1 rfl R1 q1.2 (hp.mono k1)⟩
theorem de_bm (pa : PlainAttrs T) (slot : Slot T name id) (hty : typeOf (.builtin id) = pure (.type "method_descriptor")) (hm : DMt X B id rD) (ho : DE X B o to) (ha : DA X B (e :: es) t)
    (hbase : attributeBase o name X.env (eval o X.env) = eval o X.env := by rfl)
    (hfew : ((backTo cpos (starEach (e :: es) X.env)).all (fun x => !x.1) && (backToKw cpos (keywordEach [] X.env)).all (fun x => x.1.isSome)
      && decide ((e :: es).length + ([] : List Keyword).length + (if ([] : List Keyword).isEmpty then 0 else 1) < 30)) = true := by rfl)
    (hline : (apos.endLine == cpos.line) = true := by rfl) (hs : starEach (e :: es) X.env = (false, eval e X.env) :: starEach es X.env := by rfl) (hplain : (backTo cpos (starEach es X.env)).any (·.1) = false := by rfl) :
    DE X B (.Call (.Attribute o name apos) (e :: es) [] cpos) (dBM T rD to t) := by
  obtain ⟨r, hm, hr⟩ := hm
  obtain ⟨to', po, ho⟩ := ho.ex
  obtain ⟨ta', pa', ha⟩ := ha.ex
  refine ⟨_, pe_bm pa slot hty hm po pa' hbase hfew hline hs hplain, fun σ H sd G Q P hS R t hp => ?_⟩
  refine ho σ H sd G _ _ hS R t fun v d H1 G1 k1 r1 R1 q1 => ⟨tyD_ok R1 r1 q1.1, ?_⟩
  exact ha σ H1 sd G1 _ _ (hS.mono k1) R1 q1.2 fun vs ds H2 G2 _ k2 r2 R2 q2 => hr H2 G2 v d vs ds Q P (r1.mono k2) r2 R2 q2 (hp.mono (k1.trans k2))
def appR : D → List D → Gp → DQ → Prop := fun d ds G Q => match d, ds with
  | .ref a, [y] => ∃ o, G a = some o ∧ (match o with
    | .lst xs => xs.length < sizeLine ∧ Q .non (put G a (.lst (xs ++ [y])))
    | _ => False)
  | _, _ => False
theorem dm_append : DMt X B "list.append" appR := by
  refine ⟨_, mt_append, fun H G x d xs ds Q P r1 r2 R q hp => ?_⟩
  match d, ds, q, r1, r2 with
  | .ref a, [y], q, r1, r2 =>
    cases r1
    obtain ⟨v, ev, rv⟩ := rel1 r2
    subst ev
    obtain ⟨o, g, q⟩ := q
    cases o with
    | lst zs =>
      obtain ⟨vs, h1, h2, hz⟩ := lst_at R g
      have kw : Kp H (upd H a (.lst (vs ++ [v]))) := .write h1 fun _ z => nomatch z
      exact ⟨a, vs, v, rfl, rfl, h1, by rw [← h2.length]; exact q.1, hp _ .non _ _ kw rfl (R.write (o := .lst (zs ++ [y])) h1 (fun _ z => nomatch z) ⟨_, upd_same, (h2.mono kw).append (.one (rv.mono kw)), by rw [List.length_append]; exact q.1⟩) q.2⟩
    | _ => exact (show False from q).elim
def popR : D → List D → Gp → DQ → Prop := fun d ds G Q => match d, ds with
  | .ref a, [.int i] => ∃ o, G a = some o ∧ (match o with
    | .lst xs => 0 ≤ i ∧ ∃ y, xs[i.toNat]? = some y ∧ Q y (put G a (.lst (xs.eraseIdx i.toNat)))
    | _ => False)
  | _, _ => False
theorem dm_popAt : DMt X B "list.pop" popR := by
  refine ⟨_, mt_popAt, fun H G x d xs ds Q P r1 r2 R q hp => ?_⟩
  match d, ds, q, r1, r2 with
  | .ref a, [.int i], q, r1, r2 =>
    cases r1
    obtain ⟨v, ev, rv⟩ := rel1 r2
    subst ev
    cases rv
    obtain ⟨o, g, q⟩ := q
    cases o with
    | lst zs =>
      obtain ⟨hi, y, hy, q⟩ := q
      obtain ⟨vs, h1, h2, hz⟩ := lst_at R g
      obtain ⟨u, hu, ru⟩ := h2.get _ hy
      have hl : i.toNat < vs.length := (List.getElem?_eq_some_iff.mp hu).1
      have hl2 := h2.length
      have h63 := line63
      have kw : Kp H (upd H a (.lst (vs.eraseIdx i.toNat))) := .write h1 fun _ z => nomatch z
      have e : seqIndex? i vs.length = some i.toNat := by
        have q1 : atI vs i = some u := by
          have := atI_nat (xs := vs) (j := i.toNat) hu
          rwa [Int.toNat_of_nonneg hi] at this
        obtain ⟨j, e1, e2, e3, _⟩ := atI_get q1
        have : ixN vs.length i = some i.toNat := by
          unfold ixN
          rw [if_pos hi, if_pos (by omega)]
        exact (ixN_seq this).1
      refine ⟨a, vs, i, i.toNat, u, rfl, rfl, h1, by omega, by omega, e, hu, ?_⟩
      exact hp u y _ _ kw (ru.mono kw) (R.write (o := .lst (zs.eraseIdx i.toNat)) h1 (fun _ z => nomatch z) ⟨_, upd_same, (h2.mono kw).erase _, Nat.le_trans (len_erase _ _) hz⟩) q
    | _ => exact (show False from q).elim
def extR : D → List D → Gp → DQ → Prop := fun d ds G Q => match d, ds with
  | .ref a, [.ref b] => ∃ x y, G a = some (.lst x) ∧ G b = some (.lst y) ∧ x.length + y.length ≤ sizeLine ∧ Q .non (put G a (.lst (x ++ y)))
  | _, _ => False
theorem dm_extend : DMt X B "list.extend" extR := by
  refine ⟨_, mt_extend, fun H G x d xs ds Q P r1 r2 R q hp => ?_⟩
  match d, ds, q, r1, r2 with
  | .ref a, [.ref b], q, r1, r2 =>
    cases r1
    obtain ⟨v, ev, rv⟩ := rel1 r2
    subst ev
    cases rv
    obtain ⟨x, y, g1, g2, hz, q⟩ := q
    obtain ⟨vs, h1, h2, _⟩ := lst_at R g1
    obtain ⟨ws, h1', h2', _⟩ := lst_at R g2
    have kw : Kp H (upd H a (.lst (vs ++ ws))) := .write h1 fun _ z => nomatch z
    exact ⟨a, b, vs, ws, rfl, rfl, h1, h1', by rw [← h2.length, ← h2'.length]; exact hz, hp _ .non _ _ kw rfl (R.write (o := .lst (x ++ y)) h1 (fun _ z => nomatch z) ⟨_, upd_same, (h2.mono kw).append (h2'.mono kw), by rw [List.length_append]; exact hz⟩) q⟩
def clearR : D → List D → Gp → DQ → Prop := fun d ds G Q => match d, ds with
  | .ref a, [] => ∃ o, G a = some o ∧ (match o with
    | .lst _ => Q .non (put G a (.lst []))
    | _ => False)
  | _, _ => False
theorem dm_clear : DMt X B "list.clear" clearR := by
  refine ⟨_, mt_clear, fun H G x d xs ds Q P r1 r2 R q hp => ?_⟩
  match d, ds, q, r1, r2 with
  | .ref a, [], q, r1, r2 =>
    cases r1
    cases (relL_nil.mp r2)
    obtain ⟨o, g, q⟩ := q
    cases o with
    | lst zs =>
      obtain ⟨vs, h1, h2, hz⟩ := lst_at R g
      have kw : Kp H (upd H a (.lst [])) := .write h1 fun _ z => nomatch z
      exact ⟨a, vs, rfl, rfl, h1, hp _ .non _ _ kw rfl (R.write (o := .lst []) h1 (fun _ z => nomatch z) ⟨_, upd_same, rfl, Nat.zero_le _⟩) q⟩
    | _ => exact (show False from q).elim
end
end DL
set_option Elab.async false
set_option linter.all false
set_option maxRecDepth 100000
set_option maxHeartbeats 4000000
namespace DL
open PySem PySem.Spec L2

/-! ### attributes -/
/-- a value stored at the i-th attribute (the next new one) -/
@[simp] def storeF (fs : List D) (i : Nat) (v : D) : List D := if i < fs.length then fs.set i v else fs ++ [v]
def dFld (C : Addr) (ns : List Str) (i : Nat) (ta : DTE) : DTE := fun sd G Q => ta sd G fun d G1 => match d with
  | .ref a => ∃ o, G1 a = some o ∧ (match o with
    | .ins C' ns' fs => C' = C ∧ ns' = ns ∧ ∃ v, fs[i]? = some v ∧ Q v G1
    | _ => False)
  | _ => False
def dsFld (C : Addr) (ns : List Str) (i : Nat) (to te : DTE) : DTS := fun DD sd G => te sd G fun v G1 => to sd G1 fun d G2 => match d with
  | .ref a => ∃ o, G2 a = some o ∧ (match o with
    | .ins C' ns' fs => C' = C ∧ ns' = ns ∧ i ≤ fs.length ∧ DD.nx sd (put G2 a (.ins C ns (storeF fs i v)))
    | _ => False)
  | _ => False
theorem fld_at {H : Hp} {f : Str} : ∀ {names : List Str} {fs : List (Str × V)} {ds : List D} {i : Nat} {d : D}, names.Nodup → fs.map (·.1) = names.take ds.length → RelL H ds (fs.map (·.2)) → names[i]? = some f → ds[i]? = some d →
    ∃ v, fs.lookup f = some v ∧ Rel H d v
  | names, [], ds, i, d, _, _, r, _, h => by
    cases ds with
    | nil => simp at h
    | cons _ _ => obtain ⟨_, _, e, _⟩ := r; simp at e
  | names, (g, u) :: fs, ds, i, d, nd, h1, r, h2, h3 => by
    cases ds with
    | nil => simp at h3
    | cons e ds =>
      obtain ⟨r1, r2⟩ := relL_cons.mp (show RelL H (e :: ds) (u :: fs.map (·.2)) from r)
      cases names with
      | nil => simp at h2
      | cons n names =>
        simp only [List.map_cons, List.length_cons, List.take_succ_cons, List.cons.injEq] at h1
        obtain ⟨rfl, h1⟩ := h1
        cases i with
        | zero =>
          simp at h2 h3
          subst h2 h3
          exact ⟨u, by simp [List.lookup_cons], r1⟩
        | succ i =>
          simp at h2 h3
          have hne : ¬ f = g := fun z => by
            subst z
            exact (List.nodup_cons.mp nd).1 (List.mem_of_getElem? h2)
          obtain ⟨v, e1, e2⟩ := fld_at (List.nodup_cons.mp nd).2 h1 r2 h2 h3
          refine ⟨v, ?_, e2⟩
          rw [List.lookup_cons]
          have : (f == g) = false := by simpa using hne
          rw [this]
          exact e1
theorem putF_at {H : Hp} {f : Str} {v : V} {d : D} (rv : Rel H d v) : ∀ {names : List Str} {fs : List (Str × V)} {ds : List D} {i : Nat}, names.Nodup → fs.map (·.1) = names.take ds.length → RelL H ds (fs.map (·.2)) → names[i]? = some f → i ≤ ds.length →
    (putF f v fs).map (·.1) = names.take (storeF ds i d).length ∧ RelL H (storeF ds i d) ((putF f v fs).map (·.2))
  | names, [], ds, i, nd, h1, r, h2, h3 => by
    cases ds with
    | nil =>
      have hi : i = 0 := by simpa using h3
      subst hi
      cases names with
      | nil => simp at h2
      | cons n names =>
        simp at h2
        subst h2
        exact ⟨by simp [putF, storeF], by simpa [putF, storeF] using RelL.one rv⟩
    | cons _ _ => obtain ⟨_, _, e, _⟩ := r; simp at e
  | names, (g, u) :: fs, ds, i, nd, h1, r, h2, h3 => by
    cases ds with
    | nil =>
      simp at h1
    | cons e ds =>
      obtain ⟨r1, r2⟩ := relL_cons.mp (show RelL H (e :: ds) (u :: fs.map (·.2)) from r)
      cases names with
      | nil => simp at h2
      | cons n names =>
        simp only [List.map_cons, List.length_cons, List.take_succ_cons, List.cons.injEq] at h1
        obtain ⟨rfl, h1⟩ := h1
        cases i with
        | zero =>
          simp at h2
          subst h2
          have e1 : putF g v ((g, u) :: fs) = (g, v) :: fs := by simp [putF]
          rw [e1]
          refine ⟨?_, ?_⟩
          · simp [storeF, h1]
          · simp only [storeF, List.length_cons, Nat.zero_lt_succ, if_true, List.set_cons_zero, List.map_cons]
            exact relL_cons.mpr ⟨rv, r2⟩
        | succ i =>
          simp at h2
          have hne : ¬ g = f := fun z => by
            subst z
            exact (List.nodup_cons.mp nd).1 (List.mem_of_getElem? h2)
          have e1 : putF f v ((g, u) :: fs) = (g, u) :: putF f v fs := by simp [putF, hne]
          obtain ⟨q1, q2⟩ := putF_at rv (List.nodup_cons.mp nd).2 h1 r2 h2 (Nat.le_of_succ_le_succ h3)
          have e2 : storeF (e :: ds) (i + 1) d = e :: storeF ds i d := by
            unfold storeF
            by_cases z : i < ds.length
            · simp [z]
            · simp [z]
          rw [e1, e2]
          refine ⟨by simp [q1], ?_⟩
          exact relL_cons.mpr ⟨r1, q2⟩
section
variable {X : Cx} {B : Bx} {o e value : Expr} {f : Str} {C : Addr} {ns : List Str} {i : Nat} {pos pos' : Pos} {ta to te : DTE}
theorem de_fld (he : DE X B e ta) (cl : Cls X.K C) (na : NoAttr X.K C f) (nd : ns.Nodup) (hi : ns[i]? = some f) (hb : attributeBase e f X.env (eval e X.env) = eval e X.env := by rfl) : DE X B (.Attribute e f pos) (dFld C ns i ta) := by
  obtain ⟨ta', pa, ha⟩ := he.ex
  refine ⟨_, pe_fld pa hb, fun σ H sd G Q P hS R t hp => ?_⟩
  refine ha σ H sd G _ _ hS R t fun v d H1 G1 k1 r1 R1 q1 => ?_
  cases d with
  | ref a =>
    cases r1
    obtain ⟨ob, g, q1⟩ := q1
    cases ob with
    | ins C' ns' ds =>
      obtain ⟨rfl, rfl, w, hw, q1⟩ := q1
      obtain ⟨dx, fs, h1, h2, h3⟩ := R1.at_ a _ g
      obtain ⟨v, hv, rv⟩ := fld_at nd h2 h3 hi hw
      exact ⟨a, C', dx, fs, v, rfl, h1, cl, na, hv, hp v w H1 G1 k1 rv R1 q1⟩
    | _ => exact (show False from q1).elim
  | _ => exact (show False from q1).elim
theorem ds_fld (ho : DE X B o to) (hv : DE X B value te) (cl : Cls X.K C) (na : NoAttr X.K C f) (nd : ns.Nodup) (hi : ns[i]? = some f) (hz : ns.length < 1000) (hs : swapsWith value (some (.Attribute o f pos')) pos.line X.env = pure false := by rfl) :
    DS X B (.Assign [.Attribute o f pos'] value pos) (dsFld C ns i to te) := by
  obtain ⟨to', po, ho⟩ := ho.ex
  obtain ⟨te', pe, he⟩ := hv.ex
  refine ⟨_, ps_fld po pe hs, fun σ H sd G DD D hS R t hp => ?_⟩
  refine he σ H sd G _ _ hS R t fun v d H1 G1 k1 r1 R1 q1 => ?_
  refine ho σ H1 sd G1 _ _ (hS.mono k1) R1 q1 fun x dx H2 G2 k2 r2 R2 q2 => ?_
  cases dx with
  | ref a =>
    cases r2
    obtain ⟨ob, g, q2⟩ := q2
    cases ob with
    | ins C' ns' ds =>
      obtain ⟨rfl, rfl, hl, q2⟩ := q2
      obtain ⟨dx, fs, h1, h2, h3⟩ := R2.at_ a _ g
      have hfl : fs.length < 1000 := by
        have e := congrArg List.length h2
        simp at e
        omega
      have kw : Kp H2 (upd H2 a (.ins C' dx (putF f v fs))) := .write h1 fun _ z => nomatch z
      obtain ⟨p1, p2⟩ := putF_at ((r1.mono k2).mono kw) nd h2 (h3.mono kw) hi hl
      refine ⟨a, C', dx, fs, rfl, h1, cl, na, hfl, ?_⟩
      exact hp.nx σ sd _ _ (k1.trans (k2.trans kw)) (hS.mono (k1.trans (k2.trans kw))) (R2.write (o := .ins C' ns' (storeF ds i d)) h1 (fun _ z => nomatch z) ⟨dx, _, upd_same, p1, p2⟩) q2
    | _ => exact (show False from q2).elim
  | _ => exact (show False from q2).elim
end

/-! ### exceptions wished for, own defs -/
abbrev DXK := Addr → Option (Str × D) → Gp → Prop
abbrev DWX := Addr → Option (Str × D) → SD → Gp → Prop
abbrev DSp := List D → Gp → DQ → DXK → Prop
/-- what an exception bears: nothing, or one attribute -/
def RelX (H : Hp) : Option (Str × D) → Option Addr → Prop
  | none, none => True
  | some y, some dx => ∃ v, H dx = some (.xd [(y.1, v)]) ∧ Rel H y.2 v
  | _, _ => False
structure Wish (X : Cx) (B : Bx) (W : DWX) : Prop where
  ex : ∃ Wv : WX, Takes X Wv ∧ ∀ C x d σ H sd G, RelS H σ sd → Rep X.K B H G → RelX H x d → W C x sd G → Wv (.ref C) d σ H
abbrev W0 : DWX := fun _ _ _ _ => False
theorem wish0 {X : Cx} {B : Bx} : Wish X B W0 := ⟨_, takes0, fun _ _ _ _ _ _ _ _ _ _ z => z⟩
def liftSp (K : PySem.W.Frag) (sp : DSp) : Sp := fun vs H Q E => ∃ ds G QD ED, RelL H ds vs ∧ Rep K ⟨H⟩ H G ∧ sp ds G QD ED ∧ PostE K ⟨H⟩ H QD Q ∧
  (∀ C x d H' G', Kp H H' → Rep K ⟨H⟩ H' G' → RelX H' x d → ED C x G' → E (.ref C) d H')
theorem Rep.rebase {K : PySem.W.Frag} {B : Bx} {H H' : Hp} {G : Gp} (R : Rep K B H G) (k : Kp H' H) : Rep K ⟨H'⟩ H G := ⟨k, R.at_⟩
theorem Rep.back {K : PySem.W.Frag} {B : Bx} {H H' : Hp} {G G' : Gp} (R : Rep K B H G) (R' : Rep K ⟨H⟩ H' G') : Rep K B H' G' := ⟨R.k0.trans R'.k0, R'.at_⟩
@[simp] def dCall (sp : DSp) (W : DWX) (t : DTA) : DTE := fun sd G Q => t sd G fun ds G1 => sp ds G1 Q fun C x G2 => W C x sd G2
def dMeth (C : Addr) (ns : List Str) (sp : DSp) (W : DWX) (to : DTE) (t : DTA) : DTE := fun sd G Q => to sd G fun d G1 => match d with
  | .ref a => (∃ fs, G1 a = some (.ins C ns fs)) ∧ t sd G1 fun ds G2 => sp (.ref a :: ds) G2 Q fun C x G3 => W C x sd G3
  | _ => False
@[simp] def dMake (C : Addr) (ns : List Str) (sp : DSp) (W : DWX) (t : DTA) : DTE := fun sd G Q => t sd G fun ds G1 => ∀ a, G1 a = none → sp (.ref a :: ds) (put G1 a (.ins C ns [])) (fun d G2 => d = .non ∧ Q (.ref a) G2) fun C x G3 => W C x sd G3
section
variable {X : Cx} {B : Bx} {CX : CXT} {k : Nat} {f C : Addr} {fd : FuncData} {ps : List Str} {spv : Sp} {sp : DSp} {E : L2.St → XK} {x m : Str} {p pos apos : Pos} {e o : Expr} {es : List Expr} {ta : TE} {t : TA} {W : DWX} {tD : DTA} {toD : DTE} {ns : List Str}
theorem lift_at {W : DWX} {Wv : WX} {σ : L2.St} {H H1 : Hp} {sd : SD} {G G1 : Gp} {Q : DQ} {P : VK} {ds : List D} {vs : List V} (hS : RelS H1 σ sd)
    (hW : ∀ C x d σ H sd G, RelS H σ sd → Rep X.K B H G → RelX H x d → W C x sd G → Wv (.ref C) d σ H)
    (r : RelL H1 ds vs) (R : Rep X.K B H1 G1) (q : sp ds G1 Q fun C x G2 => W C x sd G2) (hp : PostE X.K B H1 Q P) : liftSp X.K sp vs H1 P (WE Wv σ) :=
  ⟨ds, G1, Q, _, r, R.rebase (.refl H1), q, fun v d H' G' k r' R' q' => hp v d H' G' k r' (R.back R') q', fun C x d H' G' k R' rx w => hW C x d σ H' sd G' (hS.mono k) (R.back R') rx w⟩
theorem de_call (F : FnOk X.prog X.w X.K X.mg X.base (L2.CX X.prog X.w) k f fd ps (liftSp X.K sp)) (hr : Room k X.A) (hg : Gl X x) (hm : X.mg x = some (.ref f)) (hk : PySem.W.keepIn X.K (.ref f) = true) (hb : Binds X.K fd ps [])
    (tk : Wish X B W) (ha : DA X B (e :: es) tD) (hdb : (x == ("__debug__" : Str)) = false := by decide) (he : starEach (e :: es) X.env = (false, eval e X.env) :: starEach es X.env := by rfl) (hpl : (backTo pos (starEach es X.env)).any (·.1) = false := by rfl) :
    DE X B (.Call (.Name x p) (e :: es) [] pos) (dCall sp W tD) := by
  obtain ⟨Wv, tk, hW⟩ := tk.ex
  obtain ⟨t', pa, ha⟩ := ha.ex
  refine ⟨_, pe_callS (E := WE Wv) F hr hg hm hk hb (passAt tk) pa hdb he hpl, fun σ H sd G Q P hS R t hp => ?_⟩
  exact ha σ H sd G _ _ hS R t fun vs ds H1 G1 _ k1 r1 R1 q1 => lift_at (X := X) (H := H) (G := G) (hS.mono k1) hW r1 R1 q1 (hp.mono k1)
def tMethS (C : Addr) (m : Str) (sp : Sp) (E : L2.St → XK) (ta : TE) (t : TA) : TE := fun σ H Q => ta σ H fun x H1 => ∃ a dx fs, x = .ref a ∧ H1 a = some (.ins C dx fs) ∧ fs.lookup m = none ∧
  t σ H1 fun vs H2 => sp (x :: vs) H2 Q (E σ)
theorem pe_methS {pl : Sem Bool} (he : PE X o ta) (c : Cls X.K C) (hm : Meth X.K C m f) (F : FnOk X.prog X.w X.K X.mg X.base CX k f fd ps spv) (hr : Room k X.A) (hb : Binds X.K fd ps []) (hx : ∀ σ, PassesAt CX X σ (E σ)) (ha : PA X (e :: es) t)
    (hst : starEach (e :: es) X.env = (false, eval e X.env) :: starEach es X.env := by rfl) (hpl : (backTo pos (starEach es X.env)).any (·.1) = false := by rfl)
    (ht : eval (.Call (.Attribute o m apos) (e :: es) [] pos) X.env = (do
      let ov ← eval o X.env
      standAt apos.atName
      let (f, first) ← holding [ov] (getMethod ov m pl)
      callWith pos f first (backTo pos (starEach (e :: es) X.env)) (backToKw pos (keywordEach [] X.env))) := by rfl) :
    PE X (.Call (.Attribute o m apos) (e :: es) [] pos) (tMethS C m spv E ta t) := by
  refine ⟨fun pins s σ H Q I h => ?_⟩
  refine PySem.W.methodCall_KW (pl := pl) (thn (he.run pins s σ H _ I h) fun u s1 ⟨x, H1, I1, rx, a, dx, fs, ex, ea, l, q⟩ => ?_) ht
  subst ex
  obtain rfl : u = Value.ref a := rx
  refine getmeth_ok I1 ea c hm l ?_
  refine PySem.W.callWith_K (first := [.ref a]) (h₀ := X.base) I.ok.mod.kin hm.kp (thn (ha.run pos pins s1 σ H1 _ I1 q) fun us s2 ⟨vs, H2, I2, r, q2⟩ => ⟨I2.kIn, ?_⟩) hst hpl
  exact run_fnS (us := .ref a :: us) (vs := .ref a :: vs) F hr hb (hx σ) I2 (.cons rfl r) q2
theorem pe_methS0 {pl : Sem Bool} (he : PE X o ta) (c : Cls X.K C) (hm : Meth X.K C m f) (F : FnOk X.prog X.w X.K X.mg X.base CX k f fd ps spv) (hr : Room k X.A) (hb : Binds X.K fd ps []) (hx : ∀ σ, PassesAt CX X σ (E σ))
    (ht : eval (.Call (.Attribute o m apos) [] [] pos) X.env = (do
      let ov ← eval o X.env
      standAt apos.atName
      let (f, first) ← holding [ov] (getMethod ov m pl)
      callWith pos f first (backTo pos (starEach [] X.env)) (backToKw pos (keywordEach [] X.env))) := by rfl) :
    PE X (.Call (.Attribute o m apos) [] [] pos) (tMethS C m spv E ta tNil) := by
  refine ⟨fun pins s σ H Q I h => ?_⟩
  refine PySem.W.methodCall_KW (pl := pl) (thn (he.run pins s σ H _ I h) fun u s1 ⟨x, H1, I1, rx, a, dx, fs, ex, ea, l, q⟩ => ?_) ht
  subst ex
  obtain rfl : u = Value.ref a := rx
  refine getmeth_ok I1 ea c hm l ?_
  exact PySem.W.callWith_K0 (first := [.ref a]) I1.kIn hm.kp (run_fnS (us := [.ref a]) (vs := [.ref a]) F hr hb (hx σ) I1 (.cons rfl .nil) q)
theorem meth_none {K : PySem.W.Frag} {H : Hp} {a : Addr} {C : Addr} {ds : List D} (h : RepO K H a (.ins C ns ds)) (hm : m ∉ ns) : ∃ dx fs, H a = some (.ins C dx fs) ∧ fs.lookup m = none := by
  obtain ⟨dx, fs, h1, h2, _⟩ := h
  refine ⟨dx, fs, h1, ?_⟩
  rw [List.lookup_eq_none_iff]
  intro q hq
  have : q.1 ∈ ns.take ds.length := by rw [← h2]; exact List.mem_map_of_mem hq
  have hne : ¬ m = q.1 := fun z => hm (z ▸ List.mem_of_mem_take this)
  simpa using hne
theorem de_meth {pl : Sem Bool} (he : DE X B o toD) (c : Cls X.K C) (hm : Meth X.K C m f) (hn : m ∉ ns) (F : FnOk X.prog X.w X.K X.mg X.base (L2.CX X.prog X.w) k f fd ps (liftSp X.K sp)) (hr : Room k X.A) (hb : Binds X.K fd ps []) (tk : Wish X B W) (ha : DA X B (e :: es) tD)
    (hst : starEach (e :: es) X.env = (false, eval e X.env) :: starEach es X.env := by rfl) (hpl : (backTo pos (starEach es X.env)).any (·.1) = false := by rfl)
    (ht : eval (.Call (.Attribute o m apos) (e :: es) [] pos) X.env = (do
      let ov ← eval o X.env
      standAt apos.atName
      let (f, first) ← holding [ov] (getMethod ov m pl)
      callWith pos f first (backTo pos (starEach (e :: es) X.env)) (backToKw pos (keywordEach [] X.env))) := by rfl) :
    DE X B (.Call (.Attribute o m apos) (e :: es) [] pos) (dMeth C ns sp W toD tD) := by
  obtain ⟨Wv, tk, hW⟩ := tk.ex
  obtain ⟨to', po, ho⟩ := he.ex
  obtain ⟨t', pa, ha⟩ := ha.ex
  refine ⟨_, pe_methS (E := WE Wv) po c hm F hr hb (passAt tk) pa hst hpl ht, fun σ H sd G Q P hS R t hp => ?_⟩
  refine ho σ H sd G _ _ hS R t fun v d H1 G1 k1 r1 R1 q1 => ?_
  cases d with
  | ref a =>
    cases r1
    obtain ⟨⟨fs, g⟩, q1⟩ := q1
    obtain ⟨dx, fs', h1, h2⟩ := meth_none (R1.at_ a _ g) hn
    refine ⟨a, dx, fs', rfl, h1, h2, ?_⟩
    refine ha σ H1 sd G1 _ _ (hS.mono k1) R1 q1 fun vs ds H2 G2 _ k2 r2 R2 q2 => ?_
    exact lift_at (X := X) (H := H) (G := G) (hS.mono (k1.trans k2)) hW (relL_cons.mpr ⟨(show Rel H2 (.ref a) (.ref a) from rfl), r2⟩) R2 q2 (hp.mono (k1.trans k2))
  | _ => exact (show False from q1).elim
theorem de_meth0 {pl : Sem Bool} (he : DE X B o toD) (c : Cls X.K C) (hm : Meth X.K C m f) (hn : m ∉ ns) (F : FnOk X.prog X.w X.K X.mg X.base (L2.CX X.prog X.w) k f fd ps (liftSp X.K sp)) (hr : Room k X.A) (hb : Binds X.K fd ps []) (tk : Wish X B W)
    (ht : eval (.Call (.Attribute o m apos) [] [] pos) X.env = (do
      let ov ← eval o X.env
      standAt apos.atName
      let (f, first) ← holding [ov] (getMethod ov m pl)
      callWith pos f first (backTo pos (starEach [] X.env)) (backToKw pos (keywordEach [] X.env))) := by rfl) :
    DE X B (.Call (.Attribute o m apos) [] [] pos) (dMeth C ns sp W toD daNil) := by
  obtain ⟨Wv, tk, hW⟩ := tk.ex
  obtain ⟨to', po, ho⟩ := he.ex
  refine ⟨_, pe_methS0 (E := WE Wv) po c hm F hr hb (passAt tk) ht, fun σ H sd G Q P hS R t hp => ?_⟩
  refine ho σ H sd G _ _ hS R t fun v d H1 G1 k1 r1 R1 q1 => ?_
  cases d with
  | ref a =>
    cases r1
    obtain ⟨⟨fs, g⟩, q1⟩ := q1
    obtain ⟨dx, fs', h1, h2⟩ := meth_none (R1.at_ a _ g) hn
    exact ⟨a, dx, fs', rfl, h1, h2, lift_at (X := X) (H := H) (G := G) (hS.mono k1) hW (relL_cons.mpr ⟨(show Rel H1 (.ref a) (.ref a) from rfl), (show RelL H1 [] [] from rfl)⟩) R1 q1 (hp.mono k1)⟩
  | _ => exact (show False from q1).elim
end
end DL
set_option Elab.async false
set_option linter.all false
set_option maxRecDepth 100000
set_option maxHeartbeats 4000000
namespace DL
open PySem PySem.Spec L2
section
variable {X : Cx} {B : Bx} {CX : CXT} {k : Nat} {f C : Addr} {fd : FuncData} {ps : List Str} {spv : Sp} {sp : DSp} {E : L2.St → XK} {x m : Str} {p pos apos : Pos} {e o : Expr} {es : List Expr} {ta : TE} {t : TA} {W : DWX} {tD : DTA} {ns : List Str}
theorem run_makeS {pins : List (Addr × Obj)} {σ : L2.St} {H : Hp} {s : Shared} {Q : VK} {us : List Value} {vs : List V} (M : Mk X.K C f) (F : FnOk X.prog X.w X.K X.mg X.base CX k f fd ps spv) (hr : Room (k + 1) X.A) (hb : Binds X.K fd ps [])
    (hx : PassesAt CX X σ (E σ)) (I : Inv X pins σ H s) (r : Vals vs us)
    (h : ∀ x dx, H x = none → H dx = none → dx ≠ x → spv (.ref x :: vs) (upd (upd H dx (.own x)) x (.ins C dx [])) (fun v H2 => v = .non ∧ Q (.ref x) H2) (E σ)) :
    wpAny (model X.prog X.w) X.A (call (.ref C) us) (EP X pins σ Q) X.xe s := by
  have hq := h (s.heap.objs.size + 1) s.heap.objs.size (I.hok.fresh (Nat.le_succ _)) (I.hok.fresh (Nat.le_refl _)) (Nat.ne_of_lt (Nat.lt_succ_self _))
  have I2 := Inv.made (C := C) I
  have r2 : Vals (V.ref (s.heap.objs.size + 1) :: vs) (Value.ref (s.heap.objs.size + 1) :: us) := .cons rfl r
  have hl : (Value.ref (s.heap.objs.size + 1) :: us ++ []).length = ps.length := by
    have e := r2.length
    rw [F.len _ _ _ _ hq] at e
    rw [List.append_nil]
    exact e.symm
  have hbb := hb _ (Value.ref (s.heap.objs.size + 1) :: us) I2.kIn hl
  rw [List.append_nil] at hbb
  refine wpAny_call (make_map (f := f) I.kIn M.makes M.init (beq_iff_eq.mp M.fn) (codeAny_mono (F.run _ X.stack _ _ ⟨Value.ref (s.heap.objs.size + 1) :: us, []⟩ (Value.ref (s.heap.objs.size + 1) :: us) _ _ (E σ) (hr.make C us [])
    (I2.env0.make C us []) hbb r2 hq) fun r s' hq' => ?_))
  cases r with
  | error e => exact hx pins _ _ e s' I2 hq'
  | ok fl =>
    cases fl with
    | ret u =>
      obtain ⟨v, H', I3, rv, ev, q3⟩ := I2.after hq'
      subst ev
      exact ⟨rv, ⟨V.ref (s.heap.objs.size + 1), H', I3, rfl, q3⟩⟩
    | next => exact False.elim hq'
    | brk => exact False.elim hq'
    | cont => exact False.elim hq'
def tMakeS (C : Addr) (sp : Sp) (E : L2.St → XK) (t : TA) : TE := fun σ H Q => t σ H fun vs H1 => ∀ x dx, H1 x = none → H1 dx = none → dx ≠ x →
  sp (.ref x :: vs) (upd (upd H1 dx (.own x)) x (.ins C dx [])) (fun v H2 => v = .non ∧ Q (.ref x) H2) (E σ)
theorem pe_makeS (M : Mk X.K C f) (F : FnOk X.prog X.w X.K X.mg X.base CX k f fd ps spv) (hr : Room (k + 1) X.A) (hg : Gl X x) (hm : X.mg x = some (.ref C)) (hb : Binds X.K fd ps []) (hx : ∀ σ, PassesAt CX X σ (E σ))
    (ha : PA X (e :: es) t) (hdb : (x == ("__debug__" : Str)) = false := by decide) (he : starEach (e :: es) X.env = (false, eval e X.env) :: starEach es X.env := by rfl) (hpl : (backTo pos (starEach es X.env)).any (·.1) = false := by rfl) :
    PE X (.Call (.Name x p) (e :: es) [] pos) (tMakeS C spv E t) := by
  refine ⟨fun pins s σ H Q I h => ?_⟩
  refine wpAny_Call_Name_kw (ld_glob I hg hm ?_ hdb)
  refine PySem.W.callWith_K (h₀ := X.base) I.ok.mod.kin M.kp (thn (ha.run pos pins s σ H _ I h) fun us s1 ⟨vs, H1, I1, r, q⟩ => ⟨I1.kIn, ?_⟩) he hpl
  exact run_makeS M F hr hb (hx σ) I1 r q
theorem pe_makeS0 (M : Mk X.K C f) (F : FnOk X.prog X.w X.K X.mg X.base CX k f fd ps spv) (hr : Room (k + 1) X.A) (hg : Gl X x) (hm : X.mg x = some (.ref C)) (hb : Binds X.K fd ps []) (hx : ∀ σ, PassesAt CX X σ (E σ))
    (hdb : (x == ("__debug__" : Str)) = false := by decide) : PE X (.Call (.Name x p) [] [] pos) (tMakeS C spv E tNil) := by
  refine ⟨fun pins s σ H Q I h => ?_⟩
  refine wpAny_Call_Name_kw (ld_glob I hg hm ?_ hdb)
  exact PySem.W.callWith_K0 I.kIn M.kp (run_makeS (us := []) M F hr hb (hx σ) I .nil h)
theorem made_at {Wv : WX} {σ : L2.St} {H1 : Hp} {sd : SD} {G1 : Gp} {Q : DQ} {P : VK} {ds : List D} {vs : List V} (hS : RelS H1 σ sd)
    (hW : ∀ C x d σ H sd G, RelS H σ sd → Rep X.K B H G → RelX H x d → W C x sd G → Wv (.ref C) d σ H)
    (r : RelL H1 ds vs) (R : Rep X.K B H1 G1) (q : ∀ a, G1 a = none → sp (.ref a :: ds) (put G1 a (.ins C ns [])) (fun d G2 => d = .non ∧ Q (.ref a) G2) fun C x G3 => W C x sd G3) (hp : PostE X.K B H1 Q P)
    (x dx : Addr) (n1 : H1 x = none) (n2 : H1 dx = none) (ne : dx ≠ x) : liftSp X.K sp (.ref x :: vs) (upd (upd H1 dx (.own x)) x (.ins C dx [])) (fun v H2 => v = .non ∧ P (.ref x) H2) (WE Wv σ) := by
  have k1 : Kp H1 (upd H1 dx (.own x)) := .fresh n2
  have n1' : upd H1 dx (.own x) x = none := by rw [upd_ne (Ne.symm ne)]; exact n1
  have k2 : Kp (upd H1 dx (.own x)) (upd (upd H1 dx (.own x)) x (.ins C dx [])) := .fresh n1'
  have R1 : Rep X.K B (upd H1 dx (.own x)) G1 := R.fresh n2
  have R2 : Rep X.K B (upd (upd H1 dx (.own x)) x (.ins C dx [])) (put G1 x (.ins C ns [])) := R1.laid (o := .ins C ns []) n1' ⟨dx, [], upd_same, rfl, rfl⟩
  have kk := k1.trans k2
  refine lift_at (X := X) (H := H1) (G := G1) (hS.mono kk) hW (relL_cons.mpr ⟨(show Rel _ (.ref x) (.ref x) from rfl), r.mono kk⟩) R2 (q x (R.gnone n1)) fun v d H' G' k r' R' q' => ?_
  obtain ⟨rfl, q'⟩ := q'
  exact ⟨r', hp (.ref x) (.ref x) H' G' (kk.trans k) rfl R' q'⟩
theorem de_make (M : Mk X.K C f) (F : FnOk X.prog X.w X.K X.mg X.base (L2.CX X.prog X.w) k f fd ps (liftSp X.K sp)) (hr : Room (k + 1) X.A) (hg : Gl X x) (hm : X.mg x = some (.ref C)) (hb : Binds X.K fd ps []) (tk : Wish X B W)
    (ha : DA X B (e :: es) tD) (hdb : (x == ("__debug__" : Str)) = false := by decide) (he : starEach (e :: es) X.env = (false, eval e X.env) :: starEach es X.env := by rfl) (hpl : (backTo pos (starEach es X.env)).any (·.1) = false := by rfl) :
    DE X B (.Call (.Name x p) (e :: es) [] pos) (dMake C ns sp W tD) := by
  obtain ⟨Wv, tk, hW⟩ := tk.ex
  obtain ⟨t', pa, ha⟩ := ha.ex
  refine ⟨_, pe_makeS (E := WE Wv) M F hr hg hm hb (passAt tk) pa hdb he hpl, fun σ H sd G Q P hS R t hp => ?_⟩
  exact ha σ H sd G _ _ hS R t fun vs ds H1 G1 _ k1 r1 R1 q1 => made_at (X := X) (hS.mono k1) hW r1 R1 q1 (hp.mono k1)
theorem de_make0 (M : Mk X.K C f) (F : FnOk X.prog X.w X.K X.mg X.base (L2.CX X.prog X.w) k f fd ps (liftSp X.K sp)) (hr : Room (k + 1) X.A) (hg : Gl X x) (hm : X.mg x = some (.ref C)) (hb : Binds X.K fd ps []) (tk : Wish X B W)
    (hdb : (x == ("__debug__" : Str)) = false := by decide) : DE X B (.Call (.Name x p) [] [] pos) (dMake C ns sp W daNil) := by
  obtain ⟨Wv, tk, hW⟩ := tk.ex
  refine ⟨_, pe_makeS0 (E := WE Wv) M F hr hg hm hb (passAt tk) hdb, fun σ H sd G Q P hS R t hp => ?_⟩
  exact made_at (X := X) hS hW (show RelL H [] [] from rfl) R t hp
/-- raise X('..') -/
@[simp] def dRaise (C : Addr) (W : DWX) : DTS := fun _ sd G => W C none sd G
theorem ds_raise {e : Expr} (hc : X.calm = true) (tk : Wish X B W) (he : PMk X e (fun _ H Q => Q (.ref C) none H)) : DS X B (.Raise (some e) none pos) (dRaise C W) := by
  obtain ⟨Wv, tk, hW⟩ := tk.ex
  exact ⟨_, ps_raise hc tk he, fun σ H sd G DD D hS R t hp => hW C none none σ H sd G hS R True.intro t⟩
end

/-! ### a def's body -/
def dstart (N : List Str) (ds : List D) : SD := ds.map some ++ List.replicate (N.length - ds.length) none
theorem relS_start {H : Hp} {N : List Str} : ∀ {ds : List D} {vs : List V}, RelL H ds vs → RelS H (start N vs) (dstart N ds) := fun {ds vs} r => by
  have hl := r.length
  refine ⟨by simp [L2.start, dstart, hl], fun i d e => ?_⟩
  unfold dstart at e
  unfold L2.start
  by_cases hi : i < ds.length
  · rw [List.getElem?_append_left (by simpa using hi)] at e
    rw [List.getElem?_append_left (by simp; omega)]
    rw [List.getElem?_map] at e
    cases q : ds[i]? with
    | none => rw [q] at e; cases e
    | some d' =>
      rw [q] at e
      have : d' = d := by simpa using e
      subst this
      obtain ⟨v, h1, h2⟩ := r.get i q
      exact ⟨v, by simp [h1], h2⟩
  · rw [List.getElem?_append_right (by simpa using Nat.le_of_not_lt hi)] at e
    have := List.mem_of_getElem? e
    simp [List.mem_replicate] at this
section
variable {P : Program} {w : World} {K : PySem.W.Frag} {mg : Str → Option Value} {base : Heap} {x qual : Str} {params : Arguments} {body : List Stmt} {scope : Scope} {f : Addr} {fd : FuncData}
/-- the context of a def's body -/
abbrev Bd (P : Program) (w : World) (K : PySem.W.Frag) (mg : Str → Option Value) (base : Heap) (N : List Str) (qual : Str) (scope : Scope) (f : Addr) (cdv : Value) (A : Around) (outer : List Env) (s : Shared) (H : Hp) (E : XK) : Cx :=
  cxOf (L2.CX P w) P w K mg base N qual scope f cdv A outer s H E
theorem dfn_ok {N ps : List Str} {k : Nat} {sp : DSp} {t : DXK → DTS} (F : FunD K x qual params body scope [] [] f fd) (S : FnScope N ps scope) (len : ∀ ds G Q E, sp ds G Q E → ds.length = ps.length)
    (hpure : ∀ ds G Q E, sp ds G Q E → t E { nx := fun _ G => Q .non G, rt := Q } (dstart N ds) G)
    (hbody : ∀ (cdv : Value) (A : Around) (outer : List Env) (s : Shared) (H : Hp) (E : XK) (ED : DXK), Room k (A.deeper (PyProof.Rows.envOfC qual scope s.heap.objs.size f cdv)) → PassesOwn (model P w) (Bd P w K mg base N qual scope f cdv A outer s H E).A (Bd P w K mg base N qual scope f cdv A outer s H E).env (Bd P w K mg base N qual scope f cdv A outer s H E).xe →
      Wish (Bd P w K mg base N qual scope f cdv A outer s H E) ⟨H⟩ (fun C x _ G => ED C x G) → DSs (Bd P w K mg base N qual scope f cdv A outer s H E) ⟨H⟩ body (t ED)) :
    FnOk P w K mg base (L2.CX P w) (k + 1) f fd ps (liftSp K sp) := by
  refine F.ok S (fun vs H Q E h => ?_) (fun cdv A outer s H vs Q E hr h => ?_)
  · obtain ⟨ds, G, QD, ED, r, R, q, _⟩ := h
    rw [← r.length]
    exact len _ _ _ _ q
  · obtain ⟨ds, G, QD, ED, r, R, q, hq, hx⟩ := h
    have tk : Takes (Bd P w K mg base N qual scope f cdv A outer s H E) (fun cls d _ H => E cls d H) := takes_of rfl rfl rfl rfl
    have wi : Wish (Bd P w K mg base N qual scope f cdv A outer s H E) ⟨H⟩ (fun C x _ G => ED C x G) := ⟨_, tk, fun C x d σ H' sd G' _ R' rx w => hx C x d H' G' R'.k0 R' rx w⟩
    obtain ⟨ts, p, w'⟩ := (hbody cdv A outer s H E ED hr (passes_of (X := Bd P w K mg base N qual scope f cdv A outer s H E) rfl) wi).ex
    refine ⟨ts, p, w' _ H _ G _ _ (relS_start r) R (hpure ds G QD ED q) ⟨fun σ' sd' H' G' k _ R' q' => hq .non .non H' G' k rfl R' q', hq, ?_, ?_⟩⟩
    · intro σ' sd' H' G' _ _ _ z
      exact z.elim
    · intro σ' sd' H' G' _ _ _ z
      exact z.elim
end
end DL
set_option Elab.async false
set_option linter.all false
set_option maxRecDepth 100000
set_option maxHeartbeats 4000000
namespace DL
open PySem PySem.Spec L2

/-! ### callees by name -/
structure Cal (P : Program) (w : World) (K : PySem.W.Frag) (mg : Str → Option Value) (base : Heap) (k : Nat) (x : Str) (sp : DSp) : Prop where
  ex : ∃ f fd ps, FnOk P w K mg base (L2.CX P w) k f fd ps (liftSp K sp) ∧ mg x = some (.ref f) ∧ PySem.W.keepIn K (.ref f) = true ∧ Binds K fd ps []
structure Met (P : Program) (w : World) (K : PySem.W.Frag) (mg : Str → Option Value) (base : Heap) (k : Nat) (C : Addr) (m : Str) (sp : DSp) : Prop where
  ex : ∃ f fd ps, FnOk P w K mg base (L2.CX P w) k f fd ps (liftSp K sp) ∧ Meth K C m f ∧ Binds K fd ps []
structure Mak (P : Program) (w : World) (K : PySem.W.Frag) (mg : Str → Option Value) (base : Heap) (k : Nat) (x : Str) (C : Addr) (sp : DSp) : Prop where
  ex : ∃ f fd ps, FnOk P w K mg base (L2.CX P w) k f fd ps (liftSp K sp) ∧ Mk K C f ∧ mg x = some (.ref C) ∧ Binds K fd ps []
section
variable {X : Cx} {B : Bx} {j k : Nat} {C : Addr} {sp : DSp} {x m : Str} {p pos apos : Pos} {e o : Expr} {es : List Expr} {W : DWX} {tD : DTA} {toD : DTE} {ns : List Str}
theorem ce_call (c : Cal X.prog X.w X.K X.mg X.base k x sp) (hr : Room j X.A) (hk : k ≤ j) (hg : Gl X x) (tk : Wish X B W) (ha : DA X B (e :: es) tD)
    (hdb : (x == ("__debug__" : Str)) = false := by decide) (he : starEach (e :: es) X.env = (false, eval e X.env) :: starEach es X.env := by rfl) (hpl : (backTo pos (starEach es X.env)).any (·.1) = false := by rfl) :
    DE X B (.Call (.Name x p) (e :: es) [] pos) (dCall sp W tD) := by
  obtain ⟨f, fd, ps, F, hm, hkp, hb⟩ := c.ex
  exact de_call F (hr.mono hk) hg hm hkp hb tk ha hdb he hpl
theorem ce_meth {pl : Sem Bool} (he : DE X B o toD) (cl : Cls X.K C) (c : Met X.prog X.w X.K X.mg X.base k C m sp) (hn : m ∉ ns) (hr : Room j X.A) (hk : k ≤ j) (tk : Wish X B W) (ha : DA X B (e :: es) tD)
    (hst : starEach (e :: es) X.env = (false, eval e X.env) :: starEach es X.env := by rfl) (hpl : (backTo pos (starEach es X.env)).any (·.1) = false := by rfl)
    (ht : eval (.Call (.Attribute o m apos) (e :: es) [] pos) X.env = (do
      let ov ← eval o X.env
      standAt apos.atName
      let (f, first) ← holding [ov] (getMethod ov m pl)
      callWith pos f first (backTo pos (starEach (e :: es) X.env)) (backToKw pos (keywordEach [] X.env))) := by rfl) :
    DE X B (.Call (.Attribute o m apos) (e :: es) [] pos) (dMeth C ns sp W toD tD) := by
  obtain ⟨f, fd, ps, F, hm, hb⟩ := c.ex
  exact de_meth he cl hm hn F (hr.mono hk) hb tk ha hst hpl ht
theorem ce_meth0 {pl : Sem Bool} (he : DE X B o toD) (cl : Cls X.K C) (c : Met X.prog X.w X.K X.mg X.base k C m sp) (hn : m ∉ ns) (hr : Room j X.A) (hk : k ≤ j) (tk : Wish X B W)
    (ht : eval (.Call (.Attribute o m apos) [] [] pos) X.env = (do
      let ov ← eval o X.env
      standAt apos.atName
      let (f, first) ← holding [ov] (getMethod ov m pl)
      callWith pos f first (backTo pos (starEach [] X.env)) (backToKw pos (keywordEach [] X.env))) := by rfl) :
    DE X B (.Call (.Attribute o m apos) [] [] pos) (dMeth C ns sp W toD daNil) := by
  obtain ⟨f, fd, ps, F, hm, hb⟩ := c.ex
  exact de_meth0 he cl hm hn F (hr.mono hk) hb tk ht
theorem ce_make (c : Mak X.prog X.w X.K X.mg X.base k x C sp) (hr : Room j X.A) (hk : k + 1 ≤ j) (hg : Gl X x) (tk : Wish X B W) (ha : DA X B (e :: es) tD)
    (hdb : (x == ("__debug__" : Str)) = false := by decide) (he : starEach (e :: es) X.env = (false, eval e X.env) :: starEach es X.env := by rfl) (hpl : (backTo pos (starEach es X.env)).any (·.1) = false := by rfl) :
    DE X B (.Call (.Name x p) (e :: es) [] pos) (dMake C ns sp W tD) := by
  obtain ⟨f, fd, ps, F, M, hm, hb⟩ := c.ex
  exact de_make M F (hr.mono hk) hg hm hb tk ha hdb he hpl
theorem ce_make0 (c : Mak X.prog X.w X.K X.mg X.base k x C sp) (hr : Room j X.A) (hk : k + 1 ≤ j) (hg : Gl X x) (tk : Wish X B W) (hdb : (x == ("__debug__" : Str)) = false := by decide) :
    DE X B (.Call (.Name x p) [] [] pos) (dMake C ns sp W daNil) := by
  obtain ⟨f, fd, ps, F, M, hm, hb⟩ := c.ex
  exact de_make0 M F (hr.mono hk) hg hm hb tk hdb
/-- a negative number written -/
theorem de_neg {i : Int} {kk : Nat} {p1 p2 : Pos} : DE X B (.UnaryOp .USub (.Constant (.int i) kk p1) p2) (dC (.int (-i))) :=
  ⟨_, pe_un un_neg pe_int, fun σ H sd G Q P hs R t hp => ⟨i, rfl, hp _ (.int (-i)) H G (.refl H) rfl R t⟩⟩
end
theorem r64 {k : Nat} {A : Around} (hr : Room k A) : A.units + 64 < cLine := hr.units
theorem r65 {k : Nat} {A : Around} (hr : Room k A) : A.units + 65 < cLine := by have := hr.un; omega
theorem r1 {k : Nat} {A : Around} (hr : Room k A) : A.units + 1 < cLine := by have := hr.un; omega
/-- what stands behind the top -/
structure Said (fa : List He.Fa) (fn : List He.DefD) (K : PySem.W.Frag) (mg : Str → Option Value) : Prop where
  c : He.SaysD fa fn K
  top : ∃ h : Heap, K.In h ∧ h.Ns mainGlobals mg
section
variable {fa : List He.Fa} {fn : List He.DefD} {K : PySem.W.Frag} {mg : Str → Option Value}
theorem Said.glo (S : Said fa fn K mg) (i : Nat) {x : Str} (h : fa[i]? = some (.glo x) := by rfl) : mg x = some (.ref (He.ga K x)) := by
  obtain ⟨hp, X, G⟩ := S.top
  exact He.glo_ok X G (S.c.fact i h)
theorem Said.free (S : Said fa fn K mg) (i : Nat) {x : Str} (h : fa[i]? = some (.free x) := by rfl) : mg x = none := by
  obtain ⟨hp, X, G⟩ := S.top
  exact He.free_ok X G (S.c.fact i h)
theorem Said.int (S : Said fa fn K mg) (i : Nat) {x : Str} {n : Int} (h : fa[i]? = some (.int x n) := by rfl) : ∃ t, mg x = some (.int n t) := by
  obtain ⟨hp, X, G⟩ := S.top
  exact He.int_ok X G (S.c.fact i h)
theorem Said.str (S : Said fa fn K mg) (i : Nat) {x z : Str} (h : fa[i]? = some (.str x z) := by rfl) : ∃ t, mg x = some (.str z t) := by
  obtain ⟨hp, X, G⟩ := S.top
  exact He.str_ok X G (S.c.fact i h)
theorem Said.cls (S : Said fa fn K mg) (i : Nat) {x : Str} (h : fa[i]? = some (.cls x) := by rfl) : Cls K (He.ga K x) := He.cls_ok (S.c.fact i h)
theorem Said.noat (S : Said fa fn K mg) (i : Nat) {x f : Str} (h : fa[i]? = some (.noat x f) := by rfl) : NoAttr K (He.ga K x) f := He.noat_ok (S.c.fact i h)
theorem Said.meth (S : Said fa fn K mg) (i : Nat) {x m : Str} (h : fa[i]? = some (.meth x m) := by rfl) : Meth K (He.ga K x) m (He.ma K (He.ga K x) m) := He.meth_ok (S.c.fact i h)
theorem Said.mkr (S : Said fa fn K mg) (i : Nat) {x : Str} (h : fa[i]? = some (.mkr x) := by rfl) : Mk K (He.ga K x) (He.ma K (He.ga K x) "__init__") := He.mkr_ok (S.c.fact i h)
/-- X('..') made, to be raised -/
theorem Said.exc (S : Said fa fn K mg) (i j : Nat) {x : Str} (h : fa[i]? = some (.exc x) := by rfl) (hg : fa[j]? = some (.glo x) := by rfl) {X : Cx} {m : Str} {n : Nat} {p p2 pos : Pos} (eK : X.K = K) (em : X.mg = mg) (gl : Gl X x) (hdb : (x == ("__debug__" : Str)) = false := by decide) :
    PMk X (.Call (.Name x p) [.Constant (.str m) n p2] [] pos) (fun _ H Q => Q (.ref (He.ga K x)) none H) := by
  subst eK em
  obtain ⟨h1, h2, h3, h4⟩ := He.exc_ok (S.c.fact i h)
  exact pmk_own PySem.F.excBase_ValueError h1 (S.glo j hg) h2 (raises_own h3 h4) gl hdb
end
end DL
set_option Elab.async false
set_option linter.all false
set_option maxRecDepth 100000
set_option maxHeartbeats 4000000
namespace DL
open PySem PySem.Spec L2

/-! ### the script's first use: a def of the laws, read by itself -/
abbrev rMod : R2 := rI (fun _ j => 0 < j) fun i j => .int (i % j)
abbrev rMul : R2 := rI CMul fun i j => .int (i * j)
abbrev rAdd : R2 := rI0 fun i j => .int (i + j)
abbrev rGt : R2 := rI0 fun i j => .bl (decide (j < i))
abbrev rLen0 (K : PySem.W.Frag) : List V → Hp → VK → Prop := fun xs H Q => ∃ x n, xs = [x] ∧ LenV K x H n ∧ Q (.int (n : Nat)) H
abbrev rInt1 : List V → Hp → VK → Prop := fun xs H Q => (∃ i, xs = [.int i] ∧ Q (.int i) H) ∨ ∃ k, xs = [.bl k] ∧ Q (.int (if k then 1 else 0)) H
abbrev rList1 (K : PySem.W.Frag) : List V → Hp → VK → Prop := fun xs H Q => ∃ p ys, xs = [.ref p] ∧ (SqL K H p ys ∨ SqT K H p ys) ∧ ∀ l, H l = none → Q (.ref l) (upd H l (.lst ys))
def rawBegun (K : PySem.W.Frag) : TS :=
  tSeq (tAsg (tC (.int 0)) (gName 1)) (tSeq (tFor (iSeq K (tVar 0)) (gName 2)
    (tAsg (tOp rMod (tOp rAdd (tOp rAdd (tOp rMul (tVar 1) (tC (.int 48271))) (tOp rMul (tOp rMod (tVar 2) (tC (.int 2147483647))) (tC (.int 69621)))) (tC (.int 11))) (tC (.int 2147483647))) (gName 1)))
    (tRet (tLst (tCons (tCB (rList1 K) (tCons (tVar 0) tNil)) (tCons (tOp rMul (tVar 1) (tCB rInt1 (tCons (tOp rGt (tCB (rLen0 K) (tCons (tVar 0) tNil)) (tC (.int 2))) tNil))) tNil)))))
def spBegun (K : PySem.W.Frag) : Sp := fun vs H Q _ => ∃ (a : Addr) (ns : List Int), vs = [.ref a] ∧ SqL K H a (ns.map V.int) ∧ ns.length ≤ 63 ∧
  ∀ (s : Int) (p q : Addr), 0 ≤ s → s < 2147483647 → H p = none → q ≠ p → H q = none → Q (.ref q) (upd (upd H p (.lst (ns.map V.int))) q (.lst [.ref p, .int s]))
theorem pure_begun {K : PySem.W.Frag} {x y z : Str} (vs : List V) (H : Hp) (Q : VK) (E : XK) (h : spBegun K vs H Q E) : rawBegun K { nx := fun _ H' => Q .non H', rt := Q } (start [x, y, z] vs) H := by
  obtain ⟨a, ns, rfl, hS, hl, hQ⟩ := h
  show tFor (iSeq K (tVar 0)) (gName 2) _ _ _ _
  refine ⟨_, rfl, a, rfl, .inl ⟨⟨_, hS⟩, ?_⟩⟩
  refine for_it (walk_list (xs := ns.map V.int)) (fun i σ' H' => H' = H ∧ ∃ (w : Option V) (s : Int), σ' = [some (.ref a), some (.int s), w] ∧ 0 ≤ s ∧ s < 2147483647) ⟨rfl, none, 0, rfl, by decide, by decide⟩ (fun i σ' H' _ h => by obtain ⟨rfl, _⟩ := h; exact hS) ?_ ?_
  · rintro i v σ' H1 H2 hi ⟨rfl, w, s, rfl, h0, h1⟩ ⟨rfl, hv⟩
    obtain ⟨n, -, hn⟩ : ∃ n, ns[i]? = some n ∧ V.int n = v := by simpa using hv
    subst hn
    refine ⟨_, rfl, _, _, rfl, rfl, Or.inr ⟨by decide, by decide⟩, ?_⟩
    refine ⟨_, rfl, _, _, rfl, rfl, (show (0:Int) < 2147483647 by decide), _, _, rfl, rfl, Or.inr ⟨by decide, by decide⟩, _, _, rfl, rfl, _, _, rfl, rfl, _, _, rfl, rfl, (show (0:Int) < 2147483647 by decide), ?_⟩
    refine ⟨rfl, some (.int n), _, rfl, ?_, ?_⟩
    · exact Int.emod_nonneg _ (by decide)
    · exact Int.emod_lt_of_pos _ (by decide)
  · rintro σ' H1 ⟨rfl, w, s, rfl, h0, h1⟩
    refine ⟨_, rfl, a, ns.map V.int, rfl, .inl hS, fun p hp => ?_⟩
    have hS' : SqL K (upd H1 p (.lst (ns.map V.int))) a (ns.map V.int) := by
      rcases hS with hS | hS
      · refine .inl ?_
        have hn : a ≠ p := fun z => by
          rw [z] at hS
          rcases hS with e | ⟨_, e⟩ <;> (rw [hp] at e; cases e)
        rcases hS with e | ⟨o, e⟩
        · exact .inl (by rw [upd_ne hn]; exact e)
        · exact .inr ⟨o, by rw [upd_ne hn]; exact e⟩
      · exact .inr hS
    refine ⟨_, rfl, _, rfl, _, _, rfl, .inl ⟨_, hS', rfl⟩, _, _, rfl, rfl, .inr ⟨_, rfl, ?_⟩⟩
    have fin : ∀ j : Int, 0 ≤ j → j ≤ 1 → CMul s j ∧ ([V.ref p, .int (s * j)].length ≤ sizeLine ∧ ∀ q, upd H1 p (.lst (ns.map V.int)) q = none → Q (.ref q) (upd (upd H1 p (.lst (ns.map V.int))) q (.lst [V.ref p, .int (s * j)]))) := fun j j0 j1 => by
      refine ⟨.inr ⟨by omega, by omega⟩, (show 2 ≤ sizeLine by decide), fun q hq => ?_⟩
      have hne : q ≠ p := fun z => by
        rw [z, upd_same] at hq
        cases hq
      rw [upd_ne hne] at hq
      have : j = 0 ∨ j = 1 := by omega
      rcases this with rfl | rfl
      · exact hQ (s * 0) p q (by omega) (by omega) hp hne hq
      · exact hQ (s * 1) p q (by omega) (by omega) hp hne hq
    cases decide ((2 : Int) < ((ns.map V.int).length : Nat)) with
    | true => exact ⟨s, 1, rfl, rfl, fin 1 (by decide) (by decide)⟩
    | false => exact ⟨s, 0, rfl, rfl, fin 0 (by decide) (by decide)⟩
/-! ### a box of draws -/
/-- at b: the numbers left, at l, and what was stirred -/
def Box (G : Gp) (b l : Addr) : Prop := l ≠ b ∧ ∃ (ns : List Int) (s : Int), G b = some (.lst [.ref l, .int s]) ∧ G l = some (.lst (ns.map D.int)) ∧ 0 ≤ s ∧ s < 2147483647
def spLaw (K : PySem.W.Frag) : Sp := fun vs H Q E => ∃ (a : Addr) (ns : List Int), vs = [.ref a] ∧ SqL K H a (ns.map V.int) ∧ ns.length ≤ 63 ∧ ∀ v H', v = .bl true → Q v H'
/-- a law's body: its first statement makes the box -/
theorem law_ok {P : Program} {w : World} {K : PySem.W.Frag} {mg : Str → Option Value} {base : Heap} {x qual : Str} {params : Arguments} {st : Stmt} {body : List Stmt} {scope : Scope} {f : Addr} {fd : FuncData} {N ps : List Str} {k : Nat} {t : DTS}
    (F : FunD K x qual params (st :: body) scope [] [] f fd) (S : FnScope N ps scope) (hps : ps.length = 1)
    (hpure : ∀ b l G sd, Box G b l → (∀ a, a ≠ b → a ≠ l → G a = none) → sd[1]? = some (some (.ref b)) → sd.length = N.length → t { nx := fun _ _ => False, rt := fun d _ => d = .bl true } sd G) (hN : 2 ≤ N.length)
    (h1 : ∀ (cdv : Value) (A : Around) (outer : List Env) (s : Shared) (H : Hp) (E : XK), Room k (A.deeper (PyProof.Rows.envOfC qual scope s.heap.objs.size f cdv)) →
      PS (Bd P w K mg base N qual scope f cdv A outer s H E) st (tAsg (tCallS (spBegun K) (WE fun _ _ _ _ => False) (tCons (tVar 0) tNil)) (gName 1)))
    (hbody : ∀ (cdv : Value) (A : Around) (outer : List Env) (s : Shared) (H : Hp) (E : XK), Room k (A.deeper (PyProof.Rows.envOfC qual scope s.heap.objs.size f cdv)) → PassesOwn (model P w) (Bd P w K mg base N qual scope f cdv A outer s H E).A (Bd P w K mg base N qual scope f cdv A outer s H E).env (Bd P w K mg base N qual scope f cdv A outer s H E).xe →
      Wish (Bd P w K mg base N qual scope f cdv A outer s H E) ⟨H⟩ W0 → DSs (Bd P w K mg base N qual scope f cdv A outer s H E) ⟨H⟩ body t) :
    FnOk P w K mg base (L2.CX P w) (k + 1) f fd ps (spLaw K) := by
  refine F.ok S (fun vs H Q E h => ?_) (fun cdv A outer s H vs Q E hr h => ?_)
  · obtain ⟨a, ns, rfl, _⟩ := h
    rw [hps]
    rfl
  · obtain ⟨a, ns, rfl, hS, hl, hQ⟩ := h
    obtain ⟨ts, p, w'⟩ := (hbody cdv A outer s H E hr (passes_of (X := Bd P w K mg base N qual scope f cdv A outer s H E) rfl) wish0).ex
    refine ⟨_, pss_cons (h1 cdv A outer s H E hr) p, ?_⟩
    have hlen : (start N [V.ref a]).length = N.length := by
      simp [L2.start]
      omega
    refine ⟨.ref a, by simp [L2.start], a, ns, rfl, hS, hl, fun sd p q h0 h1 hp hqp hq => ?_⟩
    have k1 : Kp H (upd H p (.lst (ns.map V.int))) := .fresh hp
    have hq' : upd H p (.lst (ns.map V.int)) q = none := by rw [upd_ne hqp]; exact hq
    have k2 : Kp (upd H p (.lst (ns.map V.int))) (upd (upd H p (.lst (ns.map V.int))) q (.lst [.ref p, .int sd])) := .fresh hq'
    have ri : ∀ H' : Hp, RelL H' (ns.map D.int) (ns.map V.int) := fun H' => by
      clear hS hl k1 hq' k2
      induction ns with
      | nil => exact rfl
      | cons n ns ih => exact ⟨_, _, rfl, rfl, ih⟩
    have R0 : Rep K ⟨H⟩ H (fun _ => none) := ⟨.refl H, fun a o e => nomatch e⟩
    have R1 : Rep K ⟨H⟩ (upd H p (.lst (ns.map V.int))) (put (fun _ => none) p (.lst (ns.map D.int))) := R0.laid (o := .lst _) hp ⟨_, upd_same, ri _, by rw [List.length_map, sizeLine_eq]; omega⟩
    have R2 : Rep K ⟨H⟩ (upd (upd H p (.lst (ns.map V.int))) q (.lst [.ref p, .int sd])) (put (put (fun _ => none) p (.lst (ns.map D.int))) q (.lst [.ref p, .int sd])) := R1.laid (o := .lst _) hq' ⟨_, upd_same, ⟨_, _, rfl, rfl, _, _, rfl, rfl, rfl⟩, by simp [sizeLine_eq]⟩
    have hsl : (start N [V.ref a]).length = (List.replicate N.length (none : Option D)).length := by rw [hlen, List.length_replicate]
    refine w' ((start N [V.ref a]).set 1 (some (.ref q))) _ ((List.replicate N.length none).set 1 (some (.ref q))) _ { nx := fun _ _ => False, rt := fun d _ => d = .bl true } _ ?_ R2 ?_ ?_
    · refine RelS.set (v := .ref q) (d := .ref q) ⟨hsl, fun i d e => ?_⟩ rfl 1
      have := List.mem_of_getElem? e
      simp [List.mem_replicate] at this
    · refine hpure q p _ _ ⟨hqp.symm, ns, sd, put_same, by rw [put_ne hqp.symm, put_same], h0, h1⟩ (fun a ha hl => by rw [put_ne ha, put_ne hl]) (by rw [List.getElem?_set_self (by rw [List.length_replicate]; omega)]) (by simp)
    · refine ⟨fun _ _ _ _ _ _ _ z => z.elim, fun v d H' G' _ r _ e => ?_, fun _ _ _ _ _ _ _ z => z.elim, fun _ _ _ _ _ _ _ z => z.elim⟩
      subst e
      exact hQ _ _ (by exact r)
theorem hCX {P : Program} : ∀ (w : World) (H : Hp) (s : Shared) (e : Value) (s' : Shared), L2.CX P w [] H s (fun _ _ _ => False) e s' → False := fun w H s e s' h => by
  obtain ⟨_, _, _, _, _, _, _, _, _, _, _, _, z⟩ := h
  exact z
end DL
set_option Elab.async false
set_option linter.all false
set_option maxRecDepth 100000
set_option maxHeartbeats 4000000
namespace DL
open PySem PySem.Spec L2

/-! ### the program's classes -/
structure Cs where
  cEnd : Addr
  cCarry : Addr
  cHall : Addr
  cWorld : Addr
  cRecord : Addr
  cCarryError : Addr
  cBadOffers : Addr
  cBadEnds : Addr
  cNoThing : Addr
  cHeld : Addr
  cNoRoom : Addr
  cFallen : Addr
  cNoHand : Addr
  cNoEnd : Addr
  cBadWish : Addr
  cBusy : Addr
  cBadLog : Addr
  cBadText : Addr
def cs (K : PySem.W.Frag) : Cs := ⟨He.ga K "End", He.ga K "Carry", He.ga K "Hall", He.ga K "World", He.ga K "Record", He.ga K "CarryError", He.ga K "BadOffers", He.ga K "BadEnds", He.ga K "NoThing", He.ga K "Held", He.ga K "NoRoom", He.ga K "Fallen", He.ga K "NoHand", He.ga K "NoEnd", He.ga K "BadWish", He.ga K "Busy", He.ga K "BadLog", He.ga K "BadText"⟩
def nEnd : List Str := ["name", "knows", "things", "made", "lifted", "frozen", "coming", "kept", "told", "seen", "left", "edits", "rises", "is_down"]
def nCarry : List Str := ["number", "by", "source", "thing", "wish", "stage", "edit", "kinds", "above", "turn", "would", "goal", "kind", "worth", "ends", "kept"]
def nHall : List Str := ["ends", "carries", "holds", "leaves", "rises", "told"]
def nWorld : List Str := ["hall", "ends", "road"]
def nRecord : List Str := ["where", "was"]
theorem ndEnd : nEnd.Nodup := by decide +kernel
theorem ndCarry : nCarry.Nodup := by decide +kernel
theorem ndHall : nHall.Nodup := by decide +kernel
theorem ndWorld : nWorld.Nodup := by decide +kernel
theorem ndRecord : nRecord.Nodup := by decide +kernel

/-! ### promises -/
abbrev wx (E : DXK) : DWX := fun C x _ G => E C x G
def sp0 (f : Gp → DQ → DXK → Prop) : DSp := fun ds G Q E => ds = [] ∧ f G Q E
def sp1 (f : D → Gp → DQ → DXK → Prop) : DSp := fun ds G Q E => ∃ a, ds = [a] ∧ f a G Q E
def sp2 (f : D → D → Gp → DQ → DXK → Prop) : DSp := fun ds G Q E => ∃ a b, ds = [a, b] ∧ f a b G Q E
def sp3 (f : D → D → D → Gp → DQ → DXK → Prop) : DSp := fun ds G Q E => ∃ a b c, ds = [a, b, c] ∧ f a b c G Q E
def sp4 (f : D → D → D → D → Gp → DQ → DXK → Prop) : DSp := fun ds G Q E => ∃ a b c d, ds = [a, b, c, d] ∧ f a b c d G Q E
def sp5 (f : D → D → D → D → D → Gp → DQ → DXK → Prop) : DSp := fun ds G Q E => ∃ a b c d e, ds = [a, b, c, d, e] ∧ f a b c d e G Q E
def sp6 (f : D → D → D → D → D → D → Gp → DQ → DXK → Prop) : DSp := fun ds G Q E => ∃ a b c d e g, ds = [a, b, c, d, e, g] ∧ f a b c d e g G Q E
def sp7 (f : D → D → D → D → D → D → D → Gp → DQ → DXK → Prop) : DSp := fun ds G Q E => ∃ a b c d e g h, ds = [a, b, c, d, e, g, h] ∧ f a b c d e g h G Q E
theorem sp0_len {f} : ∀ ds G Q E, sp0 f ds G Q E → ds.length = 0 := fun _ _ _ _ ⟨e, _⟩ => by rw [e]; rfl
theorem sp1_len {f} : ∀ ds G Q E, sp1 f ds G Q E → ds.length = 1 := fun _ _ _ _ ⟨_, e, _⟩ => by rw [e]; rfl
theorem sp2_len {f} : ∀ ds G Q E, sp2 f ds G Q E → ds.length = 2 := fun _ _ _ _ ⟨_, _, e, _⟩ => by rw [e]; rfl
theorem sp3_len {f} : ∀ ds G Q E, sp3 f ds G Q E → ds.length = 3 := fun _ _ _ _ ⟨_, _, _, e, _⟩ => by rw [e]; rfl
theorem sp4_len {f} : ∀ ds G Q E, sp4 f ds G Q E → ds.length = 4 := fun _ _ _ _ ⟨_, _, _, _, e, _⟩ => by rw [e]; rfl
theorem sp5_len {f} : ∀ ds G Q E, sp5 f ds G Q E → ds.length = 5 := fun _ _ _ _ ⟨_, _, _, _, _, e, _⟩ => by rw [e]; rfl
theorem sp6_len {f} : ∀ ds G Q E, sp6 f ds G Q E → ds.length = 6 := fun _ _ _ _ ⟨_, _, _, _, _, _, e, _⟩ => by rw [e]; rfl
theorem sp7_len {f} : ∀ ds G Q E, sp7 f ds G Q E → ds.length = 7 := fun _ _ _ _ ⟨_, _, _, _, _, _, _, e, _⟩ => by rw [e]; rfl
end DL
set_option Elab.async false
set_option linter.all false
set_option maxRecDepth 100000
set_option maxHeartbeats 4000000
namespace DL
open PySem PySem.Spec L2

/-! ### loops, comprehensions: by what stays -/
theorem forL_ind {stay : Gp → Prop} {g : DTG} {tb : DTS} {DD : DEnds} {items : List D} (I : Nat → SD → Gp → Prop) (hst : ∀ i sd G, I i sd G → stay G)
    (step : ∀ i x sd G (K : SD → Gp → Prop), items[i]? = some x → I i sd G → (∀ sd2 G2, I (i + 1) sd2 G2 → K sd2 G2) → g x sd G fun sd1 G1 => tb { DD with nx := fun sd2 G2 => stay G2 ∧ K sd2 G2, ct := fun sd2 G2 => stay G2 ∧ K sd2 G2, bk := DD.nx } sd1 G1)
    (fin : ∀ sd G, I items.length sd G → DD.nx sd G) {sd : SD} {G : Gp} (h0 : I 0 sd G) : stay G ∧ dForL stay g tb DD items sd G := by
  refine ⟨hst 0 _ _ h0, ?_⟩
  suffices h : ∀ (ys : List D) (i : Nat) sd G, items.drop i = ys → i ≤ items.length → I i sd G → dForL stay g tb DD ys sd G from h items 0 sd G rfl (Nat.zero_le _) h0
  intro ys
  induction ys with
  | nil =>
    intro i sd G e hi hI
    have : items.length ≤ i := List.drop_eq_nil_iff.mp e
    have : i = items.length := Nat.le_antisymm hi this
    subst this
    exact fin _ _ hI
  | cons y ys ih =>
    intro i sd G e hi hI
    have hlt : i < items.length := by
      rcases Nat.lt_or_ge i items.length with h | h
      · exact h
      · rw [List.drop_eq_nil_iff.mpr h] at e
        cases e
    have e1 : items[i]? = some y := by
      have := List.getElem?_drop (xs := items) (i := i) (j := 0)
      rw [e] at this
      simpa using this.symm
    have e2 : items.drop (i + 1) = ys := by
      have := List.drop_drop (i := 1) (j := i) (l := items)
      rw [e] at this
      simpa [Nat.add_comm] using this.symm
    exact step i y sd G _ e1 hI fun sd2 G2 h2 => ih (i + 1) sd2 G2 e2 hlt h2
theorem dComp_pure {ti : DTI} {g : DTG} {tt : DTT} {te : DTE} {vs : List Nat} {sd : SD} {G : Gp} {Q : DQ} {items : List D} {stay : Gp → Prop} (f : D → Option D) (hti : ∀ R : List D → (Gp → Prop) → Gp → Prop, R items stay G → ti sd G R)
    (hst0 : stay G) (hst : ∀ p ys, G p = none → stay (put G p (.lst ys))) (ht : ∀ p ys x, G p = none → x ∈ items → turnIs g tt te (dwipe sd vs) x (put G p (.lst ys)) (f x))
    (q : ∀ p, G p = none → Q (.ref p) (put G p (.lst (items.filterMap f)))) : dComp ti g tt te vs sd G Q := by
  refine hti _ ⟨hst0, fun p hp => ⟨hst p _ hp, ?_⟩⟩
  exact dcL_pure f hp (fun ys => hst p ys hp) items [] (fun x hx ys => ht p ys x hp hx) (by simpa using q p hp)
/-! ### for simp -/
@[simp] theorem sp1_app {f : D → Gp → DQ → DXK → Prop} {a : D} {G Q E} : sp1 f [a] G Q E = f a G Q E := propext ⟨fun ⟨_, e, h⟩ => by cases e; exact h, fun h => ⟨_, rfl, h⟩⟩
@[simp] theorem sp2_app {f : D → D → Gp → DQ → DXK → Prop} {a b : D} {G Q E} : sp2 f [a, b] G Q E = f a b G Q E := propext ⟨fun ⟨_, _, e, h⟩ => by cases e; exact h, fun h => ⟨_, _, rfl, h⟩⟩
@[simp] theorem sp3_app {f : D → D → D → Gp → DQ → DXK → Prop} {a b c : D} {G Q E} : sp3 f [a, b, c] G Q E = f a b c G Q E := propext ⟨fun ⟨_, _, _, e, h⟩ => by cases e; exact h, fun h => ⟨_, _, _, rfl, h⟩⟩
@[simp] theorem sp4_app {f : D → D → D → D → Gp → DQ → DXK → Prop} {a b c d : D} {G Q E} : sp4 f [a, b, c, d] G Q E = f a b c d G Q E := propext ⟨fun ⟨_, _, _, _, e, h⟩ => by cases e; exact h, fun h => ⟨_, _, _, _, rfl, h⟩⟩
@[simp] theorem sp5_app {f : D → D → D → D → D → Gp → DQ → DXK → Prop} {a b c d e : D} {G Q E} : sp5 f [a, b, c, d, e] G Q E = f a b c d e G Q E := propext ⟨fun ⟨_, _, _, _, _, e, h⟩ => by cases e; exact h, fun h => ⟨_, _, _, _, _, rfl, h⟩⟩
@[simp] theorem sp6_app {f : D → D → D → D → D → D → Gp → DQ → DXK → Prop} {a b c d e g : D} {G Q E} : sp6 f [a, b, c, d, e, g] G Q E = f a b c d e g G Q E := propext ⟨fun ⟨_, _, _, _, _, _, e, h⟩ => by cases e; exact h, fun h => ⟨_, _, _, _, _, _, rfl, h⟩⟩
@[simp] theorem sp7_app {f : D → D → D → D → D → D → D → Gp → DQ → DXK → Prop} {a b c d e g h : D} {G Q E} : sp7 f [a, b, c, d, e, g, h] G Q E = f a b c d e g h G Q E := propext ⟨fun ⟨_, _, _, _, _, _, _, e, h⟩ => by cases e; exact h, fun h => ⟨_, _, _, _, _, _, _, rfl, h⟩⟩
@[simp] theorem dstart_app {N : List Str} {ds : List D} : dstart N ds = ds.map some ++ List.replicate (N.length - ds.length) none := rfl
@[simp] theorem rep0 {α : Type} {x : α} : List.replicate 0 x = [] := rfl
@[simp] theorem repS {α : Type} {x : α} {n : Nat} : List.replicate (n + 1) x = x :: List.replicate n x := rfl
@[simp] theorem tyN_non {G : Gp} : tyN G .non = some "NoneType" := rfl
@[simp] theorem tyN_bl {G : Gp} {b : Bool} : tyN G (.bl b) = some "bool" := rfl
@[simp] theorem tyN_int {G : Gp} {b : Int} : tyN G (.int b) = some "int" := rfl
@[simp] theorem tyN_str {G : Gp} {b : Str} : tyN G (.str b) = some "str" := rfl
@[simp] theorem tyN_tup {G : Gp} {b : List D} : tyN G (.tup b) = some "tuple" := rfl
@[simp] theorem tyN_ty {G : Gp} {b : String} : tyN G (.ty b) = none := rfl
theorem tyN_lst {G : Gp} {p : Addr} {xs : List D} (h : G p = some (.lst xs)) : tyN G (.ref p) = some "list" := by simp [tyN, h]
theorem tyN_dict {G : Gp} {p : Addr} {t : Bool} {xs : List (D × D)} (h : G p = some (.dict t xs)) : tyN G (.ref p) = some "dict" := by simp [tyN, h]
theorem tyN_ref {G : Gp} {p : Addr} {a : String} (h : tyN G (.ref p) = some a) : a = "list" ∨ a = "dict" := by
  simp only [tyN] at h
  split at h <;> simp at h <;> simp [← h]
theorem tyN_ext {G G' : Gp} {d : D} {a : String} (e : Ext G G') (h : tyN G d = some a) : tyN G' d = some a := by
  cases d <;> try exact h
  rename_i p
  simp only [tyN] at h ⊢
  cases g : G p with
  | none => rw [g] at h; cases h
  | some o => rw [g] at h; rw [e p o g]; exact h
@[simp] theorem memTy {x : String} : (x ∈ tyNames) = (x = "NoneType" ∨ x = "bool" ∨ x = "int" ∨ x = "str" ∨ x = "tuple" ∨ x = "list" ∨ x = "dict") := by simp [tyNames]
/-! ### readings, by what stands where -/
@[simp] theorem addR_int {i j : Int} {G Q} : addR (.int i) (.int j) G Q = Q (.int (i + j)) G := rfl
@[simp] theorem addR_str {i j : Str} {G Q} : addR (.str i) (.str j) G Q = (i.length + j.length ≤ sizeLine ∧ Q (.str (i ++ j)) G) := rfl
@[simp] theorem addR_tup {i j : List D} {G Q} : addR (.tup i) (.tup j) G Q = (i.length + j.length ≤ sizeLine ∧ Q (.tup (i ++ j)) G) := rfl
def addO (o o' : Option DO) (G : Gp) (Q : DQ) : Prop := ∃ x y, o = some (.lst x) ∧ o' = some (.lst y) ∧ x.length + y.length ≤ sizeLine ∧ ∀ p, G p = none → Q (.ref p) (put G p (.lst (x ++ y)))
@[simp] theorem addR_ref {a b : Addr} {G Q} : addR (.ref a) (.ref b) G Q = addO (G a) (G b) G Q := rfl
@[simp] theorem addO_lst {x y : List D} {G Q} : addO (some (.lst x)) (some (.lst y)) G Q = (x.length + y.length ≤ sizeLine ∧ ∀ p, G p = none → Q (.ref p) (put G p (.lst (x ++ y)))) := by simp [addO]
@[simp] theorem subR_int {i j : Int} {G Q} : subR (.int i) (.int j) G Q = Q (.int (i - j)) G := rfl
@[simp] theorem mulR_int {i j : Int} {G Q} : mulR (.int i) (.int j) G Q = (CMul i j ∧ Q (.int (i * j)) G) := rfl
def mulO (o : Option DO) (k : Int) (G : Gp) (Q : DQ) : Prop := ∃ x, o = some (.lst x) ∧ (-(2 ^ 63) ≤ k ∧ k < 2 ^ 63 ∧ x.length * k.toNat ≤ sizeLine) ∧ ∀ p, G p = none → Q (.ref p) (put G p (.lst (List.replicate k.toNat x).flatten))
@[simp] theorem mulR_ref {a : Addr} {k : Int} {G Q} : mulR (.ref a) (.int k) G Q = mulO (G a) k G Q := rfl
@[simp] theorem mulO_lst {x : List D} {k : Int} {G Q} : mulO (some (.lst x)) k G Q = ((-(2 ^ 63) ≤ k ∧ k < 2 ^ 63 ∧ x.length * k.toNat ≤ sizeLine) ∧ ∀ p, G p = none → Q (.ref p) (put G p (.lst (List.replicate k.toNat x).flatten))) := by simp [mulO]
@[simp] theorem modR_int {i j : Int} {G Q} : modR (.int i) (.int j) G Q = (0 < j ∧ Q (.int (i % j)) G) := rfl
@[simp] theorem divR_int {i j : Int} {G Q} : divR (.int i) (.int j) G Q = (CDiv i j ∧ Q (.int (i / j)) G) := rfl
@[simp] theorem cmpR_int {p : Int → Int → Bool} {i j : Int} {G Q} : cmpR p (.int i) (.int j) G Q = Q (.bl (p i j)) G := rfl
@[simp] theorem isNR_non {neg : Bool} {d : D} {G Q} : isNR neg d .non G Q = Q (.bl (decide (d = .non) != neg)) G := rfl
@[simp] theorem lenR_tup {xs : List D} {G Q} : lenR [.tup xs] G Q = Q (.int (xs.length : Nat)) G := rfl
@[simp] theorem lenR_str {z : Str} {G Q} : lenR [.str z] G Q = (z.length ≤ sizeLine ∧ Q (.int (z.length : Nat)) G) := rfl
def lenO (o : Option DO) (G : Gp) (Q : DQ) : Prop := ∃ o', o = some o' ∧ (match o' with
    | .lst ds => Q (.int (ds.length : Nat)) G
    | .rol ds => Q (.int (ds.length : Nat)) G
    | .dict _ kvs => Q (.int (kvs.length : Nat)) G
    | _ => False)
@[simp] theorem lenR_ref {a : Addr} {G Q} : lenR [.ref a] G Q = lenO (G a) G Q := rfl
@[simp] theorem lenO_lst {xs : List D} {G Q} : lenO (some (.lst xs)) G Q = Q (.int (xs.length : Nat)) G := by simp [lenO]
@[simp] theorem lenO_dict {t : Bool} {xs : List (D × D)} {G Q} : lenO (some (.dict t xs)) G Q = Q (.int (xs.length : Nat)) G := by simp [lenO]
@[simp] theorem ixR_tup {xs : List D} {i : Int} {G Q} : ixR (.tup xs) (.int i) G Q = ∃ v, atI xs i = some v ∧ Q v G := rfl
@[simp] theorem ixR_str {z : Str} {i : Int} {G Q} : ixR (.str z) (.int i) G Q = (z.length ≤ sizeLine ∧ ∃ c, atI z.cps.toList i = some c ∧ Q (.str ⟨#[c]⟩) G) := rfl
def ixO (o : Option DO) (e : D) (G : Gp) (Q : DQ) : Prop := ∃ o', o = some o' ∧ anyO o' (fun ds => ∃ i v, e = .int i ∧ atI ds i = some v ∧ Q v G) fun t kvs => keyOk t e = true ∧ ∃ v, valD kvs e = some v ∧ Q v G
@[simp] theorem ixR_ref {a : Addr} {e : D} {G Q} : ixR (.ref a) e G Q = ixO (G a) e G Q := rfl
@[simp] theorem ixO_lst {xs : List D} {i : Int} {G Q} : ixO (some (.lst xs)) (.int i) G Q = ∃ v, atI xs i = some v ∧ Q v G := by simp [ixO, anyO]
@[simp] theorem ixO_dict {t : Bool} {xs : List (D × D)} {e : D} {G Q} : ixO (some (.dict t xs)) e G Q = (keyOk t e = true ∧ ∃ v, valD xs e = some v ∧ Q v G) := by simp [ixO, anyO]
@[simp] theorem ixO_ldict {t : Bool} {xs : List (D × D)} {e : D} {G Q} : ixO (some (.ldict t xs)) e G Q = (keyOk t e = true ∧ ∃ v, valD xs e = some v ∧ Q v G) := by simp [ixO, anyO]
@[simp] theorem slR_tup {xs : List D} {lo hi : Option Int} {G Q} : slR (.tup xs) lo hi G Q = Q (.tup (cutD xs lo hi)) G := rfl
def slO (o : Option DO) (lo hi : Option Int) (G : Gp) (Q : DQ) : Prop := ∃ o', o = some o' ∧ lstO o' fun ds => ∀ p, G p = none → Q (.ref p) (put G p (.lst (cutD ds lo hi)))
@[simp] theorem slR_ref {a : Addr} {lo hi : Option Int} {G Q} : slR (.ref a) lo hi G Q = slO (G a) lo hi G Q := rfl
@[simp] theorem slO_lst {xs : List D} {lo hi : Option Int} {G Q} : slO (some (.lst xs)) lo hi G Q = ∀ p, G p = none → Q (.ref p) (put G p (.lst (cutD xs lo hi))) := by simp [slO, lstO]
def setO (o : Option DO) (a : Addr) (i v : D) (G : Gp) (Q : Gp → Prop) : Prop := ∃ ob, o = some ob ∧ (match ob with
    | .lst ds => ∃ k j, i = .int k ∧ ixN ds.length k = some j ∧ Q (put G a (.lst (ds.set j v)))
    | .dict t kvs => keyOk t i = true ∧ kvs.length < sizeLine ∧ Q (put G a (.dict t (putD kvs i v)))
    | _ => False)
@[simp] theorem setR_ref {a : Addr} {i v : D} {G} {Q : Gp → Prop} : setR (.ref a) i v G Q = setO (G a) a i v G Q := rfl
@[simp] theorem setO_lst {xs : List D} {a : Addr} {k : Int} {v : D} {G} {Q : Gp → Prop} : setO (some (.lst xs)) a (.int k) v G Q = ∃ j, ixN xs.length k = some j ∧ Q (put G a (.lst (xs.set j v))) := by simp [setO]
@[simp] theorem setO_dict {t : Bool} {xs : List (D × D)} {a : Addr} {i v : D} {G} {Q : Gp → Prop} : setO (some (.dict t xs)) a i v G Q = (keyOk t i = true ∧ xs.length < sizeLine ∧ Q (put G a (.dict t (putD xs i v)))) := by simp [setO]
def appO (o : Option DO) (a : Addr) (y : D) (G : Gp) (Q : DQ) : Prop := ∃ o', o = some o' ∧ (match o' with
    | .lst xs => xs.length < sizeLine ∧ Q .non (put G a (.lst (xs ++ [y])))
    | _ => False)
@[simp] theorem appR_ref {a : Addr} {y : D} {G Q} : appR (.ref a) [y] G Q = appO (G a) a y G Q := rfl
@[simp] theorem appO_lst {xs : List D} {a : Addr} {y : D} {G Q} : appO (some (.lst xs)) a y G Q = (xs.length < sizeLine ∧ Q .non (put G a (.lst (xs ++ [y])))) := by simp [appO]
def popO (o : Option DO) (a : Addr) (i : Int) (G : Gp) (Q : DQ) : Prop := ∃ o', o = some o' ∧ (match o' with
    | .lst xs => 0 ≤ i ∧ ∃ y, xs[i.toNat]? = some y ∧ Q y (put G a (.lst (xs.eraseIdx i.toNat)))
    | _ => False)
@[simp] theorem popR_ref {a : Addr} {i : Int} {G Q} : popR (.ref a) [.int i] G Q = popO (G a) a i G Q := rfl
@[simp] theorem popO_lst {xs : List D} {a : Addr} {i : Int} {G Q} : popO (some (.lst xs)) a i G Q = (0 ≤ i ∧ ∃ y, xs[i.toNat]? = some y ∧ Q y (put G a (.lst (xs.eraseIdx i.toNat)))) := by simp [popO]
def extO (o o' : Option DO) (a : Addr) (G : Gp) (Q : DQ) : Prop := ∃ x y, o = some (.lst x) ∧ o' = some (.lst y) ∧ x.length + y.length ≤ sizeLine ∧ Q .non (put G a (.lst (x ++ y)))
@[simp] theorem extR_ref {a b : Addr} {G Q} : extR (.ref a) [.ref b] G Q = extO (G a) (G b) a G Q := rfl
@[simp] theorem extO_lst {x y : List D} {a : Addr} {G Q} : extO (some (.lst x)) (some (.lst y)) a G Q = (x.length + y.length ≤ sizeLine ∧ Q .non (put G a (.lst (x ++ y)))) := by simp [extO]
@[simp] theorem intR_int {i : Int} {G Q} : intR [.int i] G Q = Q (.int i) G := rfl
@[simp] theorem maxR_int {i j : Int} {G Q} : maxR [.int i, .int j] G Q = Q (.int (max i j)) G := rfl
@[simp] theorem tupleR_tup {xs : List D} {G Q} : tupleR [.tup xs] G Q = Q (.tup xs) G := rfl
def tupleO (o : Option DO) (G : Gp) (Q : DQ) : Prop := ∃ o', o = some o' ∧ lstO o' fun ds => Q (.tup ds) G
@[simp] theorem tupleR_ref {a : Addr} {G Q} : tupleR [.ref a] G Q = tupleO (G a) G Q := rfl
@[simp] theorem tupleO_lst {xs : List D} {G Q} : tupleO (some (.lst xs)) G Q = Q (.tup xs) G := by simp [tupleO, lstO]
@[simp] theorem listR_tup {xs : List D} {G Q} : listR [.tup xs] G Q = ∀ p, G p = none → Q (.ref p) (put G p (.lst xs)) := rfl
def listO (o : Option DO) (G : Gp) (Q : DQ) : Prop := ∃ o', o = some o' ∧ lstO o' fun ds => ∀ p, G p = none → Q (.ref p) (put G p (.lst ds))
@[simp] theorem listR_ref {a : Addr} {G Q} : listR [.ref a] G Q = listO (G a) G Q := rfl
@[simp] theorem listO_lst {xs : List D} {G Q} : listO (some (.lst xs)) G Q = ∀ p, G p = none → Q (.ref p) (put G p (.lst xs)) := by simp [listO, lstO]
@[simp] theorem dListRng_app {ta : DTE} {sd G Q} : dListRng ta sd G Q = ta sd G fun d G1 => match d with
  | .int n => (0 ≤ n ∧ n ≤ 1000000) ∧ ∀ p, G1 p = none → Q (.ref p) (put G1 p (.lst (rngD 0 n.toNat)))
  | _ => False := rfl
def seqD (d : D) (G : Gp) (R : List D → (Gp → Prop) → Gp → Prop) : Prop := match d with
  | .tup ds => R ds (fun _ => True) G
  | .ref a => ∃ o, G a = some o ∧ lstO o fun ds => R ds (fun G => G a = some o) G
  | _ => False
@[simp] theorem diSeq_app {te : DTE} {sd G R} : diSeq te sd G R = te sd G fun d G1 => seqD d G1 R := rfl
@[simp] theorem seqD_tup {ds : List D} {G R} : seqD (.tup ds) G R = R ds (fun _ => True) G := rfl
def seqO (o : Option DO) (a : Addr) (G : Gp) (R : List D → (Gp → Prop) → Gp → Prop) : Prop := ∃ o', o = some o' ∧ lstO o' fun ds => R ds (fun G => G a = some o') G
@[simp] theorem seqD_ref {a : Addr} {G R} : seqD (.ref a) G R = seqO (G a) a G R := rfl
@[simp] theorem seqO_lst {xs : List D} {a : Addr} {G R} : seqO (some (.lst xs)) a G R = R xs (fun G => G a = some (.lst xs)) G := by simp [seqO, lstO]
def rngL (ds : List D) (G : Gp) (R : List D → (Gp → Prop) → Gp → Prop) : Prop := match ds with
  | [.int j] => -(2 ^ 62) ≤ j ∧ j ≤ 1000000 ∧ R (rngD 0 j.toNat) (fun _ => True) G
  | _ => False
@[simp] theorem diRng_app {te : DTA} {sd G R} : diRng te sd G R = te sd G fun d G1 => rngL d G1 R := rfl
@[simp] theorem rngL_int {j : Int} {G R} : rngL [.int j] G R = (-(2 ^ 62) ≤ j ∧ j ≤ 1000000 ∧ R (rngD 0 j.toNat) (fun _ => True) G) := rfl
def rng2L (ds : List D) (G : Gp) (R : List D → (Gp → Prop) → Gp → Prop) : Prop := match ds with
  | [.int i, .int j] => (-(2 ^ 62) ≤ i ∧ i ≤ 1000000 ∧ -(2 ^ 62) ≤ j ∧ j ≤ 1000000 ∧ j - i ≤ 1000000) ∧ R (rngD i (j - i).toNat) (fun _ => True) G
  | _ => False
@[simp] theorem diRng2_app {te : DTA} {sd G R} : diRng2 te sd G R = te sd G fun d G1 => rng2L d G1 R := rfl
@[simp] theorem rng2L_int {i j : Int} {G R} : rng2L [.int i, .int j] G R = ((-(2 ^ 62) ≤ i ∧ i ≤ 1000000 ∧ -(2 ^ 62) ≤ j ∧ j ≤ 1000000 ∧ j - i ≤ 1000000) ∧ R (rngD i (j - i).toNat) (fun _ => True) G) := rfl
def fldD (C : Addr) (ns : List Str) (i : Nat) (d : D) (G : Gp) (Q : DQ) : Prop := match d with
  | .ref a => ∃ o, G a = some o ∧ (match o with
    | .ins C' ns' fs => C' = C ∧ ns' = ns ∧ ∃ v, fs[i]? = some v ∧ Q v G
    | _ => False)
  | _ => False
@[simp] theorem dFld_app {C ns i ta sd G Q} : dFld C ns i ta sd G Q = ta sd G fun d G1 => fldD C ns i d G1 Q := rfl
def fldO (C : Addr) (ns : List Str) (i : Nat) (o : Option DO) (G : Gp) (Q : DQ) : Prop := ∃ o', o = some o' ∧ (match o' with
    | .ins C' ns' fs => C' = C ∧ ns' = ns ∧ ∃ v, fs[i]? = some v ∧ Q v G
    | _ => False)
@[simp] theorem fldD_ref {C ns i a G Q} : fldD C ns i (.ref a) G Q = fldO C ns i (G a) G Q := rfl
@[simp] theorem fldO_ins {C ns i fs G Q} : fldO C ns i (some (.ins C ns fs)) G Q = ∃ v, fs[i]? = some v ∧ Q v G := by simp [fldO]
def sfldD (C : Addr) (ns : List Str) (i : Nat) (d v : D) (G : Gp) (Q : Gp → Prop) : Prop := match d with
  | .ref a => ∃ o, G a = some o ∧ (match o with
    | .ins C' ns' fs => C' = C ∧ ns' = ns ∧ i ≤ fs.length ∧ Q (put G a (.ins C ns (storeF fs i v)))
    | _ => False)
  | _ => False
@[simp] theorem dsFld_app {C ns i to te} {DD : DEnds} {sd G} : dsFld C ns i to te DD sd G = te sd G fun v G1 => to sd G1 fun d G2 => sfldD C ns i d v G2 fun G3 => DD.nx sd G3 := rfl
def sfldO (C : Addr) (ns : List Str) (i : Nat) (o : Option DO) (a : Addr) (v : D) (G : Gp) (Q : Gp → Prop) : Prop := ∃ o', o = some o' ∧ (match o' with
    | .ins C' ns' fs => C' = C ∧ ns' = ns ∧ i ≤ fs.length ∧ Q (put G a (.ins C ns (storeF fs i v)))
    | _ => False)
@[simp] theorem sfldD_ref {C ns i a v G} {Q : Gp → Prop} : sfldD C ns i (.ref a) v G Q = sfldO C ns i (G a) a v G Q := rfl
@[simp] theorem sfldO_ins {C ns i fs a v G} {Q : Gp → Prop} : sfldO C ns i (some (.ins C ns fs)) a v G Q = (i ≤ fs.length ∧ Q (put G a (.ins C ns (storeF fs i v)))) := by simp [sfldO]
def methD (C : Addr) (ns : List Str) (d : D) (G : Gp) (P : Prop) : Prop := match d with
  | .ref a => (∃ fs, G a = some (.ins C ns fs)) ∧ P
  | _ => False
@[simp] theorem dMeth_app {C ns sp W to t sd G Q} : dMeth C ns sp W to t sd G Q = to sd G fun d G1 => methD C ns d G1 (t sd G1 fun ds G2 => sp (d :: ds) G2 Q fun C x G3 => W C x sd G3) := by
  unfold dMeth methD
  congr 1
  funext d G1
  cases d <;> rfl
def methO (C : Addr) (ns : List Str) (o : Option DO) : Prop := ∃ fs, o = some (.ins C ns fs)
@[simp] theorem methD_ref {C ns a G P} : methD C ns (.ref a) G P = (methO C ns (G a) ∧ P) := rfl
@[simp] theorem methO_ins {C ns fs} : methO C ns (some (.ins C ns fs)) = True := by simp [methO]
def inO (neg : Bool) (d : D) (o : Option DO) (G : Gp) (Q : DQ) : Prop := ∃ o', o = some o' ∧ anyO o' (fun ds => (ds.all (dat 20) && dat 20 d) = true ∧ Q (.bl (ds.any (fun z => peq z d) != neg)) G) fun t kvs => keyOk t d = true ∧ Q (.bl ((valD kvs d).isSome != neg)) G
@[simp] theorem inR_tup {neg : Bool} {d : D} {ds : List D} {G Q} : inR neg d (.tup ds) G Q = ((ds.all (dat 0) && dat 0 d) = true ∧ Q (.bl (ds.any (fun z => peq z d) != neg)) G) := rfl
@[simp] theorem inR_ref {neg : Bool} {d : D} {a : Addr} {G Q} : inR neg d (.ref a) G Q = inO neg d (G a) G Q := rfl
@[simp] theorem inO_lst {neg : Bool} {d : D} {ds : List D} {G Q} : inO neg d (some (.lst ds)) G Q = ((ds.all (dat 20) && dat 20 d) = true ∧ Q (.bl (ds.any (fun z => peq z d) != neg)) G) := by simp [inO, anyO]
@[simp] theorem inO_dict {neg t : Bool} {d : D} {kvs} {G Q} : inO neg d (some (.dict t kvs)) G Q = (keyOk t d = true ∧ Q (.bl ((valD kvs d).isSome != neg)) G) := by simp [inO, anyO]
@[simp] theorem inO_ldict {neg t : Bool} {d : D} {kvs} {G Q} : inO neg d (some (.ldict t kvs)) G Q = (keyOk t d = true ∧ Q (.bl ((valD kvs d).isSome != neg)) G) := by simp [inO, anyO]
def lensetD (d : D) (G : Gp) (Q : DQ) : Prop := ∃ ns : List Int, ns.length ≤ 4000 ∧ Q (.int ((dd ns).length : Nat)) G ∧ (match d with
  | .tup ds => ds = ns.map .int
  | .ref a => ∃ o, G a = some o ∧ lstO o fun ds => ds = ns.map .int
  | _ => False)
@[simp] theorem dLenSet_app {ta sd G Q} : dLenSet ta sd G Q = ta sd G fun d G1 => lensetD d G1 Q := rfl
theorem map_int_inj {a b : List Int} (h : a.map D.int = b.map D.int) : a = b := by
  induction a generalizing b with
  | nil => cases b <;> simp at h ⊢
  | cons x a ih => cases b with
    | nil => simp at h
    | cons y b => simp at h; rw [h.1, ih h.2]
@[simp] theorem lensetD_tup {ns : List Int} {G Q} : lensetD (.tup (ns.map .int)) G Q = (ns.length ≤ 4000 ∧ Q (.int ((dd ns).length : Nat)) G) :=
  propext ⟨fun ⟨ms, h1, h2, h3⟩ => by cases map_int_inj h3; exact ⟨h1, h2⟩, fun ⟨h1, h2⟩ => ⟨ns, h1, h2, rfl⟩⟩
def lensetO (o : Option DO) (G : Gp) (Q : DQ) : Prop := ∃ ns : List Int, ns.length ≤ 4000 ∧ Q (.int ((dd ns).length : Nat)) G ∧ ∃ o', o = some o' ∧ lstO o' fun ds => ds = ns.map .int
@[simp] theorem lensetD_ref {a : Addr} {G Q} : lensetD (.ref a) G Q = lensetO (G a) G Q := rfl
@[simp] theorem lensetO_lst {ns : List Int} {G Q} : lensetO (some (.lst (ns.map .int))) G Q = (ns.length ≤ 4000 ∧ Q (.int ((dd ns).length : Nat)) G) :=
  propext ⟨fun ⟨ms, h1, h2, o, e, h3⟩ => by cases e; cases map_int_inj h3; exact ⟨h1, h2⟩, fun ⟨h1, h2⟩ => ⟨ns, h1, h2, _, rfl, rfl⟩⟩
def tyO (T : String) (o : Option DO) : Prop := ∃ o', o = some o' ∧ (match o' with
    | .lst _ => T = "list"
    | .rol _ => T = "list"
    | .dict _ _ => T = "dict"
    | _ => False)
@[simp] theorem tyD_ref {T : String} {a : Addr} {G} : tyD T (.ref a) G = tyO T (G a) := rfl
@[simp] theorem tyD_str {T : String} {a : Str} {G} : tyD T (.str a) G = (T = "str") := rfl
@[simp] theorem tyO_lst {T : String} {xs : List D} : tyO T (some (.lst xs)) = (T = "list") := by simp [tyO]
@[simp] theorem tyO_dict {T : String} {t : Bool} {xs : List (D × D)} : tyO T (some (.dict t xs)) = (T = "dict") := by simp [tyO]
theorem tyD_lst {a : Addr} {xs : List D} {G : Gp} (h : G a = some (.lst xs)) : tyD "list" (.ref a) G = True := by simp [tyD, h]
@[simp] theorem ixN_0 {n : Nat} (h : 0 < n) : ixN n 0 = some 0 := by simp [ixN, h]
@[simp] theorem ixN_1 {n : Nat} (h : 1 < n) : ixN n 1 = some 1 := by
  have : (1 : Int) < n := by omega
  simp [ixN, this]
theorem eqV_nil {G : Gp} {a b : Addr} {xs : List D} {neg : Bool} {Q : DQ} (h1 : G a = some (.lst xs)) (h2 : G b = some (.lst [])) : eqV neg (.ref a) (.ref b) G Q = (xs.all (dat 20) = true ∧ Q (.bl (xs.isEmpty != neg)) G) := by
  simp only [eqV, h1, h2, lstO]
  cases xs <;> simp [peqL, PyData.eqvAll, PyData.eqv]
@[simp] theorem eqV_int {G : Gp} {i j : Int} {neg : Bool} {Q : DQ} : eqV neg (.int i) (.int j) G Q = Q (.bl (decide (i = j) != neg)) G := by
  simp [eqV, dat, peq_int]
@[simp] theorem eqV_str {G : Gp} {i j : Str} {neg : Bool} {Q : DQ} : eqV neg (.str i) (.str j) G Q = Q (.bl (decide (i = j) != neg)) G := by
  simp [eqV, dat, peq_str]
@[simp] theorem eqV_bl {G : Gp} {i j : Bool} {neg : Bool} {Q : DQ} : eqV neg (.bl i) (.bl j) G Q = Q (.bl ((i == j) != neg)) G := by
  simp [eqV, dat, peq, toPD, PyData.eqv]
@[simp] theorem atI_0 {α : Type} {x : α} {xs : List α} : atI (x :: xs) 0 = some x := by simp [atI, ixN]
@[simp] theorem atI_1 {α : Type} {x y : α} {xs : List α} : atI (x :: y :: xs) 1 = some y := by
  have : (1 : Int) < (xs.length : Int) + 1 + 1 := by omega
  simp [atI, ixN, this]
@[simp] theorem atI_2 {α : Type} {x y z : α} {xs : List α} : atI (x :: y :: z :: xs) 2 = some z := by
  have : (2 : Int) < (xs.length : Int) + 1 + 1 + 1 := by omega
  simp [atI, ixN, this]
theorem atI_nat {α : Type} {xs : List α} {i : Nat} (h : i < xs.length) : atI xs (i : Int) = some (xs[i]) := by
  simp [atI, ixN, h]
theorem dat_int {n : Nat} {i : Int} : dat n (.int i) = true := by cases n <;> rfl
theorem dat_str {n : Nat} {i : Str} : dat n (.str i) = true := by cases n <;> rfl
theorem dat_bl {n : Nat} {i : Bool} : dat n (.bl i) = true := by cases n <;> rfl
theorem dat_non {n : Nat} : dat n .non = true := by cases n <;> rfl
theorem put_at {G : Gp} {a b : Addr} {o : DO} : put G a o b = if b = a then some o else G b := rfl
theorem ne_fr {G : Gp} {a p : Addr} {o : DO} (h : G a = some o) (hp : G p = none) : a ≠ p := fun z => by rw [z, hp] at h; cases h
/-- if b then .. -/
theorem ite_bl {b c : Bool} {Q : DQ} {G : Gp} (h : Q (.bl (b && c)) G) : if b = true then Q (.bl c) G else Q (.bl false) G := by
  cases b <;> simpa using h
theorem put_none {G : Gp} {a b : Addr} {o : DO} (h : put G a o b = none) : b ≠ a ∧ a ≠ b ∧ G b = none := by
  by_cases hb : b = a
  · subst hb
    rw [put_same] at h
    cases h
  · rw [put_ne hb] at h
    exact ⟨hb, Ne.symm hb, h⟩
/-- x == [] of a new list -/
theorem eq_new {G : Gp} {a : Addr} {xs : List D} {neg : Bool} {Q : DQ} (h1 : G a = some (.lst xs)) (hd : xs.all (dat 20) = true) (q : ∀ p, G p = none → Q (.bl (xs.isEmpty != neg)) (put G p (.lst []))) : ∀ p, G p = none → eqV neg (.ref a) (.ref p) (put G p (.lst [])) Q := fun p hp => by
  rw [eqV_nil (by rw [put_ne (ne_fr h1 hp)]; exact h1) put_same]
  exact ⟨hd, q p hp⟩
theorem Ext.of_put {G G' : Gp} {p : Addr} {o : DO} (h : Ext G G') (hp : G' p = none) : Ext G (DL.put G' p o) := h.trans (Ext.put hp)
theorem all_ints {n : Nat} (ns : List Int) : (ns.map D.int).all (dat n) = true := by
  rw [List.all_eq_true]
  intro x hx
  obtain ⟨i, _, rfl⟩ := List.mem_map.mp hx
  exact dat_int
end DL
set_option Elab.async false
set_option linter.all false
set_option maxRecDepth 100000
set_option maxHeartbeats 4000000
namespace DL
open PySem PySem.Spec L2
/-! ### offers -/
def isNum (i j : Int) : D → Bool
  | .int k => decide (i ≤ k) && decide (k ≤ j)
  | _ => false
def sp_is_number (Γ : Cs) : DSp := sp3 fun d lo hi G Q _ => ∃ i j : Int, lo = .int i ∧ hi = .int j ∧ (tyN G d).isSome ∧ Q (.bl (isNum i j d)) G
abbrev N_is_number : List Str := ["part", "low", "high"]
def t_is_number (Γ : Cs) (ED : DXK) : DTS := dRet (dAndV (dCB isiR (daCons (dVar 0) (daCons (dC (.ty "int")) (daNil)))) (dAndV (dNotV (dCB isiR (daCons (dVar 0) (daCons (dC (.ty "bool")) (daNil))))) (dChain leR leR (dVar 1) (dVar 0) (dVar 2))))
theorem pure_is_number (Γ : Cs) : ∀ ds G Q E, sp_is_number Γ ds G Q E → t_is_number Γ E { nx := fun _ G => Q .non G, rt := Q } (dstart N_is_number ds) G := by
  rintro ds G Q E ⟨d, lo, hi, rfl, i, j, rfl, rfl, h, q⟩
  obtain ⟨a, ha⟩ := Option.isSome_iff_exists.mp h
  cases d
  case ref p => 
    rcases tyN_ref ha with rfl | rfl <;> simp [t_is_number, isNum, ha] at * <;> exact q
  case int k => 
    simp [t_is_number, isNum] at *
    by_cases h : i ≤ k <;> simp [h] at * <;> exact q
  case ty => simp at h
  all_goals (simp [t_is_number, isNum] at * <;> exact q)
def isOffer : D → Bool
  | .tup [a, b] => isNum 0 7 a && isNum 0 9999 b
  | _ => false
def sp_is_offer (Γ : Cs) : DSp := sp1 fun d G Q _ => (tyN G d).isSome ∧ (∀ ds x, d = .tup ds → x ∈ ds → (tyN G x).isSome) ∧ Q (.bl (isOffer d)) G
abbrev N_is_offer : List Str := ["offer"]
def t_is_offer (Γ : Cs) (ED : DXK) : DTS := dSeq (dIf (dOr (dNot (dTest (dCB isiR (daCons (dVar 0) (daCons (dC (.ty "tuple")) (daNil)))))) (dTest (dOp neR (dCB lenR (daCons (dVar 0) (daNil))) (dC (.int 2))))) (dRet (dC (.bl false))) (dNext)) (dRet (dAndV (dCall (sp_is_number Γ) (wx ED) (daCons (dOp ixR (dVar 0) (dC (.int 0))) (daCons (dC (.int 0)) (daCons (dC (.int 7)) (daNil))))) (dCall (sp_is_number Γ) (wx ED) (daCons (dOp ixR (dVar 0) (dC (.int 1))) (daCons (dC (.int 0)) (daCons (dC (.int 9999)) (daNil)))))))
theorem pure_is_offer (Γ : Cs) : ∀ ds G Q E, sp_is_offer Γ ds G Q E → t_is_offer Γ E { nx := fun _ G => Q .non G, rt := Q } (dstart N_is_offer ds) G := by
  rintro ds G Q E ⟨d, rfl, h, h2, q⟩
  obtain ⟨a, ha⟩ := Option.isSome_iff_exists.mp h
  cases d
  case ref p => 
    rcases tyN_ref ha with rfl | rfl <;> simp [t_is_offer, isOffer, ha] at * <;> exact q
  case tup ds =>
    match ds, h2, q with
    | [x, y], h2, q =>
      have hx := h2 _ x rfl (by simp)
      have hy := h2 _ y rfl (by simp)
      simp [t_is_offer, sp_is_number, hx, hy]
      exact ite_bl q
    | [], h2, q => simp [t_is_offer]; exact q
    | [x], h2, q => simp [t_is_offer]; exact q
    | x :: y :: z :: r, h2, q => 
      have : ¬ ((r.length : Int) + 1 + 1 + 1 = 2) := by omega
      simp [t_is_offer, this]; exact q
  case ty => simp at h
  all_goals (simp [t_is_offer, isOffer] at * <;> exact q)
/-- what may be told as offers: with types, tuples within too -/
def tyd (G : Gp) (d : D) : Prop := (tyN G d).isSome ∧ (∀ ds x, d = .tup ds → x ∈ ds → (tyN G x).isSome)
theorem tyd_ext {G G' : Gp} {d : D} (e : Ext G G') (h : tyd G d) : tyd G' d := by
  refine ⟨?_, fun ds x hd hx => ?_⟩
  · obtain ⟨a, ha⟩ := Option.isSome_iff_exists.mp h.1
    rw [tyN_ext e ha]; rfl
  · obtain ⟨a, ha⟩ := Option.isSome_iff_exists.mp (h.2 ds x hd hx)
    rw [tyN_ext e ha]; rfl
def fstD : D → Option Int
  | .tup [.int k, _] => some k
  | _ => none
/-- offers that can be -/
def okOffers : D → Bool
  | .tup ds => ds.all isOffer && decide (ds ≠ []) && decide ((ds.filterMap fstD).Nodup)
  | _ => false
theorem isOffer_is {d : D} (h : isOffer d = true) : ∃ k n : Int, d = .tup [.int k, .int n] ∧ 0 ≤ k ∧ k ≤ 7 ∧ 0 ≤ n ∧ n ≤ 9999 := by
  unfold isOffer at h
  split at h
  · rename_i a b
    cases a <;> cases b <;> simp [isNum] at h
    rename_i k n
    exact ⟨k, n, rfl, by omega⟩
  · cases h
def sp_need_offers (Γ : Cs) : DSp := sp1 fun d G Q E => (tyN G d).isSome ∧ (∀ ds x, d = .tup ds → x ∈ ds → tyd G x ∧ dat 20 x = true) ∧ (∀ ds, d = .tup ds → ds.length ≤ 4000) ∧
  ∀ G', Ext G G' → if okOffers d = true then Q .non G' else E Γ.cBadOffers none G'
abbrev N_need_offers : List Str := ["offers", "kinds", "offer", "kind", "number"]
def t_need_offers_C1 (Γ : Cs) (ED : DXK) : DTE := dComp (diSeq (dVar 0)) (dgName 2) (dNot (dTest (dCall (sp_is_offer Γ) W0 (daCons (dVar 2) (daNil))))) (dVar 2) [2]
def t_need_offers_C2 (Γ : Cs) (ED : DXK) : DTE := dComp (diSeq (dVar 0)) (dgTup 2 (dgCons (dgName 3) (dgCons (dgName 4) (dgNil)))) dYes (dVar 3) [3, 4]
def t_need_offers (Γ : Cs) (ED : DXK) : DTS := dSeq (dIf (dOr (dNot (dTest (dCB isiR (daCons (dVar 0) (daCons (dC (.ty "tuple")) (daNil)))))) (dTest (dOp neR (t_need_offers_C1 Γ ED) (dLst (daNil))))) (dRaise Γ.cBadOffers (wx ED)) (dNext)) (dSeq (dAsg (t_need_offers_C2 Γ ED) (dgName 1)) (dIf (dOr (dTest (dOp eqR (dVar 1) (dLst (daNil)))) (dTest (dOp neR (dLenSet (dVar 1)) (dCB lenR (daCons (dVar 1) (daNil)))))) (dRaise Γ.cBadOffers (wx ED)) (dNext)))
theorem need_offers_C1 {Γ : Cs} {E : DXK} {G : Gp} {Q : DQ} {ds : List D} {a b c d : Option D} (h : ∀ x ∈ ds, tyd G x) (q : ∀ p, G p = none → Q (.ref p) (put G p (.lst (ds.filter fun x => !isOffer x)))) : t_need_offers_C1 Γ E [some (.tup ds), a, b, c, d] G Q := by
  refine dComp_pure (items := ds) (stay := fun _ => True) (fun x => if isOffer x then none else some x) (fun R h => by simpa using h) trivial (fun _ _ _ => trivial) (fun p ys x hp hx Qs Qn hQ => ?_) (fun p hp => ?_)
  · have hx := tyd_ext (Ext.put (o := .lst ys) hp) (h x hx)
    simp [sp_is_offer]
    refine ⟨hx.1, hx.2, ?_⟩
    by_cases ho : isOffer x = true <;> simp [ho] at * <;> exact hQ
  · have : ds.filterMap (fun x => if isOffer x then none else some x) = ds.filter fun x => !isOffer x := by
      clear q h
      induction ds with
      | nil => rfl
      | cons y ys ih => by_cases hy : isOffer y <;> simp [hy, ih]
    rw [this]
    exact q p hp
theorem need_offers_C2 {Γ : Cs} {E : DXK} {G : Gp} {Q : DQ} {ds : List D} {a b c d : Option D} (h : ∀ x ∈ ds, isOffer x = true) (q : ∀ p, G p = none → Q (.ref p) (put G p (.lst ((ds.filterMap fstD).map .int)))) : t_need_offers_C2 Γ E [some (.tup ds), a, b, c, d] G Q := by
  refine dComp_pure (items := ds) (stay := fun _ => True) (fun x => (fstD x).map .int) (fun R h => by simpa using h) trivial (fun _ _ _ => trivial) (fun p ys x hp hx Qs Qn hQ => ?_) (fun p hp => ?_)
  · obtain ⟨k, n, rfl, _⟩ := isOffer_is (h x hx)
    simpa [fstD] using hQ
  · have : ds.filterMap (fun x => (fstD x).map D.int) = (ds.filterMap fstD).map D.int := by
      rw [List.map_filterMap]
    rw [this]
    exact q p hp
theorem pure_need_offers (Γ : Cs) : ∀ ds G Q E, sp_need_offers Γ ds G Q E → t_need_offers Γ E { nx := fun _ G => Q .non G, rt := Q } (dstart N_need_offers ds) G := by
  rintro ds G Q E ⟨d, rfl, h, h2, h3, q⟩
  obtain ⟨a, ha⟩ := Option.isSome_iff_exists.mp h
  by_cases ht : ∃ ds, d = .tup ds
  · obtain ⟨ds, rfl⟩ := ht
    simp [t_need_offers]
    refine need_offers_C1 (fun x hx => (h2 ds x rfl hx).1) fun p hp => ?_
    refine eq_new put_same (by simp [List.all_eq_true]; exact fun x hx => .inr (h2 ds x rfl hx).2) fun p2 hp2 => ?_
    have e1 : Ext G (put (put G p (.lst (ds.filter fun x => !isOffer x))) p2 (.lst [])) := (Ext.put hp).of_put hp2
    by_cases hall : ∀ x ∈ ds, isOffer x = true
    · have hf : ds.filter (fun x => !isOffer x) = [] := by simp [List.filter_eq_nil_iff]; exact hall
      rw [hf]
      rw [hf] at e1
      simp
      refine need_offers_C2 hall fun p3 hp3 => ?_
      refine eq_new put_same (all_ints _) fun p4 hp4 => ?_
      have e2 := (e1.of_put hp3).of_put (o := .lst []) hp4
      obtain ⟨n1, n2, hp4'⟩ := put_none hp4
      by_cases hk : ds.filterMap fstD = []
      · have : okOffers (.tup ds) = false := by
          have : ds = [] := by
            cases ds with
            | nil => rfl
            | cons y ys =>
              obtain ⟨k, n, rfl, _⟩ := isOffer_is (hall y (by simp))
              simp [fstD] at hk
          simp [okOffers, this]
        simp [hk]
        have := q _ e2
        simp_all
      · have hne : (ds.filterMap fstD).isEmpty = false := by simpa using hk
        have hds : ds ≠ [] := fun z => by rw [z] at hk; exact hk rfl
        simp [hk]
        refine ⟨ds.filterMap fstD, Nat.le_trans (List.length_filterMap_le _ _) (h3 ds rfl), ?_⟩
        simp [put_ne n2, put_same, lstO]
        have := q _ e2
        by_cases hn : (dd (ds.filterMap fstD)).length = (ds.filterMap fstD).length
        · rw [if_pos (by omega)]
          have ok : okOffers (.tup ds) = true := by simp [okOffers, hds, nodup_of_dd hn]; exact hall
          rw [ok] at this
          exact this
        · rw [if_neg (by omega)]
          have ok : okOffers (.tup ds) = false := by
            have : ¬ (ds.filterMap fstD).Nodup := fun z => hn (dd_of_nodup z)
            simp [okOffers, this]
          rw [ok] at this
          exact this
    · have hf : ds.filter (fun x => !isOffer x) ≠ [] := by simp [List.filter_eq_nil_iff] at hall ⊢; exact hall
      have ok : okOffers (.tup ds) = false := by
        have : ds.all isOffer = false := by simpa using hall
        simp [okOffers, this]
      have := q _ e1
      rw [ok] at this
      simp at hf
      simp
      split
      · exact this
      · rename_i hh
        exact absurd (by simpa using hh) (by simpa using hf)
  · have : a ≠ "tuple" := fun z => by
      subst z
      cases d
      case tup ds => exact ht ⟨_, rfl⟩
      case ref p => rcases tyN_ref ha with h | h <;> simp at h
      all_goals simp at ha
    have ok : okOffers d = false := by
      cases d
      case tup ds => exact (ht ⟨_, rfl⟩).elim
      all_goals rfl
    simp [t_need_offers, ha, this]
    have := q _ (Ext.refl G)
    rw [ok] at this
    exact this

theorem isNum_is {i j : Int} {d : D} (h : isNum i j d = true) : ∃ k : Int, d = .int k ∧ i ≤ k ∧ k ≤ j := by
  cases d <;> simp [isNum] at h
  exact ⟨_, rfl, h⟩
def okKnows : D → Bool
  | .tup ds => ds.all (isNum 0 7) && decide ds.Nodup
  | _ => false
def sp_need_knows (Γ : Cs) : DSp := sp1 fun d G Q E => (tyN G d).isSome ∧ (∀ ds x, d = .tup ds → x ∈ ds → (tyN G x).isSome ∧ dat 20 x = true) ∧ (∀ ds, d = .tup ds → ds.length ≤ 4000) ∧
  ∀ G', Ext G G' → if okKnows d = true then Q .non G' else E Γ.cBadOffers none G'
abbrev N_need_knows : List Str := ["knows", "kind"]
def t_need_knows_C1 (Γ : Cs) (ED : DXK) : DTE := dComp (diSeq (dVar 0)) (dgName 1) (dNot (dTest (dCall (sp_is_number Γ) W0 (daCons (dVar 1) (daCons (dC (.int 0)) (daCons (dC (.int 7)) (daNil))))))) (dVar 1) [1]
def t_need_knows (Γ : Cs) (ED : DXK) : DTS := dSeq (dIf (dOr (dNot (dTest (dCB isiR (daCons (dVar 0) (daCons (dC (.ty "tuple")) (daNil)))))) (dTest (dOp neR (t_need_knows_C1 Γ ED) (dLst (daNil))))) (dRaise Γ.cBadOffers (wx ED)) (dNext)) (dIf (dTest (dOp neR (dLenSet (dVar 0)) (dCB lenR (daCons (dVar 0) (daNil))))) (dRaise Γ.cBadOffers (wx ED)) (dNext))
theorem tyN_some_ext {G G' : Gp} {d : D} (e : Ext G G') (h : (tyN G d).isSome) : (tyN G' d).isSome := by
  obtain ⟨a, ha⟩ := Option.isSome_iff_exists.mp h
  rw [tyN_ext e ha]; rfl
theorem filter_fm {f : D → Bool} (ds : List D) : ds.filterMap (fun x => if f x then none else some x) = ds.filter fun x => !f x := by
  induction ds with
  | nil => rfl
  | cons y ys ih => by_cases hy : f y <;> simp [hy, ih]
theorem need_knows_C1 {Γ : Cs} {E : DXK} {G : Gp} {Q : DQ} {ds : List D} {a : Option D} (h : ∀ x ∈ ds, (tyN G x).isSome) (q : ∀ p, G p = none → Q (.ref p) (put G p (.lst (ds.filter fun x => !isNum 0 7 x)))) : t_need_knows_C1 Γ E [some (.tup ds), a] G Q := by
  refine dComp_pure (items := ds) (stay := fun _ => True) (fun x => if isNum 0 7 x then none else some x) (fun R h => by simpa using h) trivial (fun _ _ _ => trivial) (fun p ys x hp hx Qs Qn hQ => ?_) (fun p hp => ?_)
  · have hx := tyN_some_ext (Ext.put (o := .lst ys) hp) (h x hx)
    simp [sp_is_number]
    refine ⟨hx, ?_⟩
    by_cases ho : isNum 0 7 x = true <;> simp [ho] at * <;> exact hQ
  · rw [filter_fm]
    exact q p hp
theorem ints_of {ds : List D} {i j : Int} (h : ∀ x ∈ ds, isNum i j x = true) : ∃ ns : List Int, ds = ns.map D.int := by
  induction ds with
  | nil => exact ⟨[], rfl⟩
  | cons y ys ih =>
    obtain ⟨ns, e⟩ := ih fun x hx => h x (by simp [hx])
    obtain ⟨k, rfl, _⟩ := isNum_is (h y (by simp))
    exact ⟨k :: ns, by rw [e]; rfl⟩
theorem nodup_ints {ns : List Int} : (ns.map D.int).Nodup ↔ ns.Nodup := by simp [List.Nodup, List.pairwise_map]
theorem not_tup {G : Gp} {d : D} {a : String} (ha : tyN G d = some a) (ht : ¬ ∃ ds, d = .tup ds) : a ≠ "tuple" := fun z => by
  subst z
  cases d
  case tup ds => exact ht ⟨_, rfl⟩
  case ref p => rcases tyN_ref ha with h | h <;> simp at h
  all_goals simp at ha
theorem pure_need_knows (Γ : Cs) : ∀ ds G Q E, sp_need_knows Γ ds G Q E → t_need_knows Γ E { nx := fun _ G => Q .non G, rt := Q } (dstart N_need_knows ds) G := by
  rintro ds G Q E ⟨d, rfl, h, h2, h3, q⟩
  obtain ⟨a, ha⟩ := Option.isSome_iff_exists.mp h
  by_cases ht : ∃ ds, d = .tup ds
  · obtain ⟨ds, rfl⟩ := ht
    simp [t_need_knows]
    refine need_knows_C1 (fun x hx => (h2 ds x rfl hx).1) fun p hp => ?_
    refine eq_new put_same (by simp [List.all_eq_true]; exact fun x hx => .inr (h2 ds x rfl hx).2) fun p2 hp2 => ?_
    have e1 : Ext G (put (put G p (.lst (ds.filter fun x => !isNum 0 7 x))) p2 (.lst [])) := (Ext.put hp).of_put hp2
    have := q _ e1
    by_cases hall : ∀ x ∈ ds, isNum 0 7 x = true
    · have hf : ds.filter (fun x => !isNum 0 7 x) = [] := by simp [List.filter_eq_nil_iff]; exact hall
      rw [hf] at this ⊢
      obtain ⟨ns, rfl⟩ := ints_of hall
      have ha : (ns.map D.int).all (isNum 0 7) = true := List.all_eq_true.mpr hall
      simp
      refine ⟨by simpa using h3 _ rfl, ?_⟩
      by_cases hn : (dd ns).length = ns.length
      · rw [if_pos (by omega)]
        simp [okKnows, ha, nodup_ints, nodup_of_dd hn] at this
        exact this
      · rw [if_neg (by omega)]
        have z : ¬ ns.Nodup := fun z => hn (dd_of_nodup z)
        simp [okKnows, nodup_ints, z] at this
        exact this
    · have hf : ds.filter (fun x => !isNum 0 7 x) ≠ [] := by simp [List.filter_eq_nil_iff] at hall ⊢; exact hall
      have ok : okKnows (.tup ds) = false := by
        have : ds.all (isNum 0 7) = false := by simpa using hall
        simp [okKnows, this]
      rw [ok] at this
      simp at hf
      simp
      split
      · exact this
      · rename_i hh
        exact absurd (by simpa using hh) (by simpa using hf)
  · have ok : okKnows d = false := by
      cases d
      case tup ds => exact (ht ⟨_, rfl⟩).elim
      all_goals rfl
    simp [t_need_knows, ha, not_tup ha ht]
    have := q _ (Ext.refl G)
    rw [ok] at this
    exact this
/-- the first known kind that is offered -/
def bestK (ks ns : List Int) : D := match ns.find? fun n => decide (n ∈ ks) with
  | some k => .int k
  | none => .non
def IntSeq (G : Gp) (d : D) (ks : List Int) : Prop := d = .tup (ks.map .int) ∨ ∃ p, d = .ref p ∧ G p = some (.lst (ks.map .int))
theorem IntSeq.ext {G G' : Gp} {d : D} {ks : List Int} (h : IntSeq G d ks) (e : Ext G G') : IntSeq G' d ks := by
  rcases h with h | ⟨p, h, g⟩
  · exact .inl h
  · exact .inr ⟨p, h, e _ _ g⟩
theorem any_ints (ks : List Int) (k : Int) : ((ks.map D.int).any fun z => peq z (.int k)) = decide (k ∈ ks) := by
  induction ks with
  | nil => rfl
  | cons j ks ih => 
    rw [List.map_cons, List.any_cons, ih, peq_int]
    by_cases h : j = k
    · simp [h]
    · have : ¬ k = j := fun z => h z.symm
      simp [h, this]
theorem in_ints {G : Gp} {d : D} {ks : List Int} {k : Int} {neg : Bool} {Q : DQ} (h : IntSeq G d ks) (q : Q (.bl (decide (k ∈ ks) != neg)) G) : inR neg (.int k) d G Q := by
  rcases h with rfl | ⟨p, rfl, g⟩
  · refine ⟨by rw [all_ints]; exact dat_int, ?_⟩
    rw [any_ints]
    exact q
  · refine ⟨_, g, ?_⟩
    show _ ∧ _
    refine ⟨by rw [all_ints]; exact dat_int, ?_⟩
    rw [any_ints]
    exact q
def sp_best_kind (Γ : Cs) : DSp := sp2 fun a b G Q _ => ∃ ks ns : List Int, IntSeq G a ks ∧ b = .tup (ns.map .int) ∧ ∀ G', Ext G G' → Q (bestK ks ns) G'
abbrev N_best_kind : List Str := ["kinds", "knows", "some", "kind"]
def t_best_kind_C1 (Γ : Cs) (ED : DXK) : DTE := dComp (diSeq (dVar 1)) (dgName 3) (dTest (dOp (inR false) (dVar 3) (dVar 0))) (dVar 3) [3]
def t_best_kind (Γ : Cs) (ED : DXK) : DTS := dSeq (dAsg (t_best_kind_C1 Γ ED) (dgName 2)) (dRet (dIfE (dTest (dOp neR (dVar 2) (dLst (daNil)))) (dOp ixR (dVar 2) (dC (.int 0))) (dC .non)))
theorem fm_filter {α β : Type} (f : α → Bool) (g : α → β) (ns : List α) : ns.filterMap (fun n => if f n = true then some (g n) else none) = (ns.filter f).map g := by
  induction ns with
  | nil => rfl
  | cons n ns ih =>
    rw [List.filterMap_cons, List.filter_cons]
    by_cases h : f n = true
    · rw [if_pos h, if_pos h, List.map_cons, ← ih]
    · rw [if_neg h, if_neg h, ← ih]
theorem best_kind_C1 {Γ : Cs} {E : DXK} {G : Gp} {Q : DQ} {d : D} {ks ns : List Int} {a b : Option D} (h : IntSeq G d ks) (q : ∀ p, G p = none → Q (.ref p) (put G p (.lst ((ns.filter fun n => decide (n ∈ ks)).map .int)))) : t_best_kind_C1 Γ E [some d, some (.tup (ns.map .int)), a, b] G Q := by
  refine dComp_pure (items := ns.map .int) (stay := fun _ => True) (fun x => match x with | .int k => if k ∈ ks then some x else none | _ => none) (fun R h => by simpa using h) trivial (fun _ _ _ => trivial) (fun p ys x hp hx Qs Qn hQ => ?_) (fun p hp => ?_)
  · obtain ⟨k, _, rfl⟩ := List.mem_map.mp hx
    simp
    refine in_ints (h.ext (Ext.put hp)) ?_
    by_cases hk : k ∈ ks
    · simp [hk] at hQ ⊢
      exact hQ
    · simp [hk] at hQ ⊢
      exact hQ
  · have : (ns.map D.int).filterMap (fun x => match x with | .int k => if k ∈ ks then some x else none | _ => none) = ((ns.filter fun n => decide (n ∈ ks)).map .int) := by
      rw [List.filterMap_map, ← fm_filter]
      congr 1
      funext n
      simp
    rw [this]
    exact q p hp
theorem find_filter {α : Type} (f : α → Bool) (ns : List α) : ns.find? f = (ns.filter f).head? := List.head?_filter.symm
theorem pure_best_kind (Γ : Cs) : ∀ ds G Q E, sp_best_kind Γ ds G Q E → t_best_kind Γ E { nx := fun _ G => Q .non G, rt := Q } (dstart N_best_kind ds) G := by
  rintro ds G Q E ⟨d, d2, rfl, ks, ns, h, rfl, q⟩
  simp [t_best_kind]
  refine best_kind_C1 h fun p hp => ?_
  refine eq_new put_same (all_ints _) fun p2 hp2 => ?_
  have e1 : Ext G (put (put G p (.lst ((ns.filter fun n => decide (n ∈ ks)).map .int))) p2 (.lst [])) := (Ext.put hp).of_put hp2
  have := q _ e1
  unfold bestK at this
  rw [find_filter] at this
  obtain ⟨n1, n2, _⟩ := put_none hp2
  cases e : ns.filter (fun n => decide (n ∈ ks)) with
  | nil =>
    rw [e] at this
    simpa using this
  | cons k r =>
    rw [e] at this
    simp [put_ne n2, put_same, anyO]
    simpa using this
def sp_best (Γ : Cs) : DSp := sp2 fun a b G Q E => ∃ ds, a = .tup ds ∧ okOffers a = true ∧ ds.length ≤ 4000 ∧ ∃ ns : List Int, b = .tup (ns.map .int) ∧ okKnows b = true ∧ ns.length ≤ 4000 ∧ ∀ G', Ext G G' → Q (bestK (ds.filterMap fstD) ns) G'
abbrev N_best : List Str := ["offers", "knows", "kind", "number"]
def t_best_C1 (Γ : Cs) (ED : DXK) : DTE := dComp (diSeq (dVar 0)) (dgTup 2 (dgCons (dgName 2) (dgCons (dgName 3) (dgNil)))) dYes (dVar 2) [2, 3]
def t_best (Γ : Cs) (ED : DXK) : DTS := dSeq (dDrop (dCall (sp_need_offers Γ) (wx ED) (daCons (dVar 0) (daNil)))) (dSeq (dDrop (dCall (sp_need_knows Γ) (wx ED) (daCons (dVar 1) (daNil)))) (dRet (dCall (sp_best_kind Γ) (wx ED) (daCons (t_best_C1 Γ ED) (daCons (dVar 1) (daNil))))))
theorem offer_tyd {G : Gp} {x : D} (h : isOffer x = true) : tyd G x ∧ dat 20 x = true := by
  obtain ⟨k, n, rfl, _⟩ := isOffer_is h
  refine ⟨⟨rfl, fun ds x e hx => ?_⟩, by simp [dat]⟩
  cases e
  simp at hx
  rcases hx with rfl | rfl <;> rfl
theorem okOffers_all {ds : List D} (h : okOffers (.tup ds) = true) : ∀ x ∈ ds, isOffer x = true := by
  unfold okOffers at h
  simp at h
  exact h.1.1
theorem best_C1 {Γ : Cs} {E : DXK} {G : Gp} {Q : DQ} {ds : List D} {a b c : Option D} (h : ∀ x ∈ ds, isOffer x = true) (q : ∀ p, G p = none → Q (.ref p) (put G p (.lst ((ds.filterMap fstD).map .int)))) : t_best_C1 Γ E [some (.tup ds), a, b, c] G Q := by
  refine dComp_pure (items := ds) (stay := fun _ => True) (fun x => (fstD x).map .int) (fun R h => by simpa using h) trivial (fun _ _ _ => trivial) (fun p ys x hp hx Qs Qn hQ => ?_) (fun p hp => ?_)
  · obtain ⟨k, n, rfl, _⟩ := isOffer_is (h x hx)
    simpa [fstD] using hQ
  · have : ds.filterMap (fun x => (fstD x).map D.int) = (ds.filterMap fstD).map D.int := by
      rw [List.map_filterMap]
    rw [this]
    exact q p hp
theorem pure_best (Γ : Cs) : ∀ ds G Q E, sp_best Γ ds G Q E → t_best Γ E { nx := fun _ G => Q .non G, rt := Q } (dstart N_best ds) G := by
  rintro ds G Q E ⟨a, b, rfl, ds, rfl, h1, h2, ns, rfl, h3, h4, q⟩
  have hall := okOffers_all h1
  simp [t_best, sp_need_offers, sp_need_knows]
  refine ⟨fun ds' x e hx => offer_tyd (hall x (by cases e; exact hx)), h2, fun G1 e1 => ?_⟩
  rw [if_pos h1]
  refine ⟨fun ds' x e hx => ?_, h4, fun G2 e2 => ?_⟩
  · subst e
    obtain ⟨k, _, rfl⟩ := List.mem_map.mp hx
    exact ⟨rfl, dat_int⟩
  rw [if_pos h3]
  refine best_C1 hall fun p hp => ?_
  simp [sp_best_kind]
  refine ⟨ds.filterMap fstD, .inr ⟨_, rfl, put_same⟩, ns, rfl, fun G3 e3 => ?_⟩
  exact q _ ((e1.trans e2).trans ((Ext.put hp).trans e3))
end DL
set_option Elab.async false
set_option linter.all false
set_option maxRecDepth 100000
set_option maxHeartbeats 4000000
namespace DL
open PySem PySem.Spec L2
/-! ### draws -/
/-- all stays but at b and l -/
def Exc (b l : Addr) (G G' : Gp) : Prop := ∀ a o, a ≠ b → a ≠ l → G a = some o → G' a = some o
theorem Exc.refl (b l : Addr) (G : Gp) : Exc b l G G := fun _ _ _ _ h => h
theorem Exc.trans {b l : Addr} {G G1 G2 : Gp} (a : Exc b l G G1) (c : Exc b l G1 G2) : Exc b l G G2 := fun x o h1 h2 h => c x o h1 h2 (a x o h1 h2 h)
theorem Exc.of_ext {b l : Addr} {G G' : Gp} (h : Ext G G') : Exc b l G G' := fun a o _ _ e => h a o e
theorem Exc.putb {b l : Addr} {G : Gp} {o : DO} : Exc b l G (put G b o) := fun a u h1 _ e => by rw [put_ne h1]; exact e
theorem Exc.putl {b l : Addr} {G : Gp} {o : DO} : Exc b l G (put G l o) := fun a u _ h1 e => by rw [put_ne h1]; exact e
theorem Exc.fresh {b l p : Addr} {G G' : Gp} {o : DO} (h : Exc b l G G') (hp : G p = none) : Exc b l G (put G' p o) := fun a u h1 h2 e => by
  rw [put_ne (ne_fr e hp)]
  exact h a u h1 h2 e
theorem Box.ext {G G' : Gp} {b l : Addr} (h : Box G b l) (e : Ext G G') : Box G' b l := by
  obtain ⟨h1, ns, s, h2, h3, h4⟩ := h
  exact ⟨h1, ns, s, e _ _ h2, e _ _ h3, h4⟩
theorem Box.ne {G : Gp} {b l p : Addr} (h : Box G b l) (hp : G p = none) : p ≠ b ∧ p ≠ l := by
  obtain ⟨_, ns, s, h2, h3, _⟩ := h
  exact ⟨(ne_fr h2 hp).symm, (ne_fr h3 hp).symm⟩
theorem Box.put {G : Gp} {b l p : Addr} {o : DO} (h : Box G b l) (h1 : p ≠ b) (h2 : p ≠ l) : Box (DL.put G p o) b l := by
  obtain ⟨h0, ns, s, h3, h4, h5⟩ := h
  exact ⟨h0, ns, s, by rw [put_ne h1.symm]; exact h3, by rw [put_ne h2.symm]; exact h4, h5⟩
def sp_law_take (Γ : Cs) : DSp := sp2 fun x m G Q _ => ∃ (b l : Addr) (k : Int), x = .ref b ∧ m = .int k ∧ 0 < k ∧ k < 1073741824 ∧ Box G b l ∧ ∀ r G', 0 ≤ r → r < k → Box G' b l → Exc b l G G' → Q (.int r) G'
abbrev N_law_take : List Str := ["_law_box", "_law_many", "_law_number"]
def t_law_take (Γ : Cs) (ED : DXK) : DTS := dSeq (dIf (dTest (dOp eqR (dOp ixR (dVar 0) (dC (.int 0))) (dLst (daNil)))) (dSeq (dAsg (dOp modR (dOp mulR (dOp ixR (dVar 0) (dC (.int 1))) (dC (.int 48271))) (dC (.int 2147483647))) (dgSub (dVar 0) (dC (.int 1)))) (dRet (dOp modR (dOp divR (dOp ixR (dVar 0) (dC (.int 1))) (dC (.int 7))) (dVar 1)))) (dNext)) (dSeq (dAsg (dOp ixR (dOp ixR (dVar 0) (dC (.int 0))) (dC (.int 0))) (dgName 2)) (dSeq (dAsg (dOp divR (dVar 2) (dVar 1)) (dgSub (dOp ixR (dVar 0) (dC (.int 0))) (dC (.int 0)))) (dSeq (dIf (dOr (dTest (dOp eqR (dOp ixR (dOp ixR (dVar 0) (dC (.int 0))) (dC (.int 0))) (dC (.int 0)))) (dTest (dOp eqR (dOp ixR (dOp ixR (dVar 0) (dC (.int 0))) (dC (.int 0))) (dC (.int (-1)))))) (dDrop (dBM "list" popR (dOp ixR (dVar 0) (dC (.int 0))) (daCons (dC (.int 0)) (daNil)))) (dNext)) (dRet (dOp modR (dVar 2) (dVar 1))))))
theorem pure_law_take (Γ : Cs) : ∀ ds G Q E, sp_law_take Γ ds G Q E → t_law_take Γ E { nx := fun _ G => Q .non G, rt := Q } (dstart N_law_take ds) G := by
  rintro ds G Q E ⟨x, m, rfl, b, l, k, rfl, rfl, h0, h1, ⟨hbl, ns, s, hb, hl, hs0, hs1⟩, q⟩
  have hlb := Ne.symm hbl
  simp [t_law_take, hb]
  refine eq_new hl (all_ints _) fun p hp => ?_
  have nb := ne_fr hb hp
  have nl := ne_fr hl hp
  cases ns with
  | nil =>
    simp [put_at, hb, hl, nb, nl]
    refine ⟨.inr ⟨by decide, by decide⟩, ⟨by decide, by decide⟩, h0, ?_⟩
    refine q _ _ (Int.emod_nonneg _ (by omega)) (Int.emod_lt_of_pos _ h0) ⟨hbl, [], _, put_same, by rw [put_ne hbl, put_ne nl]; exact hl, Int.emod_nonneg _ (by decide), Int.emod_lt_of_pos _ (by decide)⟩ ?_
    exact (Exc.of_ext (Ext.put hp)).trans Exc.putb
  | cons n ns =>
    simp [put_at, hb, hl, nb, nl, hbl, hlb]
    refine ⟨⟨h0, h1⟩, ?_⟩
    have fin : ∀ ms : List Int, Q (.int (n % k)) (put (put G p (.lst [])) l (.lst (ms.map D.int))) := fun ms =>
      q _ _ (Int.emod_nonneg _ (by omega)) (Int.emod_lt_of_pos _ h0) ⟨hbl, ms, s, by rw [put_ne hlb, put_ne nb]; exact hb, put_same, hs0, hs1⟩ ((Exc.of_ext (Ext.put hp)).trans Exc.putl)
    rw [put_put]
    split
    · exact ⟨h0, fin ns⟩
    · split
      · exact ⟨h0, fin ns⟩
      · exact ⟨h0, fin (n / k :: ns)⟩

/-- the same, all the way down -/
def same : Nat → Gp → D → D → Prop
  | 0, _, _, _ => False
  | n + 1, G, a, b => match a, b with
    | .non, .non => True
    | .bl x, .bl y => x = y
    | .int x, .int y => x = y
    | .str x, .str y => x = y
    | .tup xs, .tup ys => xs.length = ys.length ∧ xs.length ≤ 1000000 ∧ ∀ (i : Nat) (x y : D), xs[i]? = some x → ys[i]? = some y → same n G x y
    | .ref p, .ref q => ∃ xs ys, G p = some (.lst xs) ∧ G q = some (.lst ys) ∧ xs.length = ys.length ∧ xs.length ≤ 1000000 ∧ ∀ (i : Nat) (x y : D), xs[i]? = some x → ys[i]? = some y → same n G x y
    | _, _ => False
def sp_law_alike (n : Nat) (Γ : Cs) : DSp := sp2 fun a b G Q _ => same n G a b ∧ Q (.bl true) G
theorem nil_law_alike (Γ : Cs) : ∀ ds G Q E, sp_law_alike 0 Γ ds G Q E → False := by
  rintro ds G Q E ⟨a, b, rfl, h, _⟩
  exact h
abbrev N_law_alike : List Str := ["_law_found", "_law_due", "_law_k"]
def t_law_alike_L1 (spr : DSp) (Γ : Cs) (ED : DXK) : DTS := dIf (dNot (dTest (dCall spr (wx ED) (daCons (dOp ixR (dVar 0) (dVar 2)) (daCons (dOp ixR (dVar 1) (dVar 2)) (daNil)))))) (dRet (dC (.bl false))) (dNext)
def t_law_alike (spr : DSp) (Γ : Cs) (ED : DXK) : DTS := dSeq (dIf (dTest (dOp (isNR false) (dVar 1) (dC .non))) (dRet (dOp (isNR false) (dVar 0) (dC .non))) (dNext)) (dSeq (dIf (dTest (dCB isiR (daCons (dVar 1) (daCons (dC (.ty "bool")) (daNil))))) (dRet (dAndV (dCB isiR (daCons (dVar 0) (daCons (dC (.ty "bool")) (daNil)))) (dOp eqR (dVar 0) (dVar 1)))) (dNext)) (dSeq (dIf (dTest (dCB isiR (daCons (dVar 1) (daCons (dC (.ty "int")) (daNil))))) (dRet (dAndV (dCB isiR (daCons (dVar 0) (daCons (dC (.ty "int")) (daNil)))) (dAndV (dNotV (dCB isiR (daCons (dVar 0) (daCons (dC (.ty "bool")) (daNil))))) (dOp eqR (dVar 0) (dVar 1))))) (dNext)) (dSeq (dIf (dTest (dCB isiR (daCons (dVar 1) (daCons (dC (.ty "str")) (daNil))))) (dRet (dAndV (dCB isiR (daCons (dVar 0) (daCons (dC (.ty "str")) (daNil)))) (dOp eqR (dVar 0) (dVar 1)))) (dNext)) (dSeq (dIf (dOr (dTest (dOp neR (dCB isiR (daCons (dVar 1) (daCons (dC (.ty "tuple")) (daNil)))) (dCB isiR (daCons (dVar 0) (daCons (dC (.ty "tuple")) (daNil)))))) (dTest (dOp neR (dCB isiR (daCons (dVar 1) (daCons (dC (.ty "list")) (daNil)))) (dCB isiR (daCons (dVar 0) (daCons (dC (.ty "list")) (daNil))))))) (dRet (dC (.bl false))) (dNext)) (dSeq (dIf (dTest (dOp neR (dCB lenR (daCons (dVar 0) (daNil))) (dCB lenR (daCons (dVar 1) (daNil))))) (dRet (dC (.bl false))) (dNext)) (dSeq (dFor (diRng (daCons (dCB lenR (daCons (dVar 1) (daNil))) (daNil))) (dgName 2) (t_law_alike_L1 spr Γ ED)) (dRet (dC (.bl true)))))))))
theorem atI_i {α : Type} {xs : List α} {i : Nat} {x : α} (h : xs[i]? = some x) : atI xs (i : Int) = some x := by
  have hi : i < xs.length := (List.getElem?_eq_some_iff.mp h).1
  rw [atI_nat hi]
  rw [List.getElem?_eq_getElem hi] at h
  exact h
theorem rngD_at {n i : Nat} {x : D} (h : (rngD 0 n)[i]? = some x) : i < n ∧ x = .int (i : Nat) := by
  unfold rngD at h
  rw [List.getElem?_map] at h
  cases e : (List.range n)[i]? with
  | none => rw [e] at h; cases h
  | some j =>
    rw [e] at h
    have hj : i < (List.range n).length := (List.getElem?_eq_some_iff.mp e).1
    rw [List.getElem?_eq_getElem hj] at e
    simp at e
    simp at hj
    subst e
    simp at h
    exact ⟨hj, h.symm⟩
theorem rngD_len {lo : Int} {n : Nat} : (rngD lo n).length = n := by simp [rngD]
theorem pure_law_alike (n : Nat) (Γ : Cs) : ∀ ds G Q E, sp_law_alike (n + 1) Γ ds G Q E → t_law_alike (sp_law_alike n Γ) Γ E { nx := fun _ G => Q .non G, rt := Q } (dstart N_law_alike ds) G := by
  rintro ds G Q E ⟨a, b, rfl, h, q⟩
  cases a <;> cases b <;> simp only [same] at h
  case non.non => simp [t_law_alike]; exact q
  case bl.bl => subst h; simp [t_law_alike]; exact q
  case int.int => subst h; simp [t_law_alike]; exact q
  case str.str => subst h; simp [t_law_alike]; exact q
  case tup.tup xs ys =>
    obtain ⟨h1, h2, h3⟩ := h
    simp [t_law_alike, h1, dFor]
    refine ⟨by omega, ?_⟩
    refine (forL_ind (fun i sd G' => G' = G ∧ ∃ z, sd = [some (.tup xs), some (.tup ys), z]) (fun _ _ _ _ => trivial) ?_ ?_ ⟨rfl, _, rfl⟩).2
    · rintro i x sd G' K hx ⟨rfl, z, rfl⟩ hK
      obtain ⟨hi, rfl⟩ := rngD_at hx
      obtain ⟨u, hu⟩ : ∃ u, xs[i]? = some u := ⟨xs[i], by simp [h1, hi]⟩
      obtain ⟨v, hv⟩ : ∃ u, ys[i]? = some u := ⟨ys[i], by simp⟩
      simp [t_law_alike_L1, atI_i hu, atI_i hv, sp_law_alike]
      exact ⟨h3 i u v hu hv, hK _ _ ⟨rfl, _, rfl⟩⟩
    · rintro sd G' ⟨rfl, z, rfl⟩
      simp
      exact q
  case ref.ref p p' =>
    obtain ⟨xs, ys, g1, g2, h1, h2, h3⟩ := h
    simp [t_law_alike, g1, g2, h1, dFor, tyN]
    refine ⟨by omega, ?_⟩
    refine (forL_ind (fun i sd G' => G' = G ∧ ∃ z, sd = [some (.ref p), some (.ref p'), z]) (fun _ _ _ _ => trivial) ?_ ?_ ⟨rfl, _, rfl⟩).2
    · rintro i x sd G' K hx ⟨rfl, z, rfl⟩ hK
      obtain ⟨hi, rfl⟩ := rngD_at hx
      obtain ⟨u, hu⟩ : ∃ u, xs[i]? = some u := ⟨xs[i], by simp [h1, hi]⟩
      obtain ⟨v, hv⟩ : ∃ u, ys[i]? = some u := ⟨ys[i], by simp⟩
      simp [t_law_alike_L1, g1, g2, atI_i hu, atI_i hv, sp_law_alike]
      exact ⟨h3 i u v hu hv, hK _ _ ⟨rfl, _, rfl⟩⟩
    · rintro sd G' ⟨rfl, z, rfl⟩
      simp
      exact q
end DL
set_option Elab.async false
set_option linter.all false
set_option maxRecDepth 100000
set_option maxHeartbeats 4000000
namespace DL
open PySem PySem.Spec L2
def offD (p : Int × Int) : D := .tup [.int p.1, .int p.2]
theorem er_map {α β : Type} (f : α → β) : ∀ (l : List α) (i : Nat), (l.map f).eraseIdx i = (l.eraseIdx i).map f
  | [], _ => rfl
  | _ :: _, 0 => rfl
  | a :: l, i + 1 => by simp [er_map f l i]
theorem er_perm {α : Type} : ∀ (l : List α) (i : Nat) (h : i < l.length), (l[i] :: l.eraseIdx i).Perm l
  | a :: l, 0, _ => .refl _
  | a :: l, i + 1, h => by
    have ih := er_perm l i (by simpa using h)
    exact (List.Perm.swap _ _ _).trans (ih.cons a)
/-- one taken out of the rest -/
theorem taken {ns : List Int} {r : Int} (r0 : 0 ≤ r) (r1 : r < ns.length) : ∃ k, ns[r.toNat]? = some k ∧ k ∈ ns ∧ (ns.map D.int)[r.toNat]? = some (.int k) ∧ (ns.map D.int).eraseIdx r.toNat = (ns.eraseIdx r.toNat).map D.int ∧ (ns.eraseIdx r.toNat).length + 1 = ns.length ∧ (k :: ns.eraseIdx r.toNat).Perm ns := by
  have hr : r.toNat < ns.length := by omega
  refine ⟨ns[r.toNat], by simp [hr], List.getElem_mem hr, by simp [hr], er_map _ _ _, ?_, er_perm _ _ hr⟩
  rw [List.length_eraseIdx_of_lt hr]
  omega
theorem okOffers_of {ps : List (Int × Int)} (h1 : ps ≠ []) (h2 : (ps.map (·.1)).Nodup) (h3 : ∀ p ∈ ps, 0 ≤ p.1 ∧ p.1 ≤ 7 ∧ 0 ≤ p.2 ∧ p.2 ≤ 9999) : okOffers (.tup (ps.map offD)) = true := by
  have e : (ps.map offD).filterMap fstD = ps.map (·.1) := by
    rw [List.filterMap_map]
    exact congrFun List.filterMap_eq_map ps
  simp only [okOffers, e, Bool.and_eq_true, decide_eq_true_eq, List.all_eq_true]
  refine ⟨⟨fun x hx => ?_, by simpa using h1⟩, h2⟩
  obtain ⟨p, hp, rfl⟩ := List.mem_map.mp hx
  obtain ⟨a1, a2, a3, a4⟩ := h3 p hp
  simp [offD, isOffer, isNum, a1, a2, a3, a4]
def sp_law_offers (Γ : Cs) : DSp := sp1 fun x G Q _ => ∃ b l, x = .ref b ∧ Box G b l ∧ ∀ (ps : List (Int × Int)) G', ps ≠ [] → (ps.map (·.1)).Nodup → (∀ p ∈ ps, 0 ≤ p.1 ∧ p.1 ≤ 7 ∧ 0 ≤ p.2 ∧ p.2 ≤ 9999) → ps.length ≤ 8 → Box G' b l → Exc b l G G' → Q (.tup (ps.map offD)) G'
abbrev N_law_offers : List Str := ["_law_box", "_law_left", "_law_found", "_law_turn"]
def t_law_offers_L1 (Γ : Cs) (ED : DXK) : DTS := dDrop (dBM "list" appR (dVar 2) (daCons (dTup (daCons (dBM "list" popR (dVar 1) (daCons (dCall (sp_law_take Γ) (wx ED) (daCons (dVar 0) (daCons (dCB lenR (daCons (dVar 1) (daNil))) (daNil)))) (daNil))) (daCons (dCall (sp_law_take Γ) (wx ED) (daCons (dVar 0) (daCons (dC (.int 10000)) (daNil)))) (daNil)))) (daNil)))
def t_law_offers (Γ : Cs) (ED : DXK) : DTS := dSeq (dPar 1 2 (daCons (dListRng (dC (.int 8))) (daCons (dLst (daNil)) (daNil)))) (dSeq (dFor (diRng (daCons (dOp addR (dC (.int 1)) (dCall (sp_law_take Γ) (wx ED) (daCons (dVar 0) (daCons (dOp ixR (dLst (daCons (dC (.int 2)) (daCons (dC (.int 4)) (daCons (dC (.int 8)) (daNil))))) (dCall (sp_law_take Γ) (wx ED) (daCons (dVar 0) (daCons (dC (.int 3)) (daNil))))) (daNil))))) (daNil))) (dgName 3) (t_law_offers_L1 Γ ED)) (dRet (dCB tupleR (daCons (dVar 2) (daNil)))))
theorem pure_law_offers (Γ : Cs) : ∀ ds G Q E, sp_law_offers Γ ds G Q E → t_law_offers Γ E { nx := fun _ G => Q .non G, rt := Q } (dstart N_law_offers ds) G := by
  rintro ds G Q E ⟨x, rfl, b, l, rfl, B, q⟩
  simp [t_law_offers, dFor, sp_law_take]
  intro p hp p2 hp2 p3 hp3
  have B1 := B.ext (Ext.put (o := .lst (rngD 0 8)) hp)
  have B2 := B1.ext (Ext.put (o := .lst []) hp2)
  have B3 := B2.ext (Ext.put (o := .lst [.int 2, .int 4, .int 8]) hp3)
  have n1 := B.ne hp
  have n2 := B1.ne hp2
  have n3 := B2.ne hp3
  obtain ⟨m1, m2, _⟩ := put_none hp2
  obtain ⟨m3, m4, hp3'⟩ := put_none hp3
  obtain ⟨m5, m6, _⟩ := put_none hp3'
  refine ⟨l, B3, fun r G1 r0 r1 B4 x1 => ?_⟩
  rw [x1 p3 _ n3.1 n3.2 put_same]
  have hm : ∃ m, atI [D.int 2, .int 4, .int 8] r = some (.int m) ∧ 0 < m ∧ m ≤ 8 := by
    have : r = 0 ∨ r = 1 ∨ r = 2 := by omega
    rcases this with rfl | rfl | rfl
    · exact ⟨2, by simp, by decide, by decide⟩
    · exact ⟨4, by simp, by decide, by decide⟩
    · exact ⟨8, by simp, by decide, by decide⟩
  obtain ⟨m, hm, m0, m8⟩ := hm
  simp [hm]
  refine ⟨m0, by omega, l, B4, fun r' G2 r0' r1' B5 x2 => ⟨by omega, by omega, ?_⟩⟩
  have x12 := x1.trans x2
  have gp : G2 p = some (.lst (rngD 0 8)) := x12 p _ n1.1 n1.2 (by rw [put_ne m6, put_ne m2, put_same])
  have gp2 : G2 p2 = some (.lst []) := x12 p2 _ n2.1 n2.2 (by rw [put_ne m4, put_same])
  have x0 : Exc b l G G2 := ((Exc.of_ext (Ext.put hp)).trans ((Exc.of_ext (Ext.put hp2)).trans (Exc.of_ext (Ext.put hp3)))).trans x12
  refine (forL_ind (fun i sd G' => Box G' b l ∧ Exc b l G G' ∧ ∃ (z : Option D) (ps : List (Int × Int)) (ns : List Int), sd = [some (.ref b), some (.ref p), some (.ref p2), z] ∧ G' p = some (.lst (ns.map .int)) ∧ G' p2 = some (.lst (ps.map offD)) ∧
    ps.length = i ∧ ns.length + i = 8 ∧ (ps.map (·.1) ++ ns).Nodup ∧ (∀ n ∈ ns, 0 ≤ n ∧ n ≤ 7) ∧ (∀ p ∈ ps, 0 ≤ p.1 ∧ p.1 ≤ 7 ∧ 0 ≤ p.2 ∧ p.2 ≤ 9999)) (fun _ _ _ _ => trivial) ?_ ?_ ⟨B5, x0, none, [], [0, 1, 2, 3, 4, 5, 6, 7], rfl, by rw [gp]; rfl, gp2, rfl, rfl, by decide, by decide, by simp⟩).2
  · rintro i x sd G' K hx ⟨B', x', z, ps, ns, rfl, h1, h2, h3, h4, h5, h6, h7⟩ hK
    obtain ⟨hi, rfl⟩ := rngD_at hx
    simp [t_law_offers_L1, h1, h2, sp_law_take]
    refine ⟨by omega, by omega, l, B', fun r G3 r0 r1 B6 x6 => ?_⟩
    rw [x6 p _ n1.1 n1.2 h1]
    obtain ⟨k, e1, e2, e3, e4, e5, e6⟩ := taken r0 r1
    simp [e3, e4, r0]
    have B7 := B6.put (o := .lst ((ns.eraseIdx r.toNat).map D.int)) n1.1 n1.2
    refine ⟨l, B7, fun r2 G5 r20 r21 B8 x8 => ?_⟩
    rw [x8 p2 _ n2.1 n2.2 (by rw [put_ne m1]; exact x6 p2 _ n2.1 n2.2 h2)]
    simp
    have hps : ps.length < sizeLine := by rw [sizeLine_eq]; omega
    refine ⟨hps, hK _ _ ⟨B8.put n2.1 n2.2, ((((x'.trans x6).fresh hp).trans x8).fresh ‹G p2 = none›), _, ps ++ [(k, r2)], ns.eraseIdx r.toNat, rfl, ?_, ?_, by simp [h3], by omega, ?_, fun n hn => h6 n (List.mem_of_mem_eraseIdx hn), fun q hq => ?_⟩⟩
    · rw [put_ne m2]
      exact x8 p _ n1.1 n1.2 put_same
    · rw [put_same]
      simp [offD]
    · have : (ps.map (·.1) ++ (k :: ns.eraseIdx r.toNat)).Perm (ps.map (·.1) ++ ns) := List.Perm.append_left _ e6
      simpa using this.nodup_iff.mpr h5
    · rcases List.mem_append.mp hq with hq | hq
      · exact h7 q hq
      · have : q = (k, r2) := by simpa using hq
        subst this
        have := h6 k e2
        exact ⟨this.1, this.2, r20, by show r2 ≤ 9999; omega⟩
  · rintro sd G' ⟨B', x', z, ps, ns, rfl, h1, h2, h3, h4, h5, h6, h7⟩
    rw [rngD_len] at h3
    simp [h2]
    refine q ps G' ?_ (List.nodup_append.mp h5).1 h7 (by omega) B' x'
    intro e
    subst e
    simp at h3
    omega

def sp_law_knows (Γ : Cs) : DSp := sp1 fun x G Q _ => ∃ b l, x = .ref b ∧ Box G b l ∧ ∀ (ks : List Int) G', ks.Nodup → (∀ k ∈ ks, 0 ≤ k ∧ k ≤ 7) → ks.length ≤ 8 → Box G' b l → Exc b l G G' → Q (.tup (ks.map .int)) G'
abbrev N_law_knows : List Str := ["_law_box", "_law_left", "_law_found", "_law_turn"]
def t_law_knows_L1 (Γ : Cs) (ED : DXK) : DTS := dDrop (dBM "list" appR (dVar 2) (daCons (dBM "list" popR (dVar 1) (daCons (dCall (sp_law_take Γ) (wx ED) (daCons (dVar 0) (daCons (dCB lenR (daCons (dVar 1) (daNil))) (daNil)))) (daNil))) (daNil)))
def t_law_knows (Γ : Cs) (ED : DXK) : DTS := dSeq (dPar 1 2 (daCons (dListRng (dC (.int 8))) (daCons (dLst (daNil)) (daNil)))) (dSeq (dFor (diRng (daCons (dOp ixR (dLst (daCons (dC (.int 8)) (daCons (dCall (sp_law_take Γ) (wx ED) (daCons (dVar 0) (daCons (dC (.int 9)) (daNil)))) (daNil)))) (dCall (sp_law_take Γ) (wx ED) (daCons (dVar 0) (daCons (dC (.int 2)) (daNil))))) (daNil))) (dgName 3) (t_law_knows_L1 Γ ED)) (dRet (dCB tupleR (daCons (dVar 2) (daNil)))))
theorem pure_law_knows (Γ : Cs) : ∀ ds G Q E, sp_law_knows Γ ds G Q E → t_law_knows Γ E { nx := fun _ G => Q .non G, rt := Q } (dstart N_law_knows ds) G := by
  rintro ds G Q E ⟨x, rfl, b, l, rfl, B, q⟩
  simp [t_law_knows, dFor, sp_law_take]
  intro p hp p2 hp2
  have B1 := B.ext (Ext.put (o := .lst (rngD 0 8)) hp)
  have B2 := B1.ext (Ext.put (o := .lst []) hp2)
  have n1 := B.ne hp
  have n2 := B1.ne hp2
  obtain ⟨m1, m2, hp2'⟩ := put_none hp2
  refine ⟨l, B2, fun r G1 r0 r1 B3 x1 p3 hp3 => ?_⟩
  have B4 := B3.ext (Ext.put (o := .lst [.int 8, .int r]) hp3)
  have n3 := B3.ne hp3
  have g1 : G1 p = some (.lst (rngD 0 8)) := x1 p _ n1.1 n1.2 (by rw [put_ne m2, put_same])
  have g2 : G1 p2 = some (.lst []) := x1 p2 _ n2.1 n2.2 put_same
  refine ⟨l, B4, fun r' G2 r0' r1' B5 x2 => ?_⟩
  rw [x2 p3 _ n3.1 n3.2 put_same]
  have hm : ∃ m, atI [D.int 8, .int r] r' = some (.int m) ∧ 0 ≤ m ∧ m ≤ 8 := by
    have : r' = 0 ∨ r' = 1 := by omega
    rcases this with rfl | rfl
    · exact ⟨8, by simp, by decide, by decide⟩
    · exact ⟨r, by simp, by omega, by omega⟩
  obtain ⟨m, hm, m0, m8⟩ := hm
  simp [hm]
  refine ⟨by omega, by omega, ?_⟩
  have gp : G2 p = some (.lst (rngD 0 8)) := x2 p _ n1.1 n1.2 (by rw [put_ne (ne_fr g1 hp3)]; exact g1)
  have gp2 : G2 p2 = some (.lst []) := x2 p2 _ n2.1 n2.2 (by rw [put_ne (ne_fr g2 hp3)]; exact g2)
  have x0 : Exc b l G G2 := (((Exc.of_ext (Ext.put hp)).trans (Exc.of_ext (Ext.put hp2))).trans x1).trans ((Exc.of_ext (Ext.put hp3)).trans x2)
  refine (forL_ind (fun i sd G' => Box G' b l ∧ Exc b l G G' ∧ ∃ (z : Option D) (ks ns : List Int), sd = [some (.ref b), some (.ref p), some (.ref p2), z] ∧ G' p = some (.lst (ns.map .int)) ∧ G' p2 = some (.lst (ks.map .int)) ∧
    ks.length = i ∧ ns.length + i = 8 ∧ (ks ++ ns).Nodup ∧ (∀ n ∈ ks ++ ns, 0 ≤ n ∧ n ≤ 7)) (fun _ _ _ _ => trivial) ?_ ?_ ⟨B5, x0, none, [], [0, 1, 2, 3, 4, 5, 6, 7], rfl, by rw [gp]; rfl, gp2, rfl, rfl, by decide, by decide⟩).2
  · rintro i x sd G' K hx ⟨B', x', z, ks, ns, rfl, h1, h2, h3, h4, h5, h6⟩ hK
    obtain ⟨hi, rfl⟩ := rngD_at hx
    simp [t_law_knows_L1, h1, h2, sp_law_take]
    refine ⟨by omega, by omega, l, B', fun r G3 r0 r1 B6 x6 => ?_⟩
    rw [x6 p _ n1.1 n1.2 h1]
    obtain ⟨k, e1, e2, e3, e4, e5, e6⟩ := taken r0 r1
    simp [e3, e4, r0]
    have B7 := B6.put (o := .lst ((ns.eraseIdx r.toNat).map D.int)) n1.1 n1.2
    rw [put_ne m1, x6 p2 _ n2.1 n2.2 h2]
    simp
    have hps : ks.length < sizeLine := by rw [sizeLine_eq]; omega
    refine ⟨hps, hK _ _ ⟨B7.put n2.1 n2.2, (((x'.trans x6).fresh hp).fresh hp2'), _, ks ++ [k], ns.eraseIdx r.toNat, rfl, ?_, ?_, by simp [h3], by omega, ?_, fun n hn => ?_⟩⟩
    · rw [put_ne m2]
      exact put_same
    · rw [put_same]
      simp
    · have : (ks ++ (k :: ns.eraseIdx r.toNat)).Perm (ks ++ ns) := List.Perm.append_left _ e6
      simpa using this.nodup_iff.mpr h5
    · have : (ks ++ (k :: ns.eraseIdx r.toNat)).Perm (ks ++ ns) := List.Perm.append_left _ e6
      exact h6 n (this.mem_iff.mp (by simpa using hn))
  · rintro sd G' ⟨B', x', z, ks, ns, rfl, h1, h2, h3, h4, h5, h6⟩
    rw [rngD_len] at h3
    simp [h2]
    exact q ks G' (List.nodup_append.mp h5).1 (fun k hk => h6 k (List.mem_append_left _ hk)) (by omega) B' x'
end DL
set_option Elab.async false
set_option linter.all false
set_option maxRecDepth 100000
set_option maxHeartbeats 4000000
namespace DL
open PySem PySem.Spec L2
def sp_law_best (Γ : Cs) : DSp := sp2 fun a b G Q _ => ∃ ds, a = .tup ds ∧ (∀ x ∈ ds, isOffer x = true) ∧ ∃ ns : List Int, b = .tup (ns.map .int) ∧ ∀ G', Ext G G' → Q (bestK (ds.filterMap fstD) ns) G'
abbrev N_law_best : List Str := ["_law_offers_here", "_law_knows_here", "_law_kind", "_law_one", "_law_number"]
def t_law_best_C1 (Γ : Cs) (ED : DXK) : DTE := dComp (diSeq (dVar 0)) (dgTup 2 (dgCons (dgName 3) (dgCons (dgName 4) (dgNil)))) dYes (dVar 3) [3, 4]
def t_law_best_L1 (Γ : Cs) (ED : DXK) : DTS := dIf (dTest (dOp (inR false) (dVar 2) (t_law_best_C1 Γ ED))) (dRet (dVar 2)) (dNext)
def t_law_best (Γ : Cs) (ED : DXK) : DTS := dSeq (dFor (diSeq (dVar 1)) (dgName 2) (t_law_best_L1 Γ ED)) (dRet (dC .non))
theorem law_best_C1 {Γ : Cs} {E : DXK} {G : Gp} {Q : DQ} {ds : List D} {a b c e : Option D} (h : ∀ x ∈ ds, isOffer x = true) (q : ∀ p, G p = none → Q (.ref p) (put G p (.lst ((ds.filterMap fstD).map .int)))) : t_law_best_C1 Γ E [some (.tup ds), a, b, c, e] G Q := by
  refine dComp_pure (items := ds) (stay := fun _ => True) (fun x => (fstD x).map .int) (fun R h => by simpa using h) trivial (fun _ _ _ => trivial) (fun p ys x hp hx Qs Qn hQ => ?_) (fun p hp => ?_)
  · obtain ⟨k, n, rfl, _⟩ := isOffer_is (h x hx)
    simpa [fstD] using hQ
  · have : ds.filterMap (fun x => (fstD x).map D.int) = (ds.filterMap fstD).map D.int := by
      rw [List.map_filterMap]
    rw [this]
    exact q p hp
theorem find_at {α : Type} {f : α → Bool} {ns : List α} {i : Nat} {n : α} (hn : ns[i]? = some n) (h : ∀ j m, j < i → ns[j]? = some m → f m = false) (hf : f n = true) : ns.find? f = some n := by
  induction ns generalizing i with
  | nil => simp at hn
  | cons m ns ih =>
    cases i with
    | zero => simp at hn; subst hn; simp [hf]
    | succ i =>
      have h0 := h 0 m (by omega) rfl
      rw [List.find?_cons, h0]
      exact ih (by simpa using hn) fun j k hj hk => h (j + 1) k (by omega) (by simpa using hk)
theorem find_no {α : Type} {f : α → Bool} {ns : List α} (h : ∀ (j : Nat) m, ns[j]? = some m → f m = false) : ns.find? f = none := by
  rw [List.find?_eq_none]
  intro x hx
  obtain ⟨j, hj⟩ := List.getElem?_of_mem hx
  rw [h j x hj]
  decide
theorem pure_law_best (Γ : Cs) : ∀ ds G Q E, sp_law_best Γ ds G Q E → t_law_best Γ E { nx := fun _ G => Q .non G, rt := Q } (dstart N_law_best ds) G := by
  rintro ds G Q E ⟨a, b, rfl, ds, rfl, h, ns, rfl, q⟩
  simp [t_law_best, dFor]
  refine (forL_ind (fun i sd G' => Ext G G' ∧ (∃ z, sd = [some (.tup ds), some (.tup (ns.map .int)), z, none, none]) ∧ ∀ j m, j < i → ns[j]? = some m → decide (m ∈ ds.filterMap fstD) = false) (fun _ _ _ _ => trivial) ?_ ?_ ⟨.refl G, ⟨_, rfl⟩, fun _ _ hj _ => by omega⟩).2
  · rintro i x sd G' K hx ⟨e, ⟨z, rfl⟩, hj⟩ hK
    rw [List.getElem?_map] at hx
    cases hn : ns[i]? with
    | none => rw [hn] at hx; cases hx
    | some n =>
      rw [hn] at hx
      cases hx
      simp [t_law_best_L1]
      refine law_best_C1 h fun p hp => in_ints (.inr ⟨p, rfl, put_same⟩) ?_
      have e1 := e.of_put (o := .lst ((ds.filterMap fstD).map .int)) hp
      by_cases hm : n ∈ ds.filterMap fstD
      · have := q _ e1
        unfold bestK at this
        rw [find_at hn hj (by simpa using hm)] at this
        rw [decide_eq_true hm]
        exact this
      · have := hK [some (.tup ds), some (.tup (ns.map .int)), some (.int n), none, none] _ ⟨e1, ⟨_, rfl⟩, fun j m hj' hm' => ?_⟩
        · rw [decide_eq_false hm]
          simpa using this
        · rcases Nat.lt_or_ge j i with h1 | h1
          · exact hj j m h1 hm'
          · have : j = i := by omega
            subst this
            rw [hn] at hm'
            cases hm'
            exact decide_eq_false hm
  · rintro sd G' ⟨e, ⟨z, rfl⟩, hj⟩
    simp
    have := q _ e
    unfold bestK at this
    rw [find_no fun j m hm => hj j m (by simpa using (List.getElem?_eq_some_iff.mp hm).1) hm] at this
    exact this
abbrev N_law : List Str := ["_law_script", "_law_box", "_law_turn", "_law_offers_here", "_law_knows_here"]
def t_law_L1 (Γ : Cs) (ED : DXK) : DTS := dSeq (dPar 3 4 (daCons (dCall (sp_law_offers Γ) (wx ED) (daCons (dVar 1) (daNil))) (daCons (dCall (sp_law_knows Γ) (wx ED) (daCons (dVar 1) (daNil))) (daNil)))) (dIf (dNot (dTest (dCall (sp_law_alike 6 Γ) (wx ED) (daCons (dCall (sp_best Γ) (wx ED) (daCons (dVar 3) (daCons (dVar 4) (daNil)))) (daCons (dCall (sp_law_best Γ) (wx ED) (daCons (dVar 3) (daCons (dVar 4) (daNil)))) (daNil)))))) (dRet (dC (.bl false))) (dNext))
def t_law (Γ : Cs) (ED : DXK) : DTS := dSeq (dFor (diRng (daCons (dC (.int 12)) (daNil))) (dgName 2) (t_law_L1 Γ ED)) (dRet (dC (.bl true)))
theorem same_best {n : Nat} {G : Gp} {ks ns : List Int} : same (n + 1) G (bestK ks ns) (bestK ks ns) := by
  unfold bestK
  cases ns.find? fun n => decide (n ∈ ks) <;> simp [same]
theorem pure_law (Γ : Cs) (b l : Addr) (G : Gp) (sd : SD) (B : Box G b l) (hf : ∀ a, a ≠ b → a ≠ l → G a = none) (h1 : sd[1]? = some (some (.ref b))) (h2 : sd.length = N_law.length) : t_law Γ (fun _ _ _ => False) { nx := fun _ _ => False, rt := fun d _ => d = .bl true } sd G := by
  match sd, h1, h2 with
  | [s0, s1, s2, s3, s4], h1, h2 =>
    cases h1
    simp [t_law, dFor]
    refine (forL_ind (fun i sd G' => Box G' b l ∧ ∃ x y z, sd = [s0, some (.ref b), x, y, z]) (fun _ _ _ _ => trivial) ?_ ?_ ⟨B, _, _, _, rfl⟩).2
    · rintro i x sd G' K hx ⟨B', x', y', z', rfl⟩ hK
      obtain ⟨hi, rfl⟩ := rngD_at hx
      simp [t_law_L1, sp_law_offers]
      refine ⟨l, B', fun ps G1 p1 p2 p3 p4 B1 x1 => ?_⟩
      simp [sp_law_knows]
      refine ⟨l, B1, fun ks G2 k1 k2 k3 B2 x2 => ?_⟩
      have ok := okOffers_of p1 p2 fun p hp => p3 p.1 p.2 hp
      have hk : okKnows (.tup (ks.map .int)) = true := by
        simp [okKnows, nodup_ints, k1, isNum]
        exact k2
      simp [sp_best, sp_law_best, sp_law_alike, ok, hk]
      refine ⟨by omega, ks, rfl, by omega, fun G3 e3 => ⟨fun x a b hx e => okOffers_all ok x (List.mem_map.mpr ⟨_, hx, e⟩), ks, rfl, fun G4 e4 => ⟨same_best, hK _ _ ⟨(B2.ext e3).ext e4, _, _, _, rfl⟩⟩⟩⟩
    · rintro sd G' ⟨B', x', y', z', rfl⟩
      rfl
end DL
set_option Elab.async false
set_option linter.all false
set_option maxRecDepth 100000
set_option maxHeartbeats 0
namespace DL
open PySem PySem.Spec L2
def top (i : Nat) : Stmt := PySem.Challenge.pw_carrydrop_k02_the_best_kind.main.body.getD i (.Pass ⟨0, 0, 0, 0⟩)
abbrev W0x : DXK := fun _ _ _ => False
def d_law_begun : He.DefD := ⟨("_law_begun", none), "_law_begun", "_law_begun", defArgs (top 13), defBody (top 13), defScope (top 13), [], []⟩
def d_law_alike : He.DefD := ⟨("_law_alike", none), "_law_alike", "_law_alike", defArgs (top 15), defBody (top 15), defScope (top 15), [], []⟩
def d_law_best : He.DefD := ⟨("_law_best", none), "_law_best", "_law_best", defArgs (top 18), defBody (top 18), defScope (top 18), [], []⟩
def d_law_take : He.DefD := ⟨("_law_take", none), "_law_take", "_law_take", defArgs (top 14), defBody (top 14), defScope (top 14), [], []⟩
def d_law_knows : He.DefD := ⟨("_law_knows", none), "_law_knows", "_law_knows", defArgs (top 17), defBody (top 17), defScope (top 17), [], []⟩
def d_law_offers : He.DefD := ⟨("_law_offers", none), "_law_offers", "_law_offers", defArgs (top 16), defBody (top 16), defScope (top 16), [], []⟩
def d_best_kind : He.DefD := ⟨("best_kind", none), "best_kind", "best_kind", defArgs (top 10), defBody (top 10), defScope (top 10), [], []⟩
def d_is_number : He.DefD := ⟨("is_number", none), "is_number", "is_number", defArgs (top 6), defBody (top 6), defScope (top 6), [], []⟩
def d_need_knows : He.DefD := ⟨("need_knows", none), "need_knows", "need_knows", defArgs (top 9), defBody (top 9), defScope (top 9), [], []⟩
def d_is_offer : He.DefD := ⟨("is_offer", none), "is_offer", "is_offer", defArgs (top 7), defBody (top 7), defScope (top 7), [], []⟩
def d_need_offers : He.DefD := ⟨("need_offers", none), "need_offers", "need_offers", defArgs (top 8), defBody (top 8), defScope (top 8), [], []⟩
def d_best : He.DefD := ⟨("best", none), "best", "best", defArgs (top 11), defBody (top 11), defScope (top 11), [], []⟩
def d_law : He.DefD := ⟨("law", none), "law", "law", defArgs (top 20), defBody (top 20), defScope (top 20), [], []⟩
def fn : List He.DefD := [d_law_begun, d_law_alike, d_law_best, d_law_take, d_law_knows, d_law_offers, d_best_kind, d_is_number, d_need_knows, d_is_offer, d_need_offers, d_best, d_law]
def fa : List He.Fa := [.free "range", .free "bool", .free "isinstance", .free "int", .free "str", .free "tuple", .free "list", .free "len", .int "MOST_KIND" 7, .exc "BadOffers", .glo "BadOffers", .free "set", .int "MOST_NUMBER" 9999, .glo "_law_begun", .glo "_law_alike", .glo "_law_best", .glo "_law_take", .glo "_law_knows", .glo "_law_offers", .glo "best_kind", .glo "is_number", .glo "need_knows", .glo "is_offer", .glo "need_offers", .glo "best", .glo "law"]
section
variable {P : Program} {w : World} {K : PySem.W.Frag} {mg : Str → Option Value} {base : Heap}
theorem sc_begun : FnScope ["_law_script", "_law_stirred", "_law_cell"] ["_law_script"] (defScope (top 13)) := ⟨rfl, rfl, rfl, by decide +kernel, rfl, by decide +kernel, by decide +kernel⟩
theorem ok_begun (S : Said fa fn K mg) : ∃ fd : FuncData, FnOk P w K mg base (L2.CX P w) 1 (He.fAd K d_law_begun.at_) fd ["_law_script"] (spBegun K) ∧ mg "_law_begun" = some (.ref (He.fAd K d_law_begun.at_)) ∧ PySem.W.keepIn K (.ref (He.fAd K d_law_begun.at_)) = true ∧ Binds K fd ["_law_script"] [] := by
  obtain ⟨fd, F⟩ := S.c.def_ 0 (d := d_law_begun) rfl
  refine ⟨fd, F.ok sc_begun (fun vs H Q E h => ?_) (fun cdv A outer s H vs Q E hr h => ⟨rawBegun K, ?_, pure_begun vs H Q E h⟩), S.glo 13, F.kp, F.bindsN fun _ _ _ _ _ _ us hl => match us, hl with | [_], _ => rfl⟩
  · obtain ⟨a, ns, rfl, _⟩ := h
    rfl
  · have nd := sc_begun.nd
    have po := passes_of (X := Bd P w K mg base ["_law_script", "_law_stirred", "_law_cell"] "_law_begun" (defScope (top 13)) (He.fAd K d_law_begun.at_) cdv A outer s H E) rfl
    exact pss_cons (ps_set (i := 1) nd rfl (Or.inl rfl) pe_int) (pss_cons (ps_for po rfl (DL.pi_seq (pv 0)) (pg_name (i := 2) nd rfl (Or.inl rfl)) (pss_one (ps_set (i := 1) nd rfl (Or.inl rfl) (pe_op L2.op_mod (pe_op L2.op_add (pe_op L2.op_add (pe_op L2.op_mul (pv 1) pe_int) (pe_op L2.op_mul (pe_op L2.op_mod (pv 2) pe_int) pe_int)) pe_int) pe_int))))
      (pss_one (ps_ret (pe_lst (pa_cons (pe_callTy call_list_of rfl (S.free 6) (by decide +kernel) (pa_cons (pv 0) pa_nil)) (pa_cons (pe_op L2.op_mul (pv 1) (pe_callTy call_int1 rfl (S.free 3) (by decide +kernel) (pa_cons (pe_cmpR L2.op_gt (pe_callB call_len rfl (S.free 7) (by decide +kernel) (pa_cons (pv 0) pa_nil)) pe_int (nomark _)) pa_nil))) pa_nil))))))
theorem sc_law_alike : FnScope N_law_alike ["_law_found", "_law_due"] (defScope (top 15)) := ⟨rfl, rfl, rfl, by decide +kernel, rfl, by decide +kernel, by decide +kernel⟩
theorem ok_law_alike (S : Said fa fn K mg) : ∀ n, Cal P w K mg base n "_law_alike" (sp_law_alike n (cs K))
  | 0 => by
    obtain ⟨fd, F⟩ := S.c.def_ 1 (d := d_law_alike) rfl
    refine ⟨_, fd, ["_law_found", "_law_due"], ⟨fun vs H Q E h => ?_, fun A outer s H args us vs Q E _ _ _ _ h => ?_⟩, S.glo 14, F.kp, F.bindsN fun _ _ _ _ _ _ us hl => match us, hl with | [_, _], _ => rfl⟩
    · obtain ⟨_, _, _, _, _, _, q, _⟩ := h
      exact (nil_law_alike _ _ _ _ _ q).elim
    · obtain ⟨_, _, _, _, _, _, q, _⟩ := h
      exact (nil_law_alike _ _ _ _ _ q).elim
  | n + 1 => by
    have okr := ok_law_alike S n
    obtain ⟨fd, F⟩ := S.c.def_ 1 (d := d_law_alike) rfl
    have nd := sc_law_alike.nd
    refine ⟨_, fd, _, dfn_ok (t := t_law_alike (sp_law_alike n (cs K)) (cs K)) F sc_law_alike sp2_len (pure_law_alike n (cs K)) (fun cdv A outer s H E ED hr po tk => ?_), S.glo 14, F.kp, F.bindsN fun _ _ _ _ _ _ us hl => match us, hl with | [_, _], _ => rfl⟩
    exact (dss_cons (ds_if (dt_cmp op_isN (dv 1) de_non) (dss_one (ds_ret (de_cmp op_isN (dv 0) de_non))) dss_nil)
    (dss_cons (ds_if (dt_of_val (de_callB dc_isi rfl (S.free 2) (by decide +kernel) (da_cons (dv 1) (da_cons (de_ty rfl (S.free 1) (by decide +kernel)) da_nil)))) (dss_one (ds_ret (de_and (de_callB dc_isi rfl (S.free 2) (by decide +kernel) (da_cons (dv 0) (da_cons (de_ty rfl (S.free 1) (by decide +kernel)) da_nil))) (de_one (de_cmp (op_eq (r64 hr)) (dv 0) (dv 1)))))) dss_nil)
    (dss_cons (ds_if (dt_of_val (de_callB dc_isi rfl (S.free 2) (by decide +kernel) (da_cons (dv 1) (da_cons (de_ty rfl (S.free 3) (by decide +kernel)) da_nil)))) (dss_one (ds_ret (de_and (de_callB dc_isi rfl (S.free 2) (by decide +kernel) (da_cons (dv 0) (da_cons (de_ty rfl (S.free 3) (by decide +kernel)) da_nil))) (de_and (de_not (de_callB dc_isi rfl (S.free 2) (by decide +kernel) (da_cons (dv 0) (da_cons (de_ty rfl (S.free 1) (by decide +kernel)) da_nil)))) (de_one (de_cmp (op_eq (r64 hr)) (dv 0) (dv 1))))))) dss_nil)
    (dss_cons (ds_if (dt_of_val (de_callB dc_isi rfl (S.free 2) (by decide +kernel) (da_cons (dv 1) (da_cons (de_ty rfl (S.free 4) (by decide +kernel)) da_nil)))) (dss_one (ds_ret (de_and (de_callB dc_isi rfl (S.free 2) (by decide +kernel) (da_cons (dv 0) (da_cons (de_ty rfl (S.free 4) (by decide +kernel)) da_nil))) (de_one (de_cmp (op_eq (r64 hr)) (dv 0) (dv 1)))))) dss_nil)
    (dss_cons (ds_if (DW.dt (dw_or (dt_cmp (op_ne (r64 hr)) (de_callB dc_isi rfl (S.free 2) (by decide +kernel) (da_cons (dv 1) (da_cons (de_ty rfl (S.free 5) (by decide +kernel)) da_nil))) (de_callB dc_isi rfl (S.free 2) (by decide +kernel) (da_cons (dv 0) (da_cons (de_ty rfl (S.free 5) (by decide +kernel)) da_nil)))) (dw_or1 (dt_cmp (op_ne (r64 hr)) (de_callB dc_isi rfl (S.free 2) (by decide +kernel) (da_cons (dv 1) (da_cons (de_ty rfl (S.free 6) (by decide +kernel)) da_nil))) (de_callB dc_isi rfl (S.free 2) (by decide +kernel) (da_cons (dv 0) (da_cons (de_ty rfl (S.free 6) (by decide +kernel)) da_nil))))))) (dss_one (ds_ret de_bl)) dss_nil)
    (dss_cons (ds_if (dt_cmp (op_ne (r64 hr)) (de_callB dc_len rfl (S.free 7) (by decide +kernel) (da_cons (dv 0) da_nil)) (de_callB dc_len rfl (S.free 7) (by decide +kernel) (da_cons (dv 1) da_nil))) (dss_one (ds_ret de_bl)) dss_nil)
    (dss_cons (ds_for po rfl (di_rng rfl (S.free 0) (da_cons (de_callB dc_len rfl (S.free 7) (by decide +kernel) (da_cons (dv 1) da_nil)) da_nil)) (dg_name (i := 2) nd rfl (Or.inl rfl)) (dss_one (ds_if (dt_not (dt_of_val (ce_call okr hr (Nat.le_refl _) rfl tk (da_cons (de_ix (r1 hr) (dv 0) (dv 2)) (da_cons (de_ix (r1 hr) (dv 1) (dv 2)) da_nil))))) (dss_one (ds_ret de_bl)) dss_nil)))
    (dss_one (ds_ret de_bl)))))))))
theorem sc_law_best : FnScope N_law_best ["_law_offers_here", "_law_knows_here"] (defScope (top 18)) := ⟨rfl, rfl, rfl, by decide +kernel, rfl, by decide +kernel, by decide +kernel⟩
theorem ok_law_best (S : Said fa fn K mg) : Cal P w K mg base 1 "_law_best" (sp_law_best (cs K)) := by
  obtain ⟨fd, F⟩ := S.c.def_ 2 (d := d_law_best) rfl
  have nd := sc_law_best.nd
  refine ⟨_, fd, _, dfn_ok (t := t_law_best (cs K)) F sc_law_best sp2_len (pure_law_best (cs K)) (fun cdv A outer s H E ED hr po tk => ?_), S.glo 15, F.kp, F.bindsN fun _ _ _ _ _ _ us hl => match us, hl with | [_, _], _ => rfl⟩
  exact (dss_cons (ds_for po rfl (di_seq (dv 1)) (dg_name (i := 2) nd rfl (Or.inl rfl)) (dss_one (ds_if (dt_cmp (op_in (r65 hr)) (dv 2) (de_lc (own := [("_law_one", 3), ("_law_number", 4)]) rfl nd (di_seq (dv 0)) (blkOk_by (N := N_law_best) (sc := defScope (top 18)) (by decide +kernel)) (by decide) (fun _ _ _ _ _ => (dg_tup rfl (dgs_cons (dg_name (i := 3) nd rfl (Or.inl rfl)) (dgs_cons (dg_name (i := 4) nd rfl (Or.inl rfl)) dgs_nil)))) (fun _ _ _ _ _ => dts_nil) (fun _ _ _ _ _ => (dv 3)))) (dss_one (ds_ret (dv 2))) dss_nil)))
    (dss_one (ds_ret de_non)))
theorem sc_law_take : FnScope N_law_take ["_law_box", "_law_many"] (defScope (top 14)) := ⟨rfl, rfl, rfl, by decide +kernel, rfl, by decide +kernel, by decide +kernel⟩
theorem ok_law_take (S : Said fa fn K mg) : Cal P w K mg base 1 "_law_take" (sp_law_take (cs K)) := by
  obtain ⟨fd, F⟩ := S.c.def_ 3 (d := d_law_take) rfl
  have nd := sc_law_take.nd
  refine ⟨_, fd, _, dfn_ok (t := t_law_take (cs K)) F sc_law_take sp2_len (pure_law_take (cs K)) (fun cdv A outer s H E ED hr po tk => ?_), S.glo 16, F.kp, F.bindsN fun _ _ _ _ _ _ us hl => match us, hl with | [_, _], _ => rfl⟩
  exact (dss_cons (ds_if (dt_cmp (op_eq (r64 hr)) (de_ix (r1 hr) (dv 0) de_int) (de_lst da_nil)) (dss_cons (ds_asg (de_op op_mod (de_op op_mul (de_ix (r1 hr) (dv 0) de_int) de_int) de_int) (dg_sub (r1 hr) (dv 0) de_int))
    (dss_one (ds_ret (de_op op_mod (de_op op_div (de_ix (r1 hr) (dv 0) de_int) de_int) (dv 1))))) dss_nil)
    (dss_cons (ds_set (i := 2) nd rfl (Or.inl rfl) (de_ix (r1 hr) (de_ix (r1 hr) (dv 0) de_int) de_int))
    (dss_cons (ds_asg (de_op op_div (dv 2) (dv 1)) (dg_sub (r1 hr) (de_ix (r1 hr) (dv 0) de_int) de_int))
    (dss_cons (ds_if (DW.dt (dw_or (dt_cmp (op_eq (r64 hr)) (de_ix (r1 hr) (de_ix (r1 hr) (dv 0) de_int) de_int) de_int) (dw_or1 (dt_cmp (op_eq (r64 hr)) (de_ix (r1 hr) (de_ix (r1 hr) (dv 0) de_int) de_int) de_neg)))) (dss_one (ds_expr (de_bm PySem.F.plainAttrs_list PySem.F.slot_list_pop PySem.F.type_list_pop dm_popAt (de_ix (r1 hr) (dv 0) de_int) (da_cons de_int da_nil)))) dss_nil)
    (dss_one (ds_ret (de_op op_mod (dv 2) (dv 1))))))))
theorem sc_law_knows : FnScope N_law_knows ["_law_box"] (defScope (top 17)) := ⟨rfl, rfl, rfl, by decide +kernel, rfl, by decide +kernel, by decide +kernel⟩
theorem ok_law_knows (S : Said fa fn K mg) : Cal P w K mg base 2 "_law_knows" (sp_law_knows (cs K)) := by
  obtain ⟨fd, F⟩ := S.c.def_ 4 (d := d_law_knows) rfl
  have nd := sc_law_knows.nd
  refine ⟨_, fd, _, dfn_ok (t := t_law_knows (cs K)) F sc_law_knows sp1_len (pure_law_knows (cs K)) (fun cdv A outer s H E ED hr po tk => ?_), S.glo 17, F.kp, F.bindsN fun _ _ _ _ _ _ us hl => match us, hl with | [_], _ => rfl⟩
  exact (dss_cons (ds_par (i := 1) (j := 2) rfl nd rfl rfl (by decide) rfl rfl (da_cons (de_listRng rfl rfl (S.free 6) rfl (S.free 0) de_int) (da_cons (de_lst da_nil) da_nil)) rfl)
    (dss_cons (ds_for po rfl (di_rng rfl (S.free 0) (da_cons (de_ix (r1 hr) (de_lst (da_cons de_int (da_cons (ce_call (ok_law_take S) hr (by decide) rfl tk (da_cons (dv 0) (da_cons de_int da_nil))) da_nil))) (ce_call (ok_law_take S) hr (by decide) rfl tk (da_cons (dv 0) (da_cons de_int da_nil)))) da_nil)) (dg_name (i := 3) nd rfl (Or.inl rfl)) (dss_one (ds_expr (de_bm PySem.F.plainAttrs_list PySem.F.slot_list_append PySem.F.type_list_append dm_append (dv 2) (da_cons (de_bm PySem.F.plainAttrs_list PySem.F.slot_list_pop PySem.F.type_list_pop dm_popAt (dv 1) (da_cons (ce_call (ok_law_take S) hr (by decide) rfl tk (da_cons (dv 0) (da_cons (de_callB dc_len rfl (S.free 7) (by decide +kernel) (da_cons (dv 1) da_nil)) da_nil))) da_nil)) da_nil)))))
    (dss_one (ds_ret (de_callTy dc_tuple rfl (S.free 5) (by decide +kernel) (da_cons (dv 2) da_nil))))))
theorem sc_law_offers : FnScope N_law_offers ["_law_box"] (defScope (top 16)) := ⟨rfl, rfl, rfl, by decide +kernel, rfl, by decide +kernel, by decide +kernel⟩
theorem ok_law_offers (S : Said fa fn K mg) : Cal P w K mg base 2 "_law_offers" (sp_law_offers (cs K)) := by
  obtain ⟨fd, F⟩ := S.c.def_ 5 (d := d_law_offers) rfl
  have nd := sc_law_offers.nd
  refine ⟨_, fd, _, dfn_ok (t := t_law_offers (cs K)) F sc_law_offers sp1_len (pure_law_offers (cs K)) (fun cdv A outer s H E ED hr po tk => ?_), S.glo 18, F.kp, F.bindsN fun _ _ _ _ _ _ us hl => match us, hl with | [_], _ => rfl⟩
  exact (dss_cons (ds_par (i := 1) (j := 2) rfl nd rfl rfl (by decide) rfl rfl (da_cons (de_listRng rfl rfl (S.free 6) rfl (S.free 0) de_int) (da_cons (de_lst da_nil) da_nil)) rfl)
    (dss_cons (ds_for po rfl (di_rng rfl (S.free 0) (da_cons (de_op op_add de_int (ce_call (ok_law_take S) hr (by decide) rfl tk (da_cons (dv 0) (da_cons (de_ix (r1 hr) (de_lst (da_cons de_int (da_cons de_int (da_cons de_int da_nil)))) (ce_call (ok_law_take S) hr (by decide) rfl tk (da_cons (dv 0) (da_cons de_int da_nil)))) da_nil)))) da_nil)) (dg_name (i := 3) nd rfl (Or.inl rfl)) (dss_one (ds_expr (de_bm PySem.F.plainAttrs_list PySem.F.slot_list_append PySem.F.type_list_append dm_append (dv 2) (da_cons (de_tup (da_cons (de_bm PySem.F.plainAttrs_list PySem.F.slot_list_pop PySem.F.type_list_pop dm_popAt (dv 1) (da_cons (ce_call (ok_law_take S) hr (by decide) rfl tk (da_cons (dv 0) (da_cons (de_callB dc_len rfl (S.free 7) (by decide +kernel) (da_cons (dv 1) da_nil)) da_nil))) da_nil)) (da_cons (ce_call (ok_law_take S) hr (by decide) rfl tk (da_cons (dv 0) (da_cons de_int da_nil))) da_nil))) da_nil)))))
    (dss_one (ds_ret (de_callTy dc_tuple rfl (S.free 5) (by decide +kernel) (da_cons (dv 2) da_nil))))))
theorem sc_best_kind : FnScope N_best_kind ["kinds", "knows"] (defScope (top 10)) := ⟨rfl, rfl, rfl, by decide +kernel, rfl, by decide +kernel, by decide +kernel⟩
theorem ok_best_kind (S : Said fa fn K mg) : Cal P w K mg base 1 "best_kind" (sp_best_kind (cs K)) := by
  obtain ⟨fd, F⟩ := S.c.def_ 6 (d := d_best_kind) rfl
  have nd := sc_best_kind.nd
  refine ⟨_, fd, _, dfn_ok (t := t_best_kind (cs K)) F sc_best_kind sp2_len (pure_best_kind (cs K)) (fun cdv A outer s H E ED hr po tk => ?_), S.glo 19, F.kp, F.bindsN fun _ _ _ _ _ _ us hl => match us, hl with | [_, _], _ => rfl⟩
  exact (dss_cons (ds_setLc (i := 2) (own := [("kind", 3)]) rfl nd rfl rfl (sw_true rfl rfl rfl (by decide +kernel)) (di_seq (dv 1)) (blkOk_by (N := N_best_kind) (sc := defScope (top 10)) (by decide +kernel)) (by decide) (fun _ _ _ _ _ => (dg_name (i := 3) nd rfl (Or.inl rfl))) (fun _ _ _ _ _ => (dts_one (dt_cmp (op_in (r65 hr)) (dv 3) (dv 0)))) (fun _ _ _ _ _ => (dv 3)))
    (dss_one (ds_ret (de_if (dt_cmp (op_ne (r64 hr)) (dv 2) (de_lst da_nil)) (de_ix (r1 hr) (dv 2) de_int) de_non))))
theorem sc_is_number : FnScope N_is_number ["part", "low", "high"] (defScope (top 6)) := ⟨rfl, rfl, rfl, by decide +kernel, rfl, by decide +kernel, by decide +kernel⟩
theorem ok_is_number (S : Said fa fn K mg) : Cal P w K mg base 1 "is_number" (sp_is_number (cs K)) := by
  obtain ⟨fd, F⟩ := S.c.def_ 7 (d := d_is_number) rfl
  have nd := sc_is_number.nd
  refine ⟨_, fd, _, dfn_ok (t := t_is_number (cs K)) F sc_is_number sp3_len (pure_is_number (cs K)) (fun cdv A outer s H E ED hr po tk => ?_), S.glo 20, F.kp, F.bindsN fun _ _ _ _ _ _ us hl => match us, hl with | [_, _, _], _ => rfl⟩
  exact (dss_one (ds_ret (de_and (de_callB dc_isi rfl (S.free 2) (by decide +kernel) (da_cons (dv 0) (da_cons (de_ty rfl (S.free 3) (by decide +kernel)) da_nil))) (de_and (de_not (de_callB dc_isi rfl (S.free 2) (by decide +kernel) (da_cons (dv 0) (da_cons (de_ty rfl (S.free 1) (by decide +kernel)) da_nil)))) (de_one (de_chain op_le op_le (dv 1) (dv 0) (dv 2)))))))
theorem sc_need_knows : FnScope N_need_knows ["knows"] (defScope (top 9)) := ⟨rfl, rfl, rfl, by decide +kernel, rfl, by decide +kernel, by decide +kernel⟩
theorem ok_need_knows (S : Said fa fn K mg) : Cal P w K mg base 2 "need_knows" (sp_need_knows (cs K)) := by
  obtain ⟨fd, F⟩ := S.c.def_ 8 (d := d_need_knows) rfl
  have nd := sc_need_knows.nd
  refine ⟨_, fd, _, dfn_ok (t := t_need_knows (cs K)) F sc_need_knows sp1_len (pure_need_knows (cs K)) (fun cdv A outer s H E ED hr po tk => ?_), S.glo 21, F.kp, F.bindsN fun _ _ _ _ _ _ us hl => match us, hl with | [_], _ => rfl⟩
  exact (dss_cons (ds_if (DW.dt (dw_or (dt_not (dt_of_val (de_callB dc_isi rfl (S.free 2) (by decide +kernel) (da_cons (dv 0) (da_cons (de_ty rfl (S.free 5) (by decide +kernel)) da_nil))))) (dw_or1 (dt_cmp (op_ne (r64 hr)) (de_lc (own := [("kind", 1)]) rfl nd (di_seq (dv 0)) (blkOk_by (N := N_need_knows) (sc := defScope (top 9)) (by decide +kernel)) (by decide) (fun _ _ _ _ _ => (dg_name (i := 1) nd rfl (Or.inl rfl))) (fun _ _ _ _ _ => (dts_one (dt_not (dt_of_val (ce_call (ok_is_number S) hr (by decide) rfl wish0 (da_cons (dv 1) (da_cons de_int (da_cons (de_gint rfl (S.int 8)) da_nil)))))))) (fun _ _ _ _ _ => (dv 1))) (de_lst da_nil))))) (dss_one (ds_raise rfl tk (S.exc 9 10 rfl rfl rfl rfl rfl))) dss_nil)
    (dss_one (ds_if (dt_cmp (op_ne (r64 hr)) (de_lenSet rfl (S.free 7) rfl (S.free 11) (dv 0)) (de_callB dc_len rfl (S.free 7) (by decide +kernel) (da_cons (dv 0) da_nil))) (dss_one (ds_raise rfl tk (S.exc 9 10 rfl rfl rfl rfl rfl))) dss_nil)))
theorem sc_is_offer : FnScope N_is_offer ["offer"] (defScope (top 7)) := ⟨rfl, rfl, rfl, by decide +kernel, rfl, by decide +kernel, by decide +kernel⟩
theorem ok_is_offer (S : Said fa fn K mg) : Cal P w K mg base 2 "is_offer" (sp_is_offer (cs K)) := by
  obtain ⟨fd, F⟩ := S.c.def_ 9 (d := d_is_offer) rfl
  have nd := sc_is_offer.nd
  refine ⟨_, fd, _, dfn_ok (t := t_is_offer (cs K)) F sc_is_offer sp1_len (pure_is_offer (cs K)) (fun cdv A outer s H E ED hr po tk => ?_), S.glo 22, F.kp, F.bindsN fun _ _ _ _ _ _ us hl => match us, hl with | [_], _ => rfl⟩
  exact (dss_cons (ds_if (DW.dt (dw_or (dt_not (dt_of_val (de_callB dc_isi rfl (S.free 2) (by decide +kernel) (da_cons (dv 0) (da_cons (de_ty rfl (S.free 5) (by decide +kernel)) da_nil))))) (dw_or1 (dt_cmp (op_ne (r64 hr)) (de_callB dc_len rfl (S.free 7) (by decide +kernel) (da_cons (dv 0) da_nil)) de_int)))) (dss_one (ds_ret de_bl)) dss_nil)
    (dss_one (ds_ret (de_and (ce_call (ok_is_number S) hr (by decide) rfl tk (da_cons (de_ix (r1 hr) (dv 0) de_int) (da_cons de_int (da_cons (de_gint rfl (S.int 8)) da_nil)))) (de_one (ce_call (ok_is_number S) hr (by decide) rfl tk (da_cons (de_ix (r1 hr) (dv 0) de_int) (da_cons de_int (da_cons (de_gint rfl (S.int 12)) da_nil)))))))))
theorem sc_need_offers : FnScope N_need_offers ["offers"] (defScope (top 8)) := ⟨rfl, rfl, rfl, by decide +kernel, rfl, by decide +kernel, by decide +kernel⟩
theorem ok_need_offers (S : Said fa fn K mg) : Cal P w K mg base 3 "need_offers" (sp_need_offers (cs K)) := by
  obtain ⟨fd, F⟩ := S.c.def_ 10 (d := d_need_offers) rfl
  have nd := sc_need_offers.nd
  refine ⟨_, fd, _, dfn_ok (t := t_need_offers (cs K)) F sc_need_offers sp1_len (pure_need_offers (cs K)) (fun cdv A outer s H E ED hr po tk => ?_), S.glo 23, F.kp, F.bindsN fun _ _ _ _ _ _ us hl => match us, hl with | [_], _ => rfl⟩
  exact (dss_cons (ds_if (DW.dt (dw_or (dt_not (dt_of_val (de_callB dc_isi rfl (S.free 2) (by decide +kernel) (da_cons (dv 0) (da_cons (de_ty rfl (S.free 5) (by decide +kernel)) da_nil))))) (dw_or1 (dt_cmp (op_ne (r64 hr)) (de_lc (own := [("offer", 2)]) rfl nd (di_seq (dv 0)) (blkOk_by (N := N_need_offers) (sc := defScope (top 8)) (by decide +kernel)) (by decide) (fun _ _ _ _ _ => (dg_name (i := 2) nd rfl (Or.inl rfl))) (fun _ _ _ _ _ => (dts_one (dt_not (dt_of_val (ce_call (ok_is_offer S) hr (by decide) rfl wish0 (da_cons (dv 2) da_nil)))))) (fun _ _ _ _ _ => (dv 2))) (de_lst da_nil))))) (dss_one (ds_raise rfl tk (S.exc 9 10 rfl rfl rfl rfl rfl))) dss_nil)
    (dss_cons (ds_setLc (i := 1) (own := [("kind", 3), ("number", 4)]) rfl nd rfl rfl (sw_true rfl rfl rfl (by decide +kernel)) (di_seq (dv 0)) (blkOk_by (N := N_need_offers) (sc := defScope (top 8)) (by decide +kernel)) (by decide) (fun _ _ _ _ _ => (dg_tup rfl (dgs_cons (dg_name (i := 3) nd rfl (Or.inl rfl)) (dgs_cons (dg_name (i := 4) nd rfl (Or.inl rfl)) dgs_nil)))) (fun _ _ _ _ _ => dts_nil) (fun _ _ _ _ _ => (dv 3)))
    (dss_one (ds_if (DW.dt (dw_or (dt_cmp (op_eq (r64 hr)) (dv 1) (de_lst da_nil)) (dw_or1 (dt_cmp (op_ne (r64 hr)) (de_lenSet rfl (S.free 7) rfl (S.free 11) (dv 1)) (de_callB dc_len rfl (S.free 7) (by decide +kernel) (da_cons (dv 1) da_nil)))))) (dss_one (ds_raise rfl tk (S.exc 9 10 rfl rfl rfl rfl rfl))) dss_nil))))
theorem sc_best : FnScope N_best ["offers", "knows"] (defScope (top 11)) := ⟨rfl, rfl, rfl, by decide +kernel, rfl, by decide +kernel, by decide +kernel⟩
theorem ok_best (S : Said fa fn K mg) : Cal P w K mg base 4 "best" (sp_best (cs K)) := by
  obtain ⟨fd, F⟩ := S.c.def_ 11 (d := d_best) rfl
  have nd := sc_best.nd
  refine ⟨_, fd, _, dfn_ok (t := t_best (cs K)) F sc_best sp2_len (pure_best (cs K)) (fun cdv A outer s H E ED hr po tk => ?_), S.glo 24, F.kp, F.bindsN fun _ _ _ _ _ _ us hl => match us, hl with | [_, _], _ => rfl⟩
  exact (dss_cons (ds_expr (ce_call (ok_need_offers S) hr (by decide) rfl tk (da_cons (dv 0) da_nil)))
    (dss_cons (ds_expr (ce_call (ok_need_knows S) hr (by decide) rfl tk (da_cons (dv 1) da_nil)))
    (dss_one (ds_ret (ce_call (ok_best_kind S) hr (by decide) rfl tk (da_cons (de_lc (own := [("kind", 2), ("number", 3)]) rfl nd (di_seq (dv 0)) (blkOk_by (N := N_best) (sc := defScope (top 11)) (by decide +kernel)) (by decide) (fun _ _ _ _ _ => (dg_tup rfl (dgs_cons (dg_name (i := 2) nd rfl (Or.inl rfl)) (dgs_cons (dg_name (i := 3) nd rfl (Or.inl rfl)) dgs_nil)))) (fun _ _ _ _ _ => dts_nil) (fun _ _ _ _ _ => (dv 2))) (da_cons (dv 1) da_nil)))))))
theorem sc_law : FnScope N_law ["_law_script"] (defScope (top 20)) := ⟨rfl, rfl, rfl, by decide +kernel, rfl, by decide +kernel, by decide +kernel⟩
theorem ok_law (S : Said fa fn K mg) : ∃ fd : FuncData, (∀ (s : Shared) (v : Value), BindsTo s fd ⟨[v], []⟩ [("_law_script", v)]) ∧ ∀ base : Heap, FnOk P w K mg base (L2.CX P w) 7 (He.fAd K d_law.at_) fd ["_law_script"] (spLaw K) := by
  obtain ⟨fd, F⟩ := S.c.def_ 12 (d := d_law) rfl
  have nd := sc_law.nd
  have b := FunD.bindsA (ps := ["_law_script"]) F fun _ _ _ _ _ _ us hl => match us, hl with | [_], _ => rfl
  refine ⟨fd, fun s v => b s [v] rfl, fun base => ?_⟩
  obtain ⟨fb, GB, g1, g2, g3⟩ := ok_begun (P := P) (w := w) (base := base) S
  refine law_ok (t := t_law (cs K) W0x) F sc_law rfl (fun b l G sd B f h1 h2 => pure_law (cs K) b l G sd B f h1 h2) (by decide) (fun cdv A outer s H E hr => ?_) (fun cdv A outer s H E hr po tk => ?_)
  · exact ps_set (i := 1) nd rfl (Or.inl rfl) (pe_callS (E := WE fun _ _ _ _ => False) GB (hr.mono (by decide)) rfl g1 g2 g3 (passAt takes0) (pa_cons (pv 0) pa_nil))
  · exact (dss_cons (ds_for po rfl (di_rng rfl (S.free 0) (da_cons de_int da_nil)) (dg_name (i := 2) nd rfl (Or.inl rfl)) (dss_cons (ds_par (i := 3) (j := 4) rfl nd rfl rfl (by decide) rfl rfl (da_cons (ce_call (ok_law_offers S) hr (by decide) rfl tk (da_cons (dv 1) da_nil)) (da_cons (ce_call (ok_law_knows S) hr (by decide) rfl tk (da_cons (dv 1) da_nil)) da_nil)) rfl)
    (dss_one (ds_if (dt_not (dt_of_val (ce_call (ok_law_alike S 6) hr (by decide) rfl tk (da_cons (ce_call (ok_best S) hr (by decide) rfl tk (da_cons (dv 3) (da_cons (dv 4) da_nil))) (da_cons (ce_call (ok_law_best S) hr (by decide) rfl tk (da_cons (dv 3) (da_cons (dv 4) da_nil))) da_nil))))) (dss_one (ds_ret de_bl)) dss_nil))))
    (dss_one (ds_ret de_bl)))
end
def loose : List Str := (["CarryError", "BadOffers", "is_number", "is_offer", "need_offers", "need_knows", "best_kind", "best", "_law_begun", "_law_take", "_law_alike", "_law_offers", "_law_knows", "_law_best", "_law_ends", "MOST_KIND", "MOST_NUMBER", "__name__"] : List Str)
abbrev R : PySem.W.OpenRow := PySem.W.OpenLaw.row PySem.Challenge.rw_carrydrop_k02_the_best_kind
abbrev hk : PySem.W.Hook := He.hookD 4 fa fn
def ob (s : PySem.W.SharedT) : He.AlD := He.obsDG 4 fa fn (HandSHeadRun.getT s)
theorem ob_eq (s : PySem.W.SharedT) : ob s = hk.obs s.abs := He.obsDG_eq (HandSHeadRun.getT_eq s)
theorem run (w : World) : HandSHeadRun.RunEq R (PySem.W.view R.prog [20]) hk ob 4000 loose w := by
  intro os
  kernel_rfl
end DL
open PySem PySem.W PySem.Calls PyProof.Rows
theorem PySem.Challenge.cw_carrydrop_k02_the_best_kind_holds : PySem.Challenge.rw_carrydrop_k02_the_best_kind.Holds := by
  w_on; o_law
  refine HandSHeadRun.head_any (r := OpenLaw.row PySem.Challenge.rw_carrydrop_k02_the_best_kind) (q := view (OpenLaw.row PySem.Challenge.rw_carrydrop_k02_the_best_kind).prog [20]) (H := DL.hk) (ob := DL.ob) (M := 4000) (loose := DL.loose) (d := HandSHeadRun.topDef (OpenLaw.row PySem.Challenge.rw_carrydrop_k02_the_best_kind).prog 20) (kwd := []) DL.ob_eq
    (by kernel_rfl) (fun s => by kernel_rfl) DL.run (by kernel_rfl) (by kernel_rfl) (by kernel_rfl) (by rfl) (by first | assumption | decide +kernel) (by decide +kernel) ⟨rfl, rfl, rfl, rfl, rfl, by decide +kernel⟩ ?hw ?hc
  case hw => w_witness2
  case hc =>
    refine LamX.walk_ofTsE (l := PySem.Challenge.rw_carrydrop_k02_the_best_kind) (n := 63) (k := 7) (x := "_law_script") (CX := fun w => L2.CX (PySem.Challenge.rw_carrydrop_k02_the_best_kind).prog w) rfl (by decide) (by kernel_rfl) ⟨rfl, by decide, by decide⟩ ?F DL.hCX
    intro w mg fa h Y G hmg0
    obtain ⟨K, KX, c⟩ := Y
    have hmg : mg ("law" : PySem.Str) = some (.ref fa) := by
      have e : (HandSHeadRun.topDef (OpenLaw.row PySem.Challenge.rw_carrydrop_k02_the_best_kind).prog 20).name = ("law" : PySem.Str) := by kernel_rfl
      rw [← e]
      exact hmg0
    have S : DL.Said DL.fa DL.fn K mg := ⟨c, h, KX, G⟩
    have e := hmg.symm.trans (S.glo 25)
    obtain ⟨fd, hb, F⟩ := DL.ok_law (P := (PySem.Challenge.rw_carrydrop_k02_the_best_kind).prog) (w := w) S
    cases e
    refine ⟨K, KX, fd, [], DL.spLaw K, nofun, nofun, nofun, hb, fun H a ns hl _ _ hS => ⟨a, ns, rfl, hS, hl, fun v H' e => e⟩, fun base _ _ _ => F base⟩
