import PyProof.Rows.All
import Wide.All
import OpenK.AllK
import Wide.FinOn
import HandS.ForMost
import HandS.ForExc
import HandS.HeadWalk
import HandS.HeadHook4
import HandS.TupAny
import HandS.IsInst
import HandS.Walk
import HandS.Zip
import HandS.Deep
import HandS.Conv
import HandS.TupLen
import HandS.DictTup
import HandS.Flow
import HandS.Defaults
import HandS.WordsList
import HandS.Words
import HandS.Exc
import HandS.ExcOwn
import HandS.WordsExc
import HandS.SetFor
import HandS.HeadHook1
import HandS.HeadHook2
import HandS.Iter
import HandS.ForDict
import PyProof.DictMoreH
import KE.SortData
import KE.KDictList
import KE.KDictSum
import HandS.HeadHook3
import HandS.Style
import HandS.DictEq
import HandS.DictComp
import KE.GoesZip
import KE.GoesMore
import HandS.More
import HandS.Text
import HandS.RaiseMore
import KE.KDictPairs
import KE.SortKeyHeap
import PyProof.IsRules
import HandS.ExcIs
import HandS.ExcField
import PyProof.EqKinds
import HandS.Lambda
import HandS.TryMany
import KE.KDictCopyH
import HandS.ExcInit
import PyProof.DictUpdate
import HandS.Codes
import KE.KRevSl
import HandS.HeadEnd
import HandS.Head0
import HandS.Head1
import HandS.Head2
import PySem.Challenge.RW_carrydrop_k12_logs_refused
set_option Elab.async false
set_option linter.all false
set_option maxRecDepth 100000
set_option maxHeartbeats 4000000
/-! DK: tuples whose object is known -/
namespace DL
open PySem PySem.Spec L2 PyProof.Rows
/-- a new tuple; b: its object is known -/
def tuO : Bool → Obj → List V → HO
  | false, _, xs => .tup xs
  | true, o, xs => .frz o (.tup xs)
theorem tuO_ok {P : Program} {w : World} {H : Hp} {h : Heap} {a : Addr} {b : Bool} {o : Obj} {xs : List V} (ho : h.get? a = some o) (ok : ObjOk P w H h a (.tup xs)) : ObjOk P w H h a (tuO b o xs) := by
  cases b with
  | false => exact ok
  | true => exact ⟨ho, ok⟩
section
variable {X : Cx} {es : List Expr} {t : TA} {pos : Pos}
def tTupX (t : TA) : TE := fun σ H Q => t σ H fun xs H1 => xs.length ≤ sizeLine ∧ ∃ b : Bool, ∀ p o, Obj.dict o = none → H1 p = none → Q (.ref p) (upd H1 p (tuO b o xs))
theorem pe_tupX {x1} (h : PA X es t) : PE X (.Tuple es x1 pos) (tTupX t) := by
  refine ⟨fun pins s σ H Q I hq => ?_⟩
  refine wpAny_Tuple_spliced (thn (h.run pos pins s σ H _ I hq) fun us s1 ⟨xs, H1, I1, r, z, b, q⟩ => ⟨by rw [← r.length]; exact z, ?_⟩)
  have hf : H1 s1.heap.objs.size = none := I1.hok.fresh (Nat.le_refl _)
  refine ⟨.ref s1.heap.objs.size, upd H1 s1.heap.objs.size (tuO b _ xs), I1.laid (t' := s1.toks) (fun b u e => Heap.get?_push_of_some _ e) (Nat.le_refl _) (tuO_ok (Heap.get?_push_size _ rfl) ?_), rfl, q _ _ rfl hf⟩
  exact ⟨z, us, r, ⟨_, Heap.get?_push_size _ rfl, rfl, _, rfl⟩⟩
def rCatX (K : PySem.W.Frag) : R2 := fun x y H Q => ∃ a b xs ys, x = .ref a ∧ y = .ref b ∧ SqT K H a xs ∧ SqT K H b ys ∧ xs.length + ys.length ≤ sizeLine ∧
  (xs = [] → Q (.ref b) H) ∧ (xs ≠ [] → ys = [] → Q (.ref a) H) ∧ (xs ≠ [] → ys ≠ [] → ∃ k : Bool, ∀ p o, Obj.dict o = none → H p = none → Q (.ref p) (upd H p (tuO k o (xs ++ ys))))
theorem op_catX : OpR X (binaryOp .Add) (rCatX X.K) := by
  intro pins s σ H x y v u Q I rx ry h
  obtain ⟨a, b, xs, ys, rfl, rfl, ha, hb, hz, q0, q1, q2⟩ := h
  cases rx
  cases ry
  obtain ⟨its, r1, p1, _⟩ := I.tuple ha
  obtain ⟨its2, r2, p2, _⟩ := I.tuple hb
  by_cases hx : xs = []
  · subst hx
    cases r1
    exact cat_tup0 p1 p2 ⟨.ref b, H, I, rfl, q0 rfl⟩
  · refine HT.cat_tup p1 p2 (fun z => hx (r1.nil_iff.mp z)) (fun z => ⟨.ref a, H, I, rfl, q1 hx (r2.nil_iff.mp z)⟩) (fun z => ?_) (by rw [← r1.length, ← r2.length]; exact hz)
    obtain ⟨k, q⟩ := q2 hx (fun w => z (r2.nil_iff.mpr w))
    refine ⟨.ref s.heap.objs.size, _, I.laid (t' := s.toks) (o := tuO k _ (xs ++ ys)) (fun b ob q => Heap.get?_push_of_some _ q) (Nat.le_refl _) (tuO_ok (Heap.get?_push_size _ rfl) ?_), rfl, q _ _ rfl (I.hok.fresh (Nat.le_refl _))⟩
    exact ⟨by rw [List.length_append]; exact hz, _, r1.append r2, IsTup.new _ _⟩
def rSlX (K : PySem.W.Frag) : V → Option Int → Option Int → Hp → VK → Prop := fun x lo hi H Q => ∃ a xs, x = .ref a ∧ SqT K H a xs ∧
  (HT.sIx xs.length 0 lo = 0 ∧ HT.sIx xs.length xs.length hi = xs.length → Q (.ref a) H) ∧ (¬ (HT.sIx xs.length 0 lo = 0 ∧ HT.sIx xs.length xs.length hi = xs.length) → ∃ k : Bool, ∀ p o, Obj.dict o = none → H p = none → Q (.ref p) (upd H p (tuO k o (cutV xs lo hi))))
theorem sl_tupX : SlR X (rSlX X.K) := by
  intro pins s σ H x v vl vu lo hi sl Q I rx hs pl pu h
  obtain ⟨a, xs, rfl, hx, q1, q2⟩ := h
  cases rx
  obtain ⟨its, r, ht, hz⟩ := I.tuple hx
  have hlen : its.toArray.size = xs.length := by rw [List.size_toArray]; exact r.length.symm
  refine ⟨"tuple", _, PyProof.Rows.slot_tuple_getitem.lookup, ht.typeIs, ?_⟩
  by_cases hw : HT.sIx xs.length 0 lo = 0 ∧ HT.sIx xs.length xs.length hi = xs.length
  · exact getItem_tuple_whole ht hs pl pu (by rw [hlen]; exact hw) ⟨.ref a, H, I, rfl, q1 hw⟩
  · obtain ⟨k, q⟩ := q2 hw
    refine HT.getItem_tuple_cut ht hs pl pu (by rw [hlen]; exact hw) ?_ (by rw [hlen]; exact hz)
    rw [hlen]
    refine ⟨.ref s.heap.objs.size, _, I.laid (t' := s.toks) (o := tuO k _ (cutV xs lo hi)) (fun b ob q => Heap.get?_push_of_some _ q) (Nat.le_refl _) (tuO_ok (Heap.get?_push_size _ rfl) ?_), rfl, q _ _ rfl (I.hok.fresh (Nat.le_refl _))⟩
    exact ⟨Nat.le_trans (cutV_length xs lo hi) hz, _, (r.drop (HT.sIx xs.length 0 lo)).take (HT.sIx xs.length xs.length hi - HT.sIx xs.length 0 lo), IsTup.new _ _⟩
theorem call_tupleX : CallR X (.type "tuple") (fun xs H Q => ∃ p ys, xs = [.ref p] ∧ ((SqL X.K H p ys ∧ ∃ k : Bool, ∀ l o, Obj.dict o = none → H l = none → Q (.ref l) (upd H l (tuO k o ys))) ∨ (SqT X.K H p ys ∧ Q (.ref p) H))) := by
  intro pins s σ H xs us Q I r h
  obtain ⟨p, ys, rfl, h⟩ := h
  obtain ⟨u, rfl, rx⟩ := vals1 r
  cases rx
  rcases h with ⟨hq, k, q⟩ | ⟨hq, q⟩
  · obtain ⟨its, r', pl, hz⟩ := I.list hq
    have hlen := r'.length
    refine call_tuple_list pl.isList (fun h' kp => ?_) (by simp only [List.size_toArray] <;> omega)
    have I1 : Inv X pins σ H { s with heap := h' } := I.kept (t' := s.toks) kp
    have I2 := I1.laid (t' := s.toks) (h' := h'.push { cls := .type "tuple", data := .seq its.toArray }) (o := tuO k { cls := .type "tuple", data := .seq its.toArray } ys) (fun b o e => Heap.get?_push_of_some _ e) (Nat.le_refl _) (tuO_ok (Heap.get?_push_size _ rfl) (show ObjOk X.prog X.w _ _ _ (.tup ys) from ⟨hz, its, r', IsTup.new _ _⟩))
    exact ⟨.ref h'.objs.size, _, I2, rfl, q _ _ rfl (I1.hok.fresh (Nat.le_refl _))⟩
  · obtain ⟨its, r', pl, hz⟩ := I.tuple hq
    exact call_tuple_same pl ⟨.ref p, H, I, rfl, q⟩
end
end DL
set_option Elab.async false
set_option linter.all false
set_option maxRecDepth 100000
set_option maxHeartbeats 4000000
/-! DL: values by value (tuples too), a heap of lists, dicts, instances; its judgements lie over HandS's. -/
namespace DL
open PySem PySem.Spec L2

/-! ### values -/
inductive D where
  | non | bl (b : Bool) | int (i : Int) | str (s : Str) | ty (n : String) | tup (ds : List D) | ref (a : Addr)

mutual
def D.beq : D → D → Bool
  | .non, .non => true
  | .bl a, .bl b => a == b
  | .int a, .int b => decide (a = b)
  | .str a, .str b => decide (a = b)
  | .ty a, .ty b => decide (a = b)
  | .ref a, .ref b => decide (a = b)
  | .tup as, .tup bs => D.beqL as bs
  | _, _ => false
def D.beqL : List D → List D → Bool
  | [], [] => true
  | a :: as, b :: bs => D.beq a b && D.beqL as bs
  | _, _ => false
end
mutual
theorem D.beq_iff : ∀ a b : D, D.beq a b = true ↔ a = b
  | .tup as, b => by
    cases b <;> simp [D.beq]
    rename_i bs
    exact D.beqL_iff as bs
  | .non, b => by cases b <;> simp [D.beq]
  | .bl a, b => by cases b <;> simp [D.beq]
  | .int a, b => by cases b <;> simp [D.beq]
  | .str a, b => by cases b <;> simp [D.beq]
  | .ty a, b => by cases b <;> simp [D.beq]
  | .ref a, b => by cases b <;> simp [D.beq]
theorem D.beqL_iff : ∀ as bs : List D, D.beqL as bs = true ↔ as = bs
  | [], bs => by cases bs <;> simp [D.beqL]
  | a :: as, bs => by
    cases bs with
    | nil => simp [D.beqL]
    | cons b bs => simp [D.beqL, D.beq_iff a b, D.beqL_iff as bs]
end
instance : DecidableEq D := fun a b => decidable_of_iff _ (D.beq_iff a b)

/-- a text that Python may have -/
abbrev OkS (x : Str) : Prop := PySem.PyData.strOk x = true

/-- a pair of ints -/
def off1 : D → Bool
  | .tup [.int _, .int _] => true
  | _ => false
/-- pairs of ints, nothing else: such a tuple's object is known -/
def offs (ds : List D) : Bool := ds.all off1
/-- the tuple at a; b: its object is known, it bears no dict -/
def TupH (H : Hp) (a : Addr) (xs : List V) : Bool → Prop
  | false => H a = some (.tup xs)
  | true => ∃ o : Obj, o.dict = none ∧ H a = some (.frz o (.tup xs))
theorem TupH.sq {K : PySem.W.Frag} {H : Hp} {a : Addr} {xs : List V} {b : Bool} (h : TupH H a xs b) : SqT K H a xs := by
  cases b with
  | false => exact SqT.of h
  | true => obtain ⟨o, _, h⟩ := h; exact .inl (.inr ⟨o, h⟩)
theorem TupH.rd {H : Hp} {a : Addr} {xs : List V} {b : Bool} (h : TupH H a xs b) : Rd H a (.tup xs) := by
  cases b with
  | false => exact .inl h
  | true => obtain ⟨o, _, h⟩ := h; exact .inr ⟨o, h⟩
theorem TupH.ty {K : PySem.W.Frag} {H : Hp} {a : Addr} {xs : List V} {b : Bool} (h : TupH H a xs b) : TyX K H (.ref a) (.type "tuple") := by
  cases b with
  | false => exact .base (.tup h)
  | true => obtain ⟨o, _, h⟩ := h; exact .fTuple h
theorem TupH.of {H : Hp} {a : Addr} {xs : List V} {b : Bool} {o : Obj} (ho : o.dict = none) (h : H a = some (tuO b o xs)) : TupH H a xs b := by
  cases b with
  | false => exact h
  | true => exact ⟨o, ho, h⟩
/-- such tuples stay -/
def TK (H H' : Hp) : Prop := (∀ a xs b, TupH H a xs b → TupH H' a xs b) ∧ ∀ a φ, H a = some (.ext φ) → H' a = some (.ext φ)
mutual
/-- v stands for d in H: tuples by what they hold -/
def Rel (H : Hp) : D → V → Prop
  | .non, v => v = .non
  | .bl b, v => v = .bl b
  | .int i, v => v = .int i
  | .str s, v => v = .str s ∧ OkS s
  | .ty n, v => v = .ty n
  | .ref a, v => v = .ref a
  | .tup ds, v => ∃ a xs, v = .ref a ∧ TupH H a xs (offs ds) ∧ RelL H ds xs ∧ ds.length ≤ sizeLine
def RelL (H : Hp) : List D → List V → Prop
  | [], xs => xs = []
  | d :: ds, xs => ∃ x r, xs = x :: r ∧ Rel H d x ∧ RelL H ds r
end

theorem relL_nil {H : Hp} {xs : List V} : RelL H [] xs ↔ xs = [] := Iff.rfl
theorem relL_cons {H : Hp} {d : D} {ds : List D} {x : V} {xs : List V} : RelL H (d :: ds) (x :: xs) ↔ Rel H d x ∧ RelL H ds xs :=
  ⟨fun ⟨y, r, e, h1, h2⟩ => by cases e; exact ⟨h1, h2⟩, fun ⟨h1, h2⟩ => ⟨_, _, rfl, h1, h2⟩⟩
theorem RelL.length {H : Hp} : ∀ {ds : List D} {xs : List V}, RelL H ds xs → ds.length = xs.length
  | [], xs, h => by cases (relL_nil.mp h); rfl
  | d :: ds, xs, h => by
    obtain ⟨x, r, rfl, _, h2⟩ := h
    simp [RelL.length h2]
theorem RelL.get {H : Hp} : ∀ {ds : List D} {xs : List V}, RelL H ds xs → ∀ (i : Nat) {d : D}, ds[i]? = some d → ∃ x, xs[i]? = some x ∧ Rel H d x
  | [], _, _, i, d, e => by simp at e
  | d :: ds, xs, h, 0, d', e => by
    obtain ⟨x, r, rfl, h1, h2⟩ := h
    simp at e
    subst e
    exact ⟨x, rfl, h1⟩
  | d :: ds, xs, h, i + 1, d', e => by
    obtain ⟨x, r, rfl, h1, h2⟩ := h
    obtain ⟨y, e1, e2⟩ := RelL.get h2 i (d := d') (by simpa using e)
    exact ⟨y, by simpa using e1, e2⟩
theorem RelL.append {H : Hp} : ∀ {ds es : List D} {xs ys : List V}, RelL H ds xs → RelL H es ys → RelL H (ds ++ es) (xs ++ ys)
  | [], es, xs, ys, h, k => by
    cases (relL_nil.mp h)
    exact k
  | d :: ds, es, xs, ys, h, k => by
    obtain ⟨x, r, rfl, h1, h2⟩ := h
    exact ⟨x, r ++ ys, rfl, h1, RelL.append h2 k⟩
theorem RelL.one {H : Hp} {d : D} {x : V} (h : Rel H d x) : RelL H [d] [x] := ⟨x, [], rfl, h, rfl⟩
theorem RelL.set {H : Hp} {d : D} {x : V} (hd : Rel H d x) : ∀ {ds : List D} {xs : List V}, RelL H ds xs → ∀ i : Nat, RelL H (ds.set i d) (xs.set i x)
  | [], xs, h, _ => by
    cases (relL_nil.mp h)
    exact rfl
  | e :: ds, xs, h, 0 => by
    obtain ⟨y, r, rfl, h1, h2⟩ := h
    exact ⟨x, r, rfl, hd, h2⟩
  | e :: ds, xs, h, i + 1 => by
    obtain ⟨y, r, rfl, h1, h2⟩ := h
    exact ⟨y, r.set i x, rfl, h1, RelL.set hd h2 i⟩
theorem RelL.erase {H : Hp} : ∀ {ds : List D} {xs : List V}, RelL H ds xs → ∀ i : Nat, RelL H (ds.eraseIdx i) (xs.eraseIdx i)
  | [], xs, h, _ => by
    cases (relL_nil.mp h)
    exact rfl
  | e :: ds, xs, h, 0 => by
    obtain ⟨y, r, rfl, h1, h2⟩ := h
    exact h2
  | e :: ds, xs, h, i + 1 => by
    obtain ⟨y, r, rfl, h1, h2⟩ := h
    exact ⟨y, r.eraseIdx i, rfl, h1, RelL.erase h2 i⟩
theorem RelL.take {H : Hp} : ∀ {ds : List D} {xs : List V}, RelL H ds xs → ∀ i : Nat, RelL H (ds.take i) (xs.take i)
  | [], xs, h, _ => by
    cases (relL_nil.mp h)
    simp [RelL]
  | e :: ds, xs, h, 0 => rfl
  | e :: ds, xs, h, i + 1 => by
    obtain ⟨y, r, rfl, h1, h2⟩ := h
    exact ⟨y, r.take i, rfl, h1, RelL.take h2 i⟩
theorem RelL.drop {H : Hp} : ∀ {ds : List D} {xs : List V}, RelL H ds xs → ∀ i : Nat, RelL H (ds.drop i) (xs.drop i)
  | [], xs, h, _ => by
    cases (relL_nil.mp h)
    simp [RelL]
  | e :: ds, xs, h, 0 => h
  | e :: ds, xs, h, i + 1 => by
    obtain ⟨y, r, rfl, h1, h2⟩ := h
    exact RelL.drop h2 i
theorem RelL.rev {H : Hp} : ∀ {ds : List D} {xs : List V}, RelL H ds xs → RelL H ds.reverse xs.reverse
  | [], xs, h => by
    cases (relL_nil.mp h)
    exact rfl
  | d :: ds, xs, h => by
    obtain ⟨x, r, rfl, h1, h2⟩ := h
    rw [List.reverse_cons, List.reverse_cons]
    exact RelL.append (RelL.rev h2) (.one h1)
theorem RelL.rep {H : Hp} {ds : List D} {xs : List V} (h : RelL H ds xs) : ∀ k : Nat, RelL H (List.replicate k ds).flatten (List.replicate k xs).flatten
  | 0 => rfl
  | k + 1 => by
    rw [List.replicate_succ, List.replicate_succ, List.flatten_cons, List.flatten_cons]
    exact RelL.append h (RelL.rep h k)
theorem RelL.split {H : Hp} : ∀ {ds es : List D} {zs : List V}, RelL H (ds ++ es) zs → ∃ xs ys, zs = xs ++ ys ∧ RelL H ds xs ∧ RelL H es ys
  | [], es, zs, h => ⟨[], zs, rfl, rfl, h⟩
  | d :: ds, es, zs, h => by
    obtain ⟨x, r, rfl, h1, h2⟩ := h
    obtain ⟨xs, ys, rfl, h3, h4⟩ := RelL.split h2
    exact ⟨x :: xs, ys, rfl, ⟨x, xs, rfl, h1, h3⟩, h4⟩

/-- tuples stay -/
structure Kp (H H' : Hp) : Prop where
  tup : ∀ a xs, H a = some (.tup xs) → H' a = some (.tup xs)
  frz : ∀ a o u, H a = some (.frz o u) → H' a = some (.frz o u)
  xd : ∀ a fs, H a = some (.xd fs) → H' a = some (.xd fs)
  ext : ∀ a φ, H a = some (.ext φ) → H' a = some (.ext φ)
theorem Kp.tk {H H' : Hp} (k : Kp H H') : TK H H' := ⟨fun a xs b h => by
  cases b with
  | false => exact k.tup _ _ h
  | true => obtain ⟨o, h1, h2⟩ := h; exact ⟨o, h1, k.frz _ _ _ h2⟩, k.ext⟩
theorem TK.of {H H' : Hp} (g : ∀ b u, H b = some u → H' b = some u) : TK H H' := ⟨fun a xs b h => by
  cases b with
  | false => exact g _ _ h
  | true => obtain ⟨o, h1, h2⟩ := h; exact ⟨o, h1, g _ _ h2⟩, fun _ _ => g _ _⟩
theorem Kp.refl (H : Hp) : Kp H H := ⟨fun _ _ h => h, fun _ _ _ h => h, fun _ _ h => h, fun _ _ h => h⟩
theorem Kp.trans {H H1 H2 : Hp} (a : Kp H H1) (b : Kp H1 H2) : Kp H H2 := ⟨fun c xs h => b.tup c xs (a.tup c xs h), fun c o u h => b.frz c o u (a.frz c o u h), fun c fs h => b.xd c fs (a.xd c fs h), fun c fs h => b.ext c fs (a.ext c fs h)⟩
mutual
theorem Rel.monoT {H H' : Hp} (k : TK H H') : ∀ {d : D} {v : V}, Rel H d v → Rel H' d v
  | .non, _, h => h
  | .bl _, _, h => h
  | .int _, _, h => h
  | .str _, _, h => h
  | .ty _, _, h => h
  | .ref _, _, h => h
  | .tup ds, v, ⟨a, xs, e, h1, h2, h3⟩ => ⟨a, xs, e, k.1 _ _ _ h1, RelL.monoT k h2, h3⟩
theorem RelL.monoT {H H' : Hp} (k : TK H H') : ∀ {ds : List D} {xs : List V}, RelL H ds xs → RelL H' ds xs
  | [], _, h => h
  | d :: ds, xs, ⟨x, r, e, h1, h2⟩ => ⟨x, r, e, Rel.monoT k h1, RelL.monoT k h2⟩
end
theorem Rel.mono {H H' : Hp} (k : Kp H H') {d : D} {v : V} (h : Rel H d v) : Rel H' d v := h.monoT k.tk
theorem RelL.mono {H H' : Hp} (k : Kp H H') {ds : List D} {xs : List V} (h : RelL H ds xs) : RelL H' ds xs := h.monoT k.tk
/-! ### slots -/
abbrev SD := List (Option D)
def RelS (H : Hp) (σ : St) (sd : SD) : Prop := σ.length = sd.length ∧ ∀ (i : Nat) (d : D), sd[i]? = some (some d) → ∃ v, σ[i]? = some (some v) ∧ Rel H d v
theorem RelS.monoT {H H' : Hp} {σ : St} {sd : SD} (k : TK H H') (h : RelS H σ sd) : RelS H' σ sd := ⟨h.1, fun i d e => by
  obtain ⟨v, e1, r⟩ := h.2 i d e
  exact ⟨v, e1, r.monoT k⟩⟩
theorem RelS.mono {H H' : Hp} {σ : St} {sd : SD} (k : Kp H H') (h : RelS H σ sd) : RelS H' σ sd := h.monoT k.tk
theorem RelS.set {H : Hp} {σ : St} {sd : SD} {d : D} {v : V} (h : RelS H σ sd) (r : Rel H d v) (i : Nat) : RelS H (σ.set i (some v)) (sd.set i (some d)) := ⟨by simp [h.1], fun j e q => by
  by_cases hj : i = j
  · subst hj
    rw [List.getElem?_set] at q
    by_cases hl : i < sd.length
    · rw [if_pos rfl, if_pos hl] at q
      cases q
      exact ⟨v, by rw [List.getElem?_set_self (by rw [h.1]; exact hl)], r⟩
    · rw [if_pos rfl, if_neg hl] at q
      cases q
  · rw [List.getElem?_set_ne hj] at q
    obtain ⟨u, e1, r1⟩ := h.2 j e q
    exact ⟨u, by rw [List.getElem?_set_ne hj]; exact e1, r1⟩⟩
/-- a slot forgotten -/
theorem RelS.drop {H : Hp} {σ : St} {sd : SD} (h : RelS H σ sd) (i : Nat) (x : Option V) : RelS H (σ.set i x) (sd.set i none) := ⟨by simp [h.1], fun j e q => by
  by_cases hj : i = j
  · subst hj
    rw [List.getElem?_set] at q
    by_cases hl : i < sd.length
    · rw [if_pos rfl, if_pos hl] at q
      cases q
    · rw [if_pos rfl, if_neg hl] at q
      cases q
  · rw [List.getElem?_set_ne hj] at q
    obtain ⟨u, e1, r1⟩ := h.2 j e q
    exact ⟨u, by rw [List.getElem?_set_ne hj]; exact e1, r1⟩⟩

/-! ### the heap -/
/-- a lambda as it was made -/
structure Clo where
  params : Arguments
  body : Expr
  scope : Scope
  qual : Str
  cells : List (Str × Addr)
  code : Addr
  dv : Option Addr
inductive DO where
  | lst (xs : List D)
  | rol (xs : List D)
  | dict (t : Bool) (kvs : List (D × D))
  | ldict (t : Bool) (kvs : List (D × D))
  | ins (C : Addr) (ns : List Str) (fs : List D)
  | fn (c : Clo)
abbrev Gp := Addr → Option DO
def put (G : Gp) (a : Addr) (o : DO) : Gp := fun b => if b = a then some o else G b
/-- nothing stands there -/
def Nw (G : Gp) (p : Addr) : Prop := G p = none
theorem put_same {G : Gp} {a : Addr} {o : DO} : put G a o a = some o := by unfold put; rw [if_pos rfl]
theorem put_ne {G : Gp} {a b : Addr} {o : DO} (h : b ≠ a) : put G a o b = G b := by unfold put; rw [if_neg h]
theorem put_put {G : Gp} {a : Addr} {o u : DO} : put (put G a o) a u = put G a u := by
  funext b; unfold put; split <;> rfl

/-- keys -/
def kD : Key → D
  | .inl i => .int i
  | .inr x => .str x
/-- what stands around: the names of a class's attributes, in order; the heap at the def's entry -/
structure Bx where
  H0 : Hp
def dvV : Option Addr → Value
  | some T => .ref T
  | none => .none
def FnO (c : Clo) (a : Addr) : HO := .ext fun h => ∃ doc pm ctv : Value, h.get? a = some (PySem.W.kdv_obj "<lambda>" c.qual c.params (.expr c.body) c.scope c.cells (dvV c.dv) doc pm c.code ctv)
def RepO (K : PySem.W.Frag) (H : Hp) (a : Addr) : DO → Prop
  | .lst ds => ∃ xs, H a = some (.lst xs) ∧ RelL H ds xs ∧ ds.length ≤ sizeLine
  | .rol ds => ∃ xs, Rd H a (.lst xs) ∧ RelL H ds xs ∧ ds.length ≤ sizeLine
  | .dict false kvs => kvs.length ≤ sizeLine ∧ ∃ ks : List (Key × V), H a = some (.dK ks) ∧ kvs.map (·.1) = ks.map (fun k => kD k.1) ∧ RelL H (kvs.map (·.2)) (ks.map (·.2))
  | .dict true kvs => kvs.length ≤ sizeLine ∧ ∃ ks : List (List Key × V), H a = some (.dT ks) ∧ kvs.map (·.1) = ks.map (fun k => D.tup (k.1.map kD)) ∧ RelL H (kvs.map (·.2)) (ks.map (·.2))
  | .ldict false kvs => kvs.length ≤ sizeLine ∧ ∃ (ob : Obj) (ks : List (Key × V)), H a = some (.frz ob (.dK ks)) ∧ kvs.map (·.1) = ks.map (fun k => kD k.1) ∧ RelL H (kvs.map (·.2)) (ks.map (·.2))
  | .ldict true kvs => kvs.length ≤ sizeLine ∧ ∃ (ob : Obj) (ks : List (List Key × V)), H a = some (.frz ob (.dT ks)) ∧ kvs.map (·.1) = ks.map (fun k => D.tup (k.1.map kD)) ∧ RelL H (kvs.map (·.2)) (ks.map (·.2))
  | .ins C ns ds => ∃ dx fs, H a = some (.ins C dx fs) ∧ fs.map (·.1) = ns.take ds.length ∧ RelL H ds (fs.map (·.2))
  | .fn c => H a = some (FnO c a) ∧ H c.code = some (LamX.CodeO c.code c.qual) ∧ ∀ T, c.dv = some T → H T = some (.tup [.int 0])
/-! ### the code objects' tables -/
/-- a def's code object: its address, its table, its name -/
def csOne (q : Addr × Obj) : Option (Addr × Addr × Str) := match q.2.data with
  | .fields vs => if q.2.cls == .type "code" then (match vs.toList with
    | _ :: .str n _ :: _ :: _ :: _ :: _ :: _ :: _ :: _ :: _ :: _ :: .ref P :: _ => some (q.1, P, n)
    | _ => none) else none
  | _ => none
def csOf (K : PySem.W.Frag) : List (Addr × Addr × Str) := K.filterMap csOne
/-- the tables, the name of what is made there -/
def tabsOf (K : PySem.W.Frag) : List (Addr × Str) := (csOf K).map fun q => (q.2.1, q.2.2 ++ ".<locals>." ++ "<lambda>")
theorem tabs_fresh {T : List (Addr × Str)} {H : Hp} {p : Addr} {u : HO} (t : LamX.Tabs T H) (n : H p = none) : LamX.Tabs T (upd H p u) := t.ext fun b o e => by rw [upd_ne (ne_of_none e n)]; exact e
theorem tabs_write {T : List (Addr × Str)} {H : Hp} {a : Addr} {u v : HO} (t : LamX.Tabs T H) (e : H a = some u) (n1 : ∀ ps, u ≠ .tbl ps) (n2 : ∀ φ, u ≠ .ext φ) : LamX.Tabs T (upd H a v) := fun p hp => by
  obtain ⟨ps, h1, h2, h3⟩ := t p hp
  refine ⟨ps, by rw [upd_ne fun z => by rw [z, e] at h1; exact n1 ps (Option.some.inj h1)]; exact h1, h2, fun pos cv hc => ?_⟩
  obtain ⟨c, e1, e2⟩ := h3 pos cv hc
  refine ⟨c, e1, ?_⟩
  rw [upd_ne fun z => by rw [z, e] at e2; exact n2 _ (Option.some.inj e2)]
  exact e2
structure Rep (K : PySem.W.Frag) (B : Bx) (H : Hp) (G : Gp) : Prop where
  k0 : Kp B.H0 H
  at_ : ∀ a o, G a = some o → RepO K H a o
  tb : LamX.Tabs (tabsOf K) H

section
variable {K : PySem.W.Frag} {B : Bx} {H H' : Hp} {G : Gp} {a b p : Addr} {o o' : DO}
theorem Rd.same (e : H' a = H a) {u : HO} (h : Rd H a u) : Rd H' a u := by
  rcases h with h | ⟨ob, h⟩
  · exact .inl (e.trans h)
  · exact .inr ⟨ob, e.trans h⟩
theorem RepO.monoT (e : H' a = H a) (k : TK H H') : ∀ {o : DO}, RepO K H a o → RepO K H' a o
  | .lst _, ⟨xs, h, r, z⟩ => ⟨xs, e.trans h, r.monoT k, z⟩
  | .rol _, ⟨xs, h, r, z⟩ => ⟨xs, Rd.same e h, r.monoT k, z⟩
  | .dict false _, ⟨z, ks, h, q, r⟩ => ⟨z, ks, e.trans h, q, r.monoT k⟩
  | .dict true _, ⟨z, ks, h, q, r⟩ => ⟨z, ks, e.trans h, q, r.monoT k⟩
  | .ldict false _, ⟨z, ob, ks, h, q, r⟩ => ⟨z, ob, ks, e.trans h, q, r.monoT k⟩
  | .ldict true _, ⟨z, ob, ks, h, q, r⟩ => ⟨z, ob, ks, e.trans h, q, r.monoT k⟩
  | .ins _ _ _, ⟨dx, fs, h, q, r⟩ => ⟨dx, fs, e.trans h, q, r.monoT k⟩
  | .fn _, ⟨h, r, t⟩ => ⟨e.trans h, k.2 _ _ r, fun T z => k.1 T _ false (t T z)⟩
theorem RepO.mono (e : H' a = H a) (k : Kp H H') {o : DO} (h : RepO K H a o) : RepO K H' a o := RepO.monoT e k.tk h
theorem Kp.fresh {u : HO} (n : H p = none) : Kp H (upd H p u) := ⟨fun c xs h => by rw [upd_ne (ne_of_none h n)]; exact h, fun c o v h => by rw [upd_ne (ne_of_none h n)]; exact h, fun c fs h => by rw [upd_ne (ne_of_none h n)]; exact h, fun c fs h => by rw [upd_ne (ne_of_none h n)]; exact h⟩
theorem Kp.write {u v : HO} (e : H a = some u) (n : ∀ xs, u ≠ .tup xs) (m : ∀ o x, u ≠ .frz o x := by intro _ _ z; cases z) (x : ∀ fs, u ≠ .xd fs := by intro _ z; cases z) (y : ∀ φ, u ≠ .ext φ := by intro _ z; cases z) : Kp H (upd H a v) := ⟨fun c xs h => by
  rw [upd_ne (ne_of h e fun z => n xs z.symm)]
  exact h, fun c o x h => by
  rw [upd_ne (ne_of h e fun z => m o x z.symm)]
  exact h, fun c fs h => by
  rw [upd_ne (ne_of h e fun z => x fs z.symm)]
  exact h, fun c fs h => by
  rw [upd_ne (ne_of h e fun z => y fs z.symm)]
  exact h⟩
/-- what is not in the abstract heap below is not in G -/
theorem Rep.gnone (R : Rep K B H G) (n : H p = none) : G p = none := by
  cases e : G p with
  | none => rfl
  | some o =>
    have r := R.at_ p o e
    cases o with
    | lst ds => obtain ⟨xs, h, _⟩ := r; rw [n] at h; cases h
    | rol ds => obtain ⟨xs, h | ⟨_, h⟩, _⟩ := r <;> (rw [n] at h; cases h)
    | dict t kvs => cases t <;> (obtain ⟨_, ks, h, _⟩ := r; rw [n] at h; cases h)
    | ldict t kvs => cases t <;> (obtain ⟨_, _, ks, h, _⟩ := r; rw [n] at h; cases h)
    | ins C ns ds => obtain ⟨dx, fs, h, _⟩ := r; rw [n] at h; cases h
    | fn c => obtain ⟨h, _⟩ := r; rw [n] at h; cases h
/-- an object off the books is laid (a tuple, an iterator ..) -/
theorem Rep.fresh {u : HO} (R : Rep K B H G) (n : H p = none) : Rep K B (upd H p u) G :=
  ⟨R.k0.trans (.fresh n), fun a o e => RepO.mono (upd_ne fun z => by subst z; rw [R.gnone n] at e; cases e) (.fresh n) (R.at_ a o e), tabs_fresh R.tb n⟩
/-- an object is laid -/
theorem Rep.laid {u : HO} (R : Rep K B H G) (n : H p = none) (h : RepO K (upd H p u) p o) : Rep K B (upd H p u) (put G p o) :=
  ⟨R.k0.trans (.fresh n), fun a o' e => by
    by_cases ha : a = p
    · subst ha
      rw [put_same] at e
      cases e
      exact h
    · rw [put_ne ha] at e
      exact RepO.mono (upd_ne ha) (.fresh n) (R.at_ a o' e), tabs_fresh R.tb n⟩
/-- an object is written -/
theorem Rep.write {u v : HO} (R : Rep K B H G) (e : H a = some u) (n : ∀ xs, u ≠ .tup xs) (h : RepO K (upd H a v) a o) (m : ∀ o x, u ≠ .frz o x := by intro _ _ z; cases z) (n1 : ∀ ps, u ≠ .tbl ps := by intro _ z; cases z) (n2 : ∀ φ, u ≠ .ext φ := by intro _ z; cases z) (nx : ∀ fs, u ≠ .xd fs := by intro _ z; cases z) : Rep K B (upd H a v) (put G a o) :=
  ⟨R.k0.trans (.write e n m nx n2), fun b o' q => by
    by_cases ha : b = a
    · subst ha
      rw [put_same] at q
      cases q
      exact h
    · rw [put_ne ha] at q
      exact RepO.mono (upd_ne ha) (.write e n m nx n2) (R.at_ b o' q), tabs_write R.tb e n1 n2⟩
/-- part of the books is given up -/
theorem Rep.sub {G' : Gp} (R : Rep K B H G) (h : ∀ a o, G' a = some o → G a = some o) : Rep K B H G' := ⟨R.k0, fun a o e => R.at_ a o (h a o e), R.tb⟩
theorem TupH.new {b : Bool} {o : Obj} {xs : List V} (ho : o.dict = none) : TupH (upd H p (tuO b o xs)) p xs b := by
  cases b with
  | false => exact upd_same
  | true => exact ⟨o, ho, upd_same⟩
theorem Rel.fresh {u : HO} {d : D} {v : V} (r : Rel H d v) (n : H p = none) : Rel (upd H p u) d v := r.mono (.fresh n)
end

/-! ### judgements -/
abbrev DQ := D → Gp → Prop
abbrev DTE := SD → Gp → DQ → Prop
abbrev DTT := SD → Gp → (Bool → Gp → Prop) → Prop
abbrev DTA := SD → Gp → (List D → Gp → Prop) → Prop
structure DEnds where
  nx : SD → Gp → Prop
  rt : DQ
  bk : SD → Gp → Prop := fun _ _ => False
  ct : SD → Gp → Prop := fun _ _ => False
abbrev DTS := DEnds → SD → Gp → Prop
/-- what is wanted below, by what is wanted here -/
def PostE (K : PySem.W.Frag) (B : Bx) (H : Hp) (Q : DQ) (P : VK) : Prop := ∀ v d H' G', Kp H H' → Rel H' d v → Rep K B H' G' → Q d G' → P v H'
def PostT (K : PySem.W.Frag) (B : Bx) (H : Hp) (Q : Bool → Gp → Prop) (P : Bool → Hp → Prop) : Prop := ∀ b H' G', Kp H H' → Rep K B H' G' → Q b G' → P b H'
def PostA (K : PySem.W.Frag) (B : Bx) (n : Nat) (H : Hp) (Q : List D → Gp → Prop) (P : List V → Hp → Prop) : Prop := ∀ vs ds H' G', ds.length = n → Kp H H' → RelL H' ds vs → Rep K B H' G' → Q ds G' → P vs H'
def PostN (K : PySem.W.Frag) (B : Bx) (H : Hp) (Q : SD → Gp → Prop) (P : St → Hp → Prop) : Prop := ∀ σ' sd' H' G', Kp H H' → RelS H' σ' sd' → Rep K B H' G' → Q sd' G' → P σ' H'
structure PostS (K : PySem.W.Frag) (B : Bx) (H : Hp) (DD : DEnds) (D : Ends) : Prop where
  nx : PostN K B H DD.nx D.nx
  rt : PostE K B H DD.rt D.rt
  bk : PostN K B H DD.bk D.bk
  ct : PostN K B H DD.ct D.ct
structure DE (X : Cx) (B : Bx) (e : Expr) (t : DTE) : Prop where
  ex : ∃ te : TE, PE X e te ∧ ∀ σ H sd G Q P, RelS H σ sd → Rep X.K B H G → t sd G Q → PostE X.K B H Q P → te σ H P
structure DT (X : Cx) (B : Bx) (e : Expr) (t : DTT) : Prop where
  ex : ∃ te : TT, PT X e te ∧ ∀ σ H sd G Q P, RelS H σ sd → Rep X.K B H G → t sd G Q → PostT X.K B H Q P → te σ H P
structure DW (X : Cx) (B : Bx) (e : Expr) (t : DTT) : Prop where
  ex : ∃ te : TT, PW X e te ∧ ∀ σ H sd G Q P, RelS H σ sd → Rep X.K B H G → t sd G Q → PostT X.K B H Q P → te σ H P
structure DA (X : Cx) (B : Bx) (es : List Expr) (t : DTA) : Prop where
  ex : ∃ te : TA, PA X es te ∧ ∀ σ H sd G Q P, RelS H σ sd → Rep X.K B H G → t sd G Q → PostA X.K B es.length H Q P → te σ H P
structure DS (X : Cx) (B : Bx) (st : Stmt) (t : DTS) : Prop where
  ex : ∃ ts : TS, PS X st ts ∧ ∀ σ H sd G DD D, RelS H σ sd → Rep X.K B H G → t DD sd G → PostS X.K B H DD D → ts D σ H
structure DSs (X : Cx) (B : Bx) (st : List Stmt) (t : DTS) : Prop where
  ex : ∃ ts : TS, PSs X st ts ∧ ∀ σ H sd G DD D, RelS H σ sd → Rep X.K B H G → t DD sd G → PostS X.K B H DD D → ts D σ H
theorem DW.dt {X : Cx} {B : Bx} {e : Expr} {t : DTT} (h : DW X B e t) : DT X B e t := let ⟨te, h1, h2⟩ := h.ex; ⟨te, h1.pt, h2⟩
section
variable {K : PySem.W.Frag} {B : Bx} {H H' : Hp}
theorem PostE.mono (k : Kp H H') {Q : DQ} {P : VK} (h : PostE K B H Q P) : PostE K B H' Q P := fun v d H2 G2 k2 => h v d H2 G2 (k.trans k2)
theorem PostT.mono (k : Kp H H') {Q : Bool → Gp → Prop} {P : Bool → Hp → Prop} (h : PostT K B H Q P) : PostT K B H' Q P := fun b H2 G2 k2 => h b H2 G2 (k.trans k2)
theorem PostA.mono (k : Kp H H') {Q : List D → Gp → Prop} {P : List V → Hp → Prop} {n : Nat} (h : PostA K B n H Q P) : PostA K B n H' Q P := fun b c H2 G2 hn k2 => h b c H2 G2 hn (k.trans k2)
theorem PostN.mono (k : Kp H H') {Q : SD → Gp → Prop} {P : St → Hp → Prop} (h : PostN K B H Q P) : PostN K B H' Q P := fun b c H2 G2 k2 => h b c H2 G2 (k.trans k2)
theorem PostS.mono (k : Kp H H') {DD : DEnds} {D : Ends} (h : PostS K B H DD D) : PostS K B H' DD D := ⟨h.nx.mono k, h.rt.mono k, h.bk.mono k, h.ct.mono k⟩
end

/-! ### names, constants -/
def dVar (i : Nat) : DTE := fun sd G Q => match sd[i]? with
  | some (some d) => Q d G
  | _ => False
def dC (d : D) : DTE := fun _ G Q => Q d G
section
variable {X : Cx} {B : Bx} {pos : Pos}
theorem de_of_var {i : Nat} {e : Expr} (h : PE X e (tVar i)) : DE X B e (dVar i) := ⟨tVar i, h, fun σ H sd G Q P hs R t hp => by
  have t' : (match sd[i]? with | some (some d) => Q d G | _ => False) := t
  cases q : sd[i]? with
  | none => rw [q] at t'; exact t'.elim
  | some o =>
    cases o with
    | none => rw [q] at t'; exact t'.elim
    | some d =>
      rw [q] at t'
      obtain ⟨v, e1, r⟩ := hs.2 i d q
      exact ⟨v, e1, hp v d H G (.refl H) r R t'⟩⟩
theorem dv (i : Nat) {x : Str} (hN : X.N[i]? = some x := by rfl) (hv : Vis X.env.scope x := by first | exact Or.inl rfl | exact Or.inr (Or.inl rfl) | exact Or.inr (Or.inr rfl)) (hd : (x == ("__debug__" : Str)) = false := by decide)
    (hcd : (x == ("__classdict__" : Str)) = false := by decide) : DE X B (.Name x pos) (dVar i) := de_of_var (pe_var hN hv hd hcd)
theorem de_of_c {e : Expr} {v : V} {d : D} (h : PE X e (tC v)) (r : ∀ H, Rel H d v) : DE X B e (dC d) := ⟨tC v, h, fun σ H sd G Q P hs R t hp => hp v d H G (.refl H) (r H) R t⟩
theorem de_int {i j} : DE X B (.Constant (.int i) j pos) (dC (.int i)) := de_of_c pe_int fun _ => rfl
theorem de_bl {b j} : DE X B (.Constant (.bool b) j pos) (dC (.bl b)) := de_of_c pe_bl fun _ => rfl
theorem de_non {j} : DE X B (.Constant .none j pos) (dC .non) := de_of_c pe_non fun _ => rfl
theorem de_str {x j} (h : OkS x := by decide +kernel) : DE X B (.Constant (.str x) j pos) (dC (.str x)) := de_of_c pe_str fun _ => ⟨rfl, h⟩
end

/-! ### operators by values -/
abbrev DR1 := D → Gp → DQ → Prop
abbrev DR2 := D → D → Gp → DQ → Prop
def DOp (X : Cx) (B : Bx) (f : Value → Value → Sem Value) (rD : DR2) : Prop :=
  ∃ r : R2, OpR X f r ∧ ∀ H G x y d e Q P, Rel H d x → Rel H e y → Rep X.K B H G → rD d e G Q → PostE X.K B H Q P → r x y H P
def dOp (rD : DR2) (ta tb : DTE) : DTE := fun sd G Q => ta sd G fun d G1 => tb sd G1 fun e G2 => rD d e G2 Q
section
variable {X : Cx} {B : Bx} {a b c : Expr} {ta tb tc : DTE} {pos : Pos} {rD rD' : DR2}
/-- two parts in a row -/
theorem two_parts {ta' tb' : TE} {R : V → V → Hp → Prop} {ta tb : DTE} {RD : D → D → Gp → Prop} {σ : L2.St} {H : Hp} {sd : SD} {G : Gp}
    (ha : ∀ σ H sd G Q P, RelS H σ sd → Rep X.K B H G → ta sd G Q → PostE X.K B H Q P → ta' σ H P)
    (hb : ∀ σ H sd G Q P, RelS H σ sd → Rep X.K B H G → tb sd G Q → PostE X.K B H Q P → tb' σ H P)
    (hs : RelS H σ sd) (R0 : Rep X.K B H G) (t : ta sd G fun d G1 => tb sd G1 fun e G2 => RD d e G2)
    (hr : ∀ x y d e H2 G2, Kp H H2 → Rel H2 d x → Rel H2 e y → Rep X.K B H2 G2 → RD d e G2 → R x y H2) : ta' σ H fun x H1 => tb' σ H1 fun y H2 => R x y H2 := by
  refine ha σ H sd G _ _ hs R0 t fun x d H1 G1 k1 r1 R1 q1 => ?_
  refine hb σ H1 sd G1 _ _ (hs.mono k1) R1 q1 fun y e H2 G2 k2 r2 R2 q2 => ?_
  exact hr x y d e H2 G2 (k1.trans k2) (r1.mono k2) r2 R2 q2
theorem de_op {op : Operator} (ho : DOp X B (binaryOp op) rD) (ha : DE X B a ta) (hb : DE X B b tb) : DE X B (.BinOp a op b pos) (dOp rD ta tb) := by
  obtain ⟨ta', pa, ha⟩ := ha.ex
  obtain ⟨tb', pb, hb⟩ := hb.ex
  obtain ⟨r, ho, hr⟩ := ho
  refine ⟨_, pe_op ho pa pb, fun σ H sd G Q P hs R t hp => ?_⟩
  exact two_parts (R := fun x y H2 => r x y H2 P) ha hb hs R t fun x y d e H2 G2 k r1 r2 R2 q => hr H2 G2 x y d e Q P r1 r2 R2 q (hp.mono k)
theorem de_cmp {op : CmpOp} (ho : DOp X B (compareOp op) rD) (ha : DE X B a ta) (hb : DE X B b tb) (hm : behindInMarks op b = false := by first | exact nobehind _ (by decide) (by decide) | rfl) : DE X B (.Compare a [op] [b] pos) (dOp rD ta tb) := by
  obtain ⟨ta', pa, ha⟩ := ha.ex
  obtain ⟨tb', pb, hb⟩ := hb.ex
  obtain ⟨r, ho, hr⟩ := ho
  refine ⟨_, pe_cmpR ho pa pb hm, fun σ H sd G Q P hs R t hp => ?_⟩
  exact two_parts (R := fun x y H2 => r x y H2 P) ha hb hs R t fun x y d e H2 G2 k r1 r2 R2 q => hr H2 G2 x y d e Q P r1 r2 R2 q (hp.mono k)
end
end DL
set_option Elab.async false
set_option linter.all false
set_option maxRecDepth 100000
set_option maxHeartbeats 4000000
namespace DL
open PySem PySem.Spec L2
/-! ### tests -/
/-- what comes is a bool -/
def dB (Q : Bool → Gp → Prop) : DQ := fun d G => match d with
  | .bl b => Q b G
  | _ => False
def dTest (t : DTE) : DTT := fun sd G Q => t sd G (dB Q)
def dChain (r r' : DR2) (ta tb tc : DTE) : DTE := fun sd G Q => ta sd G fun x G1 => tb sd G1 fun y G2 => r x y G2 (dB fun k G3 => if k = true then tc sd G3 fun z G4 => r' y z G4 Q else Q (.bl false) G3)
def dIfE (c : DTT) (t u : DTE) : DTE := fun sd G Q => c sd G fun b G1 => if b = true then t sd G1 Q else u sd G1 Q
def dAnd (t u : DTT) : DTT := fun sd G Q => t sd G fun c G1 => if c = true then u sd G1 Q else Q false G1
def dOr (t u : DTT) : DTT := fun sd G Q => t sd G fun c G1 => if c = true then Q true G1 else u sd G1 Q
def dNot (t : DTT) : DTT := fun sd G Q => t sd G fun c G1 => Q (!c) G1
/-- and, or, not as values (bools) -/
def dAndV (ta tb : DTE) : DTE := fun sd G Q => ta sd G (dB fun c G1 => if c = true then tb sd G1 Q else Q (.bl false) G1)
def dOrV (ta tb : DTE) : DTE := fun sd G Q => ta sd G (dB fun c G1 => if c = true then Q (.bl true) G1 else tb sd G1 Q)
def dNotV (ta : DTE) : DTE := fun sd G Q => ta sd G (dB fun c G1 => Q (.bl (!c)) G1)
section
variable {X : Cx} {B : Bx} {a b c : Expr} {ta tb tc : DTE} {tA tB tC : DTT} {pos : Pos} {rD rD' : DR2} {rest : List Expr}
theorem post_bl {K : PySem.W.Frag} {H : Hp} {Q : Bool → Gp → Prop} {P : Bool → Hp → Prop} (hp : PostT K B H Q P) : PostE K B H (dB Q) (fun x H' => ∃ k, x = .bl k ∧ P k H') := fun v d H' G' k r R q => by
  cases d with
  | bl b => exact ⟨b, r, hp b H' G' k R q⟩
  | _ => exact (show False from q).elim
theorem post_blC {K : PySem.W.Frag} {H : Hp} {Q : Bool → Gp → Prop} {P : Bool → Hp → Prop} (hp : ∀ b H' G', Kp H H' → Rep K B H' G' → Q b G' → P b H') : PostE K B H (dB Q) (fun x H' => ∃ k, x = .bl k ∧ P k H') := post_bl hp
theorem dt_of_val (h : DE X B a ta) (he : ∀ whole, isTrue a X.env whole = (do let v ← whole; standAt a.pos; holding [v] (truthy v)) := by intro _; rfl) : DT X B a (dTest ta) := by
  obtain ⟨ta', pa, ha⟩ := h.ex
  exact ⟨_, pt_val pa he, fun σ H sd G Q P hs R t hp => ha σ H sd G _ _ hs R t (post_bl hp)⟩
theorem dt_cmp {op : CmpOp} (ho : DOp X B (compareOp op) rD) (ha : DE X B a ta) (hb : DE X B b tb) (hm : behindInMarks op b = false := by first | exact nobehind _ (by decide) (by decide) | rfl) : DT X B (.Compare a [op] [b] pos) (dTest (dOp rD ta tb)) := by
  obtain ⟨ta', pa, ha⟩ := ha.ex
  obtain ⟨tb', pb, hb⟩ := hb.ex
  obtain ⟨r, ho, hr⟩ := ho
  refine ⟨_, pt_cmpR ho pa pb hm, fun σ H sd G Q P hs R t hp => ?_⟩
  exact two_parts (X := X) ha hb hs R t fun x y d e H2 G2 k r1 r2 R2 q => hr H2 G2 x y d e _ _ r1 r2 R2 q (post_bl (hp.mono k))
theorem chain_at {ta' tb' tc' : TE} {r r' : R2} {σ : L2.St} {H : Hp} {sd : SD} {G : Gp} {Q : DQ} {P : VK}
    (ha : ∀ σ H sd G Q P, RelS H σ sd → Rep X.K B H G → ta sd G Q → PostE X.K B H Q P → ta' σ H P)
    (hb : ∀ σ H sd G Q P, RelS H σ sd → Rep X.K B H G → tb sd G Q → PostE X.K B H Q P → tb' σ H P)
    (hc : ∀ σ H sd G Q P, RelS H σ sd → Rep X.K B H G → tc sd G Q → PostE X.K B H Q P → tc' σ H P)
    (hr : ∀ H G x y d e Q P, Rel H d x → Rel H e y → Rep X.K B H G → rD d e G Q → PostE X.K B H Q P → r x y H P)
    (hr' : ∀ H G x y d e Q P, Rel H d x → Rel H e y → Rep X.K B H G → rD' d e G Q → PostE X.K B H Q P → r' x y H P)
    (hs : RelS H σ sd) (R : Rep X.K B H G) (t : dChain rD rD' ta tb tc sd G Q) (hp : PostE X.K B H Q P) : tChain r r' ta' tb' tc' σ H P := by
  refine two_parts (X := X) ha hb hs R t fun x y d e H2 G2 k r1 r2 R2 q => ?_
  refine hr H2 G2 x y d e _ _ r1 r2 R2 q (post_bl fun b H3 G3 k3 R3 q3 => ?_)
  cases b with
  | false => exact hp _ (.bl false) H3 G3 (k.trans k3) rfl R3 q3
  | true =>
    refine hc σ H3 sd G3 _ _ (hs.mono (k.trans k3)) R3 q3 fun w f H4 G4 k4 r4 R4 q4 => ?_
    exact hr' H4 G4 y w e f Q P (r2.mono (k3.trans k4)) r4 R4 q4 (hp.mono ((k.trans k3).trans k4))
theorem de_chain {op op' : CmpOp} (ho : DOp X B (compareOp op) rD) (ho' : DOp X B (compareOp op') rD') (ha : DE X B a ta) (hb : DE X B b tb) (hc : DE X B c tc)
    (hm : lastMarks [op, op'] [b, c] = false := by with_unfolding_all rfl) : DE X B (.Compare a [op, op'] [b, c] pos) (dChain rD rD' ta tb tc) := by
  obtain ⟨ta', pa, ha⟩ := ha.ex
  obtain ⟨tb', pb, hb⟩ := hb.ex
  obtain ⟨tc', pc, hc⟩ := hc.ex
  obtain ⟨r, ho, hr⟩ := ho
  obtain ⟨r', ho', hr'⟩ := ho'
  exact ⟨_, pe_chain ho ho' pa pb pc hm, fun σ H sd G Q P hs R t hp => chain_at (X := X) ha hb hc hr hr' hs R t hp⟩
theorem dt_chain {op op' : CmpOp} (ho : DOp X B (compareOp op) rD) (ho' : DOp X B (compareOp op') rD') (ha : DE X B a ta) (hb : DE X B b tb) (hc : DE X B c tc)
    (hm : lastMarks [op, op'] [b, c] = false := by with_unfolding_all rfl) : DT X B (.Compare a [op, op'] [b, c] pos) (dTest (dChain rD rD' ta tb tc)) := by
  obtain ⟨ta', pa, ha⟩ := ha.ex
  obtain ⟨tb', pb, hb⟩ := hb.ex
  obtain ⟨tc', pc, hc⟩ := hc.ex
  obtain ⟨r, ho, hr⟩ := ho
  obtain ⟨r', ho', hr'⟩ := ho'
  exact ⟨_, pt_chain ho ho' pa pb pc hm, fun σ H sd G Q P hs R t hp => chain_at (X := X) ha hb hc hr hr' hs R t (post_bl hp)⟩
theorem de_if (hc : DT X B c tA) (ha : DE X B a ta) (hb : DE X B b tb) : DE X B (.IfExp c a b pos) (dIfE tA ta tb) := by
  obtain ⟨tc', pc, hc⟩ := hc.ex
  obtain ⟨ta', pa, ha⟩ := ha.ex
  obtain ⟨tb', pb, hb⟩ := hb.ex
  refine ⟨_, pe_ifExp pc pa pb, fun σ H sd G Q P hs R t hp => ?_⟩
  refine hc σ H sd G _ _ hs R t fun k H1 G1 k1 R1 q1 => ?_
  cases k with
  | true => exact ha σ H1 sd G1 Q P (hs.mono k1) R1 q1 (hp.mono k1)
  | false => exact hb σ H1 sd G1 Q P (hs.mono k1) R1 q1 (hp.mono k1)
theorem dw_and1 (ha : DT X B a tA) : DW X B (.BoolOp .And [a] pos) tA := let ⟨ta', pa, ha⟩ := ha.ex; ⟨_, pw_and1 pa, ha⟩
theorem dw_or1 (ha : DT X B a tA) : DW X B (.BoolOp .Or [a] pos) tA := let ⟨ta', pa, ha⟩ := ha.ex; ⟨_, pw_or1 pa, ha⟩
theorem dw_and (ha : DT X B a tA) (hb : DW X B (.BoolOp .And (b :: rest) pos) tB) : DW X B (.BoolOp .And (a :: b :: rest) pos) (dAnd tA tB) := by
  obtain ⟨ta', pa, ha⟩ := ha.ex
  obtain ⟨tb', pb, hb⟩ := hb.ex
  refine ⟨_, pw_and pa pb, fun σ H sd G Q P hs R t hp => ?_⟩
  refine ha σ H sd G _ _ hs R t fun k H1 G1 k1 R1 q1 => ?_
  cases k with
  | true => exact hb σ H1 sd G1 Q P (hs.mono k1) R1 q1 (hp.mono k1)
  | false => exact hp _ _ _ k1 R1 q1
theorem dw_or (ha : DT X B a tA) (hb : DW X B (.BoolOp .Or (b :: rest) pos) tB) : DW X B (.BoolOp .Or (a :: b :: rest) pos) (dOr tA tB) := by
  obtain ⟨ta', pa, ha⟩ := ha.ex
  obtain ⟨tb', pb, hb⟩ := hb.ex
  refine ⟨_, pw_or pa pb, fun σ H sd G Q P hs R t hp => ?_⟩
  refine ha σ H sd G _ _ hs R t fun k H1 G1 k1 R1 q1 => ?_
  cases k with
  | false => exact hb σ H1 sd G1 Q P (hs.mono k1) R1 q1 (hp.mono k1)
  | true => exact hp _ _ _ k1 R1 q1
theorem dt_not (ha : DT X B a tA) : DT X B (.UnaryOp .Not a pos) (dNot tA) := by
  obtain ⟨ta', pa, ha⟩ := ha.ex
  exact ⟨_, pt_not pa, fun σ H sd G Q P hs R t hp => ha σ H sd G _ _ hs R t fun k H1 G1 k1 R1 q1 => hp _ _ _ k1 R1 q1⟩
theorem de_one {op} (h : DE X B a ta) : DE X B (.BoolOp op [a] pos) ta := let ⟨ta', pa, ha⟩ := h.ex; ⟨_, pe_one pa, ha⟩
theorem de_and (ha : DE X B a ta) (hb : DE X B (.BoolOp .And (b :: rest) pos) tb) : DE X B (.BoolOp .And (a :: b :: rest) pos) (dAndV ta tb) := by
  obtain ⟨ta', pa, ha⟩ := ha.ex
  obtain ⟨tb', pb, hb⟩ := hb.ex
  refine ⟨_, pe_and pa pb, fun σ H sd G Q P hs R t hp => ?_⟩
  refine ha σ H sd G _ _ hs R t (post_bl fun k H1 G1 k1 R1 q1 => ?_)
  cases k with
  | true => exact hb σ H1 sd G1 Q P (hs.mono k1) R1 q1 (hp.mono k1)
  | false => exact hp _ (.bl false) _ _ k1 rfl R1 q1
theorem de_or (ha : DE X B a ta) (hb : DE X B (.BoolOp .Or (b :: rest) pos) tb) : DE X B (.BoolOp .Or (a :: b :: rest) pos) (dOrV ta tb) := by
  obtain ⟨ta', pa, ha⟩ := ha.ex
  obtain ⟨tb', pb, hb⟩ := hb.ex
  refine ⟨_, pe_or pa pb, fun σ H sd G Q P hs R t hp => ?_⟩
  refine ha σ H sd G _ _ hs R t (post_bl fun k H1 G1 k1 R1 q1 => ?_)
  cases k with
  | false => exact hb σ H1 sd G1 Q P (hs.mono k1) R1 q1 (hp.mono k1)
  | true => exact hp _ (.bl true) _ _ k1 rfl R1 q1
theorem de_not (ha : DE X B a ta) : DE X B (.UnaryOp .Not a pos) (dNotV ta) := by
  obtain ⟨ta', pa, ha⟩ := ha.ex
  exact ⟨_, pe_not pa, fun σ H sd G Q P hs R t hp => ha σ H sd G _ _ hs R t (post_bl fun k H1 G1 k1 R1 q1 => hp _ (.bl (!k)) _ _ k1 rfl R1 q1)⟩
end

/-! ### statements -/
def dNext : DTS := fun D sd G => D.nx sd G
def dSeq (t u : DTS) : DTS := fun D sd G => t { D with nx := u D } sd G
def dDrop (te : DTE) : DTS := fun D sd G => te sd G fun _ G1 => D.nx sd G1
def dRet (te : DTE) : DTS := fun D sd G => te sd G D.rt
def dRetN : DTS := fun D _ G => D.rt .non G
def dIf (c : DTT) (t u : DTS) : DTS := fun D sd G => c sd G fun b G1 => if b = true then t D sd G1 else u D sd G1
def dNever : DTS := fun _ _ _ => False
def dSkip : DTS := fun D sd G => D.ct sd G
def dBreak : DTS := fun D sd G => D.bk sd G
section
variable {X : Cx} {B : Bx} {st : Stmt} {rest : List Stmt} {t u : DTS} {e : Expr} {te : DTE} {pos : Pos} {tc : DTT}
theorem dss_nil : DSs X B [] dNext := ⟨_, pss_nil, fun σ H sd G DD D hs R t hp => hp.nx σ sd H G (.refl H) hs R t⟩
theorem dss_cons (h1 : DS X B st t) (h2 : DSs X B rest u) : DSs X B (st :: rest) (dSeq t u) := by
  obtain ⟨t', p1, h1⟩ := h1.ex
  obtain ⟨u', p2, h2⟩ := h2.ex
  refine ⟨_, pss_cons p1 p2, fun σ H sd G DD D hs R t hp => ?_⟩
  exact h1 σ H sd G _ _ hs R t ⟨fun σ1 sd1 H1 G1 k1 hs1 R1 q1 => h2 σ1 H1 sd1 G1 DD D hs1 R1 q1 (hp.mono k1), hp.rt, hp.bk, hp.ct⟩
theorem dss_one (h1 : DS X B st t) : DSs X B [st] t := let ⟨t', p1, h1⟩ := h1.ex; ⟨_, pss_one p1, h1⟩
theorem dss_never {sts : List Stmt} : DSs X B sts dNever := ⟨_, pss_never, fun _ _ _ _ _ _ _ _ t _ => t.elim⟩
theorem ds_never : DS X B st dNever := ⟨_, ps_never, fun _ _ _ _ _ _ _ _ t _ => t.elim⟩
theorem ds_pass : DS X B (.Pass pos) dNext := ⟨_, ps_pass, fun σ H sd G DD D hs R t hp => hp.nx σ sd H G (.refl H) hs R t⟩
theorem ds_break : DS X B (.Break pos) dBreak := ⟨_, ps_break, fun σ H sd G DD D hs R t hp => hp.bk σ sd H G (.refl H) hs R t⟩
theorem ds_continue : DS X B (.Continue pos) dSkip := ⟨_, ps_continue, fun σ H sd G DD D hs R t hp => hp.ct σ sd H G (.refl H) hs R t⟩
theorem ds_expr (he : DE X B e te) (hs : swapsWith e none pos.line X.env = pure false := by rfl) : DS X B (.Expr e pos) (dDrop te) := by
  obtain ⟨te', pe, he⟩ := he.ex
  refine ⟨_, ps_expr pe hs, fun σ H sd G DD D hs R t hp => ?_⟩
  exact he σ H sd G _ _ hs R t fun v d H1 G1 k1 r1 R1 q1 => hp.nx σ sd H1 G1 k1 (hs.mono k1) R1 q1
theorem ds_ret (he : DE X B e te) : DS X B (.Return (some e) pos) (dRet te) := by
  obtain ⟨te', pe, he⟩ := he.ex
  exact ⟨_, ps_ret pe, fun σ H sd G DD D hs R t hp => he σ H sd G _ _ hs R t hp.rt⟩
theorem ds_retN : DS X B (.Return none pos) dRetN := ⟨_, ps_retN, fun σ H sd G DD D hs R t hp => hp.rt _ .non H G (.refl H) rfl R t⟩
theorem ds_if {c : Expr} {a b : List Stmt} (hc : DT X B c tc) (ha : DSs X B a t) (hb : DSs X B b u) : DS X B (.If c a b pos) (dIf tc t u) := by
  obtain ⟨tc', pc, hc⟩ := hc.ex
  obtain ⟨t', p1, h1⟩ := ha.ex
  obtain ⟨u', p2, h2⟩ := hb.ex
  refine ⟨_, ps_if pc p1 p2, fun σ H sd G DD D hs R t hp => ?_⟩
  refine hc σ H sd G _ _ hs R t fun k H1 G1 k1 R1 q1 => ?_
  cases k with
  | true => exact h1 σ H1 sd G1 DD D (hs.mono k1) R1 q1 (hp.mono k1)
  | false => exact h2 σ H1 sd G1 DD D (hs.mono k1) R1 q1 (hp.mono k1)
end

/-! ### targets -/
abbrev DTG := D → SD → Gp → (SD → Gp → Prop) → Prop
abbrev DTGs := List D → SD → Gp → (SD → Gp → Prop) → Prop
/-- only the slots ws change -/
def Only (ws : List Nat) (σ σ' : St) : Prop := σ'.length = σ.length ∧ ∀ i, i ∉ ws → σ'[i]? = σ[i]?
theorem Only.refl (ws : List Nat) (σ : St) : Only ws σ σ := ⟨rfl, fun _ _ => rfl⟩
theorem Only.trans {ws : List Nat} {σ σ1 σ2 : St} (a : Only ws σ σ1) (b : Only ws σ1 σ2) : Only ws σ σ2 := ⟨b.1.trans a.1, fun i h => (b.2 i h).trans (a.2 i h)⟩
theorem Only.mono {ws vs : List Nat} {σ σ1 : St} (a : Only ws σ σ1) (h : ∀ i ∈ ws, i ∈ vs) : Only vs σ σ1 := ⟨a.1, fun i q => a.2 i fun z => q (h i z)⟩
def PostG (K : PySem.W.Frag) (B : Bx) (ws : List Nat) (σ : St) (H : Hp) (Q : SD → Gp → Prop) (P : St → Hp → Prop) : Prop := ∀ σ' sd' H' G', Only ws σ σ' → Kp H H' → RelS H' σ' sd' → Rep K B H' G' → Q sd' G' → P σ' H'
theorem PostN.g {K : PySem.W.Frag} {B : Bx} {ws : List Nat} {σ : St} {H : Hp} {Q : SD → Gp → Prop} {P : St → Hp → Prop} (h : PostN K B H Q P) : PostG K B ws σ H Q P := fun a b c d _ => h a b c d
structure DG (X : Cx) (B : Bx) (target : Expr) (ws : List Nat) (t : DTG) : Prop where
  ex : ∃ g : TG, PG X target g ∧ ∀ v d σ H sd G Q P, Rel H d v → RelS H σ sd → Rep X.K B H G → t d sd G Q → PostG X.K B ws σ H Q P → g v σ H P
structure DGs (X : Cx) (B : Bx) (targets : List Expr) (ws : List Nat) (t : DTGs) : Prop where
  ex : ∃ g : TGs, PGs X targets g ∧ ∀ vs ds σ H sd G Q P, RelL H ds vs → RelS H σ sd → Rep X.K B H G → t ds sd G Q → PostG X.K B ws σ H Q P → g vs σ H P
def dgName (i : Nat) : DTG := fun d sd G Q => Q (sd.set i (some d)) G
def dgNil : DTGs := fun ds sd G Q => match ds with
  | [] => Q sd G
  | _ => False
def dgCons (t : DTG) (u : DTGs) : DTGs := fun ds sd G Q => match ds with
  | d :: r => t d sd G fun sd' G' => u r sd' G' Q
  | [] => False
def dgTup (n : Nat) (t : DTGs) : DTG := fun d sd G Q => match d with
  | .tup ds => if ds.length = n then t ds sd G Q else False
  | _ => False
def dAsg (te : DTE) (g : DTG) : DTS := fun D sd G => te sd G fun d G1 => g d sd G1 D.nx
section
variable {X : Cx} {B : Bx} {pos : Pos} {e : Expr} {te : DTE} {g : DTG} {gs : DTGs} {ws vs : List Nat}
theorem dg_name {i : Nat} {x : Str} (hN : X.N.Nodup) (hi : X.N[i]? = some x) (hx : Loc X.env.scope x) (hf : X.fn x = true ∨ X.env.scope.names.lookup x = some .local := by first | exact .inl rfl | exact .inr rfl | assumption) : DG X B (.Name x pos) [i] (dgName i) :=
  ⟨_, pg_name hN hi hx hf, fun v d σ H sd G Q P r hs R t hp => hp _ _ H G ⟨by simp, fun j hj => List.getElem?_set_ne fun z => hj (by simp [z])⟩ (.refl H) (hs.set r i) R t⟩
theorem dgs_nil : DGs X B [] [] dgNil := ⟨_, pgs_nil, fun vs ds σ H sd G Q P r hs R t hp => by
  cases ds with
  | nil => exact ⟨relL_nil.mp r, hp σ sd H G (.refl _ σ) (.refl H) hs R t⟩
  | cons _ _ => exact (show False from t).elim⟩
theorem dgs_cons {es : List Expr} (h1 : DG X B e ws g) (h2 : DGs X B es vs gs) (hs : (assignEach (e :: es) X.env).map (·.2) = assign e X.env :: (assignEach es X.env).map (·.2) := by rfl) : DGs X B (e :: es) (ws ++ vs) (dgCons g gs) := by
  obtain ⟨g', p1, h1⟩ := h1.ex
  obtain ⟨gs', p2, h2⟩ := h2.ex
  refine ⟨_, pgs_cons p1 p2 hs, fun vs ds σ H sd G Q P r hs R t hp => ?_⟩
  cases ds with
  | nil => exact (show False from t).elim
  | cons d ds =>
    obtain ⟨x, xr, rfl, r1, r2⟩ := r
    refine ⟨x, xr, rfl, h1 x d σ H sd G _ _ r1 hs R t fun σ1 sd1 H1 G1 o1 k1 hs1 R1 q1 => ?_⟩
    exact h2 xr ds σ1 H1 sd1 G1 Q P (r2.mono k1) hs1 R1 q1 fun σ2 sd2 H2 G2 o2 k2 hs2 R2 q2 =>
      hp σ2 sd2 H2 G2 ((o1.mono fun i h => List.mem_append_left _ h).trans (o2.mono fun i h => List.mem_append_right _ h)) (k1.trans k2) hs2 R2 q2
theorem dg_tup {es : List Expr} {k n : Nat} (hc : X.calm = true) (h : DGs X B es ws gs) (hn : (assignEach es X.env).length = n := by rfl) (hst : (assignEach es X.env).findIdx? (·.1) = none := by rfl) : DG X B (.Tuple es k pos) ws (dgTup n gs) := by
  obtain ⟨g', p1, h1⟩ := h.ex
  refine ⟨_, pg_tup hc p1 hn hst, fun v d σ H sd G Q P r hs R t hp => ?_⟩
  cases d with
  | tup ds =>
    obtain ⟨a, xs, rfl, e1, r1, z1⟩ := r
    have t' : (if ds.length = n then gs ds sd G Q else False) := t
    by_cases hl : ds.length = n
    · rw [if_pos hl] at t'
      exact ⟨a, xs, rfl, e1.sq, by rw [← r1.length]; exact hl, h1 xs ds σ H sd G Q P r1 hs R t' hp⟩
    · rw [if_neg hl] at t'
      exact t'.elim
  | _ => exact (show False from t).elim
theorem ds_asg {tg : Expr} (he : DE X B e te) (hg : DG X B tg ws g) (hs : swapsWithSole [tg] e pos.line X.env = pure false := by rfl) (hw : swappedStores [tg] e X.env = pure none := by rfl)
    (h1 : (assignEach [tg] X.env).map (·.2) = [assign tg X.env] := by rfl) : DS X B (.Assign [tg] e pos) (dAsg te g) := by
  obtain ⟨te', pe, he⟩ := he.ex
  obtain ⟨g', pg, hg⟩ := hg.ex
  refine ⟨_, ps_asg pe pg hs hw h1, fun σ H sd G DD D hs R t hp => ?_⟩
  refine he σ H sd G _ _ hs R t fun v d H1 G1 k1 r1 R1 q1 => ?_
  exact hg v d σ H1 sd G1 _ _ r1 (hs.mono k1) R1 q1 (hp.nx.mono k1).g
theorem ds_set {i : Nat} {x : Str} {pos' : Pos} (hN : X.N.Nodup) (hi : X.N[i]? = some x) (hx : Loc X.env.scope x) (he : DE X B e te) (hs : swapsWith e (some (.Name x pos')) pos.line X.env = pure false := by rfl)
    (hf : X.fn x = true ∨ X.env.scope.names.lookup x = some .local := by first | exact .inl rfl | exact .inr rfl | assumption) : DS X B (.Assign [.Name x pos'] e pos) (dAsg te (dgName i)) := by
  obtain ⟨te', pe, he⟩ := he.ex
  refine ⟨_, ps_set hN hi hx pe hs hf, fun σ H sd G DD D hs R t hp => ?_⟩
  refine he σ H sd G _ _ hs R t fun v d H1 G1 k1 r1 R1 q1 => ?_
  exact hp.nx _ _ H1 G1 k1 ((hs.mono k1).set r1 i) R1 q1
/-- a, b = x, y -/
def dPar (i j : Nat) (ta : DTA) : DTS := fun D sd G => ta sd G fun ds G1 => match ds with
  | [d, e] => D.nx ((sd.set i (some d)).set j (some e)) G1
  | _ => False
theorem ds_par {i j : Nat} {x y : Str} {a b : Expr} {ta : DTA} {px py pt : Pos} {kt k2 pt2} (hc : X.calm = true) (hN : X.N.Nodup) (hi : X.N[i]? = some x) (hj : X.N[j]? = some y) (hij : i ≠ j)
    (hx : X.env.scope.names.lookup x = some .local) (hy : X.env.scope.names.lookup y = some .local) (ha : DA X B [a, b] ta)
    (hw : swappedStores [.Tuple [.Name x px, .Name y py] kt pt] (.Tuple [a, b] k2 pt2) X.env = pure (some [x, y]))
    (hs : swapsWithSole [.Tuple [.Name x px, .Name y py] kt pt] (.Tuple [a, b] k2 pt2) pos.line X.env = pure false := by rfl) :
    DS X B (.Assign [.Tuple [.Name x px, .Name y py] kt pt] (.Tuple [a, b] k2 pt2) pos) (dPar i j ta) := by
  obtain ⟨ta', pa, ha⟩ := ha.ex
  refine ⟨_, ps_par hc hN hi hj hij hx hy pa hw hs, fun σ H sd G DD D hs R t hp => ?_⟩
  refine ha σ H sd G _ _ hs R t fun vs ds H1 G1 _ k1 r1 R1 q1 => ?_
  match ds, q1, r1 with
  | [d, e], q1, r1 =>
    obtain ⟨v, r, rfl, h1, w, r', rfl, h2, h3⟩ := r1
    cases (relL_nil.mp h3)
    exact ⟨v, w, rfl, hp.nx _ _ H1 G1 k1 (((hs.mono k1).set h1 i).set h2 j) R1 q1⟩
  | [], q1, _ => exact (show False from q1).elim
  | [_], q1, _ => exact (show False from q1).elim
  | _ :: _ :: _ :: _, q1, _ => exact (show False from q1).elim
end

/-! ### arguments, displays -/
def daNil : DTA := fun _ G Q => Q [] G
def daCons (ta : DTE) (tr : DTA) : DTA := fun sd G Q => ta sd G fun d G1 => tr sd G1 fun ds G2 => Q (d :: ds) G2
def dTup (t : DTA) : DTE := fun sd G Q => t sd G fun ds G1 => Q (.tup ds) G1
def dLst (t : DTA) : DTE := fun sd G Q => t sd G fun ds G1 => ∀ p, Nw G1 p → Q (.ref p) (put G1 p (.lst ds))
section
variable {X : Cx} {B : Bx} {pos : Pos} {e : Expr} {es : List Expr} {te : DTE} {t : DTA}
theorem da_nil : DA X B [] daNil := ⟨_, pa_nil, fun σ H sd G Q P hs R t hp => hp [] [] H G rfl (.refl H) rfl R t⟩
theorem da_cons (ha : DE X B e te) (hr : DA X B es t) (hs : starEach (e :: es) X.env = (false, eval e X.env) :: starEach es X.env := by rfl) : DA X B (e :: es) (daCons te t) := by
  obtain ⟨te', pe, he⟩ := ha.ex
  obtain ⟨t', pa, ha⟩ := hr.ex
  refine ⟨_, pa_cons pe pa hs, fun σ H sd G Q P hs R t hp => ?_⟩
  refine he σ H sd G _ _ hs R t fun v d H1 G1 k1 r1 R1 q1 => ?_
  refine ha σ H1 sd G1 _ _ (hs.mono k1) R1 q1 fun vs ds H2 G2 n2 k2 r2 R2 q2 => ?_
  exact hp (v :: vs) (d :: ds) H2 G2 (by simp [n2]) (k1.trans k2) (relL_cons.mpr ⟨r1.mono k2, r2⟩) R2 q2
/-- displays are short -/
theorem de_tup {x1} (h : DA X B es t) (hz : es.length ≤ 1000 := by decide) : DE X B (.Tuple es x1 pos) (dTup t) := by
  obtain ⟨t', pa, ha⟩ := h.ex
  refine ⟨_, pe_tupX pa, fun σ H sd G Q P hs R t hp => ?_⟩
  refine ha σ H sd G _ _ hs R t fun vs ds H1 G1 n1 k1 r1 R1 q1 => ?_
  refine ⟨by rw [← r1.length, n1]; exact Nat.le_trans hz (by decide), offs ds, fun p o ho hp1 => ?_⟩
  exact hp _ (.tup ds) _ G1 (k1.trans (.fresh hp1)) ⟨p, vs, rfl, TupH.new ho, r1.mono (.fresh hp1), by rw [n1]; exact Nat.le_trans hz (by decide)⟩ (R1.fresh hp1) q1
theorem de_lst (h : DA X B es t) (hz : es.length ≤ 1000 := by decide) : DE X B (.List es pos) (dLst t) := by
  obtain ⟨t', pa, ha⟩ := h.ex
  refine ⟨_, pe_lst pa, fun σ H sd G Q P hs R t hp => ?_⟩
  refine ha σ H sd G _ _ hs R t fun vs ds H1 G1 n1 k1 r1 R1 q1 => ?_
  refine ⟨by rw [← r1.length, n1]; exact Nat.le_trans hz (by decide), fun p hp1 => ?_⟩
  exact hp _ (.ref p) _ _ (k1.trans (.fresh hp1)) rfl (R1.laid (o := .lst ds) hp1 ⟨vs, upd_same, r1.mono (.fresh hp1), by rw [n1]; exact Nat.le_trans hz (by decide)⟩) (q1 p (R1.gnone hp1))
end

/-! ### the uniform reading -/
def LE (K : PySem.W.Frag) (B : Bx) (t : DTE) : TE := fun σ H P => ∃ sd G Q, RelS H σ sd ∧ Rep K B H G ∧ t sd G Q ∧ PostE K B H Q P
def LT (K : PySem.W.Frag) (B : Bx) (t : DTT) : TT := fun σ H P => ∃ sd G Q, RelS H σ sd ∧ Rep K B H G ∧ t sd G Q ∧ PostT K B H Q P
def LG (K : PySem.W.Frag) (B : Bx) (ws : List Nat) (t : DTG) : TG := fun v σ H P => ∃ d sd G Q, Rel H d v ∧ RelS H σ sd ∧ Rep K B H G ∧ t d sd G Q ∧ PostG K B ws σ H Q P
section
variable {X : Cx} {B : Bx} {e : Expr} {t : DTE} {tt : DTT} {g : DTG} {ws : List Nat}
theorem DE.pe (h : DE X B e t) : PE X e (LE X.K B t) := by
  obtain ⟨te, p, w⟩ := h.ex
  exact ⟨fun pins s σ H Q I ⟨sd, G, Q', h1, h2, h3, h4⟩ => p.run pins s σ H Q I (w σ H sd G Q' Q h1 h2 h3 h4)⟩
theorem DT.pt (h : DT X B e tt) : PT X e (LT X.K B tt) := by
  obtain ⟨te, p, w⟩ := h.ex
  exact ⟨fun pins s σ H Q I ⟨sd, G, Q', h1, h2, h3, h4⟩ => p.run pins s σ H Q I (w σ H sd G Q' Q h1 h2 h3 h4)⟩
theorem DG.pg (h : DG X B e ws g) : PG X e (LG X.K B ws g) := by
  obtain ⟨te, p, w⟩ := h.ex
  exact ⟨fun pins s σ H v u Q I r ⟨d, sd, G, Q', h0, h1, h2, h3, h4⟩ => p.run pins s σ H v u Q I r (w v d σ H sd G Q' Q h0 h1 h2 h3 h4)⟩
end
end DL
set_option Elab.async false
set_option linter.all false
set_option maxRecDepth 100000
set_option maxHeartbeats 4000000
namespace DL
open PySem PySem.Spec L2

/-! ### what a loop walks -/
structure ItsD (K : PySem.W.Frag) (B : Bx) (H1 : Hp) (items : List D) (stay : Gp → Prop) (J : It) : Prop where
  len : items.length ≤ sizeLine
  ex : ∃ (GG : Hp → Prop) (Y : Nat → Hp → V → Hp → Prop), Walk J items.length GG Y ∧ (∀ H G, Kp H1 H → Rep K B H G → stay G → GG H) ∧
    (∀ i H G x H', i < items.length → Kp H1 H → Rep K B H G → stay G → Y i H x H' → ∃ d, items[i]? = some d ∧ Rel H' d x ∧ Kp H H' ∧ Rep K B H' G)
abbrev DTI := SD → Gp → (List D → (Gp → Prop) → Gp → Prop) → Prop
structure DI (X : Cx) (B : Bx) (tg iter : Expr) (t : DTI) : Prop where
  ex : ∃ wi : TI, PI X tg iter wi ∧ ∀ σ H sd G QD R, RelS H σ sd → Rep X.K B H G → t sd G QD →
    (∀ J items stay H1 G1, Kp H H1 → Rep X.K B H1 G1 → ItsD X.K B H1 items stay J → QD items stay G1 → R J H1) → wi σ H R

/-! ### for -/
def dForL (stay : Gp → Prop) (g : DTG) (tb : DTS) (DD : DEnds) : List D → SD → Gp → Prop
  | [], sd, G => DD.nx sd G
  | x :: xs, sd, G => g x sd G fun sd1 G1 => tb { DD with nx := fun sd2 G2 => stay G2 ∧ dForL stay g tb DD xs sd2 G2, ct := fun sd2 G2 => stay G2 ∧ dForL stay g tb DD xs sd2 G2, bk := DD.nx } sd1 G1
def dFor (ti : DTI) (g : DTG) (tb : DTS) : DTS := fun DD sd G => ti sd G fun items stay G1 => stay G1 ∧ dForL stay g tb DD items sd G1
theorem drop_at {α : Type} {l : List α} {i : Nat} {d : α} (h : l[i]? = some d) : l.drop i = d :: l.drop (i + 1) := by
  obtain ⟨hl, e⟩ := List.getElem?_eq_some_iff.mp h
  rw [List.drop_eq_getElem_cons hl, e]
section
variable {X : Cx} {B : Bx} {tg iter : Expr} {body : List Stmt} {ti : DTI} {g : DTG} {tb : DTS} {ws : List Nat} {pos : Pos}
theorem ds_for (hp : PassesOwn (model X.prog X.w) X.A X.env X.xe) (hc : X.calm = true) (hi : DI X B tg iter ti) (hg : DG X B tg ws g) (hb : DSs X B body tb)
    (hs : ∀ x, foldedSetIterable iter X.env x = pure x := by intro _; rfl) : DS X B (.For tg iter body [] pos) (dFor ti g tb) := by
  obtain ⟨wi, pi, hi⟩ := hi.ex
  obtain ⟨g', pg, hg⟩ := hg.ex
  obtain ⟨tb', pb, hb⟩ := hb.ex
  refine ⟨_, ps_for hp hc pi pg pb hs, fun σ H sd G DD D hS R t hP => ?_⟩
  refine hi σ H sd G _ _ hS R t fun J items stay H1 G1 k1 R1 its q => ?_
  obtain ⟨GG, Y, w, link, yld⟩ := its.ex
  refine for_it w (fun i σ' H' => ∃ sd' G', RelS H' σ' sd' ∧ Rep X.K B H' G' ∧ Kp H1 H' ∧ stay G' ∧ dForL stay g tb DD (items.drop i) sd' G')
    ⟨sd, G1, hS.mono k1, R1, .refl H1, q.1, q.2⟩ (fun i σ' H' _ ⟨sd', G', h1, h2, h3, h4, _⟩ => link H' G' h3 h2 h4) ?_ ?_
  · rintro i x σ2 H2 H2' hlt ⟨sd2, G2, h1, h2, h3, h4, h5⟩ y
    obtain ⟨d, e, r, k2, R2⟩ := yld i H2 G2 x H2' hlt h3 h2 h4 y
    rw [drop_at e] at h5
    refine hg x d σ2 H2' sd2 G2 _ _ r (h1.mono k2) R2 h5 fun σ3 sd3 H3 G3 o3 k3 hs3 R3 q3 => ?_
    have kk : Kp H H3 := k1.trans (h3.trans (k2.trans k3))
    refine hb σ3 H3 sd3 G3 _ _ hs3 R3 q3 ⟨fun σ4 sd4 H4 G4 k4 hs4 R4 q4 => ?_, hP.rt.mono kk, hP.nx.mono kk, fun σ4 sd4 H4 G4 k4 hs4 R4 q4 => ?_⟩
    · exact ⟨sd4, G4, hs4, R4, h3.trans (k2.trans (k3.trans k4)), q4.1, q4.2⟩
    · exact ⟨sd4, G4, hs4, R4, h3.trans (k2.trans (k3.trans k4)), q4.1, q4.2⟩
  · rintro σ2 H2 ⟨sd2, G2, h1, h2, h3, h4, h5⟩
    rw [List.drop_length] at h5
    exact hP.nx σ2 sd2 H2 G2 (k1.trans h3) h1 h2 h5
end

/-! ### list comprehensions -/
@[simp] def dwipe (sd : SD) : List Nat → SD
  | [] => sd
  | v :: vs => (dwipe sd vs).set v none
theorem RelS.wipe {H : Hp} {σ : St} {sd : SD} (h : RelS H σ sd) : ∀ vs : List Nat, RelS H (wipe σ vs) (dwipe sd vs)
  | [] => h
  | v :: vs => (RelS.wipe h vs).drop v none
theorem wipe_get (σ : St) (i : Nat) : ∀ vs : List Nat, (wipe σ vs)[i]? = if i ∈ vs then (if i < σ.length then some none else none) else σ[i]?
  | [] => by simp [wipe]
  | v :: vs => by
    unfold wipe
    by_cases hv : v = i
    · subst hv
      rw [List.getElem?_set]
      simp [wipe_length]
    · rw [List.getElem?_set_ne hv, wipe_get σ i vs]
      have hv' : ¬ i = v := fun z => hv z.symm
      simp [List.mem_cons, hv']
theorem wipe_only {σ σ2 : St} {vs : List Nat} (o : Only vs (wipe σ vs) σ2) : wipe σ2 vs = wipe σ vs := by
  have hl : σ2.length = σ.length := o.1.trans (wipe_length σ vs)
  refine List.ext_getElem? fun i => ?_
  rw [wipe_get, hl]
  by_cases h : i ∈ vs
  · rw [if_pos h, wipe_get, if_pos h]
  · rw [if_neg h, o.2 i h]
structure DTs (X : Cx) (B : Bx) (ifs : List Expr) (t : DTT) : Prop where
  pts : PTs X ifs (LT X.K B t)
def dYes : DTT := fun _ G Q => Q true G
theorem dts_nil {X : Cx} {B : Bx} : DTs X B [] dYes := ⟨⟨fun pins s σ H Q I ⟨sd, G, Q', h1, h2, h3, h4⟩ => pts_nil.run pins s σ H Q I (h4 true H G (.refl H) h2 h3)⟩⟩
theorem dts_one {X : Cx} {B : Bx} {c : Expr} {t : DTT} (h : DT X B c t) : DTs X B [c] t := ⟨pts_one h.pt⟩

def dcL (stay : Gp → Prop) (g : DTG) (tt : DTT) (te : DTE) (sdw : SD) (p : Addr) (Q : Gp → Prop) : List D → List D → Gp → Prop
  | [], _, G => Q G
  | x :: xs, acc, G => g x sdw G fun sd2 G2 => tt sd2 G2 fun b G3 =>
      if b = true then te sd2 G3 fun y G4 => G4 p = some (.lst acc) ∧ stay (put G4 p (.lst (acc ++ [y]))) ∧ dcL stay g tt te sdw p Q xs (acc ++ [y]) (put G4 p (.lst (acc ++ [y]))) else stay G3 ∧ dcL stay g tt te sdw p Q xs acc G3
def dComp (ti : DTI) (g : DTG) (tt : DTT) (te : DTE) (vs : List Nat) : DTE := fun sd G Q => ti sd G fun items stay G1 => stay G1 ∧
  ∀ p, Nw G1 p → stay (put G1 p (.lst [])) ∧ dcL stay g tt te (dwipe sd vs) p (Q (.ref p)) items [] (put G1 p (.lst []))
section
variable {X : Cx} {B : Bx} {elt tg iter : Expr} {ifs : List Expr} {scope : Scope} {own : List (Str × Nat)} {pos : Pos} {ti : DTI} {g : DTG} {tt : DTT} {te : DTE} {ws : List Nat}
theorem comp_at {wi : TI} {σ : L2.St} {H : Hp} {sd : SD} {G : Gp} {Q : DQ} {P : VK} {vs : List Nat}
    (hi : ∀ σ H sd G QD R, RelS H σ sd → Rep X.K B H G → ti sd G QD → (∀ J items stay H1 G1, Kp H H1 → Rep X.K B H1 G1 → ItsD X.K B H1 items stay J → QD items stay G1 → R J H1) → wi σ H R)
    (hws : ∀ i ∈ ws, i ∈ vs) (hS : RelS H σ sd) (R : Rep X.K B H G) (t : dComp ti g tt te vs sd G Q) (hP : PostE X.K B H Q P) : tLc wi (LG X.K B ws g) (LT X.K B tt) (LE X.K B te) vs σ H P := by
  refine hi σ H sd G _ _ hS R t fun J items stay H1 G1 k1 R1 its q => ?_
  obtain ⟨GG, Y, w, link, yld⟩ := its.ex
  intro D hD
  have gD := R1.gnone hD
  obtain ⟨q0, q⟩ := q
  obtain ⟨q1, q⟩ := q D gD
  have R2 : Rep X.K B (upd H1 D (.lst [])) (put G1 D (.lst [])) := R1.laid (o := .lst []) hD ⟨[], upd_same, rfl, Nat.zero_le _⟩
  have kD : Kp H1 (upd H1 D (.lst [])) := .fresh hD
  refine lc_it w (fun i H' => ∃ acc G', Rep X.K B H' G' ∧ Kp H1 H' ∧ stay G' ∧ acc.length ≤ i ∧ dcL stay g tt te (dwipe sd vs) D (Q (.ref D)) (items.drop i) acc G')
    ⟨[], _, R2, kD, q1, Nat.le_refl _, q⟩ (fun i H' _ ⟨acc, G', h1, h2, h3, _⟩ => link H' G' h2 h1 h3) ?_ ?_
  · rintro i x H2 H2' hlt ⟨acc, G2, h1, h2, h3, h4, h5⟩ y
    obtain ⟨d, e, r, k2, R3⟩ := yld i H2 G2 x H2' hlt h2 h1 h3 y
    rw [drop_at e] at h5
    have kk : Kp H H2' := k1.trans (h2.trans k2)
    refine ⟨d, dwipe sd vs, G2, _, r, (hS.mono kk).wipe vs, R3, h5, fun σ3 sd3 H3 G3 o3 k3 hs3 R3 q3 => ⟨wipe_only (o3.mono hws), ?_⟩⟩
    refine ⟨sd3, G3, _, hs3, R3, q3, fun b H4 G4 k4 R4 q4 => ?_⟩
    cases b with
    | true =>
      rw [if_pos rfl]
      rw [if_pos rfl] at q4
      refine ⟨sd3, G4, _, hs3.mono k4, R4, q4, fun v f H5 G5 k5 r5 R5 q5 => ?_⟩
      obtain ⟨g5, s5, q5⟩ := q5
      obtain ⟨xs, e5, rl, z5⟩ := R5.at_ D _ g5
      have hz : xs.length < sizeLine := by
        rw [← rl.length]
        exact Nat.lt_of_le_of_lt h4 (Nat.lt_of_lt_of_le hlt its.len)
      have kw : Kp H5 (upd H5 D (.lst (xs ++ [v]))) := .write e5 fun _ z => nomatch z
      refine ⟨xs, e5, hz, acc ++ [f], put G5 D (.lst (acc ++ [f])), R5.write e5 (fun _ z => nomatch z) ⟨_, upd_same, (rl.mono kw).append (.one (r5.mono kw)), by simp [rl.length]; omega⟩, ?_, s5, by simp; omega, q5⟩
      exact h2.trans (k2.trans (k3.trans (k4.trans (k5.trans kw))))
    | false =>
      rw [if_neg (by decide)]
      rw [if_neg (by decide)] at q4
      exact ⟨acc, G4, R4, h2.trans (k2.trans (k3.trans k4)), q4.1, by omega, q4.2⟩
  · rintro H2 ⟨acc, G2, h1, h2, h3, h4, h5⟩
    rw [List.drop_length] at h5
    exact hP (.ref D) (.ref D) H2 G2 (k1.trans h2) rfl h1 h5
theorem de_lc (hc : X.calm = true) (hN : X.N.Nodup) (hi : DI X B tg iter ti) (ok : BlkOk X.N X.env.scope scope own) (hws : ∀ i ∈ ws, i ∈ own.map (·.2))
    (hg : ∀ (s : Shared) (H : Hp) (C : Addr) (cl : List (Str × Addr)) (fp : List Addr), DG (X.blk s H scope (compEnvC scope cl C X.env) fp) B tg ws g)
    (ht : ∀ (s : Shared) (H : Hp) (C : Addr) (cl : List (Str × Addr)) (fp : List Addr), DTs (X.blk s H scope (compEnvC scope cl C X.env) fp) B ifs tt)
    (he : ∀ (s : Shared) (H : Hp) (C : Addr) (cl : List (Str × Addr)) (fp : List Addr), DE (X.blk s H scope (compEnvC scope cl C X.env) fp) B elt te)
    (hs : ∀ x, foldedSetIterable iter X.env x = pure x := by intro _; rfl) : DE X B (.ListComp elt [⟨tg, iter, ifs, 0⟩] scope pos) (dComp ti g tt te (own.map (·.2))) := by
  obtain ⟨wi, pi, hi⟩ := hi.ex
  exact ⟨_, pe_lc (g := LG X.K B ws g) (tt := LT X.K B tt) (te := LE X.K B te) hc hN pi ok (fun s H C cl fp => (hg s H C cl fp).pg) (fun s H C cl fp => (ht s H C cl fp).pts) (fun s H C cl fp => (he s H C cl fp).pe) hs,
    fun σ H sd G Q P hS R t hP => comp_at (X := X) hi hws hS R t hP⟩
theorem ds_setLc {i : Nat} {y : Str} {py spos : Pos} (hc : X.calm = true) (hN : X.N.Nodup) (hy : X.N[i]? = some y) (hyl : X.env.scope.names.lookup y = some .local)
    (hsw : swapsWith (.ListComp elt [⟨tg, iter, ifs, 0⟩] scope pos) (some (.Name y py)) spos.line X.env = pure true) (hi : DI X B tg iter ti) (ok : BlkOk X.N X.env.scope scope own) (hws : ∀ i ∈ ws, i ∈ own.map (·.2))
    (hg : ∀ (s : Shared) (H : Hp) (C : Addr) (cl : List (Str × Addr)) (fp : List Addr), DG (X.blk s H scope (compEnvC scope cl C X.env) fp) B tg ws g)
    (ht : ∀ (s : Shared) (H : Hp) (C : Addr) (cl : List (Str × Addr)) (fp : List Addr), DTs (X.blk s H scope (compEnvC scope cl C X.env) fp) B ifs tt)
    (he : ∀ (s : Shared) (H : Hp) (C : Addr) (cl : List (Str × Addr)) (fp : List Addr), DE (X.blk s H scope (compEnvC scope cl C X.env) fp) B elt te)
    (hs : ∀ x, foldedSetIterable iter X.env x = pure x := by intro _; rfl) : DS X B (.Assign [.Name y py] (.ListComp elt [⟨tg, iter, ifs, 0⟩] scope pos) spos) (dAsg (dComp ti g tt te (own.map (·.2))) (dgName i)) := by
  obtain ⟨wi, pi, hi⟩ := hi.ex
  refine ⟨_, ps_setLc (g := LG X.K B ws g) (tt := LT X.K B tt) (te := LE X.K B te) hc hN hy hyl hsw pi ok (fun s H C cl fp => (hg s H C cl fp).pg) (fun s H C cl fp => (ht s H C cl fp).pts) (fun s H C cl fp => (he s H C cl fp).pe) hs, fun σ H sd G DD D hS R t hP => ?_⟩
  refine comp_at (X := X) hi hws hS R t fun v d H1 G1 k1 r1 R1 q1 => ?_
  exact hP.nx _ _ H1 G1 k1 ((hS.mono k1).set r1 i) R1 q1
end

/-! ### comprehensions that only look -/
def Ext (G G' : Gp) : Prop := ∀ a o, G a = some o → G' a = some o
theorem Ext.refl (G : Gp) : Ext G G := fun _ _ h => h
theorem Ext.trans {G G1 G2 : Gp} (a : Ext G G1) (b : Ext G1 G2) : Ext G G2 := fun c o h => b c o (a c o h)
theorem Ext.put {G : Gp} {p : Addr} {o : DO} (h : G p = none) : Ext G (put G p o) := fun c u e => by
  rw [put_ne (fun z => by rw [z, h] at e; cases e)]
  exact e
/-- one turn: f x = some y: y is put; none: passed by -/
def turnIs (g : DTG) (tt : DTT) (te : DTE) (sdw : SD) (x : D) (G : Gp) (r : Option D) : Prop :=
  ∀ (Qs : D → Gp → Prop) (Qn : Gp → Prop), r.elim (Qn G) (fun y => Qs y G) → g x sdw G fun sd2 G2 => tt sd2 G2 fun b G3 => if b = true then te sd2 G3 Qs else Qn G3
theorem dcL_pure {stay : Gp → Prop} {g : DTG} {tt : DTT} {te : DTE} {sdw : SD} {p : Addr} {Q : Gp → Prop} (f : D → Option D) {G : Gp} (hp : G p = none) (hst : ∀ ys, stay (put G p (.lst ys))) :
    ∀ (items acc : List D), (∀ x ∈ items, ∀ ys, turnIs g tt te sdw x (put G p (.lst ys)) (f x)) → Q (put G p (.lst (acc ++ items.filterMap f))) → dcL stay g tt te sdw p Q items acc (put G p (.lst acc))
  | [], acc, _, q => by simpa [dcL] using q
  | x :: xs, acc, h, q => by
    have ih : ∀ acc', Q (put G p (.lst (acc' ++ xs.filterMap f))) → dcL stay g tt te sdw p Q xs acc' (put G p (.lst acc')) := fun acc' q' => dcL_pure f hp hst xs acc' (fun y hy => h y (List.mem_cons_of_mem _ hy)) q'
    refine h x List.mem_cons_self acc _ _ ?_
    cases e : f x with
    | none =>
      refine ⟨hst _, ih acc ?_⟩
      rw [List.filterMap_cons, e] at q
      exact q
    | some y =>
      rw [List.filterMap_cons, e] at q
      show put G p (DO.lst acc) p = some (DO.lst acc) ∧ stay (put (put G p (DO.lst acc)) p (DO.lst (acc ++ [y]))) ∧ dcL stay g tt te sdw p Q xs (acc ++ [y]) (put (put G p (DO.lst acc)) p (DO.lst (acc ++ [y])))
      rw [put_put]
      exact ⟨put_same, hst _, ih _ (by simpa using q)⟩
end DL
set_option Elab.async false
set_option linter.all false
set_option maxRecDepth 100000
set_option maxHeartbeats 4000000
namespace DL
open PySem PySem.Spec L2

/-! ### what is walked -/
def iSeq (K : PySem.W.Frag) (te : TE) : TI := fun σ H R => te σ H fun x H1 => ∃ a, x = .ref a ∧ (((∃ xs, SqL K H1 a xs) ∧ R (Itl K a) H1) ∨ ((∃ xs, SqT K H1 a xs) ∧ R (Itt K a) H1))
theorem pi_seq {X : Cx} {tg l : Expr} {tl : TE} (hl : PE X l tl) : PI X tg l (iSeq X.K tl) := by
  refine ⟨fun pins s σ H R I h => ?_⟩
  refine thn (hl.run pins s σ H _ I h) fun v s1 ⟨x, H1, I1, r1, q1⟩ => ?_
  obtain ⟨a, e, q1⟩ := q1
  subst e
  cases r1
  rcases q1 with ⟨⟨xs, hq⟩, q⟩ | ⟨⟨xs, hq⟩, q⟩
  · obtain ⟨its, rv, p, hz⟩ := I1.list hq
    refine wpAny_pyIter_list p.isList ?_
    refine ⟨s1.heap.objs.size, [s1.heap.objs.size], _, _, H1, rfl, I1.kept (t' := s1.toks) fun b o e => Heap.get?_push_of_some _ e, turn_list a _, ⟨_, Heap.get?_push_size _ rfl, rfl, rfl⟩, fun b hb => ?_, q⟩
    have e : b = s1.heap.objs.size := by simpa using hb
    subst e
    exact I1.fpOk (Nat.le_refl _) (I1.hok.fresh (Nat.le_refl _))
  · obtain ⟨its, rv, p, hz⟩ := I1.tuple hq
    refine wpAny_pyIter_tuple (show s1.heap.IsTuple a its.toArray from p) ?_
    refine ⟨s1.heap.objs.size, [s1.heap.objs.size], _, _, H1, rfl, I1.kept (t' := s1.toks) fun b o e => Heap.get?_push_of_some _ e, turn_tuple a _, ⟨_, Heap.get?_push_size _ rfl, rfl, rfl⟩, fun b hb => ?_, q⟩
    have e : b = s1.heap.objs.size := by simpa using hb
    subst e
    exact I1.fpOk (Nat.le_refl _) (I1.hok.fresh (Nat.le_refl _))
/-- a list to be read -/
def IsLst (G : Gp) (a : Addr) (ds : List D) : Prop := G a = some (.lst ds) ∨ G a = some (.rol ds)
/-- a list, of it -/
def lstO (o : DO) (P : List D → Prop) : Prop := match o with
  | .lst ds => P ds
  | .rol ds => P ds
  | _ => False
theorem lstO_is {G : Gp} {a : Addr} {o : DO} {P : List D → Prop} (h : G a = some o) (q : lstO o P) : ∃ ds, IsLst G a ds ∧ P ds ∧ (o = .lst ds ∨ o = .rol ds) := by
  cases o with
  | lst ds => exact ⟨ds, .inl h, q, .inl rfl⟩
  | rol ds => exact ⟨ds, .inr h, q, .inr rfl⟩
  | _ => exact (show False from q).elim
def diSeq (te : DTE) : DTI := fun sd G R => te sd G fun d G1 => match d with
  | .tup ds => R ds (fun _ => True) G1
  | .ref a => ∃ o, G1 a = some o ∧ lstO o fun ds => R ds (fun G => G a = some o) G1
  | _ => False
section
variable {X : Cx} {B : Bx} {tg e : Expr} {te : DTE} {ta : DTA} {pos p : Pos}
theorem lstRd {K : PySem.W.Frag} {H : Hp} {G : Gp} {a : Addr} {ds : List D} (R : Rep K B H G) (h : IsLst G a ds) : ∃ xs, Rd H a (.lst xs) ∧ RelL H ds xs ∧ ds.length ≤ sizeLine := by
  rcases h with h | h
  · obtain ⟨xs, h1, h2, h3⟩ := R.at_ a _ h
    exact ⟨xs, .inl h1, h2, h3⟩
  · exact R.at_ a _ h
theorem itsL {K : PySem.W.Frag} {H1 : Hp} {a : Addr} {ds : List D} {o : DO} (ho : o = .lst ds ∨ o = .rol ds) (hz : ds.length ≤ sizeLine) : ItsD K B H1 ds (fun G => G a = some o) (Itl K a) := by
  have rd : ∀ {H : Hp} {G : Gp}, Rep K B H G → G a = some o → ∃ xs, Rd H a (.lst xs) ∧ RelL H ds xs ∧ ds.length ≤ sizeLine := fun {H G} R g => lstRd R (by rcases ho with rfl | rfl <;> simp [IsLst, g])
  refine ⟨hz, fun H => ∃ xs, SqL K H a xs ∧ xs.length = ds.length, fun i H x H' => H' = H ∧ ∀ xs, SqL K H a xs → xs[i]? = some x, ⟨fun i H hi ⟨xs, h1, h2⟩ => ⟨xs, xs[i]'(by omega), h1, by simp [h2, hi]⟩, fun H ⟨xs, h1, h2⟩ => ⟨xs, h1, by omega⟩, fun i H x H' hi _ y => y⟩, ?_, ?_⟩
  · intro H G k R st
    obtain ⟨xs, h1, h2, _⟩ := rd R st
    exact ⟨xs, .inl h1, h2.length.symm⟩
  · rintro i H G x H' hi k R st ⟨rfl, y⟩
    obtain ⟨xs, h1, h2, _⟩ := rd R st
    obtain ⟨v, e1, r⟩ := h2.get i (d := ds[i]) (by simp [hi])
    have e2 := y xs (.inl h1)
    rw [e1] at e2
    cases e2
    exact ⟨ds[i], by simp [hi], r, .refl _, R⟩
theorem di_seq (he : DE X B e te) : DI X B tg e (diSeq te) := by
  obtain ⟨te', pe, he⟩ := he.ex
  refine ⟨_, pi_seq pe, fun σ H sd G QD R hS R0 t hP => ?_⟩
  refine he σ H sd G _ _ hS R0 t fun v d H1 G1 k1 r1 R1 q1 => ?_
  cases d with
  | tup ds =>
    obtain ⟨a, xs, rfl, h1, h2, hz⟩ := r1
    refine ⟨a, rfl, .inr ⟨⟨xs, h1.sq⟩, ?_⟩⟩
    refine hP _ ds (fun _ => True) H1 G1 k1 R1 ⟨hz, fun H => SqT X.K H a xs, YAt xs, by rw [h2.length]; exact walk_tup, fun H G k _ _ => (k.tk.1 _ _ _ h1).sq, ?_⟩ q1
    rintro i H G x H' hi k R _ ⟨rfl, y⟩
    obtain ⟨v, e1, r⟩ := h2.get i (d := ds[i]) (by simp [hi])
    rw [e1] at y
    cases y
    exact ⟨ds[i], by simp [hi], r.mono k, .refl _, R⟩
  | ref a =>
    cases r1
    obtain ⟨o, g, q1⟩ := q1
    obtain ⟨ds, q, q1, ho⟩ := lstO_is g q1
    obtain ⟨xs, h1, h2, h3⟩ := lstRd R1 q
    exact ⟨a, rfl, .inl ⟨⟨xs, .inl h1⟩, hP _ ds _ H1 G1 k1 R1 (itsL ho h3) q1⟩⟩
  | _ => exact (show False from q1).elim
/-- range(n) -/
def rngD (lo : Int) (n : Nat) : List D := (List.range n).map fun i => .int (lo + (i : Nat))
def diRng (ta : DTA) : DTI := fun sd G R => ta sd G fun ds G1 => match ds with
  | [.int j] => -(2 ^ 62) ≤ j ∧ j ≤ 1000000 ∧ R (rngD 0 j.toNat) (fun _ => True) G1
  | _ => False
def diRng2 (ta : DTA) : DTI := fun sd G R => ta sd G fun ds G1 => match ds with
  | [.int i, .int j] => (-(2 ^ 62) ≤ i ∧ i ≤ 1000000 ∧ -(2 ^ 62) ≤ j ∧ j ≤ 1000000 ∧ j - i ≤ 1000000) ∧ R (rngD i (j - i).toNat) (fun _ => True) G1
  | _ => False
theorem itsR {K : PySem.W.Frag} {H1 : Hp} {lo : Int} {n : Nat} (hz : n ≤ sizeLine) : ItsD K B H1 (rngD lo n) (fun _ => True) (Itr lo n) := by
  refine ⟨by simpa [rngD] using hz, fun _ => True, YFn fun i => .int (lo + i), by simpa [rngD] using walk_range, fun _ _ _ _ _ => True.intro, ?_⟩
  rintro i H G x H' hi k R _ ⟨rfl, rfl⟩
  have hi' : i < n := by simpa [rngD] using hi
  exact ⟨.int (lo + (i : Nat)), by simp [rngD, hi'], rfl, .refl _, R⟩
theorem di_rng {a : Expr} (hg : Gl X "range") (hm : X.mg "range" = none) (ha : DA X B [a] ta) (hs : starEach [a] X.env = [(false, eval a X.env)] := by rfl) : DI X B tg (.Call (.Name "range" p) [a] [] pos) (diRng ta) := by
  obtain ⟨ta', pa, ha⟩ := ha.ex
  refine ⟨_, pi_range1 hg hm pa hs, fun σ H sd G QD R hS R0 t hP => ?_⟩
  refine ha σ H sd G _ _ hS R0 t fun vs ds H1 G1 _ k1 r1 R1 q1 => ?_
  match ds, q1, r1 with
  | [.int j], q1, r1 =>
    obtain ⟨q2, q3, q4⟩ := q1
    obtain ⟨v, r, rfl, h1, h2⟩ := r1
    cases (relL_nil.mp h2)
    cases h1
    have hz : j.toNat ≤ sizeLine := by rw [sizeLine_eq]; omega
    exact ⟨j, rfl, q2, by omega, hP _ _ _ H1 G1 k1 R1 (itsR hz) q4⟩
theorem di_rng2 {a b : Expr} (hg : Gl X "range") (hm : X.mg "range" = none) (ha : DA X B [a, b] ta) (hs : starEach [a, b] X.env = [(false, eval a X.env), (false, eval b X.env)] := by rfl) (hs2 : starEach [b] X.env = [(false, eval b X.env)] := by rfl) :
    DI X B tg (.Call (.Name "range" p) [a, b] [] pos) (diRng2 ta) := by
  obtain ⟨ta', pa, ha⟩ := ha.ex
  refine ⟨_, pi_range2 hg hm pa hs hs2, fun σ H sd G QD R hS R0 t hP => ?_⟩
  refine ha σ H sd G _ _ hS R0 t fun vs ds H1 G1 _ k1 r1 R1 q1 => ?_
  match ds, q1, r1 with
  | [.int i, .int j], q1, r1 =>
    obtain ⟨⟨q2, q3, q5, q6, q7⟩, q4⟩ := q1
    obtain ⟨v, r, rfl, h1, v', r', rfl, h1', h2⟩ := r1
    cases (relL_nil.mp h2)
    cases h1
    cases h1'
    have hz : (j - i).toNat ≤ sizeLine := by rw [sizeLine_eq]; omega
    exact ⟨i, j, rfl, ⟨q2, by omega, q5, by omega⟩, hP _ _ _ H1 G1 k1 R1 (itsR hz) q4⟩
end
end DL
set_option Elab.async false
set_option linter.all false
set_option maxRecDepth 100000
set_option maxHeartbeats 4000000
namespace DL
open PySem PySem.Spec L2

/-! ### arithmetic -/
def addR : DR2 := fun d e G Q => match d, e with
  | .int i, .int j => Q (.int (i + j)) G
  | .str x, .str y => x.length + y.length ≤ sizeLine ∧ Q (.str (x ++ y)) G
  | .tup x, .tup y => x.length + y.length ≤ sizeLine ∧ Q (.tup (x ++ y)) G
  | .ref a, .ref b => ∃ x y, G a = some (.lst x) ∧ G b = some (.lst y) ∧ x.length + y.length ≤ sizeLine ∧ ∀ p, Nw G p → Q (.ref p) (put G p (.lst (x ++ y)))
  | _, _ => False
def subR : DR2 := fun d e G Q => match d, e with
  | .int i, .int j => Q (.int (i - j)) G
  | _, _ => False
def mulR : DR2 := fun d e G Q => match d, e with
  | .int i, .int j => CMul i j ∧ Q (.int (i * j)) G
  | .ref a, .int k => ∃ x, G a = some (.lst x) ∧ (-(2 ^ 63) ≤ k ∧ k < 2 ^ 63 ∧ x.length * k.toNat ≤ sizeLine) ∧ ∀ p, Nw G p → Q (.ref p) (put G p (.lst (List.replicate k.toNat x).flatten))
  | _, _ => False
def modR : DR2 := fun d e G Q => match d, e with
  | .int i, .int j => 0 < j ∧ Q (.int (i % j)) G
  | _, _ => False
def CDivX (_ j : Int) : Prop := 0 < j ∧ j < 18446744073709551616
def powR : DR2 := fun d e G Q => match d, e with
  | .int i, .int j => CPow i j ∧ Q (.int (i ^ j.toNat)) G
  | _, _ => False
def divR : DR2 := fun d e G Q => match d, e with
  | .int i, .int j => CDivX i j ∧ Q (.int (i / j)) G
  | _, _ => False
def cmpR (p : Int → Int → Bool) : DR2 := fun d e G Q => match d, e with
  | .int i, .int j => Q (.bl (p i j)) G
  | _, _ => False
abbrev ltR := cmpR fun i j => decide (i < j)
abbrev leR := cmpR fun i j => decide (i ≤ j)
abbrev gtR := cmpR fun i j => decide (j < i)
abbrev geR := cmpR fun i j => decide (j ≤ i)
section
variable {X : Cx} {B : Bx}
/-- an operator of two ints -/
theorem dop_int {f : Value → Value → Sem Value} {g : Int → Int → V} {g' : Int → Int → D} {rD : DR2} (h : OpR X f (rI0 g)) (hD : ∀ d e G Q, rD d e G Q → ∃ i j, d = .int i ∧ e = .int j ∧ Q (g' i j) G) (hg : ∀ H i j, Rel H (g' i j) (g i j)) : DOp X B f rD := by
  refine ⟨_, h, fun H G x y d e Q P r1 r2 R q hp => ?_⟩
  obtain ⟨i, j, rfl, rfl, q2⟩ := hD d e G Q q
  cases r1
  cases r2
  exact ⟨i, j, rfl, rfl, hp _ _ H G (.refl H) (hg H i j) R q2⟩
theorem dop_intC {f : Value → Value → Sem Value} {C : Int → Int → Prop} {g : Int → Int → V} {g' : Int → Int → D} {rD : DR2} (h : OpR X f (rI C g)) (hD : ∀ d e G Q, rD d e G Q → ∃ i j, d = .int i ∧ e = .int j ∧ C i j ∧ Q (g' i j) G) (hg : ∀ H i j, Rel H (g' i j) (g i j)) : DOp X B f rD := by
  refine ⟨_, h, fun H G x y d e Q P r1 r2 R q hp => ?_⟩
  obtain ⟨i, j, rfl, rfl, c, q2⟩ := hD d e G Q q
  cases r1
  cases r2
  exact ⟨i, j, rfl, rfl, c, hp _ _ H G (.refl H) (hg H i j) R q2⟩
theorem op_sub : DOp X B (binaryOp .Sub) subR := dop_int (g' := fun i j => .int (i - j)) L2.op_sub (fun d e G Q h => by cases d <;> cases e <;> first | exact (show False from h).elim | exact ⟨_, _, rfl, rfl, h⟩) fun _ _ _ => rfl
theorem op_mod : DOp X B (binaryOp .Mod) modR := dop_intC (g' := fun i j => .int (i % j)) L2.op_mod (fun d e G Q h => by cases d <;> cases e <;> first | exact (show False from h).elim | exact ⟨_, _, rfl, rfl, h⟩) fun _ _ _ => rfl
theorem op_fdivX : OpR X (binaryOp .FloorDiv) (rI CDivX fun i j => .int (i / j)) := opI fun i j _ _ _ _ _ hc q => by
  have h1 : (0 : Int) < j := hc.1
  have h2 : j < 18446744073709551616 := hc.2
  have h3 : j.natAbs < 2 ^ 64 := by omega
  exact PyProof.Rows.floordiv_int (by omega) (by rw [Int.fdiv_eq_ediv_of_nonneg i (by omega)]; exact q) (.inl (PyProof.noPylong_of_log2 (Nat.lt_trans ((Nat.log2_lt (by omega)).mpr h3) (by decide))))
theorem op_pow : DOp X B (binaryOp .Pow) powR := dop_intC (g' := fun i j => .int (i ^ j.toNat)) L2.op_pow (fun d e G Q h => by cases d <;> cases e <;> first | exact (show False from h).elim | exact ⟨_, _, rfl, rfl, h⟩) fun _ _ _ => rfl
theorem op_div : DOp X B (binaryOp .FloorDiv) divR := dop_intC (g' := fun i j => .int (i / j)) op_fdivX (fun d e G Q h => by cases d <;> cases e <;> first | exact (show False from h).elim | exact ⟨_, _, rfl, rfl, h⟩) fun _ _ _ => rfl
theorem op_lt : DOp X B (compareOp .Lt) ltR := dop_int (g' := fun i j => .bl (decide (i < j))) L2.op_lt (fun d e G Q h => by cases d <;> cases e <;> first | exact (show False from h).elim | exact ⟨_, _, rfl, rfl, h⟩) fun _ _ _ => rfl
theorem op_le : DOp X B (compareOp .LtE) leR := dop_int (g' := fun i j => .bl (decide (i ≤ j))) L2.op_le (fun d e G Q h => by cases d <;> cases e <;> first | exact (show False from h).elim | exact ⟨_, _, rfl, rfl, h⟩) fun _ _ _ => rfl
theorem op_gt : DOp X B (compareOp .Gt) gtR := dop_int (g' := fun i j => .bl (decide (j < i))) L2.op_gt (fun d e G Q h => by cases d <;> cases e <;> first | exact (show False from h).elim | exact ⟨_, _, rfl, rfl, h⟩) fun _ _ _ => rfl
theorem op_ge : DOp X B (compareOp .GtE) geR := dop_int (g' := fun i j => .bl (decide (j ≤ i))) L2.op_ge (fun d e G Q h => by cases d <;> cases e <;> first | exact (show False from h).elim | exact ⟨_, _, rfl, rfl, h⟩) fun _ _ _ => rfl
theorem okS_append {x y : Str} (hx : OkS x) (hy : OkS y) : OkS (x ++ y) := by
  unfold OkS PyData.strOk at *
  have e : (x ++ y).cps = x.cps ++ y.cps := rfl
  rw [e, Array.all_append, hx, hy]
  rfl
theorem tup_new {K : PySem.W.Frag} {H : Hp} {G : Gp} {p : Addr} {ds : List D} {xs : List V} {o : Obj} (ho : o.dict = none) (n : H p = none) (r : RelL H ds xs) (z : ds.length ≤ sizeLine) (R : Rep K B H G) : Kp H (upd H p (tuO (offs ds) o xs)) ∧ Rel (upd H p (tuO (offs ds) o xs)) (.tup ds) (.ref p) ∧ Rep K B (upd H p (tuO (offs ds) o xs)) G :=
  ⟨.fresh n, ⟨p, xs, rfl, TupH.new ho, r.mono (.fresh n), z⟩, R.fresh n⟩
theorem lst_new {K : PySem.W.Frag} {H : Hp} {G : Gp} {p : Addr} {ds : List D} {xs : List V} (n : H p = none) (r : RelL H ds xs) (z : ds.length ≤ sizeLine) (R : Rep K B H G) : Kp H (upd H p (.lst xs)) ∧ Rep K B (upd H p (.lst xs)) (put G p (.lst ds)) :=
  ⟨.fresh n, R.laid n ⟨xs, upd_same, r.mono (.fresh n), z⟩⟩
theorem lst_at {K : PySem.W.Frag} {H : Hp} {G : Gp} {a : Addr} {ds : List D} (R : Rep K B H G) (h : G a = some (.lst ds)) : ∃ xs, H a = some (.lst xs) ∧ RelL H ds xs ∧ ds.length ≤ sizeLine := R.at_ a _ h
theorem op_add : DOp X B (binaryOp .Add) addR := by
  refine ⟨_, (L2.op_add.or (L2.op_add_str.or (op_catX.or L2.op_cat))), fun H G x y d e Q P r1 r2 R q hp => ?_⟩
  cases d with
  | int i =>
    cases e <;> first | exact (show False from q).elim | skip
    cases r1
    cases r2
    exact .inl ⟨_, _, rfl, rfl, hp _ (.int _) H G (.refl H) rfl R q⟩
  | str i =>
    cases e <;> first | exact (show False from q).elim | skip
    rename_i j
    obtain ⟨rfl, o1⟩ := r1
    obtain ⟨rfl, o2⟩ := r2
    exact .inr (.inl ⟨_, _, rfl, rfl, q.1, hp _ (.str (i ++ j)) H G (.refl H) ⟨rfl, okS_append o1 o2⟩ R q.2⟩)
  | tup ds =>
    cases e <;> first | exact (show False from q).elim | skip
    rename_i es
    obtain ⟨a, xs, rfl, h1, h2, h3⟩ := r1
    obtain ⟨b, ys, rfl, h1', h2', h3'⟩ := r2
    have q' : ds.length + es.length ≤ sizeLine ∧ Q (.tup (ds ++ es)) G := q
    refine .inr (.inr (.inl ⟨a, b, xs, ys, rfl, rfl, h1.sq, h1'.sq, by rw [← h2.length, ← h2'.length]; exact q'.1, fun e => ?_, fun e e2 => ?_, fun _ _ => ⟨offs (ds ++ es), fun p o ho hn => ?_⟩⟩))
    · have z : ds = [] := List.eq_nil_of_length_eq_zero (by rw [h2.length, e]; rfl)
      subst z
      exact hp _ (.tup es) H G (.refl H) ⟨b, ys, rfl, h1', h2', h3'⟩ R q'.2
    · have z : es = [] := List.eq_nil_of_length_eq_zero (by rw [h2'.length, e2]; rfl)
      subst z
      rw [List.append_nil] at q'
      exact hp _ (.tup ds) H G (.refl H) ⟨a, xs, rfl, h1, h2, h3⟩ R q'.2
    · obtain ⟨k, r, R'⟩ := tup_new ho hn (h2.append h2') (by rw [List.length_append]; exact q'.1) R
      exact hp _ _ _ G k r R' q'.2
  | ref a =>
    cases e <;> first | exact (show False from q).elim | skip
    rename_i b
    obtain ⟨xd, yd, h1, h2, hz, q⟩ := q
    cases r1
    cases r2
    obtain ⟨xs, e1, r1, _⟩ := lst_at R h1
    obtain ⟨ys, e2, r2, _⟩ := lst_at R h2
    refine .inr (.inr (.inr ⟨a, b, xs, ys, rfl, rfl, e1, e2, by rw [← r1.length, ← r2.length]; exact hz, fun p hn => ?_⟩))
    obtain ⟨k, R'⟩ := lst_new hn (r1.append r2) (by rw [List.length_append]; exact hz) R
    exact hp _ (.ref p) _ _ k rfl R' (q p (R.gnone hn))
  | _ => exact (show False from q).elim
theorem op_mul : DOp X B (binaryOp .Mult) mulR := by
  refine ⟨_, (L2.op_mul.or L2.op_rep), fun H G x y d e Q P r1 r2 R q hp => ?_⟩
  cases d with
  | int i =>
    cases e <;> first | exact (show False from q).elim | skip
    cases r1
    cases r2
    exact .inl ⟨_, _, rfl, rfl, q.1, hp _ (.int _) H G (.refl H) rfl R q.2⟩
  | ref a =>
    cases e <;> first | exact (show False from q).elim | skip
    rename_i k
    obtain ⟨xd, h1, ⟨hz1, hz2, hz⟩, q⟩ := q
    cases r1
    cases r2
    obtain ⟨xs, e1, r1, _⟩ := lst_at R h1
    refine .inr ⟨a, k, xs, rfl, rfl, e1, hz1, hz2, by rw [← r1.length]; exact hz, fun p hn => ?_⟩
    obtain ⟨kp, R'⟩ := lst_new hn (r1.rep k.toNat) (by rw [(r1.rep k.toNat).length]; simp [← r1.length, Nat.mul_comm] at hz ⊢; exact hz) R
    exact hp _ (.ref p) _ _ kp rfl R' (q p (R.gnone hn))
  | _ => exact (show False from q).elim
end
end DL
set_option Elab.async false
set_option linter.all false
set_option maxRecDepth 100000
set_option maxHeartbeats 4000000
namespace DL
open PySem PySem.Spec L2

/-! ### data: no references, a depth -/
def dat : Nat → D → Bool
  | _, .non => true
  | _, .bl _ => true
  | _, .int _ => true
  | _, .str _ => true
  | n + 1, .tup ds => ds.all (dat n)
  | _, _ => false
mutual
def toPD : D → PyData
  | .non => .none
  | .bl b => .bool b
  | .int i => .int i
  | .str s => .str s
  | .tup ds => .tuple (toPDs ds)
  | .ty _ => .none
  | .ref _ => .none
def toPDs : List D → List PyData
  | [] => []
  | d :: ds => toPD d :: toPDs ds
end
theorem toPDs_map : ∀ ds : List D, toPDs ds = ds.map toPD
  | [] => rfl
  | d :: ds => by simp [toPDs, toPDs_map ds]
/-- Python's == of data -/
def peq (d e : D) : Bool := PyData.eqv (toPD d) (toPD e)
def peqL (ds es : List D) : Bool := PyData.eqvAll (ds.map toPD) (es.map toPD)
theorem canLayAll0_iff : ∀ ds : List PyData, PyData.canLayAll0 ds = true ↔ ∀ d ∈ ds, d.canLay0 = true
  | [] => by simp [PyData.canLayAll0]
  | d :: ds => by simp [PyData.canLayAll0, canLayAll0_iff ds]
theorem depthAll_le : ∀ (ds : List PyData) (n : Nat), (∀ d ∈ ds, d.depth ≤ n) → PyData.depthAll ds ≤ n
  | [], n, _ => by simp [PyData.depthAll]
  | d :: ds, n, h => by
    have h1 := h d List.mem_cons_self
    have h2 := depthAll_le ds n fun e he => h e (List.mem_cons_of_mem _ he)
    simp [PyData.depthAll]
    omega
mutual
theorem dat_dp {K : PySem.W.Frag} {H : Hp} : ∀ (d : D) (n : Nat) (v : V), dat n d = true → Rel H d v → Dp K H v (toPD d) ∧ (toPD d).canLay0 = true ∧ (toPD d).depth ≤ n
  | .non, n, v, _, r => by cases r; exact ⟨.non, by simp [toPD, PyData.canLay0], by simp [toPD, PyData.depth]⟩
  | .bl b, n, v, _, r => by cases r; exact ⟨.bl b, by simp [toPD, PyData.canLay0], by simp [toPD, PyData.depth]⟩
  | .int b, n, v, _, r => by cases r; exact ⟨.int b, by simp [toPD, PyData.canLay0], by simp [toPD, PyData.depth]⟩
  | .str b, n, v, _, r => by obtain ⟨rfl, o⟩ := r; exact ⟨.str b, by simpa [toPD, PyData.canLay0] using o, by simp [toPD, PyData.depth]⟩
  | .tup ds, 0, v, h, _ => by cases h
  | .tup ds, n + 1, v, h, r => by
    obtain ⟨a, xs, rfl, h1, h2, _⟩ := r
    have hd : ∀ d ∈ ds, dat n d = true := by simpa [dat, List.all_eq_true] using h
    obtain ⟨q1, q2, q3⟩ := dat_dpL ds n xs hd h2
    refine ⟨.tup h1.sq q1, ?_, ?_⟩
    · simp only [toPD, PyData.canLay0]
      exact (canLayAll0_iff _).mpr q2
    · have := depthAll_le _ n q3
      simp only [toPD, PyData.depth]
      omega
  | .ty _, n, v, h, _ => by cases n <;> cases h
  | .ref _, n, v, h, _ => by cases n <;> cases h
theorem dat_dpL {K : PySem.W.Frag} {H : Hp} : ∀ (ds : List D) (n : Nat) (xs : List V), (∀ d ∈ ds, dat n d = true) → RelL H ds xs → DpAll K H xs (toPDs ds) ∧ (∀ d ∈ toPDs ds, d.canLay0 = true) ∧ (∀ d ∈ toPDs ds, d.depth ≤ n)
  | [], n, xs, _, r => by cases (relL_nil.mp r); exact ⟨.nil, by simp [toPDs], by simp [toPDs]⟩
  | d :: ds, n, xs, h, r => by
    obtain ⟨x, r, rfl, r1, r2⟩ := r
    obtain ⟨a1, a2, a3⟩ := dat_dp (K := K) d n x (h d List.mem_cons_self) r1
    obtain ⟨b1, b2, b3⟩ := dat_dpL (K := K) ds n r (fun e he => h e (List.mem_cons_of_mem _ he)) r2
    exact ⟨.cons a1 b1, by simp [toPDs]; exact ⟨a2, b2⟩, by simp [toPDs]; exact ⟨a3, b3⟩⟩
end

theorem shaped_of {d : PyData} (h1 : d.canLay0 = true) (h2 : d.depth ≤ 64) : SeqAt.shaped d = true := by
  unfold SeqAt.shaped
  rw [h1, decide_eq_true h2]
  rfl
theorem dat_dp' {K : PySem.W.Frag} {H : Hp} {d : D} {v : V} (h : dat 20 d = true) (r : Rel H d v) : Dp K H v (toPD d) ∧ SeqAt.shaped (toPD d) = true := by
  obtain ⟨h1, h2, h3⟩ := dat_dp (K := K) d 20 v h r
  exact ⟨h1, shaped_of h2 (by omega)⟩
theorem dat_dpL' {K : PySem.W.Frag} {B : Bx} {H : Hp} {G : Gp} {a : Addr} {o : DO} {ds : List D} (R : Rep K B H G) (g : G a = some o) (ho : o = .lst ds ∨ o = .rol ds) (h : ds.all (dat 20) = true) : Dp K H (.ref a) (.list (ds.map toPD)) ∧ SeqAt.shaped (.list (ds.map toPD)) = true := by
  have il : IsLst G a ds := by rcases ho with rfl | rfl <;> simp [IsLst, g]
  obtain ⟨xs, h1, h2, _⟩ := lstRd R il
  obtain ⟨q1, q2, q3⟩ := dat_dpL (K := K) ds 20 xs (by simpa [List.all_eq_true] using h) h2
  rw [toPDs_map] at q1 q2 q3
  refine ⟨.lst (.inl h1) q1, shaped_of ?_ ?_⟩
  · simp only [PyData.canLay0]
    exact (canLayAll0_iff _).mpr q2
  · have := depthAll_le _ 20 q3
    simp only [PyData.depth]
    omega
/-- d == e -/
def eqV (neg : Bool) : DR2 := fun d e G Q => match d, e with
  | .ref a, .ref b => ∃ o, G a = some o ∧ lstO o fun x => ∃ o', G b = some o' ∧ lstO o' fun y => (x.all (dat 20) && y.all (dat 20)) = true ∧ Q (.bl (peqL x y != neg)) G
  | .ref a, e => ∃ o, G a = some o ∧ lstO o fun x => (x.all (dat 20) && dat 20 e) = true ∧ Q (.bl neg) G
  | e, .ref a => ∃ o, G a = some o ∧ lstO o fun x => (x.all (dat 20) && dat 20 e) = true ∧ Q (.bl neg) G
  | d, e => (dat 20 d && dat 20 e) = true ∧ Q (.bl (peq d e != neg)) G
abbrev eqR : DR2 := eqV false
abbrev neR : DR2 := eqV true
/-- .. as data -/
theorem eqV_data {K : PySem.W.Frag} {B : Bx} {H : Hp} {G : Gp} {d e : D} {x y : V} {neg : Bool} {Q : DQ} (r1 : Rel H d x) (r2 : Rel H e y) (R : Rep K B H G) (q : eqV neg d e G Q) :
    ∃ pd pe, Dp K H x pd ∧ Dp K H y pe ∧ SeqAt.shaped pd = true ∧ SeqAt.shaped pe = true ∧ Q (.bl (PyData.eqv pd pe != neg)) G := by
  have lists : ∀ {a : Addr} {e : D} {y : V}, Rel H e y → (∃ o, G a = some o ∧ lstO o fun x => (x.all (dat 20) && dat 20 e) = true ∧ Q (.bl neg) G) →
      ∃ (l : List PyData), Dp K H (.ref a) (.list l) ∧ Dp K H y (toPD e) ∧ SeqAt.shaped (.list l) = true ∧ SeqAt.shaped (toPD e) = true ∧ Q (.bl neg) G := fun {a e y} r ⟨o, g, q⟩ => by
    obtain ⟨ds, il, ⟨h, q⟩, ho⟩ := lstO_is g q
    obtain ⟨z1, z2⟩ := Bool.and_eq_true_iff.mp h
    obtain ⟨a1, a2⟩ := dat_dpL' R g ho z1
    obtain ⟨b1, b2⟩ := dat_dp' (K := K) z2 r
    exact ⟨_, a1, b1, a2, b2, q⟩
  have plain : (dat 20 d && dat 20 e) = true ∧ Q (.bl (peq d e != neg)) G → ∃ pd pe, Dp K H x pd ∧ Dp K H y pe ∧ SeqAt.shaped pd = true ∧ SeqAt.shaped pe = true ∧ Q (.bl (PyData.eqv pd pe != neg)) G := fun ⟨h, q⟩ => by
    obtain ⟨z1, z2⟩ := Bool.and_eq_true_iff.mp h
    obtain ⟨a1, a2⟩ := dat_dp' (K := K) z1 r1
    obtain ⟨b1, b2⟩ := dat_dp' (K := K) z2 r2
    exact ⟨_, _, a1, b1, a2, b2, q⟩
  cases d with
  | ref a =>
    cases r1
    cases e with
    | ref b =>
      cases r2
      obtain ⟨o, g, q⟩ := q
      obtain ⟨ds, il, ⟨o', g', q⟩, ho⟩ := lstO_is g q
      obtain ⟨es, il', ⟨h, q⟩, ho'⟩ := lstO_is g' q
      obtain ⟨z1, z2⟩ := Bool.and_eq_true_iff.mp h
      obtain ⟨a1, a2⟩ := dat_dpL' R g ho z1
      obtain ⟨b1, b2⟩ := dat_dpL' R g' ho' z2
      refine ⟨_, _, a1, b1, a2, b2, ?_⟩
      simpa [PyData.eqv, peqL] using q
    | non => obtain ⟨l, a1, b1, a2, b2, q⟩ := lists r2 q; exact ⟨_, _, a1, b1, a2, b2, by simpa [PyData.eqv, toPD] using q⟩
    | bl _ => obtain ⟨l, a1, b1, a2, b2, q⟩ := lists r2 q; exact ⟨_, _, a1, b1, a2, b2, by simpa [PyData.eqv, toPD] using q⟩
    | int _ => obtain ⟨l, a1, b1, a2, b2, q⟩ := lists r2 q; exact ⟨_, _, a1, b1, a2, b2, by simpa [PyData.eqv, toPD] using q⟩
    | str _ => obtain ⟨l, a1, b1, a2, b2, q⟩ := lists r2 q; exact ⟨_, _, a1, b1, a2, b2, by simpa [PyData.eqv, toPD] using q⟩
    | ty _ => obtain ⟨o, g, q⟩ := q; obtain ⟨ds, il, ⟨h, q⟩, ho⟩ := lstO_is g q; simp [dat] at h
    | tup _ => obtain ⟨l, a1, b1, a2, b2, q⟩ := lists r2 q; exact ⟨_, _, a1, b1, a2, b2, by simpa [PyData.eqv, toPD] using q⟩
  | non =>
    cases e with
    | ref b => cases r2; obtain ⟨l, a1, b1, a2, b2, q⟩ := lists r1 q; exact ⟨_, _, b1, a1, b2, a2, by simpa [PyData.eqv, toPD] using q⟩
    | _ => exact plain q
  | bl _ =>
    cases e with
    | ref b => cases r2; obtain ⟨l, a1, b1, a2, b2, q⟩ := lists r1 q; exact ⟨_, _, b1, a1, b2, a2, by simpa [PyData.eqv, toPD] using q⟩
    | _ => exact plain q
  | int _ =>
    cases e with
    | ref b => cases r2; obtain ⟨l, a1, b1, a2, b2, q⟩ := lists r1 q; exact ⟨_, _, b1, a1, b2, a2, by simpa [PyData.eqv, toPD] using q⟩
    | _ => exact plain q
  | str _ =>
    cases e with
    | ref b => cases r2; obtain ⟨l, a1, b1, a2, b2, q⟩ := lists r1 q; exact ⟨_, _, b1, a1, b2, a2, by simpa [PyData.eqv, toPD] using q⟩
    | _ => exact plain q
  | ty _ =>
    cases e with
    | ref b => obtain ⟨o, g, q⟩ := q; obtain ⟨ds, il, ⟨h, q⟩, ho⟩ := lstO_is g q; simp [dat] at h
    | _ => exact absurd q.1 (by simp [dat])
  | tup _ =>
    cases e with
    | ref b => cases r2; obtain ⟨l, a1, b1, a2, b2, q⟩ := lists r1 q; exact ⟨_, _, b1, a1, b2, a2, by simpa [PyData.eqv, toPD] using q⟩
    | _ => exact plain q
section
variable {X : Cx} {B : Bx}
theorem op_eq (hu : X.A.units + 64 < cLine) : DOp X B (compareOp .Eq) eqR := by
  refine ⟨_, op_eqD hu, fun H G x y d e Q P r1 r2 R q hp => ?_⟩
  obtain ⟨pd, pe, a1, a2, a3, a4, q⟩ := eqV_data r1 r2 R q
  exact ⟨pd, pe, a1, a2, a3, a4, hp _ (.bl _) H G (.refl H) rfl R (by simpa using q)⟩
theorem op_ne (hu : X.A.units + 64 < cLine) : DOp X B (compareOp .NotEq) neR := by
  refine ⟨_, op_neD hu, fun H G x y d e Q P r1 r2 R q hp => ?_⟩
  obtain ⟨pd, pe, a1, a2, a3, a4, q⟩ := eqV_data r1 r2 R q
  exact ⟨pd, pe, a1, a2, a3, a4, hp _ (.bl _) H G (.refl H) rfl R (by simpa using q)⟩
end
/-! == where no bools stand -/
def nob : Nat → D → Bool
  | _, .non => true
  | _, .int _ => true
  | _, .str _ => true
  | n + 1, .tup ds => ds.all (nob n)
  | _, _ => false
mutual
theorem peq_iff : ∀ (d e : D) (n m : Nat), nob n d = true → nob m e = true → (peq d e = true ↔ d = e)
  | .non, e, n, m, h1, h2 => by cases e <;> simp [peq, toPD, PyData.eqv]; all_goals (cases m <;> simp [nob] at h2)
  | .int i, e, n, m, h1, h2 => by cases e <;> simp [peq, toPD, PyData.eqv]; all_goals (cases m <;> simp [nob] at h2)
  | .str i, e, n, m, h1, h2 => by cases e <;> simp [peq, toPD, PyData.eqv]; all_goals (cases m <;> simp [nob] at h2)
  | .tup ds, e, n, m, h1, h2 => by
    cases n with
    | zero => simp [nob] at h1
    | succ n =>
      cases e with
      | tup es =>
        cases m with
        | zero => simp [nob] at h2
        | succ m =>
          have q := peqL_iff ds es n m (by simpa [nob, List.all_eq_true] using h1) (by simpa [nob, List.all_eq_true] using h2)
          simpa [peq, toPD, PyData.eqv, peqL, toPDs_map] using q
      | _ => simp [peq, toPD, PyData.eqv]; all_goals (cases m <;> simp [nob] at h2)
  | .bl _, e, n, m, h1, h2 => by cases n <;> simp [nob] at h1
  | .ty _, e, n, m, h1, h2 => by cases n <;> simp [nob] at h1
  | .ref _, e, n, m, h1, h2 => by cases n <;> simp [nob] at h1
theorem peqL_iff : ∀ (ds es : List D) (n m : Nat), (∀ d ∈ ds, nob n d = true) → (∀ e ∈ es, nob m e = true) → (peqL ds es = true ↔ ds = es)
  | [], es, n, m, h1, h2 => by cases es <;> simp [peqL, PyData.eqvAll]
  | d :: ds, es, n, m, h1, h2 => by
    cases es with
    | nil => simp [peqL, PyData.eqvAll]
    | cons e es =>
      have q1 := peq_iff d e n m (h1 d List.mem_cons_self) (h2 e List.mem_cons_self)
      have q2 := peqL_iff ds es n m (fun x hx => h1 x (List.mem_cons_of_mem _ hx)) (fun x hx => h2 x (List.mem_cons_of_mem _ hx))
      simp only [peqL, List.map_cons, PyData.eqvAll, Bool.and_eq_true, List.cons.injEq]
      exact and_congr q1 q2
end
theorem peq_dec {d e : D} {n m : Nat} (h1 : nob n d = true) (h2 : nob m e = true) : peq d e = decide (d = e) := by
  have q := peq_iff d e n m h1 h2
  cases h : peq d e with
  | true => exact (decide_eq_true (q.mp h)).symm
  | false => exact (decide_eq_false fun z => by rw [q.mpr z] at h; cases h).symm
theorem peqL_dec {ds es : List D} {n m : Nat} (h1 : ∀ d ∈ ds, nob n d = true) (h2 : ∀ d ∈ es, nob m d = true) : peqL ds es = decide (ds = es) := by
  have q := peqL_iff ds es n m h1 h2
  cases h : peqL ds es with
  | true => exact (decide_eq_true (q.mp h)).symm
  | false => exact (decide_eq_false fun z => by rw [q.mpr z] at h; cases h).symm
theorem peq_int (i j : Int) : peq (.int i) (.int j) = decide (i = j) := by simp [peq, toPD, PyData.eqv, Bool.beq_eq_decide_eq]
theorem peq_str (i j : Str) : peq (.str i) (.str j) = decide (i = j) := by simp [peq, toPD, PyData.eqv, Bool.beq_eq_decide_eq]
theorem peqL_nil : peqL [] [] = true := rfl
theorem peqL_cons_nil (d : D) (ds : List D) : peqL (d :: ds) [] = false := rfl
theorem peqL_nil_cons (d : D) (ds : List D) : peqL [] (d :: ds) = false := rfl
theorem peqL_is_nil (ds : List D) : peqL ds [] = ds.isEmpty := by cases ds <;> rfl
end DL
set_option Elab.async false
set_option linter.all false
set_option maxRecDepth 100000
set_option maxHeartbeats 4000000
namespace DL
open PySem PySem.Spec L2

/-! ### dicts -/
def dKey : D → Option Key
  | .int i => some (.inl i)
  | .str s => some (.inr s)
  | _ => none
def dKeys : List D → Option (List Key)
  | [] => some []
  | d :: ds => match dKey d, dKeys ds with
    | some k, some ks => some (k :: ks)
    | _, _ => none
/-- may d be a key of a dict of this kind (true: tuples) -/
def keyOk : Bool → D → Bool
  | false, d => (dKey d).isSome
  | true, .tup ds => (dKeys ds).isSome && !ds.isEmpty
  | true, _ => false
theorem dKey_eq {d : D} {k : Key} (h : dKey d = some k) : d = kD k := by
  cases d <;> simp [dKey] at h <;> (subst h; rfl)
theorem dKeys_eq : ∀ {ds : List D} {ks : List Key}, dKeys ds = some ks → ds = ks.map kD
  | [], ks, h => by simp [dKeys] at h; subst h; rfl
  | d :: ds, ks, h => by
    cases h1 : dKey d with
    | none => simp [dKeys, h1] at h
    | some k =>
      cases h2 : dKeys ds with
      | none => simp [dKeys, h1, h2] at h
      | some r =>
        simp [dKeys, h1, h2] at h
        subst h
        rw [dKey_eq h1, dKeys_eq h2]
        rfl
theorem key_off : ∀ {ks : List Key}, ks ≠ [] → offs (ks.map kD) = false
  | [], h => (h rfl).elim
  | k :: ks, _ => by cases k <;> rfl
/-- a key that is a tuple -/
theorem keyT {ds : List D} (h : keyOk true (.tup ds) = true) : ∃ k : List Key, ds = k.map kD ∧ offs (k.map kD) = false := by
  obtain ⟨h1, h2⟩ := Bool.and_eq_true_iff.mp (show ((dKeys ds).isSome && !ds.isEmpty) = true from h)
  obtain ⟨k, hk⟩ := Option.isSome_iff_exists.mp h1
  have e := dKeys_eq hk
  exact ⟨k, e, key_off fun z => by rw [e, z] at h2; cases h2⟩
theorem kD_inj {a b : Key} (h : kD a = kD b) : a = b := by
  cases a <;> cases b <;> simp [kD] at h <;> simp [h]
theorem kDs_inj : ∀ {a b : List Key}, a.map kD = b.map kD → a = b
  | [], [], _ => rfl
  | [], _ :: _, h => by simp at h
  | _ :: _, [], h => by simp at h
  | x :: a, y :: b, h => by
    simp only [List.map_cons, List.cons.injEq] at h
    rw [kD_inj h.1, kDs_inj h.2]
theorem rel_kD {H : Hp} {k : Key} {v : V} (r : Rel H (kD k) v) : v = kV k := by
  cases k with
  | inl i => exact r
  | inr s => exact r.1
theorem rel_kDs {H : Hp} : ∀ {ks : List Key} {vs : List V}, RelL H (ks.map kD) vs → vs = ks.map kV
  | [], vs, r => relL_nil.mp r
  | k :: ks, vs, ⟨v, r, e, h1, h2⟩ => by
    rw [e, rel_kD h1, rel_kDs h2]
    rfl
/-- what a dict holds at d -/
def valD (kvs : List (D × D)) (d : D) : Option D := (kvs.find? fun kv => decide (kv.1 = d)).map (·.2)
def putD (kvs : List (D × D)) (d e : D) : List (D × D) := if (kvs.any fun kv => decide (kv.1 = d)) = true then kvs.map (fun kv => if kv.1 = d then (kv.1, e) else kv) else kvs ++ [(d, e)]
def dropD (kvs : List (D × D)) (d : D) : List (D × D) := kvs.filter fun kv => decide (kv.1 ≠ d)
section
variable {κ : Type} [DecidableEq κ] {H : Hp} {f : κ → D} (hf : ∀ a b, f a = f b → a = b)
include hf
theorem find_rel : ∀ {kvs : List (D × D)} {ks : List (κ × V)} (k : κ), kvs.map (·.1) = ks.map (fun q => f q.1) → RelL H (kvs.map (·.2)) (ks.map (·.2)) →
    match valD kvs (f k), valV ks k with
    | some d, some v => Rel H d v
    | none, none => True
    | _, _ => False
  | [], [], k, _, _ => True.intro
  | [], _ :: _, k, h, _ => by simp at h
  | _ :: _, [], k, h, _ => by simp at h
  | (d, e) :: kvs, (q, v) :: ks, k, h, r => by
    simp only [List.map_cons, List.cons.injEq] at h
    obtain ⟨h1, h2⟩ := h
    have r' : RelL H (e :: kvs.map (·.2)) (v :: ks.map (·.2)) := r
    obtain ⟨r1, r2⟩ := relL_cons.mp r'
    have ih := find_rel (kvs := kvs) (ks := ks) k h2 r2
    by_cases hq : q = k
    · subst hq
      simp [valD, valV, List.find?_cons, h1, r1]
    · have hd : ¬ d = f k := fun z => hq (hf _ _ (h1.symm.trans z))
      simpa [valD, valV, List.find?_cons, hd, hq] using ih
end

theorem dk_rel {K : PySem.W.Frag} {B : Bx} {H : Hp} {G : Gp} {a : Addr} {t : Bool} {kvs : List (D × D)} {o : DO} (R : Rep K B H G) (g : G a = some o) (ho : o = .dict t kvs ∨ o = .ldict t kvs) {d : D} {v : V} (r : Rel H d v) (hk : keyOk t d = true) :
    ∃ r : Option V, DGet H a v r ∧ match valD kvs d, r with
      | some d, some v => Rel H d v
      | none, none => True
      | _, _ => False := by
  have x := R.at_ a o g
  cases t with
  | false =>
    obtain ⟨k, hk⟩ := Option.isSome_iff_exists.mp (show (dKey d).isSome = true from hk)
    have e := dKey_eq hk
    subst e
    have ev := rel_kD r
    subst ev
    have x' : ∃ ks : List (Key × V), Rd H a (.dK ks) ∧ kvs.map (·.1) = ks.map (fun k => kD k.1) ∧ RelL H (kvs.map (·.2)) (ks.map (·.2)) := by
      rcases ho with rfl | rfl
      · obtain ⟨_, ks, h1, h2, h3⟩ := x
        exact ⟨ks, .inl h1, h2, h3⟩
      · obtain ⟨_, ob, ks, h1, h2, h3⟩ := x
        exact ⟨ks, .inr ⟨ob, h1⟩, h2, h3⟩
    obtain ⟨ks, h1, h2, h3⟩ := x'
    exact ⟨_, .inl ⟨ks, k, h1, rfl, rfl⟩, find_rel (f := kD) (fun _ _ => kD_inj) k h2 h3⟩
  | true =>
    cases d with
    | tup ds =>
      obtain ⟨k, e, ko⟩ := keyT hk
      subst e
      obtain ⟨b, xs, rfl, hb, rl, _⟩ := r
      rw [ko] at hb
      have ev := rel_kDs rl
      subst ev
      have x' : ∃ ks : List (List Key × V), Rd H a (.dT ks) ∧ kvs.map (·.1) = ks.map (fun k => D.tup (k.1.map kD)) ∧ RelL H (kvs.map (·.2)) (ks.map (·.2)) := by
        rcases ho with rfl | rfl
        · obtain ⟨_, ks, h1, h2, h3⟩ := x
          exact ⟨ks, .inl h1, h2, h3⟩
        · obtain ⟨_, ob, ks, h1, h2, h3⟩ := x
          exact ⟨ks, .inr ⟨ob, h1⟩, h2, h3⟩
      obtain ⟨ks, h1, h2, h3⟩ := x'
      exact ⟨_, .inr ⟨ks, k, b, h1, rfl, hb, rfl⟩, find_rel (f := fun k : List Key => D.tup (k.map kD)) (fun _ _ z => kDs_inj (D.tup.inj z)) k h2 h3⟩
    | _ => exact absurd hk (by simp [keyOk])
/-- a dict, of it -/
def dictO (o : DO) (P : Bool → List (D × D) → Prop) : Prop := match o with
  | .dict t kvs => P t kvs
  | .ldict t kvs => P t kvs
  | _ => False
theorem dictO_is {o : DO} {P : Bool → List (D × D) → Prop} (q : dictO o P) : ∃ t kvs, P t kvs ∧ (o = .dict t kvs ∨ o = .ldict t kvs) := by
  cases o with
  | dict t ds => exact ⟨t, ds, q, .inl rfl⟩
  | ldict t ds => exact ⟨t, ds, q, .inr rfl⟩
  | _ => exact (show False from q).elim

/-! ### in -/
/-- a list or a dict, of either -/
def anyO (o : DO) (P : List D → Prop) (P' : Bool → List (D × D) → Prop) : Prop := match o with
  | .lst ds => P ds
  | .rol ds => P ds
  | .dict t kvs => P' t kvs
  | .ldict t kvs => P' t kvs
  | _ => False
def inR (neg : Bool) : DR2 := fun d e G Q => match e with
  | .tup ds => (ds.all (dat 0) && dat 0 d) = true ∧ Q (.bl (ds.any (fun z => peq z d) != neg)) G
  | .ref a => ∃ o, G a = some o ∧ anyO o (fun ds => (ds.all (dat 20) && dat 20 d) = true ∧ Q (.bl (ds.any (fun z => peq z d) != neg)) G) fun t kvs => keyOk t d = true ∧ Q (.bl ((valD kvs d).isSome != neg)) G
  | .str y => (match d with
    | .str x => Q (.bl (!(Builtin.Str.occurrences y x 0 y.length 1).isEmpty != neg)) G
    | _ => False)
  | _ => False
def rInDct (neg : Bool) : R2 := fun x y H Q => ∃ a o, y = .ref a ∧ DGet H a x o ∧ Q (.bl (o.isSome != neg)) H
section
variable {X : Cx} {B : Bx}
theorem op_in_dct (hu : X.A.units + 1 < cLine) : OpR X (compareOp .In) (rInDct false) := by
  intro pins s σ H x y v u Q I rx ry h
  obtain ⟨a, o, rfl, g, q⟩ := h
  cases ry
  exact d_in hu I g rx fun s' I' => ⟨.bl o.isSome, H, I', rfl, by simpa using q⟩
theorem op_notIn_dct (hu : X.A.units + 1 < cLine) : OpR X (compareOp .NotIn) (rInDct true) := by
  intro pins s σ H x y v u Q I rx ry h
  obtain ⟨a, o, rfl, g, q⟩ := h
  cases ry
  exact d_notIn hu I g rx fun s' I' => ⟨.bl (!o.isSome), H, I', rfl, by simpa using q⟩
theorem flat_rel {H : Hp} {d : D} {v : V} (h : dat 0 d = true) (r : Rel H d v) : flatV v = true := by
  cases d with
  | non => cases r; rfl
  | bl _ => cases r; rfl
  | int _ => cases r; rfl
  | str _ => obtain ⟨rfl, _⟩ := r; rfl
  | _ => simp [dat] at h
theorem flat_rels {H : Hp} : ∀ {ds : List D} {vs : List V}, ds.all (dat 0) = true → RelL H ds vs → vs.all flatV = true
  | [], vs, _, r => by cases (relL_nil.mp r); rfl
  | d :: ds, vs, h, ⟨v, r, e, r1, r2⟩ => by
    subst e
    have h' : dat 0 d = true ∧ ds.all (dat 0) = true := by simpa using h
    simp [flat_rel h'.1 r1, flat_rels h'.2 r2]
theorem eqV_rel {H : Hp} {d e : D} {v u : V} (hd : dat 0 d = true) (he : dat 0 e = true) (r1 : Rel H d v) (r2 : Rel H e u) : L2.eqV v u = peq d e := by
  cases d <;> simp [dat] at hd <;> cases e <;> simp [dat] at he <;> simp only [Rel] at r1 r2 <;> (try obtain ⟨rfl, _⟩ := r1) <;> (try obtain ⟨rfl, _⟩ := r2) <;> (try subst r1) <;> (try subst r2) <;> simp [L2.eqV, peq, toPD, PyData.eqv, Bool.beq_eq_decide_eq]
theorem any_rel {H : Hp} {d : D} {v : V} (hd : dat 0 d = true) (rd : Rel H d v) : ∀ {ds : List D} {vs : List V}, ds.all (dat 0) = true → RelL H ds vs → inV v vs = ds.any fun z => peq z d
  | [], vs, _, r => by cases (relL_nil.mp r); rfl
  | e :: ds, vs, h, ⟨u, r, q, r1, r2⟩ => by
    subst q
    have h' : dat 0 e = true ∧ ds.all (dat 0) = true := by simpa using h
    have ih := any_rel hd rd h'.2 r2
    unfold inV at ih ⊢
    rw [List.any_cons, List.any_cons, ih, eqV_rel h'.1 hd r1 rd]
theorem in_all {K : PySem.W.Frag} {H : Hp} {G : Gp} {d e : D} {x y : V} {neg : Bool} {Q : DQ} {P : VK} (r1 : Rel H d x) (r2 : Rel H e y) (R : Rep K B H G) (q : inR neg d e G Q) (hp : PostE K B H Q P) :
    (∃ p xs, y = .ref p ∧ SqT K H p xs ∧ flatV x = true ∧ xs.all flatV = true ∧ P (.bl (inV x xs != neg)) H) ∨
    (∃ pd ds, Dp K H x pd ∧ Dp K H y (.list ds) ∧ SeqAt.shaped pd = true ∧ SeqAt.shaped (.list ds) = true ∧ P (.bl (ds.any (fun z => PyData.eqv z pd) != neg)) H) ∨
    (∃ a o, y = .ref a ∧ DGet H a x o ∧ P (.bl (o.isSome != neg)) H) ∨
    (∃ i j, x = .str i ∧ y = .str j ∧ P (.bl (!(Builtin.Str.occurrences j i 0 j.length 1).isEmpty != neg)) H) := by
  cases e with
  | tup ds =>
    obtain ⟨a, xs, rfl, h1, h2, h3⟩ := r2
    obtain ⟨h, q⟩ := q
    obtain ⟨z1, z2⟩ := Bool.and_eq_true_iff.mp h
    exact .inl ⟨a, xs, rfl, h1.sq, flat_rel z2 r1, flat_rels z1 h2, by rw [any_rel z2 r1 z1 h2]; exact hp _ (.bl _) H G (.refl H) rfl R q⟩
  | ref a =>
    cases r2
    obtain ⟨o, g, q⟩ := q
    have lists : ∀ {ds : List D}, (o = .lst ds ∨ o = .rol ds) → (ds.all (dat 20) && dat 20 d) = true ∧ Q (.bl (ds.any (fun z => peq z d) != neg)) G →
        ∃ pd ds, Dp K H x pd ∧ Dp K H (.ref a) (.list ds) ∧ SeqAt.shaped pd = true ∧ SeqAt.shaped (.list ds) = true ∧ P (.bl (ds.any (fun z => PyData.eqv z pd) != neg)) H := fun {ds} ho ⟨h, q⟩ => by
      obtain ⟨z1, z2⟩ := Bool.and_eq_true_iff.mp h
      obtain ⟨a1, a2⟩ := dat_dpL' R g ho z1
      obtain ⟨b1, b2⟩ := dat_dp' (K := K) z2 r1
      refine ⟨_, _, b1, a1, b2, a2, ?_⟩
      rw [List.any_map]
      exact hp _ (.bl _) H G (.refl H) rfl R q
    have dicts : ∀ {t : Bool} {kvs : List (D × D)}, (o = .dict t kvs ∨ o = .ldict t kvs) → keyOk t d = true ∧ Q (.bl ((valD kvs d).isSome != neg)) G → ∃ o, DGet H a x o ∧ P (.bl (o.isSome != neg)) H := fun {t kvs} ho ⟨h, q⟩ => by
      obtain ⟨r, h1, h2⟩ := dk_rel R g ho r1 h
      refine ⟨r, h1, ?_⟩
      have e : r.isSome = (valD kvs d).isSome := by
        cases h3 : valD kvs d <;> cases r <;> simp_all
      rw [e]
      exact hp _ (.bl _) H G (.refl H) rfl R q
    cases o with
    | lst ds => exact .inr (.inl (lists (.inl rfl) q))
    | rol ds => exact .inr (.inl (lists (.inr rfl) q))
    | dict t kvs => obtain ⟨o, h1, h2⟩ := dicts (.inl rfl) q; exact .inr (.inr (.inl ⟨a, o, rfl, h1, h2⟩))
    | ldict t kvs => obtain ⟨o, h1, h2⟩ := dicts (.inr rfl) q; exact .inr (.inr (.inl ⟨a, o, rfl, h1, h2⟩))
    | ins C ns fs => exact (show False from q).elim
    | fn c => exact (show False from q).elim
  | str y' =>
    cases d with
    | str x' =>
      obtain ⟨rfl, _⟩ := r1
      obtain ⟨rfl, _⟩ := r2
      exact .inr (.inr (.inr ⟨_, _, rfl, rfl, hp _ (.bl _) H G (.refl H) rfl R q⟩))
    | _ => exact (show False from q).elim
  | _ => exact (show False from q).elim
theorem op_in (hu : X.A.units + 65 < cLine) : DOp X B (compareOp .In) (inR false) := by
  refine ⟨_, (op_in_seq.or ((op_inD hu).or ((op_in_dct (by omega)).or L2.op_in_str))), fun H G x y d e Q P r1 r2 R q hp => ?_⟩
  rcases in_all r1 r2 R q hp with ⟨p, xs, h1, h2, h3, h4, h5⟩ | ⟨pd, ds, h1, h2, h3, h4, h5⟩ | ⟨a, o, h1, h2, h3⟩ | ⟨i, j, h1, h2, h3⟩
  · exact .inl ⟨p, xs, h1, .inr h2, h3, h4, by simpa using h5⟩
  · exact .inr (.inl ⟨pd, ds, h1, h2, h3, h4, by simpa using h5⟩)
  · exact .inr (.inr (.inl ⟨a, o, h1, h2, by simpa using h3⟩))
  · exact .inr (.inr (.inr ⟨i, j, h1, h2, by simpa using h3⟩))
theorem op_notIn (hu : X.A.units + 65 < cLine) : DOp X B (compareOp .NotIn) (inR true) := by
  refine ⟨_, (op_notIn_seq.or ((op_notInD hu).or ((op_notIn_dct (by omega)).or L2.op_notin_str))), fun H G x y d e Q P r1 r2 R q hp => ?_⟩
  rcases in_all r1 r2 R q hp with ⟨p, xs, h1, h2, h3, h4, h5⟩ | ⟨pd, ds, h1, h2, h3, h4, h5⟩ | ⟨a, o, h1, h2, h3⟩ | ⟨i, j, h1, h2, h3⟩
  · exact .inl ⟨p, xs, h1, .inr h2, h3, h4, by simpa using h5⟩
  · exact .inr (.inl ⟨pd, ds, h1, h2, h3, h4, by simpa using h5⟩)
  · exact .inr (.inr (.inl ⟨a, o, h1, h2, by simpa using h3⟩))
  · exact .inr (.inr (.inr ⟨i, j, h1, h2, by simpa using h3⟩))
/-- is None, is not None -/
def isNR (neg : Bool) : DR2 := fun d e G Q => match e with
  | .non => Q (.bl (decide (d = .non) != neg)) G
  | _ => False
theorem non_rel {H : Hp} {d : D} {v : V} (r : Rel H d v) : decide (v = .non) = decide (d = .non) := by
  cases d <;> simp only [Rel] at r
  case str => obtain ⟨rfl, _⟩ := r; simp
  case tup => obtain ⟨a, xs, rfl, _⟩ := r; simp
  all_goals (subst r; simp)
theorem op_isN : DOp X B (compareOp .Is) (isNR false) := by
  refine ⟨_, L2.op_isN, fun H G x y d e Q P r1 r2 R q hp => ?_⟩
  cases e with
  | non => exact ⟨r2, hp _ (.bl _) H G (.refl H) (by rw [non_rel r1]; simp [Rel]) R q⟩
  | _ => exact (show False from q).elim
theorem op_notN : DOp X B (compareOp .IsNot) (isNR true) := by
  refine ⟨_, L2.op_notN, fun H G x y d e Q P r1 r2 R q hp => ?_⟩
  cases e with
  | non => exact ⟨r2, hp _ (.bl _) H G (.refl H) (by rw [non_rel r1]; simp [Rel]) R q⟩
  | _ => exact (show False from q).elim
end
end DL
set_option Elab.async false
set_option linter.all false
set_option maxRecDepth 100000
set_option maxHeartbeats 4000000
namespace DL
open PySem PySem.Spec L2

/-! ### subscripts -/
section
open PyProof.Rows
theorem subD_tail {prog : Program} {w : World} {A : Around} {E : Value → Shared → Prop} {s : Shared} {value slice : Expr} {T id : String} {o i : Value} {Q : Value → Shared → Prop}
    (hl : typeLookup (.type T) "__getitem__" = pure (some (.builtin id))) (hs : subscripted slice false o i = operate [o, i] (getItem o i)) (hT : s.TypeIs o T)
    (h : wpAny (model prog w) A (getItem o i) Q E s) : wpAny (model prog w) A (subscriptTail value slice o i) Q E s := by
  unfold subscriptTail
  refine wpAny_bind ?_
  rw [getitemInPython_of_ne hT.not_modules]
  refine wpAny_bind (wpAny_specialOf hT hl ?_)
  have fin : wpAny (model prog w) A (subscripted slice false o i) (fun r s₃ => wpAny (model prog w) A (letTemporaryGo value o r >>= fun _ => pure r) Q E s₃) E s := by
    rw [hs]
    exact wpAny_operating (wpAny_mono h (fun r s₃ h₃ => wpAny_bind (wpAny_letTemporaryGo (wpAny_pure h₃))) fun _ _ x => x)
  first
    | exact wpAny_pure (wpAny_bind fin)
    | exact wpAny_bind (wpAny_pure (wpAny_bind fin))
    | exact wpAny_bind fin
end
def rIxD : R2 := fun x y H Q => ∃ a v, x = .ref a ∧ DGet H a y (some v) ∧ Q v H
theorem ix_dict {X : Cx} (hu : X.A.units + 1 < cLine) : IxR X rIxD := by
  intro value slice pins s σ H x y v u Q I rx ry h hs
  obtain ⟨a, z, rfl, g, q⟩ := h
  cases rx
  exact subD_tail PySem.F.slot_dict_getitem.lookup hs (dict_typeIs I g) (d_getItem hu I g ry fun w' s3 I3 rw' => ⟨z, H, I3, rw', q⟩)
def ixR : DR2 := fun d e G Q => match d with
  | .tup ds => (match e with
    | .int i => ∃ v, atI ds i = some v ∧ Q v G
    | _ => False)
  | .str z => (match e with
    | .int i => z.length ≤ sizeLine ∧ ∃ c, atI z.cps.toList i = some c ∧ Q (.str ⟨#[c]⟩) G
    | _ => False)
  | .ref a => ∃ o, G a = some o ∧ anyO o (fun ds => ∃ i v, e = .int i ∧ atI ds i = some v ∧ Q v G) fun t kvs => keyOk t e = true ∧ ∃ v, valD kvs e = some v ∧ Q v G
  | _ => False
theorem atI_rel {H : Hp} {ds : List D} {xs : List V} {i : Int} {d : D} (r : RelL H ds xs) (h : atI ds i = some d) : ∃ v, atI xs i = some v ∧ Rel H d v := by
  unfold atI at h ⊢
  rw [← r.length]
  cases e : ixN ds.length i with
  | none => rw [e] at h; cases h
  | some j =>
    rw [e] at h
    exact r.get j h
section
variable {X : Cx} {B : Bx} {a b : Expr} {ta tb : DTE} {pos : Pos}
theorem okS_sign {z : Str} {c : Nat} {i : Int} (h : OkS z) (e : atI z.cps.toList i = some c) : OkS ⟨#[c]⟩ := by
  unfold OkS PyData.strOk at *
  have hm : c ∈ z.cps.toList := by
    unfold atI at e
    cases q : ixN z.cps.toList.length i with
    | none => rw [q] at e; cases e
    | some j =>
      rw [q] at e
      exact List.mem_of_getElem? e
  have := Array.all_eq_true_iff_forall_mem.mp h c (by simpa using hm)
  simpa using this
theorem de_ix (hu : X.A.units + 1 < cLine) (ha : DE X B a ta) (hb : DE X B b tb) (hs : PlainIx b := by exact fun _ _ => rfl) : DE X B (.Subscript a b pos) (dOp ixR ta tb) := by
  obtain ⟨ta', pa, ha⟩ := ha.ex
  obtain ⟨tb', pb, hb⟩ := hb.ex
  refine ⟨_, pe_ix (ix_list.or (ix_tup.or (ix_str.or (ix_dict hu)))) pa pb hs, fun σ H sd G Q P hS R t hp => ?_⟩
  refine two_parts (X := X) ha hb hS R t fun x y d e H2 G2 k r1 r2 R2 q => ?_
  have hp := hp.mono k
  cases d with
  | tup ds =>
    cases e <;> first | exact (show False from q).elim | skip
    obtain ⟨p, xs, rfl, h1, h2, _⟩ := r1
    cases r2
    obtain ⟨v, e, q⟩ := q
    obtain ⟨u, e2, r⟩ := atI_rel h2 e
    exact .inr (.inl ⟨p, xs, _, u, rfl, rfl, h1.sq, e2, hp u v H2 G2 (.refl _) r R2 q⟩)
  | str z =>
    cases e <;> first | exact (show False from q).elim | skip
    obtain ⟨rfl, ok⟩ := r1
    cases r2
    obtain ⟨hz, c, e, q⟩ := q
    exact .inr (.inr (.inl ⟨z, _, c, rfl, rfl, hz, e, hp _ (.str ⟨#[c]⟩) H2 G2 (.refl _) ⟨rfl, okS_sign ok e⟩ R2 q⟩))
  | ref p =>
    cases r1
    obtain ⟨o, g, q⟩ := q
    have lists : ∀ {ds : List D}, (o = .lst ds ∨ o = .rol ds) → (∃ i v, e = .int i ∧ atI ds i = some v ∧ Q v G2) → rIxL X.K (.ref p) y H2 P := fun {ds} ho ⟨i, v, e1, e2, qv⟩ => by
      subst e1
      cases r2
      obtain ⟨xs, h1, h2, _⟩ := lstRd R2 (by rcases ho with rfl | rfl <;> simp [IsLst, g] : IsLst G2 p ds)
      obtain ⟨u, e3, r⟩ := atI_rel h2 e2
      exact ⟨p, xs, i, u, rfl, rfl, .inl h1, e3, hp u v H2 G2 (.refl _) r R2 qv⟩
    have dicts : ∀ {t : Bool} {kvs : List (D × D)}, (o = .dict t kvs ∨ o = .ldict t kvs) → (keyOk t e = true ∧ ∃ v, valD kvs e = some v ∧ Q v G2) → rIxD (.ref p) y H2 P := fun {t kvs} ho ⟨h, v, e1, q⟩ => by
      obtain ⟨r, h1, h2⟩ := dk_rel R2 g ho r2 h
      rw [e1] at h2
      cases r with
      | none => exact h2.elim
      | some u => exact ⟨p, u, rfl, h1, hp u v H2 G2 (.refl _) h2 R2 q⟩
    cases o with
    | lst ds => exact .inl (lists (.inl rfl) q)
    | rol ds => exact .inl (lists (.inr rfl) q)
    | dict t kvs => exact .inr (.inr (.inr (dicts (.inl rfl) q)))
    | ldict t kvs => exact .inr (.inr (.inr (dicts (.inr rfl) q)))
    | ins C ns fs => exact (show False from q).elim
    | fn c => exact (show False from q).elim
  | _ => exact (show False from q).elim
end

/-! ### slices -/
abbrev DTO := SD → Gp → (Option Int → Gp → Prop) → Prop
structure DO' (X : Cx) (B : Bx) (e : Option Expr) (t : DTO) : Prop where
  ex : ∃ te : TO, PO X e te ∧ ∀ σ H sd G Q (P : Option Int → Hp → Prop), RelS H σ sd → Rep X.K B H G → t sd G Q → (∀ o H' G', Kp H H' → Rep X.K B H' G' → Q o G' → P o H') → te σ H P
def doNone : DTO := fun _ G Q => Q none G
def doSome (t : DTE) : DTO := fun sd G Q => t sd G fun d G1 => match d with
  | .int i => Q (some i) G1
  | _ => False
def cutD (xs : List D) (lo hi : Option Int) : List D := (xs.drop (HT.sIx xs.length 0 lo)).take (HT.sIx xs.length xs.length hi - HT.sIx xs.length 0 lo)
def slR : D → Option Int → Option Int → Gp → DQ → Prop := fun d lo hi G Q => match d with
  | .tup ds => Q (.tup (cutD ds lo hi)) G
  | .ref a => ∃ o, G a = some o ∧ lstO o fun ds => ∀ p, Nw G p → Q (.ref p) (put G p (.lst (cutD ds lo hi)))
  | _ => False
def dSl (te : DTE) (tl th : DTO) : DTE := fun sd G Q => te sd G fun d G1 => tl sd G1 fun l G2 => th sd G2 fun u G3 => slR d l u G3 Q
section
variable {X : Cx} {B : Bx} {e : Expr} {te : DTE} {tl th : DTO} {lo hi : Option Expr} {pos p2 : Pos}
theorem do_none : DO' X B none doNone := ⟨_, po_none, fun σ H sd G Q P hS R t hp => hp none H G (.refl H) R t⟩
theorem do_some (h : DE X B e te) : DO' X B (some e) (doSome te) := by
  obtain ⟨te', pe, he⟩ := h.ex
  refine ⟨_, po_some pe, fun σ H sd G Q P hS R t hp => ?_⟩
  refine he σ H sd G _ _ hS R t fun v d H1 G1 k1 r1 R1 q1 => ?_
  cases d with
  | int i => cases r1; exact ⟨i, rfl, hp _ H1 G1 k1 R1 q1⟩
  | _ => exact (show False from q1).elim
theorem cut_rel {H : Hp} {ds : List D} {xs : List V} (r : RelL H ds xs) (lo hi : Option Int) : RelL H (cutD ds lo hi) (cutV xs lo hi) := by
  unfold cutD cutV
  rw [r.length]
  exact (r.drop _).take _
theorem cutD_length (xs : List D) (lo hi : Option Int) : (cutD xs lo hi).length ≤ xs.length := by
  unfold cutD
  rw [List.length_take, List.length_drop]
  omega
theorem cutD_whole {xs : List D} {lo hi : Option Int} (h : HT.sIx xs.length 0 lo = 0 ∧ HT.sIx xs.length xs.length hi = xs.length) : cutD xs lo hi = xs := by
  unfold cutD
  rw [h.1, h.2]
  simp
theorem de_slice (he : DE X B e te) (hl : DO' X B lo tl) (hh : DO' X B hi th) : DE X B (.Subscript e (.Slice lo hi none p2) pos) (dSl te tl th) := by
  obtain ⟨te', pe, he⟩ := he.ex
  obtain ⟨tl', pl, hl⟩ := hl.ex
  obtain ⟨th', ph, hh⟩ := hh.ex
  refine ⟨_, pe_slice (sl_tupX.or sl_list) pe pl ph, fun σ H sd G Q P hS R t hp => ?_⟩
  refine he σ H sd G _ _ hS R t fun v d H1 G1 k1 r1 R1 q1 => ?_
  refine hl σ H1 sd G1 _ _ (hS.mono k1) R1 q1 fun l H2 G2 k2 R2 q2 => ?_
  refine hh σ H2 sd G2 _ _ (hS.mono (k1.trans k2)) R2 q2 fun u H3 G3 k3 R3 q3 => ?_
  have hp := hp.mono (k1.trans (k2.trans k3))
  have r3 := r1.mono (k2.trans k3)
  cases d with
  | tup ds =>
    obtain ⟨p, xs, rfl, h1, h2, hz⟩ := r3
    refine .inl ⟨p, xs, rfl, h1.sq, fun hw => ?_, fun _ => ⟨offs (cutD ds l u), fun q o ho hq => ?_⟩⟩
    · have e : cutD ds l u = ds := cutD_whole (by rw [h2.length]; exact hw)
      have q3' : Q (.tup (cutD ds l u)) G3 := q3
      rw [e] at q3'
      exact hp _ (.tup ds) H3 G3 (.refl _) ⟨p, xs, rfl, h1, h2, hz⟩ R3 q3'
    · obtain ⟨k, r, R'⟩ := tup_new ho hq (cut_rel h2 l u) (Nat.le_trans (cutD_length _ _ _) hz) R3
      exact hp _ _ _ G3 k r R' q3
  | ref a =>
    cases r3
    obtain ⟨o, g, q3⟩ := q3
    obtain ⟨ds, il, q3, ho⟩ := lstO_is g q3
    obtain ⟨xs, h1, h2, hz⟩ := lstRd R3 il
    refine .inr ⟨a, xs, rfl, .inl h1, fun p hn => ?_⟩
    obtain ⟨k, R'⟩ := lst_new hn (cut_rel h2 l u) (Nat.le_trans (cutD_length _ _ _) hz) R3
    exact hp _ (.ref p) _ _ k rfl R' (q3 p (R3.gnone hn))
  | _ => exact (show False from q3).elim
end
end DL
set_option Elab.async false
set_option linter.all false
set_option maxRecDepth 100000
set_option maxHeartbeats 4000000
namespace DL
open PySem PySem.Spec L2

/-! ### o[i] = v -/
section
variable {κ : Type} [DecidableEq κ] {H : Hp} {f : κ → D} (hf : ∀ a b, f a = f b → a = b)
include hf
theorem any_key : ∀ {kvs : List (D × D)} {ks : List (κ × V)} (k : κ), kvs.map (·.1) = ks.map (fun q => f q.1) → (kvs.any fun kv => decide (kv.1 = f k)) = ks.any fun kv => decide (kv.1 = k)
  | [], [], k, _ => rfl
  | [], _ :: _, k, h => by simp at h
  | _ :: _, [], k, h => by simp at h
  | (d, e) :: kvs, (q, v) :: ks, k, h => by
    simp only [List.map_cons, List.cons.injEq] at h
    obtain ⟨h1, h2⟩ := h
    have ih := any_key (kvs := kvs) (ks := ks) k h2
    rw [List.any_cons, List.any_cons, ih]
    by_cases hq : q = k
    · subst hq; simp [h1]
    · have hd : ¬ d = f k := fun z => hq (hf _ _ (h1.symm.trans z))
      simp [hd, hq]
theorem repl_rel {e : D} {v : V} (r : Rel H e v) : ∀ {kvs : List (D × D)} {ks : List (κ × V)} (k : κ), kvs.map (·.1) = ks.map (fun q => f q.1) → RelL H (kvs.map (·.2)) (ks.map (·.2)) →
    (kvs.map fun kv => if kv.1 = f k then (kv.1, e) else kv).map (·.1) = (ks.map fun kv => if kv.1 = k then (kv.1, v) else kv).map (fun q => f q.1) ∧
    RelL H ((kvs.map fun kv => if kv.1 = f k then (kv.1, e) else kv).map (·.2)) ((ks.map fun kv => if kv.1 = k then (kv.1, v) else kv).map (·.2))
  | [], [], k, _, _ => ⟨rfl, rfl⟩
  | [], _ :: _, k, h, _ => by simp at h
  | _ :: _, [], k, h, _ => by simp at h
  | (d, e') :: kvs, (q, u) :: ks, k, h, rl => by
    simp only [List.map_cons, List.cons.injEq] at h
    obtain ⟨h1, h2⟩ := h
    have rl' : RelL H (e' :: kvs.map (·.2)) (u :: ks.map (·.2)) := rl
    obtain ⟨r1, r2⟩ := relL_cons.mp rl'
    obtain ⟨ih1, ih2⟩ := repl_rel r (kvs := kvs) (ks := ks) k h2 r2
    by_cases hq : q = k
    · subst hq
      simp only [List.map_cons, h1, if_true]
      exact ⟨by rw [ih1], relL_cons.mpr ⟨r, ih2⟩⟩
    · have hd : ¬ d = f k := fun z => hq (hf _ _ (h1.symm.trans z))
      simp only [List.map_cons, if_neg hd, if_neg hq]
      exact ⟨by rw [ih1, h1], relL_cons.mpr ⟨r1, ih2⟩⟩
theorem put_rel {e : D} {v : V} (r : Rel H e v) {kvs : List (D × D)} {ks : List (κ × V)} (k : κ) (h : kvs.map (·.1) = ks.map (fun q => f q.1)) (rl : RelL H (kvs.map (·.2)) (ks.map (·.2))) :
    (putD kvs (f k) e).map (·.1) = (putK ks k v).map (fun q => f q.1) ∧ RelL H ((putD kvs (f k) e).map (·.2)) ((putK ks k v).map (·.2)) := by
  unfold putD putK
  rw [any_key hf k h]
  by_cases z : (ks.any fun kv => decide (kv.1 = k)) = true
  · rw [if_pos z, if_pos z]
    exact repl_rel hf r k h rl
  · rw [if_neg z, if_neg z]
    refine ⟨by simp [h], ?_⟩
    rw [List.map_append, List.map_append]
    exact rl.append (.one r)
theorem drop_rel : ∀ {kvs : List (D × D)} {ks : List (κ × V)} (k : κ), kvs.map (·.1) = ks.map (fun q => f q.1) → RelL H (kvs.map (·.2)) (ks.map (·.2)) →
    (dropD kvs (f k)).map (·.1) = (dropK ks k).map (fun q => f q.1) ∧ RelL H ((dropD kvs (f k)).map (·.2)) ((dropK ks k).map (·.2))
  | [], [], k, _, _ => ⟨rfl, rfl⟩
  | [], _ :: _, k, h, _ => by simp at h
  | _ :: _, [], k, h, _ => by simp at h
  | (d, e') :: kvs, (q, u) :: ks, k, h, rl => by
    simp only [List.map_cons, List.cons.injEq] at h
    obtain ⟨h1, h2⟩ := h
    have rl' : RelL H (e' :: kvs.map (·.2)) (u :: ks.map (·.2)) := rl
    obtain ⟨r1, r2⟩ := relL_cons.mp rl'
    obtain ⟨ih1, ih2⟩ := drop_rel (kvs := kvs) (ks := ks) k h2 r2
    unfold dropD dropK at ih1 ih2 ⊢
    by_cases hq : q = k
    · subst hq
      simp only [List.filter_cons, h1, ne_eq, not_true_eq_false, decide_false, Bool.false_eq_true, if_false]
      exact ⟨ih1, ih2⟩
    · have hd : ¬ d = f k := fun z => hq (hf _ _ (h1.symm.trans z))
      simp only [List.filter_cons, ne_eq, hd, hq, not_false_eq_true, decide_true, if_true, List.map_cons]
      exact ⟨by rw [ih1, h1], relL_cons.mpr ⟨r1, ih2⟩⟩
end
theorem putD_length (kvs : List (D × D)) (d e : D) : (putD kvs d e).length ≤ kvs.length + 1 := by
  unfold putD
  split <;> simp
theorem dropD_length (kvs : List (D × D)) (d : D) : (dropD kvs d).length ≤ kvs.length := List.length_filter_le _ _
def setR : D → D → D → Gp → (Gp → Prop) → Prop := fun o i v G Q => match o with
  | .ref a => ∃ ob, G a = some ob ∧ (match ob with
    | .lst ds => ∃ k j, i = .int k ∧ ixN ds.length k = some j ∧ Q (put G a (.lst (ds.set j v)))
    | .dict t kvs => keyOk t i = true ∧ kvs.length < sizeLine ∧ Q (put G a (.dict t (putD kvs i v)))
    | _ => False)
  | _ => False
def rSetD : TSet := fun o i v H Q => ∃ a H', o = .ref a ∧ DPut H a i v H' ∧ Q H'
theorem set_dict {X : Cx} (hu : X.A.units + 1 < cLine) : PSet X rSetD := by
  intro pins s σ H o i v ov iv u Q I ro ri rv h
  obtain ⟨a, H', rfl, g, q⟩ := h
  cases ro
  exact d_setItem hu I g ri rv fun s' I' => ⟨H', I', q⟩
theorem psetOr {X : Cx} {r r' : TSet} (h : PSet X r) (h' : PSet X r') : PSet X (fun o i v H Q => r o i v H Q ∨ r' o i v H Q) := by
  intro pins s σ H o i v ov iv u Q I ro ri rv q
  rcases q with q | q
  · exact h pins s σ H o i v ov iv u Q I ro ri rv q
  · exact h' pins s σ H o i v ov iv u Q I ro ri rv q
def dgSub (to ti : DTE) : DTG := fun v sd G Q => to sd G fun o G1 => ti sd G1 fun i G2 => setR o i v G2 fun G3 => Q sd G3
/-- where the dict's put goes -/
theorem dput_at {K : PySem.W.Frag} {B : Bx} {H : Hp} {G : Gp} {a : Addr} {t : Bool} {kvs : List (D × D)} (R : Rep K B H G) (g : G a = some (.dict t kvs)) {d e : D} {v u : V} (r : Rel H d v) (re : Rel H e u) (hk : keyOk t d = true) (hl : kvs.length < sizeLine) :
    ∃ H', DPut H a v u H' ∧ Kp H H' ∧ Rep K B H' (put G a (.dict t (putD kvs d e))) := by
  have x := R.at_ a _ g
  have hz : (putD kvs d e).length ≤ sizeLine := Nat.le_trans (putD_length _ _ _) hl
  cases t with
  | false =>
    obtain ⟨k, hk⟩ := Option.isSome_iff_exists.mp (show (dKey d).isSome = true from hk)
    have e := dKey_eq hk
    subst e
    have ev := rel_kD r
    subst ev
    obtain ⟨_, ks, h1, h2, h3⟩ := x
    have hl2 : ks.length < sizeLine := by
      have := congrArg List.length h2
      simp at this
      omega
    have kw : Kp H (upd H a (.dK (putK ks k u))) := .write h1 fun _ z => nomatch z
    obtain ⟨q1, q2⟩ := put_rel (f := kD) (fun _ _ => kD_inj) (re.mono kw) k h2 (h3.mono kw)
    exact ⟨_, DPut.k h1 hl2, kw, R.write h1 (fun _ z => nomatch z) ⟨hz, _, upd_same, q1, q2⟩⟩
  | true =>
    cases d with
    | tup ds =>
      obtain ⟨k, e, ko⟩ := keyT hk
      subst e
      obtain ⟨b, xs, rfl, hb, rl, _⟩ := r
      rw [ko] at hb
      have ev := rel_kDs rl
      subst ev
      obtain ⟨_, ks, h1, h2, h3⟩ := x
      have hl2 : ks.length < sizeLine := by
        have := congrArg List.length h2
        simp at this
        omega
      have kw : Kp H (upd H a (.dT (putK ks k u))) := .write h1 fun _ z => nomatch z
      obtain ⟨q1, q2⟩ := put_rel (f := fun k : List Key => D.tup (k.map kD)) (fun _ _ z => kDs_inj (D.tup.inj z)) (re.mono kw) k h2 (h3.mono kw)
      exact ⟨_, DPut.t h1 hb hl2, kw, R.write h1 (fun _ z => nomatch z) ⟨hz, _, upd_same, q1, q2⟩⟩
    | _ => exact absurd hk (by simp [keyOk])
section
variable {X : Cx} {B : Bx} {o i : Expr} {to ti : DTE} {pos : Pos}
theorem dg_sub (hu : X.A.units + 1 < cLine) (ho : DE X B o to) (hi : DE X B i ti)
    (ha : ∀ v, assign (.Subscript o i pos) X.env v = (do
      let ov ← holding [v] (eval o X.env)
      let iv ← holding [v, ov] (eval i X.env)
      standAt pos
      holding [v, ov, iv] (setItem ov iv v)
      release [v, ov, iv] []) := by intro _; rfl) : DG X B (.Subscript o i pos) [] (dgSub to ti) := by
  obtain ⟨to', po, ho⟩ := ho.ex
  obtain ⟨ti', pi, hi⟩ := hi.ex
  refine ⟨_, pg_sub po pi (psetOr set_list (set_dict hu)) ha, fun v d σ H sd G Q P r hS R t hp => ?_⟩
  refine ho σ H sd G _ _ hS R t fun x dx H1 G1 k1 r1 R1 q1 => ?_
  refine hi σ H1 sd G1 _ _ (hS.mono k1) R1 q1 fun y dy H2 G2 k2 r2 R2 q2 => ?_
  have r1 := r1.mono k2
  have rv := r.mono (k1.trans k2)
  cases dx with
  | ref a =>
    cases r1
    obtain ⟨ob, g, q⟩ := q2
    cases ob with
    | lst ds =>
      obtain ⟨k, j, e1, e2, q⟩ := q
      subst e1
      cases r2
      obtain ⟨xs, h1, h2, hz⟩ := lst_at R2 g
      have kw : Kp H2 (upd H2 a (.lst (xs.set j v))) := .write h1 fun _ z => nomatch z
      exact .inl ⟨a, xs, k, j, rfl, rfl, h1, by rw [← h2.length]; exact e2, hp σ sd _ _ (.refl _ σ) (k1.trans (k2.trans kw)) (hS.mono (k1.trans (k2.trans kw)))
        (R2.write (o := .lst (ds.set j d)) h1 (fun _ z => nomatch z) ⟨_, upd_same, RelL.set (rv.mono kw) (h2.mono kw) j, by rw [List.length_set]; exact hz⟩) q⟩
    | dict t kvs =>
      obtain ⟨e1, e2, q⟩ := q
      obtain ⟨H3, g3, k3, R3⟩ := dput_at R2 g r2 rv e1 e2
      exact .inr ⟨a, H3, rfl, g3, hp σ sd H3 _ (.refl _ σ) (k1.trans (k2.trans k3)) (hS.mono (k1.trans (k2.trans k3))) R3 q⟩
    | _ => exact (show False from q).elim
  | _ => exact (show False from q2).elim
end
end DL
set_option Elab.async false
set_option linter.all false
set_option maxRecDepth 100000
set_option maxHeartbeats 4000000
namespace DL
open PySem PySem.Spec L2

/-! ### built-ins called -/
def DCall (X : Cx) (B : Bx) (f : Value) (rD : List D → Gp → DQ → Prop) : Prop :=
  ∃ r : List V → Hp → VK → Prop, CallR X f r ∧ ∀ H G xs ds Q P, RelL H ds xs → Rep X.K B H G → rD ds G Q → PostE X.K B H Q P → r xs H P
def dCB (rD : List D → Gp → DQ → Prop) (t : DTA) : DTE := fun sd G Q => t sd G fun ds G1 => rD ds G1 Q
section
variable {X : Cx} {B : Bx} {x : Str} {id T : String} {e : Expr} {es : List Expr} {p pos : Pos} {t : DTA} {rD : List D → Gp → DQ → Prop}
theorem de_callB (hc : DCall X B (.builtin id) rD) (hg : Gl X x) (hm : X.mg x = none) (hv : bootBuiltins x = some (.builtin id)) (ha : DA X B (e :: es) t)
    (hn : x ≠ "__name__" := by decide) (hd : (x == ("__debug__" : Str)) = false := by decide) (he : starEach (e :: es) X.env = (false, eval e X.env) :: starEach es X.env := by rfl) (hpl : (backTo pos (starEach es X.env)).any (·.1) = false := by rfl) :
    DE X B (.Call (.Name x p) (e :: es) [] pos) (dCB rD t) := by
  obtain ⟨r, hc, hr⟩ := hc
  obtain ⟨t', pa, ha⟩ := ha.ex
  refine ⟨_, pe_callB hc hg hm hv pa hn hd he hpl, fun σ H sd G Q P hS R t hp => ?_⟩
  exact ha σ H sd G _ _ hS R t fun vs ds H1 G1 _ k1 r1 R1 q1 => hr H1 G1 vs ds Q P r1 R1 q1 (hp.mono k1)
theorem de_callTy (hc : DCall X B (.type T) rD) (hg : Gl X x) (hm : X.mg x = none) (hv : bootBuiltins x = some (.type T)) (ha : DA X B (e :: es) t)
    (hn : x ≠ "__name__" := by decide) (hd : (x == ("__debug__" : Str)) = false := by decide) (he : starEach (e :: es) X.env = (false, eval e X.env) :: starEach es X.env := by rfl) (hpl : (backTo pos (starEach es X.env)).any (·.1) = false := by rfl) :
    DE X B (.Call (.Name x p) (e :: es) [] pos) (dCB rD t) := by
  obtain ⟨r, hc, hr⟩ := hc
  obtain ⟨t', pa, ha⟩ := ha.ex
  refine ⟨_, pe_callTy hc hg hm hv pa hn hd he hpl, fun σ H sd G Q P hS R t hp => ?_⟩
  exact ha σ H sd G _ _ hS R t fun vs ds H1 G1 _ k1 r1 R1 q1 => hr H1 G1 vs ds Q P r1 R1 q1 (hp.mono k1)
theorem rel1 {H : Hp} {d : D} {xs : List V} (r : RelL H [d] xs) : ∃ x, xs = [x] ∧ Rel H d x := by
  obtain ⟨x, r, e, h1, h2⟩ := r
  cases (relL_nil.mp h2)
  exact ⟨x, e, h1⟩
theorem rel2 {H : Hp} {d e : D} {xs : List V} (r : RelL H [d, e] xs) : ∃ x y, xs = [x, y] ∧ Rel H d x ∧ Rel H e y := by
  obtain ⟨x, r, e, h1, y, r', e', h2, h3⟩ := r
  cases (relL_nil.mp h3)
  subst e'
  exact ⟨x, y, e, h1, h2⟩
/-- len -/
def lenR : List D → Gp → DQ → Prop := fun ds G Q => match ds with
  | [.tup xs] => Q (.int (xs.length : Nat)) G
  | [.str z] => z.length ≤ sizeLine ∧ Q (.int (z.length : Nat)) G
  | [.ref a] => ∃ o, G a = some o ∧ (match o with
    | .lst ds => Q (.int (ds.length : Nat)) G
    | .rol ds => Q (.int (ds.length : Nat)) G
    | .dict _ kvs => Q (.int (kvs.length : Nat)) G
    | _ => False)
  | _ => False
theorem dc_len : DCall X B (.builtin "len") lenR := by
  refine ⟨_, (call_len.or (call_lenD.or call_len_dT)), fun H G xs ds Q P r R q hp => ?_⟩
  match ds, q, r with
  | [.tup ys], q, r =>
    obtain ⟨x, rfl, rx⟩ := rel1 r
    obtain ⟨a, vs, rfl, h1, h2, _⟩ := rx
    exact .inl ⟨_, vs.length, rfl, .inr ⟨vs, h1.sq, rfl⟩, by rw [← h2.length]; exact hp _ (.int _) H G (.refl H) rfl R q⟩
  | [.str z], q, r =>
    obtain ⟨x, rfl, rx⟩ := rel1 r
    obtain ⟨rfl, _⟩ := rx
    exact .inl ⟨_, z.length, rfl, ⟨q.1, rfl⟩, hp _ (.int _) H G (.refl H) rfl R q.2⟩
  | [.ref a], q, r =>
    obtain ⟨x, rfl, rx⟩ := rel1 r
    cases rx
    obtain ⟨o, g, q⟩ := q
    cases o with
    | lst ds =>
      obtain ⟨vs, h1, h2, _⟩ := lstRd R (.inl g)
      exact .inl ⟨_, vs.length, rfl, .inl ⟨vs, .inl h1, rfl⟩, by rw [← h2.length]; exact hp _ (.int _) H G (.refl H) rfl R q⟩
    | rol ds =>
      obtain ⟨vs, h1, h2, _⟩ := lstRd R (.inr g)
      exact .inl ⟨_, vs.length, rfl, .inl ⟨vs, .inl h1, rfl⟩, by rw [← h2.length]; exact hp _ (.int _) H G (.refl H) rfl R q⟩
    | dict t kvs =>
      have z := R.at_ a _ g
      cases t with
      | false =>
        obtain ⟨_, ks, h1, h2, _⟩ := z
        have hl : ks.length = kvs.length := by simpa using (congrArg List.length h2).symm
        exact .inr (.inl ⟨a, ks, rfl, h1, by rw [hl]; exact hp _ (.int _) H G (.refl H) rfl R q⟩)
      | true =>
        obtain ⟨_, ks, h1, h2, _⟩ := z
        have hl : ks.length = kvs.length := by simpa using (congrArg List.length h2).symm
        exact .inr (.inr ⟨a, ks, rfl, h1, by rw [hl]; exact hp _ (.int _) H G (.refl H) rfl R q⟩)
    | _ => exact (show False from q).elim
/-- isinstance(x, T) of a built-in class -/
def tyN (G : Gp) : D → Option String
  | .non => some "NoneType"
  | .bl _ => some "bool"
  | .int _ => some "int"
  | .str _ => some "str"
  | .tup _ => some "tuple"
  | .ref a => (match G a with
    | some (.lst _) => some "list"
    | some (.rol _) => some "list"
    | some (.dict _ _) => some "dict"
    | _ => none)
  | .ty _ => none
@[simp] def isTy (a T : String) : Bool := a == T || (a == "bool" && T == "int")
def tyNames : List String := ["NoneType", "bool", "int", "str", "tuple", "list", "dict"]
theorem kit_all : ∀ a ∈ tyNames, ∀ b ∈ tyNames, kitB a b = some (isTy a b) := by decide +kernel
def isiR : List D → Gp → DQ → Prop := fun ds G Q => match ds with
  | [d, .ty T] => T ∈ tyNames ∧ ∃ a, tyN G d = some a ∧ Q (.bl (isTy a T)) G
  | _ => False
theorem tyN_ok {K : PySem.W.Frag} {H : Hp} {G : Gp} {d : D} {v : V} {a : String} (R : Rep K B H G) (r : Rel H d v) (h : tyN G d = some a) : a ∈ tyNames ∧ TyX K H v (.type a) := by
  cases d with
  | non => cases r; cases h; exact ⟨by decide, .base .non⟩
  | bl b => cases r; cases h; exact ⟨by decide, .base (.bl b)⟩
  | int i => cases r; cases h; exact ⟨by decide, .base (.int i)⟩
  | str s => obtain ⟨rfl, _⟩ := r; cases h; exact ⟨by decide, .base (.str s)⟩
  | tup ds => obtain ⟨p, xs, rfl, h1, _⟩ := r; cases h; exact ⟨by decide, h1.ty⟩
  | ref p =>
    cases r
    simp only [tyN] at h
    cases g : G p with
    | none => rw [g] at h; cases h
    | some o =>
      rw [g] at h
      cases o with
      | lst ds => cases h; obtain ⟨xs, h1, _⟩ := R.at_ p _ g; exact ⟨by decide, .base (.lst h1)⟩
      | rol ds =>
        cases h
        obtain ⟨xs, h1 | ⟨ob, h1⟩, _⟩ := R.at_ p _ g
        · exact ⟨by decide, .base (.lst h1)⟩
        · exact ⟨by decide, .base (.frz h1)⟩
      | dict t kvs =>
        cases h
        have z := R.at_ p _ g
        cases t with
        | false => obtain ⟨_, ks, h1, _⟩ := z; exact ⟨by decide, .base (.dK h1)⟩
        | true => obtain ⟨_, ks, h1, _⟩ := z; exact ⟨by decide, .base (.dT h1)⟩
      | _ => cases h
  | ty n => cases h
theorem dc_isi : DCall X B (.builtin "isinstance") isiR := by
  refine ⟨_, call_isi, fun H G xs ds Q P r R q hp => ?_⟩
  match ds, q, r with
  | [d, .ty T], q, r =>
    obtain ⟨x, y, rfl, r1, r2⟩ := rel2 r
    cases r2
    obtain ⟨hT, a, h, q⟩ := q
    obtain ⟨hm, ty⟩ := tyN_ok R r1 h
    exact ⟨x, .ty T, .type a, .type T, _, rfl, .ty T, ty, kit_ty (kit_all a hm T hT), hp _ (.bl _) H G (.refl H) rfl R q⟩
theorem de_ty {n : Str} {T : String} (hg : Gl X n) (hm : X.mg n = none) (hv : bootBuiltins n = some (.type T)) (hn : n ≠ "__name__" := by decide) (hd : (n == ("__debug__" : Str)) = false := by decide) : DE X B (.Name n pos) (dC (.ty T)) :=
  de_of_c (pe_bltn (v := .ty T) hg hm hv rfl hn hd) fun _ => rfl
/-- a module's constant -/
theorem de_gint {n : Str} {i : Int} (hg : Gl X n) (hm : ∃ t, X.mg n = some (.int i t)) (hd : (n == ("__debug__" : Str)) = false := by decide) : DE X B (.Name n pos) (dC (.int i)) := by
  obtain ⟨t, hm⟩ := hm
  exact de_of_c (pe_glob (v := .int i) hg hm ⟨t, rfl⟩ hd) fun _ => rfl
theorem de_gstr {n s : Str} (hg : Gl X n) (hm : ∃ t, X.mg n = some (.str s t)) (ok : OkS s := by decide +kernel) (hd : (n == ("__debug__" : Str)) = false := by decide) : DE X B (.Name n pos) (dC (.str s)) := by
  obtain ⟨t, hm⟩ := hm
  exact de_of_c (pe_glob (v := .str s) hg hm ⟨t, rfl⟩ hd) fun _ => ⟨rfl, ok⟩
/-- int(x), str(x), tuple(x), list(x), max(x, y) -/
def intR : List D → Gp → DQ → Prop := fun ds G Q => match ds with
  | [.int i] => Q (.int i) G
  | [.bl b] => Q (.int (if b then 1 else 0)) G
  | _ => False
theorem dc_int : DCall X B (.type "int") intR := by
  refine ⟨_, call_int1, fun H G xs ds Q P r R q hp => ?_⟩
  match ds, q, r with
  | [.int i], q, r =>
    obtain ⟨x, rfl, rx⟩ := rel1 r
    cases rx
    exact .inl ⟨i, rfl, hp _ (.int _) H G (.refl H) rfl R q⟩
  | [.bl b], q, r =>
    obtain ⟨x, rfl, rx⟩ := rel1 r
    cases rx
    exact .inr ⟨b, rfl, hp _ (.int _) H G (.refl H) rfl R q⟩
def tupleR : List D → Gp → DQ → Prop := fun ds G Q => match ds with
  | [.tup ds] => Q (.tup ds) G
  | [.ref a] => ∃ o, G a = some o ∧ lstO o fun ds => Q (.tup ds) G
  | _ => False
theorem dc_tuple : DCall X B (.type "tuple") tupleR := by
  refine ⟨_, call_tupleX, fun H G xs ds Q P r R q hp => ?_⟩
  match ds, q, r with
  | [.tup ys], q, r =>
    obtain ⟨x, rfl, rx⟩ := rel1 r
    obtain ⟨a, vs, rfl, h1, h2, hz⟩ := rx
    exact ⟨a, vs, rfl, .inr ⟨h1.sq, hp _ (.tup ys) H G (.refl H) ⟨a, vs, rfl, h1, h2, hz⟩ R q⟩⟩
  | [.ref a], q, r =>
    obtain ⟨x, rfl, rx⟩ := rel1 r
    cases rx
    obtain ⟨o, g, q⟩ := q
    obtain ⟨ds, il, q, ho⟩ := lstO_is g q
    obtain ⟨vs, h1, h2, hz⟩ := lstRd R il
    refine ⟨a, vs, rfl, .inl ⟨.inl h1, offs ds, fun p o ho hn => ?_⟩⟩
    obtain ⟨k, r, R'⟩ := tup_new ho hn h2 hz R
    exact hp _ _ _ G k r R' q
def listR : List D → Gp → DQ → Prop := fun ds G Q => match ds with
  | [.tup ds] => ∀ p, Nw G p → Q (.ref p) (put G p (.lst ds))
  | [.ref a] => ∃ o, G a = some o ∧ lstO o fun ds => ∀ p, Nw G p → Q (.ref p) (put G p (.lst ds))
  | _ => False
theorem dc_list : DCall X B (.type "list") listR := by
  refine ⟨_, call_list_of, fun H G xs ds Q P r R q hp => ?_⟩
  match ds, q, r with
  | [.tup ys], q, r =>
    obtain ⟨x, rfl, rx⟩ := rel1 r
    obtain ⟨a, vs, rfl, h1, h2, hz⟩ := rx
    refine ⟨a, vs, rfl, .inr (h1.sq), fun p hn => ?_⟩
    obtain ⟨k, R'⟩ := lst_new hn h2 hz R
    exact hp _ (.ref p) _ _ k rfl R' (q p (R.gnone hn))
  | [.ref a], q, r =>
    obtain ⟨x, rfl, rx⟩ := rel1 r
    cases rx
    obtain ⟨o, g, q⟩ := q
    obtain ⟨ds, il, q, ho⟩ := lstO_is g q
    obtain ⟨vs, h1, h2, hz⟩ := lstRd R il
    refine ⟨a, vs, rfl, .inl (.inl h1), fun p hn => ?_⟩
    obtain ⟨k, R'⟩ := lst_new hn h2 hz R
    exact hp _ (.ref p) _ _ k rfl R' (q p (R.gnone hn))
def maxR : List D → Gp → DQ → Prop := fun ds G Q => match ds with
  | [.int i, .int j] => Q (.int (max i j)) G
  | _ => False
theorem dc_max (hc : X.calm = true) : DCall X B (.builtin "max") maxR := by
  refine ⟨_, call_max2 hc, fun H G xs ds Q P r R q hp => ?_⟩
  match ds, q, r with
  | [.int i, .int j], q, r =>
    obtain ⟨x, y, rfl, r1, r2⟩ := rel2 r
    cases r1
    cases r2
    have e : (if j > i then j else i) = max i j := by omega
    exact ⟨i, j, rfl, hp _ (.int _) H G (.refl H) (by rw [e]; rfl) R q⟩
end
end DL
set_option Elab.async false
set_option linter.all false
set_option maxRecDepth 100000
set_option maxHeartbeats 4000000
namespace DL
open PySem PySem.Spec L2

/-! ### len(set(ints)) -/
/-- the first of equal ones stays -/
def dd (ns : List Int) : List Int := ns.foldl (fun acc x => if acc.any (· == x) then acc else acc ++ [x]) []
theorem dd_go : ∀ (ns acc : List Int), acc.Nodup → (ns.foldl (fun acc x => if acc.any (· == x) then acc else acc ++ [x]) acc).Nodup ∧ ∀ x, x ∈ ns.foldl (fun acc x => if acc.any (· == x) then acc else acc ++ [x]) acc ↔ x ∈ acc ∨ x ∈ ns
  | [], acc, h => ⟨h, by simp⟩
  | n :: ns, acc, h => by
    rw [List.foldl_cons]
    by_cases hn : acc.any (· == n) = true
    · rw [if_pos hn]
      obtain ⟨h1, h2⟩ := dd_go ns acc h
      refine ⟨h1, fun x => ?_⟩
      rw [h2]
      have hm : n ∈ acc := by simpa using hn
      constructor
      · rintro (z | z)
        · exact .inl z
        · exact .inr (List.mem_cons_of_mem _ z)
      · rintro (z | z)
        · exact .inl z
        · rcases List.mem_cons.mp z with rfl | z
          · exact .inl hm
          · exact .inr z
    · rw [if_neg hn]
      have hm : n ∉ acc := by simpa using hn
      obtain ⟨h1, h2⟩ := dd_go ns (acc ++ [n]) (by
        rw [List.nodup_append]
        exact ⟨h, by simp, fun a ha b hb => by
          have e : b = n := by simpa using hb
          rw [e]
          exact fun z => hm (z ▸ ha)⟩)
      refine ⟨h1, fun x => ?_⟩
      rw [h2]
      simp [or_assoc]
theorem dd_nodup (ns : List Int) : (dd ns).Nodup := (dd_go ns [] (by simp)).1
theorem dd_mem (ns : List Int) (x : Int) : x ∈ dd ns ↔ x ∈ ns := ((dd_go ns [] List.nodup_nil).2 x).trans ⟨fun h => h.elim (fun z => nomatch z) id, .inr⟩
theorem dd_length {ns ms : List Int} (h : ms.Nodup) (hm : ∀ x, x ∈ ms ↔ x ∈ ns) : ms.length = (dd ns).length :=
  ((List.perm_ext_iff_of_nodup h (dd_nodup ns)).mpr fun x => (hm x).trans (dd_mem ns x).symm).length_eq
theorem dd_of_nodup {ns : List Int} (h : ns.Nodup) : (dd ns).length = ns.length := (dd_length h fun _ => Iff.rfl).symm
theorem nodup_of_dd {ns : List Int} (h : (dd ns).length = ns.length) : ns.Nodup := by
  have key : ∀ ms : List Int, ¬ ms.Nodup → (dd ms).length < ms.length := by
    intro ms hn
    obtain ⟨x, hx⟩ : ∃ x, 2 ≤ ms.count x := by
      refine Classical.byContradiction fun z => hn ?_
      rw [List.nodup_iff_count]
      intro a
      refine Nat.le_of_not_lt fun q => z ⟨a, q⟩
    have h1 : (dd ms).length ≤ (ms.erase x).length := (dd_nodup ms).length_le_of_subset fun y hy => by
      have hy' := (dd_mem ms y).mp hy
      by_cases e : y = x
      · subst e
        rw [← List.count_pos_iff, List.count_erase_self]
        omega
      · exact (List.mem_erase_of_ne e).mpr hy'
    have hm : x ∈ ms := List.count_pos_iff.mp (by omega)
    rw [List.length_erase_of_mem hm] at h1
    have := List.length_pos_of_mem hm
    omega
  by_cases hn : ns.Nodup
  · exact hn
  · exact absurd h (Nat.ne_of_lt (key ns hn))
theorem firstMet_take (ns : List Int) : ∀ i, i ≤ ns.length → PyProof.Rows.firstMet (fun i => ns.getD i 0) i = dd (ns.take i)
  | 0, _ => rfl
  | i + 1, hi => by
    have e2 : ns.take (i + 1) = ns.take i ++ [ns[i]] := by rw [List.take_add_one, List.getElem?_eq_getElem hi] <;> rfl
    have e1 : ns.getD i 0 = ns[i] := by rw [List.getD_eq_getElem?_getD, List.getElem?_eq_getElem hi] <;> rfl
    rw [PyProof.Rows.firstMet_succ, firstMet_take ns i (Nat.le_of_lt hi), e2, e1]
    unfold dd
    rw [List.foldl_append]
    rfl
def dLenSet (ta : DTE) : DTE := fun sd G Q => ta sd G fun d G1 => ∃ ns : List Int, ns.length ≤ 4000 ∧ Q (.int ((dd ns).length : Nat)) G1 ∧ (match d with
  | .tup ds => ds = ns.map .int
  | .ref a => ∃ o, G1 a = some o ∧ lstO o fun ds => ds = ns.map .int
  | _ => False)
def tLenSetA (K : PySem.W.Frag) (ta : TE) : TE := fun σ H Q => ta σ H fun x H1 => ∃ (l : Addr) (ns : List Int), x = .ref l ∧ (SqL K H1 l (ns.map V.int) ∨ SqT K H1 l (ns.map V.int)) ∧ ns.length ≤ 4000 ∧ Q (.int ((dd ns).length : Nat)) H1
section
open PyProof.Rows
theorem pe_lenSetA {X : Cx} {a : Expr} {ta : TE} {p p2 q pos : Pos} (hg : Gl X "len") (hm : X.mg "len" = none) (hg2 : Gl X "set") (hm2 : X.mg "set" = none) (ha : PE X a ta) (hc : X.calm = true := by rfl)
    (na : starEach [a] X.env = (false, eval a X.env) :: starEach [] X.env := by rfl) : PE X (.Call (.Name "len" p) [.Call (.Name "set" p2) [a] [] q] [] pos) (tLenSetA X.K ta) := by
  refine ⟨fun pins s σ H Q I h => ?_⟩
  refine Call_ (ld_blt I hg hm PySem.boot_len ?_)
  refine PyProof.Rows.callWith_builtin1 (PyProof.Rows.args_cons ?_ rfl) rfl rfl
  refine Call_ (ld_blt I hg2 hm2 (by decide +kernel : bootBuiltins "set" = some (.type "set")) ?_)
  refine PyProof.Rows.callWith_type1 (PyProof.Rows.args_cons (thn (ha.run pins s σ H _ I h) fun v s1 ⟨x, H1, I1, r1, q1⟩ => PyProof.Rows.args_nil ?_) na) na rfl
  obtain ⟨l, ns, rfl, hq, hl, q1⟩ := q1
  cases r1
  rcases hq with hq | hq
  · obtain ⟨its, r, pl, hz⟩ := I1.list hq
    have hlen : its.toArray.size = ns.length := by rw [List.size_toArray, ← r.length, List.length_map]
    refine call_set_list (I1.ok.hd hc) pl.isList (ns := ns) (by simpa using r.ints) (by rw [hlen]; unfold scanBound; omega) fun h' tk hS hk => ?_
    refine PyProof.Rows.args_nil ?_
    rw [hlen, firstMet_take ns ns.length (Nat.le_refl _), List.take_length] at hS
    obtain ⟨o, es, ep, t, ho, hex, hd, _, _, _, hf, hn⟩ := hS
    have I2 : Inv X pins σ H1 { s1 with heap := h', toks := tk } := I1.kept fun b o e => hk b o (Heap.lt_size e) e
    have hdd : (dd ns).length ≤ ns.length := (dd_nodup ns).length_le_of_subset fun y hy => (dd_mem ns y).mp hy
    exact PySem.call_len_set ho hex hd hf (by rw [hn] <;> omega) ⟨.int (dd ns).length, H1, I2.tok _, ⟨_, by rw [hn]⟩, q1⟩
  · obtain ⟨its, r, pl, hz⟩ := I1.tuple hq
    have hit : IntsAre its ns := r.ints
    refine L2.call_set_tupI ns (I1.ok.hd hc) (show s1.heap.IsTuple l its.toArray from pl) (by simpa using hit) (by unfold scanBound; omega) fun h' tk c R1 hcn hk => ?_
    refine PyProof.Rows.args_nil ?_
    obtain ⟨o, es, ep, t, ho, hex, hd, _, nd, hmem, _, hf, hn, _⟩ := R1
    have I2 : Inv X pins σ H1 { s1 with heap := h', toks := tk } := I1.kept fun b o e => hk b o e
    have hc2 : es.size = (dd ns).length := by
      have := dd_length (ns := ns) nd fun x => (hmem x).symm.trans (by simp)
      rw [← this]
      simp
    exact PySem.call_len_set ho hex hd hf (by rw [hn] <;> omega) ⟨.int (dd ns).length, H1, I2.tok _, ⟨_, by rw [hc2]⟩, q1⟩
end
end DL
namespace DL
open PySem PySem.Spec L2
section
variable {X : Cx} {B : Bx} {a : Expr} {ta : DTE} {p p2 q pos : Pos}
theorem rel_ints {H : Hp} : ∀ {ns : List Int} {xs : List V}, RelL H (ns.map D.int) xs → xs = ns.map V.int
  | [], xs, r => relL_nil.mp r
  | n :: ns, xs, ⟨x, r, e, h1, h2⟩ => by
    rw [e, show x = V.int n from h1, rel_ints h2]
    rfl
theorem de_lenSet (hg : Gl X "len") (hm : X.mg "len" = none) (hg2 : Gl X "set") (hm2 : X.mg "set" = none) (ha : DE X B a ta) (hc : X.calm = true := by rfl)
    (na : starEach [a] X.env = (false, eval a X.env) :: starEach [] X.env := by rfl) : DE X B (.Call (.Name "len" p) [.Call (.Name "set" p2) [a] [] q] [] pos) (dLenSet ta) := by
  obtain ⟨ta', pa, ha⟩ := ha.ex
  refine ⟨_, pe_lenSetA hg hm hg2 hm2 pa hc na, fun σ H sd G Q P hS R t hp => ?_⟩
  refine ha σ H sd G _ _ hS R t fun v d H1 G1 k1 r1 R1 q1 => ?_
  obtain ⟨ns, h1, h2, h3⟩ := q1
  cases d with
  | tup ds =>
    have e : ds = ns.map .int := h3
    subst e
    obtain ⟨l, xs, rfl, e1, e2, _⟩ := r1
    cases rel_ints e2
    exact ⟨l, ns, rfl, .inr (e1.sq), h1, hp _ (.int _) H1 G1 k1 rfl R1 h2⟩
  | ref l =>
    cases r1
    obtain ⟨o, g, h3⟩ := h3
    obtain ⟨ds, il, e, _⟩ := lstO_is g h3
    subst e
    obtain ⟨xs, e1, e2, _⟩ := lstRd R1 il
    cases rel_ints e2
    exact ⟨l, ns, rfl, .inl (.inl e1), h1, hp _ (.int _) H1 G1 k1 rfl R1 h2⟩
  | _ => exact (show False from h3).elim
/-- list(range(n)) -/
def dListRng (ta : DTE) : DTE := fun sd G Q => ta sd G fun d G1 => match d with
  | .int n => (0 ≤ n ∧ n ≤ 1000000) ∧ ∀ p, Nw G1 p → Q (.ref p) (put G1 p (.lst (rngD 0 n.toNat)))
  | _ => False
theorem rngD_rel {H : Hp} (lo : Int) : ∀ n : Nat, RelL H (rngD lo n) ((List.range n).map fun i => V.int (lo + (i : Nat)))
  | 0 => rfl
  | n + 1 => by
    unfold rngD
    rw [List.range_succ, List.map_append, List.map_append]
    exact (rngD_rel lo n).append (.one rfl)
theorem de_listRng (hc : X.calm = true) (hg0 : Gl X "list") (hm0 : X.mg "list" = none) (hg : Gl X "range") (hm : X.mg "range" = none) (ha : DE X B a ta)
    (na : starEach [a] X.env = (false, eval a X.env) :: starEach [] X.env := by rfl) (na2 : starEach [.Call (.Name "range" p2) [a] [] q] X.env = (false, eval (.Call (.Name "range" p2) [a] [] q) X.env) :: starEach [] X.env := by rfl) :
    DE X B (.Call (.Name "list" p) [.Call (.Name "range" p2) [a] [] q] [] pos) (dListRng ta) := by
  obtain ⟨ta', pa, ha⟩ := ha.ex
  refine ⟨_, pe_listRg hc hg0 hm0 (prg_1 hg hm pa na) na2, fun σ H sd G Q P hS R t hp => ?_⟩
  refine ha σ H sd G _ _ hS R t fun v d H1 G1 k1 r1 R1 q1 => ?_
  cases d with
  | int n =>
    cases r1
    obtain ⟨⟨z1, z2⟩, q1⟩ := q1
    refine ⟨n, rfl, .of_le (by omega) (by omega) (by omega) (by omega), fun p hn => ?_⟩
    have e : rgV 0 n = (List.range n.toNat).map fun i => V.int (0 + (i : Nat)) := by unfold rgV; rw [Int.sub_zero]
    rw [e]
    obtain ⟨k, R'⟩ := lst_new hn (rngD_rel 0 n.toNat) (by simp [rngD, sizeLine_eq]; omega) R1
    exact hp _ (.ref p) _ _ (k1.trans k) rfl R' (q1 p (R1.gnone hn))
  | _ => exact (show False from q1).elim
end

/-! ### methods of built-in types -/
def tyD (T : String) (d : D) (G : Gp) : Prop := match d with
  | .str _ => T = "str"
  | .ref a => ∃ o, G a = some o ∧ (match o with
    | .lst _ => T = "list"
    | .rol _ => T = "list"
    | .dict _ _ => T = "dict"
    | _ => False)
  | _ => False
theorem tyD_ok {K : PySem.W.Frag} {B : Bx} {H : Hp} {G : Gp} {d : D} {v : V} {T : String} (R : Rep K B H G) (r : Rel H d v) (h : tyD T d G) : tyV K T v H := by
  cases d with
  | str s => obtain ⟨rfl, _⟩ := r; exact h
  | ref a =>
    cases r
    obtain ⟨o, g, h⟩ := h
    cases o with
    | lst ds => obtain ⟨xs, h1, _⟩ := R.at_ a _ g; exact .inl ⟨h, xs, .inl (.inl h1)⟩
    | rol ds => obtain ⟨xs, h1, _⟩ := R.at_ a _ g; exact .inl ⟨h, xs, .inl h1⟩
    | dict t kvs =>
      have z := R.at_ a _ g
      cases t with
      | false => obtain ⟨_, ks, h1, _⟩ := z; exact .inr (.inr (.inl ⟨h, .inl ⟨ks, h1⟩⟩))
      | true => obtain ⟨_, ks, h1, _⟩ := z; exact .inr (.inr (.inl ⟨h, .inr ⟨ks, h1⟩⟩))
    | _ => exact (show False from h).elim
  | _ => exact (show False from h).elim
def DMt (X : Cx) (B : Bx) (id : String) (rD : D → List D → Gp → DQ → Prop) : Prop :=
  ∃ r : V → List V → Hp → VK → Prop, MtR X id r ∧ ∀ H G x d xs ds Q P, Rel H d x → RelL H ds xs → Rep X.K B H G → rD d ds G Q → PostE X.K B H Q P → r x xs H P
def dBM (T : String) (rD : D → List D → Gp → DQ → Prop) (to : DTE) (t : DTA) : DTE := fun sd G Q => to sd G fun d G1 => tyD T d G1 ∧ t sd G1 fun ds G2 => rD d ds G2 Q
section
variable {X : Cx} {B : Bx} {o e : Expr} {es : List Expr} {to : DTE} {t : DTA} {name : Str} {apos cpos : Pos} {T id : String} {rD : D → List D → Gp → DQ → Prop}
theorem de_bm0 (pa : PlainAttrs T) (slot : Slot T name id) (hty : typeOf (.builtin id) = pure (.type "method_descriptor")) (hm : DMt X B id rD) (ho : DE X B o to)
    (hbase : attributeBase o name X.env (eval o X.env) = eval o X.env := by rfl) (hline : (apos.endLine == cpos.line) = true := by rfl) : DE X B (.Call (.Attribute o name apos) [] [] cpos) (dBM T rD to daNil) := by
  obtain ⟨r, hm, hr⟩ := hm
  obtain ⟨to', po, ho⟩ := ho.ex
  refine ⟨_, pe_bm0 pa slot hty hm po hbase hline, fun σ H sd G Q P hS R t hp => ?_⟩
  exact ho σ H sd G _ _ hS R t fun v d H1 G1 k1 r1 R1 q1 => ⟨tyD_ok R1 r1 q1.1, hr H1 G1 v d [] [] Q P r1 rfl R1 q1.2 (hp.mono k1)⟩
theorem de_bm (pa : PlainAttrs T) (slot : Slot T name id) (hty : typeOf (.builtin id) = pure (.type "method_descriptor")) (hm : DMt X B id rD) (ho : DE X B o to) (ha : DA X B (e :: es) t)
    (hbase : attributeBase o name X.env (eval o X.env) = eval o X.env := by rfl)
    (hfew : ((backTo cpos (starEach (e :: es) X.env)).all (fun x => !x.1) && (backToKw cpos (keywordEach [] X.env)).all (fun x => x.1.isSome)
      && decide ((e :: es).length + ([] : List Keyword).length + (if ([] : List Keyword).isEmpty then 0 else 1) < 30)) = true := by rfl)
    (hline : (apos.endLine == cpos.line) = true := by rfl) (hs : starEach (e :: es) X.env = (false, eval e X.env) :: starEach es X.env := by rfl) (hplain : (backTo cpos (starEach es X.env)).any (·.1) = false := by rfl) :
    DE X B (.Call (.Attribute o name apos) (e :: es) [] cpos) (dBM T rD to t) := by
  obtain ⟨r, hm, hr⟩ := hm
  obtain ⟨to', po, ho⟩ := ho.ex
  obtain ⟨ta', pa', ha⟩ := ha.ex
  refine ⟨_, pe_bm pa slot hty hm po pa' hbase hfew hline hs hplain, fun σ H sd G Q P hS R t hp => ?_⟩
  refine ho σ H sd G _ _ hS R t fun v d H1 G1 k1 r1 R1 q1 => ⟨tyD_ok R1 r1 q1.1, ?_⟩
  exact ha σ H1 sd G1 _ _ (hS.mono k1) R1 q1.2 fun vs ds H2 G2 _ k2 r2 R2 q2 => hr H2 G2 v d vs ds Q P (r1.mono k2) r2 R2 q2 (hp.mono (k1.trans k2))
def appR : D → List D → Gp → DQ → Prop := fun d ds G Q => match d, ds with
  | .ref a, [y] => ∃ o, G a = some o ∧ (match o with
    | .lst xs => xs.length < sizeLine ∧ Q .non (put G a (.lst (xs ++ [y])))
    | _ => False)
  | _, _ => False
theorem dm_append : DMt X B "list.append" appR := by
  refine ⟨_, mt_append, fun H G x d xs ds Q P r1 r2 R q hp => ?_⟩
  match d, ds, q, r1, r2 with
  | .ref a, [y], q, r1, r2 =>
    cases r1
    obtain ⟨v, ev, rv⟩ := rel1 r2
    subst ev
    obtain ⟨o, g, q⟩ := q
    cases o with
    | lst zs =>
      obtain ⟨vs, h1, h2, hz⟩ := lst_at R g
      have kw : Kp H (upd H a (.lst (vs ++ [v]))) := .write h1 fun _ z => nomatch z
      exact ⟨a, vs, v, rfl, rfl, h1, by rw [← h2.length]; exact q.1, hp _ .non _ _ kw rfl (R.write (o := .lst (zs ++ [y])) h1 (fun _ z => nomatch z) ⟨_, upd_same, (h2.mono kw).append (.one (rv.mono kw)), by rw [List.length_append]; exact q.1⟩) q.2⟩
    | _ => exact (show False from q).elim
def popR : D → List D → Gp → DQ → Prop := fun d ds G Q => match d, ds with
  | .ref a, [.int i] => ∃ o, G a = some o ∧ (match o with
    | .lst xs => 0 ≤ i ∧ ∃ y, xs[i.toNat]? = some y ∧ Q y (put G a (.lst (xs.eraseIdx i.toNat)))
    | _ => False)
  | _, _ => False
theorem dm_popAt : DMt X B "list.pop" popR := by
  refine ⟨_, mt_popAt, fun H G x d xs ds Q P r1 r2 R q hp => ?_⟩
  match d, ds, q, r1, r2 with
  | .ref a, [.int i], q, r1, r2 =>
    cases r1
    obtain ⟨v, ev, rv⟩ := rel1 r2
    subst ev
    cases rv
    obtain ⟨o, g, q⟩ := q
    cases o with
    | lst zs =>
      obtain ⟨hi, y, hy, q⟩ := q
      obtain ⟨vs, h1, h2, hz⟩ := lst_at R g
      obtain ⟨u, hu, ru⟩ := h2.get _ hy
      have hl : i.toNat < vs.length := (List.getElem?_eq_some_iff.mp hu).1
      have hl2 := h2.length
      have h63 := line63
      have kw : Kp H (upd H a (.lst (vs.eraseIdx i.toNat))) := .write h1 fun _ z => nomatch z
      have e : seqIndex? i vs.length = some i.toNat := by
        have q1 : atI vs i = some u := by
          have := atI_nat (xs := vs) (j := i.toNat) hu
          rwa [Int.toNat_of_nonneg hi] at this
        obtain ⟨j, e1, e2, e3, _⟩ := atI_get q1
        have : ixN vs.length i = some i.toNat := by
          unfold ixN
          rw [if_pos hi, if_pos (by omega)]
        exact (ixN_seq this).1
      refine ⟨a, vs, i, i.toNat, u, rfl, rfl, h1, by omega, by omega, e, hu, ?_⟩
      exact hp u y _ _ kw (ru.mono kw) (R.write (o := .lst (zs.eraseIdx i.toNat)) h1 (fun _ z => nomatch z) ⟨_, upd_same, (h2.mono kw).erase _, Nat.le_trans (len_erase _ _) hz⟩) q
    | _ => exact (show False from q).elim
def extR : D → List D → Gp → DQ → Prop := fun d ds G Q => match d, ds with
  | .ref a, [.ref b] => ∃ x y, G a = some (.lst x) ∧ G b = some (.lst y) ∧ x.length + y.length ≤ sizeLine ∧ Q .non (put G a (.lst (x ++ y)))
  | _, _ => False
theorem dm_extend : DMt X B "list.extend" extR := by
  refine ⟨_, mt_extend, fun H G x d xs ds Q P r1 r2 R q hp => ?_⟩
  match d, ds, q, r1, r2 with
  | .ref a, [.ref b], q, r1, r2 =>
    cases r1
    obtain ⟨v, ev, rv⟩ := rel1 r2
    subst ev
    cases rv
    obtain ⟨x, y, g1, g2, hz, q⟩ := q
    obtain ⟨vs, h1, h2, _⟩ := lst_at R g1
    obtain ⟨ws, h1', h2', _⟩ := lst_at R g2
    have kw : Kp H (upd H a (.lst (vs ++ ws))) := .write h1 fun _ z => nomatch z
    exact ⟨a, b, vs, ws, rfl, rfl, h1, h1', by rw [← h2.length, ← h2'.length]; exact hz, hp _ .non _ _ kw rfl (R.write (o := .lst (x ++ y)) h1 (fun _ z => nomatch z) ⟨_, upd_same, (h2.mono kw).append (h2'.mono kw), by rw [List.length_append]; exact hz⟩) q⟩
def clearR : D → List D → Gp → DQ → Prop := fun d ds G Q => match d, ds with
  | .ref a, [] => ∃ o, G a = some o ∧ (match o with
    | .lst _ => Q .non (put G a (.lst []))
    | _ => False)
  | _, _ => False
theorem dm_clear : DMt X B "list.clear" clearR := by
  refine ⟨_, mt_clear, fun H G x d xs ds Q P r1 r2 R q hp => ?_⟩
  match d, ds, q, r1, r2 with
  | .ref a, [], q, r1, r2 =>
    cases r1
    cases (relL_nil.mp r2)
    obtain ⟨o, g, q⟩ := q
    cases o with
    | lst zs =>
      obtain ⟨vs, h1, h2, hz⟩ := lst_at R g
      have kw : Kp H (upd H a (.lst [])) := .write h1 fun _ z => nomatch z
      exact ⟨a, vs, rfl, rfl, h1, hp _ .non _ _ kw rfl (R.write (o := .lst []) h1 (fun _ z => nomatch z) ⟨_, upd_same, rfl, Nat.zero_le _⟩) q⟩
    | _ => exact (show False from q).elim
end
end DL
set_option Elab.async false
set_option linter.all false
set_option maxRecDepth 100000
set_option maxHeartbeats 4000000
namespace DL
open PySem PySem.Spec L2

/-! ### attributes -/
/-- a value stored at the i-th attribute (the next new one) -/
@[simp] def storeF (fs : List D) (i : Nat) (v : D) : List D := if i < fs.length then fs.set i v else fs ++ [v]
def dFld (C : Addr) (ns : List Str) (i : Nat) (ta : DTE) : DTE := fun sd G Q => ta sd G fun d G1 => match d with
  | .ref a => ∃ o, G1 a = some o ∧ (match o with
    | .ins C' ns' fs => C' = C ∧ ns' = ns ∧ ∃ v, fs[i]? = some v ∧ Q v G1
    | _ => False)
  | _ => False
def dsFld (C : Addr) (ns : List Str) (i : Nat) (to te : DTE) : DTS := fun DD sd G => te sd G fun v G1 => to sd G1 fun d G2 => match d with
  | .ref a => ∃ o, G2 a = some o ∧ (match o with
    | .ins C' ns' fs => C' = C ∧ ns' = ns ∧ i ≤ fs.length ∧ DD.nx sd (put G2 a (.ins C ns (storeF fs i v)))
    | _ => False)
  | _ => False
theorem fld_at {H : Hp} {f : Str} : ∀ {names : List Str} {fs : List (Str × V)} {ds : List D} {i : Nat} {d : D}, names.Nodup → fs.map (·.1) = names.take ds.length → RelL H ds (fs.map (·.2)) → names[i]? = some f → ds[i]? = some d →
    ∃ v, fs.lookup f = some v ∧ Rel H d v
  | names, [], ds, i, d, _, _, r, _, h => by
    cases ds with
    | nil => simp at h
    | cons _ _ => obtain ⟨_, _, e, _⟩ := r; simp at e
  | names, (g, u) :: fs, ds, i, d, nd, h1, r, h2, h3 => by
    cases ds with
    | nil => simp at h3
    | cons e ds =>
      obtain ⟨r1, r2⟩ := relL_cons.mp (show RelL H (e :: ds) (u :: fs.map (·.2)) from r)
      cases names with
      | nil => simp at h2
      | cons n names =>
        simp only [List.map_cons, List.length_cons, List.take_succ_cons, List.cons.injEq] at h1
        obtain ⟨rfl, h1⟩ := h1
        cases i with
        | zero =>
          simp at h2 h3
          subst h2 h3
          exact ⟨u, by simp [List.lookup_cons], r1⟩
        | succ i =>
          simp at h2 h3
          have hne : ¬ f = g := fun z => by
            subst z
            exact (List.nodup_cons.mp nd).1 (List.mem_of_getElem? h2)
          obtain ⟨v, e1, e2⟩ := fld_at (List.nodup_cons.mp nd).2 h1 r2 h2 h3
          refine ⟨v, ?_, e2⟩
          rw [List.lookup_cons]
          have : (f == g) = false := by simpa using hne
          rw [this]
          exact e1
theorem putF_at {H : Hp} {f : Str} {v : V} {d : D} (rv : Rel H d v) : ∀ {names : List Str} {fs : List (Str × V)} {ds : List D} {i : Nat}, names.Nodup → fs.map (·.1) = names.take ds.length → RelL H ds (fs.map (·.2)) → names[i]? = some f → i ≤ ds.length →
    (putF f v fs).map (·.1) = names.take (storeF ds i d).length ∧ RelL H (storeF ds i d) ((putF f v fs).map (·.2))
  | names, [], ds, i, nd, h1, r, h2, h3 => by
    cases ds with
    | nil =>
      have hi : i = 0 := by simpa using h3
      subst hi
      cases names with
      | nil => simp at h2
      | cons n names =>
        simp at h2
        subst h2
        exact ⟨by simp [putF, storeF], by simpa [putF, storeF] using RelL.one rv⟩
    | cons _ _ => obtain ⟨_, _, e, _⟩ := r; simp at e
  | names, (g, u) :: fs, ds, i, nd, h1, r, h2, h3 => by
    cases ds with
    | nil =>
      simp at h1
    | cons e ds =>
      obtain ⟨r1, r2⟩ := relL_cons.mp (show RelL H (e :: ds) (u :: fs.map (·.2)) from r)
      cases names with
      | nil => simp at h2
      | cons n names =>
        simp only [List.map_cons, List.length_cons, List.take_succ_cons, List.cons.injEq] at h1
        obtain ⟨rfl, h1⟩ := h1
        cases i with
        | zero =>
          simp at h2
          subst h2
          have e1 : putF g v ((g, u) :: fs) = (g, v) :: fs := by simp [putF]
          rw [e1]
          refine ⟨?_, ?_⟩
          · simp [storeF, h1]
          · simp only [storeF, List.length_cons, Nat.zero_lt_succ, if_true, List.set_cons_zero, List.map_cons]
            exact relL_cons.mpr ⟨rv, r2⟩
        | succ i =>
          simp at h2
          have hne : ¬ g = f := fun z => by
            subst z
            exact (List.nodup_cons.mp nd).1 (List.mem_of_getElem? h2)
          have e1 : putF f v ((g, u) :: fs) = (g, u) :: putF f v fs := by simp [putF, hne]
          obtain ⟨q1, q2⟩ := putF_at rv (List.nodup_cons.mp nd).2 h1 r2 h2 (Nat.le_of_succ_le_succ h3)
          have e2 : storeF (e :: ds) (i + 1) d = e :: storeF ds i d := by
            unfold storeF
            by_cases z : i < ds.length
            · simp [z]
            · simp [z]
          rw [e1, e2]
          refine ⟨by simp [q1], ?_⟩
          exact relL_cons.mpr ⟨r1, q2⟩
section
variable {X : Cx} {B : Bx} {o e value : Expr} {f : Str} {C : Addr} {ns : List Str} {i : Nat} {pos pos' : Pos} {ta to te : DTE}
theorem de_fld (he : DE X B e ta) (cl : Cls X.K C) (na : NoAttr X.K C f) (nd : ns.Nodup) (hi : ns[i]? = some f) (hb : attributeBase e f X.env (eval e X.env) = eval e X.env := by rfl) : DE X B (.Attribute e f pos) (dFld C ns i ta) := by
  obtain ⟨ta', pa, ha⟩ := he.ex
  refine ⟨_, pe_fld pa hb, fun σ H sd G Q P hS R t hp => ?_⟩
  refine ha σ H sd G _ _ hS R t fun v d H1 G1 k1 r1 R1 q1 => ?_
  cases d with
  | ref a =>
    cases r1
    obtain ⟨ob, g, q1⟩ := q1
    cases ob with
    | ins C' ns' ds =>
      obtain ⟨rfl, rfl, w, hw, q1⟩ := q1
      obtain ⟨dx, fs, h1, h2, h3⟩ := R1.at_ a _ g
      obtain ⟨v, hv, rv⟩ := fld_at nd h2 h3 hi hw
      exact ⟨a, C', dx, fs, v, rfl, h1, cl, na, hv, hp v w H1 G1 k1 rv R1 q1⟩
    | _ => exact (show False from q1).elim
  | _ => exact (show False from q1).elim
theorem ds_fld (ho : DE X B o to) (hv : DE X B value te) (cl : Cls X.K C) (na : NoAttr X.K C f) (nd : ns.Nodup) (hi : ns[i]? = some f) (hz : ns.length < 1000) (hs : swapsWith value (some (.Attribute o f pos')) pos.line X.env = pure false := by rfl) :
    DS X B (.Assign [.Attribute o f pos'] value pos) (dsFld C ns i to te) := by
  obtain ⟨to', po, ho⟩ := ho.ex
  obtain ⟨te', pe, he⟩ := hv.ex
  refine ⟨_, ps_fld po pe hs, fun σ H sd G DD D hS R t hp => ?_⟩
  refine he σ H sd G _ _ hS R t fun v d H1 G1 k1 r1 R1 q1 => ?_
  refine ho σ H1 sd G1 _ _ (hS.mono k1) R1 q1 fun x dx H2 G2 k2 r2 R2 q2 => ?_
  cases dx with
  | ref a =>
    cases r2
    obtain ⟨ob, g, q2⟩ := q2
    cases ob with
    | ins C' ns' ds =>
      obtain ⟨rfl, rfl, hl, q2⟩ := q2
      obtain ⟨dx, fs, h1, h2, h3⟩ := R2.at_ a _ g
      have hfl : fs.length < 1000 := by
        have e := congrArg List.length h2
        simp at e
        omega
      have kw : Kp H2 (upd H2 a (.ins C' dx (putF f v fs))) := .write h1 fun _ z => nomatch z
      obtain ⟨p1, p2⟩ := putF_at ((r1.mono k2).mono kw) nd h2 (h3.mono kw) hi hl
      refine ⟨a, C', dx, fs, rfl, h1, cl, na, hfl, ?_⟩
      exact hp.nx σ sd _ _ (k1.trans (k2.trans kw)) (hS.mono (k1.trans (k2.trans kw))) (R2.write (o := .ins C' ns' (storeF ds i d)) h1 (fun _ z => nomatch z) ⟨dx, _, upd_same, p1, p2⟩) q2
    | _ => exact (show False from q2).elim
  | _ => exact (show False from q2).elim
end

/-! ### exceptions wished for, own defs -/
abbrev DXK := Addr → Option (Str × D) → Gp → Prop
abbrev DWX := Addr → Option (Str × D) → SD → Gp → Prop
abbrev DSp := List D → Gp → DQ → DXK → Prop
/-- what an exception bears: nothing, or one attribute -/
def RelX (H : Hp) : Option (Str × D) → Option Addr → Prop
  | none, none => True
  | some y, some dx => ∃ v, H dx = some (.xd [(y.1, v)]) ∧ Rel H y.2 v
  | _, _ => False
structure Wish (X : Cx) (B : Bx) (W : DWX) : Prop where
  ex : ∃ Wv : WX, Takes X Wv ∧ ∀ C x d σ H sd G, RelS H σ sd → Rep X.K B H G → RelX H x d → W C x sd G → Wv (.ref C) d σ H
abbrev W0 : DWX := fun _ _ _ _ => False
theorem wish0 {X : Cx} {B : Bx} : Wish X B W0 := ⟨_, takes0, fun _ _ _ _ _ _ _ _ _ _ z => z⟩
def liftSp (K : PySem.W.Frag) (sp : DSp) : Sp := fun vs H Q E => ∃ ds G QD ED, RelL H ds vs ∧ Rep K ⟨H⟩ H G ∧ sp ds G QD ED ∧ PostE K ⟨H⟩ H QD Q ∧
  (∀ C x d H' G', Kp H H' → Rep K ⟨H⟩ H' G' → RelX H' x d → ED C x G' → E (.ref C) d H')
theorem Rep.rebase {K : PySem.W.Frag} {B : Bx} {H H' : Hp} {G : Gp} (R : Rep K B H G) (k : Kp H' H) : Rep K ⟨H'⟩ H G := ⟨k, R.at_, R.tb⟩
theorem Rep.back {K : PySem.W.Frag} {B : Bx} {H H' : Hp} {G G' : Gp} (R : Rep K B H G) (R' : Rep K ⟨H⟩ H' G') : Rep K B H' G' := ⟨R.k0.trans R'.k0, R'.at_, R'.tb⟩
def dCall (sp : DSp) (W : DWX) (t : DTA) : DTE := fun sd G Q => t sd G fun ds G1 => sp ds G1 Q fun C x G2 => W C x sd G2
def dMeth (C : Addr) (ns : List Str) (sp : DSp) (W : DWX) (to : DTE) (t : DTA) : DTE := fun sd G Q => to sd G fun d G1 => match d with
  | .ref a => (∃ fs, G1 a = some (.ins C ns fs)) ∧ t sd G1 fun ds G2 => sp (.ref a :: ds) G2 Q fun C x G3 => W C x sd G3
  | _ => False
def dMake (C : Addr) (ns : List Str) (sp : DSp) (W : DWX) (t : DTA) : DTE := fun sd G Q => t sd G fun ds G1 => ∀ a, Nw G1 a → sp (.ref a :: ds) (put G1 a (.ins C ns [])) (fun d G2 => d = .non ∧ Q (.ref a) G2) fun C x G3 => W C x sd G3
section
variable {X : Cx} {B : Bx} {CX : CXT} {k : Nat} {f C : Addr} {fd : FuncData} {ps : List Str} {spv : Sp} {sp : DSp} {E : L2.St → XK} {x m : Str} {p pos apos : Pos} {e o : Expr} {es : List Expr} {ta : TE} {t : TA} {W : DWX} {tD : DTA} {toD : DTE} {ns : List Str}
theorem lift_at {W : DWX} {Wv : WX} {σ : L2.St} {H H1 : Hp} {sd : SD} {G G1 : Gp} {Q : DQ} {P : VK} {ds : List D} {vs : List V} (hS : RelS H1 σ sd)
    (hW : ∀ C x d σ H sd G, RelS H σ sd → Rep X.K B H G → RelX H x d → W C x sd G → Wv (.ref C) d σ H)
    (r : RelL H1 ds vs) (R : Rep X.K B H1 G1) (q : sp ds G1 Q fun C x G2 => W C x sd G2) (hp : PostE X.K B H1 Q P) : liftSp X.K sp vs H1 P (WE Wv σ) :=
  ⟨ds, G1, Q, _, r, R.rebase (.refl H1), q, fun v d H' G' k r' R' q' => hp v d H' G' k r' (R.back R') q', fun C x d H' G' k R' rx w => hW C x d σ H' sd G' (hS.mono k) (R.back R') rx w⟩
theorem de_call (F : FnOk X.prog X.w X.K X.mg X.base (L2.CX X.prog X.w) k f fd ps (liftSp X.K sp)) (hr : Room k X.A) (hg : Gl X x) (hm : X.mg x = some (.ref f)) (hk : PySem.W.keepIn X.K (.ref f) = true) (hb : Binds X.K fd ps [])
    (tk : Wish X B W) (ha : DA X B (e :: es) tD) (hdb : (x == ("__debug__" : Str)) = false := by decide) (he : starEach (e :: es) X.env = (false, eval e X.env) :: starEach es X.env := by rfl) (hpl : (backTo pos (starEach es X.env)).any (·.1) = false := by rfl) :
    DE X B (.Call (.Name x p) (e :: es) [] pos) (dCall sp W tD) := by
  obtain ⟨Wv, tk, hW⟩ := tk.ex
  obtain ⟨t', pa, ha⟩ := ha.ex
  refine ⟨_, pe_callS (E := WE Wv) F hr hg hm hk hb (passAt tk) pa hdb he hpl, fun σ H sd G Q P hS R t hp => ?_⟩
  exact ha σ H sd G _ _ hS R t fun vs ds H1 G1 _ k1 r1 R1 q1 => lift_at (X := X) (H := H) (G := G) (hS.mono k1) hW r1 R1 q1 (hp.mono k1)
def tMethS (C : Addr) (m : Str) (sp : Sp) (E : L2.St → XK) (ta : TE) (t : TA) : TE := fun σ H Q => ta σ H fun x H1 => ∃ a dx fs, x = .ref a ∧ H1 a = some (.ins C dx fs) ∧ fs.lookup m = none ∧
  t σ H1 fun vs H2 => sp (x :: vs) H2 Q (E σ)
theorem pe_methS {pl : Sem Bool} (he : PE X o ta) (c : Cls X.K C) (hm : Meth X.K C m f) (F : FnOk X.prog X.w X.K X.mg X.base CX k f fd ps spv) (hr : Room k X.A) (hb : Binds X.K fd ps []) (hx : ∀ σ, PassesAt CX X σ (E σ)) (ha : PA X (e :: es) t)
    (hst : starEach (e :: es) X.env = (false, eval e X.env) :: starEach es X.env := by rfl) (hpl : (backTo pos (starEach es X.env)).any (·.1) = false := by rfl)
    (ht : eval (.Call (.Attribute o m apos) (e :: es) [] pos) X.env = (do
      let ov ← eval o X.env
      standAt apos.atName
      let (f, first) ← holding [ov] (getMethod ov m pl)
      callWith pos f first (backTo pos (starEach (e :: es) X.env)) (backToKw pos (keywordEach [] X.env))) := by rfl) :
    PE X (.Call (.Attribute o m apos) (e :: es) [] pos) (tMethS C m spv E ta t) := by
  refine ⟨fun pins s σ H Q I h => ?_⟩
  refine PySem.W.methodCall_KW (pl := pl) (thn (he.run pins s σ H _ I h) fun u s1 ⟨x, H1, I1, rx, a, dx, fs, ex, ea, l, q⟩ => ?_) ht
  subst ex
  obtain rfl : u = Value.ref a := rx
  refine getmeth_ok I1 ea c hm l ?_
  refine PySem.W.callWith_K (first := [.ref a]) (h₀ := X.base) I.ok.mod.kin hm.kp (thn (ha.run pos pins s1 σ H1 _ I1 q) fun us s2 ⟨vs, H2, I2, r, q2⟩ => ⟨I2.kIn, ?_⟩) hst hpl
  exact run_fnS (us := .ref a :: us) (vs := .ref a :: vs) F hr hb (hx σ) I2 (.cons rfl r) q2
theorem pe_methS0 {pl : Sem Bool} (he : PE X o ta) (c : Cls X.K C) (hm : Meth X.K C m f) (F : FnOk X.prog X.w X.K X.mg X.base CX k f fd ps spv) (hr : Room k X.A) (hb : Binds X.K fd ps []) (hx : ∀ σ, PassesAt CX X σ (E σ))
    (ht : eval (.Call (.Attribute o m apos) [] [] pos) X.env = (do
      let ov ← eval o X.env
      standAt apos.atName
      let (f, first) ← holding [ov] (getMethod ov m pl)
      callWith pos f first (backTo pos (starEach [] X.env)) (backToKw pos (keywordEach [] X.env))) := by rfl) :
    PE X (.Call (.Attribute o m apos) [] [] pos) (tMethS C m spv E ta tNil) := by
  refine ⟨fun pins s σ H Q I h => ?_⟩
  refine PySem.W.methodCall_KW (pl := pl) (thn (he.run pins s σ H _ I h) fun u s1 ⟨x, H1, I1, rx, a, dx, fs, ex, ea, l, q⟩ => ?_) ht
  subst ex
  obtain rfl : u = Value.ref a := rx
  refine getmeth_ok I1 ea c hm l ?_
  exact PySem.W.callWith_K0 (first := [.ref a]) I1.kIn hm.kp (run_fnS (us := [.ref a]) (vs := [.ref a]) F hr hb (hx σ) I1 (.cons rfl .nil) q)
theorem meth_none {K : PySem.W.Frag} {H : Hp} {a : Addr} {C : Addr} {ds : List D} (h : RepO K H a (.ins C ns ds)) (hm : m ∉ ns) : ∃ dx fs, H a = some (.ins C dx fs) ∧ fs.lookup m = none := by
  obtain ⟨dx, fs, h1, h2, _⟩ := h
  refine ⟨dx, fs, h1, ?_⟩
  rw [List.lookup_eq_none_iff]
  intro q hq
  have : q.1 ∈ ns.take ds.length := by rw [← h2]; exact List.mem_map_of_mem hq
  have hne : ¬ m = q.1 := fun z => hm (z ▸ List.mem_of_mem_take this)
  simpa using hne
theorem de_meth {pl : Sem Bool} (he : DE X B o toD) (c : Cls X.K C) (hm : Meth X.K C m f) (hn : m ∉ ns) (F : FnOk X.prog X.w X.K X.mg X.base (L2.CX X.prog X.w) k f fd ps (liftSp X.K sp)) (hr : Room k X.A) (hb : Binds X.K fd ps []) (tk : Wish X B W) (ha : DA X B (e :: es) tD)
    (hst : starEach (e :: es) X.env = (false, eval e X.env) :: starEach es X.env := by rfl) (hpl : (backTo pos (starEach es X.env)).any (·.1) = false := by rfl)
    (ht : eval (.Call (.Attribute o m apos) (e :: es) [] pos) X.env = (do
      let ov ← eval o X.env
      standAt apos.atName
      let (f, first) ← holding [ov] (getMethod ov m pl)
      callWith pos f first (backTo pos (starEach (e :: es) X.env)) (backToKw pos (keywordEach [] X.env))) := by rfl) :
    DE X B (.Call (.Attribute o m apos) (e :: es) [] pos) (dMeth C ns sp W toD tD) := by
  obtain ⟨Wv, tk, hW⟩ := tk.ex
  obtain ⟨to', po, ho⟩ := he.ex
  obtain ⟨t', pa, ha⟩ := ha.ex
  refine ⟨_, pe_methS (E := WE Wv) po c hm F hr hb (passAt tk) pa hst hpl ht, fun σ H sd G Q P hS R t hp => ?_⟩
  refine ho σ H sd G _ _ hS R t fun v d H1 G1 k1 r1 R1 q1 => ?_
  cases d with
  | ref a =>
    cases r1
    obtain ⟨⟨fs, g⟩, q1⟩ := q1
    obtain ⟨dx, fs', h1, h2⟩ := meth_none (R1.at_ a _ g) hn
    refine ⟨a, dx, fs', rfl, h1, h2, ?_⟩
    refine ha σ H1 sd G1 _ _ (hS.mono k1) R1 q1 fun vs ds H2 G2 _ k2 r2 R2 q2 => ?_
    exact lift_at (X := X) (H := H) (G := G) (hS.mono (k1.trans k2)) hW (relL_cons.mpr ⟨(show Rel H2 (.ref a) (.ref a) from rfl), r2⟩) R2 q2 (hp.mono (k1.trans k2))
  | _ => exact (show False from q1).elim
theorem de_meth0 {pl : Sem Bool} (he : DE X B o toD) (c : Cls X.K C) (hm : Meth X.K C m f) (hn : m ∉ ns) (F : FnOk X.prog X.w X.K X.mg X.base (L2.CX X.prog X.w) k f fd ps (liftSp X.K sp)) (hr : Room k X.A) (hb : Binds X.K fd ps []) (tk : Wish X B W)
    (ht : eval (.Call (.Attribute o m apos) [] [] pos) X.env = (do
      let ov ← eval o X.env
      standAt apos.atName
      let (f, first) ← holding [ov] (getMethod ov m pl)
      callWith pos f first (backTo pos (starEach [] X.env)) (backToKw pos (keywordEach [] X.env))) := by rfl) :
    DE X B (.Call (.Attribute o m apos) [] [] pos) (dMeth C ns sp W toD daNil) := by
  obtain ⟨Wv, tk, hW⟩ := tk.ex
  obtain ⟨to', po, ho⟩ := he.ex
  refine ⟨_, pe_methS0 (E := WE Wv) po c hm F hr hb (passAt tk) ht, fun σ H sd G Q P hS R t hp => ?_⟩
  refine ho σ H sd G _ _ hS R t fun v d H1 G1 k1 r1 R1 q1 => ?_
  cases d with
  | ref a =>
    cases r1
    obtain ⟨⟨fs, g⟩, q1⟩ := q1
    obtain ⟨dx, fs', h1, h2⟩ := meth_none (R1.at_ a _ g) hn
    exact ⟨a, dx, fs', rfl, h1, h2, lift_at (X := X) (H := H) (G := G) (hS.mono k1) hW (relL_cons.mpr ⟨(show Rel H1 (.ref a) (.ref a) from rfl), (show RelL H1 [] [] from rfl)⟩) R1 q1 (hp.mono k1)⟩
  | _ => exact (show False from q1).elim
end
end DL
set_option Elab.async false
set_option linter.all false
set_option maxRecDepth 100000
set_option maxHeartbeats 4000000
namespace DL
open PySem PySem.Spec L2
section
variable {X : Cx} {B : Bx} {CX : CXT} {k : Nat} {f C : Addr} {fd : FuncData} {ps : List Str} {spv : Sp} {sp : DSp} {E : L2.St → XK} {x m : Str} {p pos apos : Pos} {e o : Expr} {es : List Expr} {ta : TE} {t : TA} {W : DWX} {tD : DTA} {ns : List Str}
theorem run_makeS {pins : List (Addr × Obj)} {σ : L2.St} {H : Hp} {s : Shared} {Q : VK} {us : List Value} {vs : List V} (M : Mk X.K C f) (F : FnOk X.prog X.w X.K X.mg X.base CX k f fd ps spv) (hr : Room (k + 1) X.A) (hb : Binds X.K fd ps [])
    (hx : PassesAt CX X σ (E σ)) (I : Inv X pins σ H s) (r : Vals vs us)
    (h : ∀ x dx, H x = none → H dx = none → dx ≠ x → spv (.ref x :: vs) (upd (upd H dx (.own x)) x (.ins C dx [])) (fun v H2 => v = .non ∧ Q (.ref x) H2) (E σ)) :
    wpAny (model X.prog X.w) X.A (call (.ref C) us) (EP X pins σ Q) X.xe s := by
  have hq := h (s.heap.objs.size + 1) s.heap.objs.size (I.hok.fresh (Nat.le_succ _)) (I.hok.fresh (Nat.le_refl _)) (Nat.ne_of_lt (Nat.lt_succ_self _))
  have I2 := Inv.made (C := C) I
  have r2 : Vals (V.ref (s.heap.objs.size + 1) :: vs) (Value.ref (s.heap.objs.size + 1) :: us) := .cons rfl r
  have hl : (Value.ref (s.heap.objs.size + 1) :: us ++ []).length = ps.length := by
    have e := r2.length
    rw [F.len _ _ _ _ hq] at e
    rw [List.append_nil]
    exact e.symm
  have hbb := hb _ (Value.ref (s.heap.objs.size + 1) :: us) I2.kIn hl
  rw [List.append_nil] at hbb
  refine wpAny_call (make_map (f := f) I.kIn M.makes M.init (beq_iff_eq.mp M.fn) (codeAny_mono (F.run _ X.stack _ _ ⟨Value.ref (s.heap.objs.size + 1) :: us, []⟩ (Value.ref (s.heap.objs.size + 1) :: us) _ _ (E σ) (hr.make C us [])
    (I2.env0.make C us []) hbb r2 hq) fun r s' hq' => ?_))
  cases r with
  | error e => exact hx pins _ _ e s' I2 hq'
  | ok fl =>
    cases fl with
    | ret u =>
      obtain ⟨v, H', I3, rv, ev, q3⟩ := I2.after hq'
      subst ev
      exact ⟨rv, ⟨V.ref (s.heap.objs.size + 1), H', I3, rfl, q3⟩⟩
    | next => exact False.elim hq'
    | brk => exact False.elim hq'
    | cont => exact False.elim hq'
def tMakeS (C : Addr) (sp : Sp) (E : L2.St → XK) (t : TA) : TE := fun σ H Q => t σ H fun vs H1 => ∀ x dx, H1 x = none → H1 dx = none → dx ≠ x →
  sp (.ref x :: vs) (upd (upd H1 dx (.own x)) x (.ins C dx [])) (fun v H2 => v = .non ∧ Q (.ref x) H2) (E σ)
theorem pe_makeS (M : Mk X.K C f) (F : FnOk X.prog X.w X.K X.mg X.base CX k f fd ps spv) (hr : Room (k + 1) X.A) (hg : Gl X x) (hm : X.mg x = some (.ref C)) (hb : Binds X.K fd ps []) (hx : ∀ σ, PassesAt CX X σ (E σ))
    (ha : PA X (e :: es) t) (hdb : (x == ("__debug__" : Str)) = false := by decide) (he : starEach (e :: es) X.env = (false, eval e X.env) :: starEach es X.env := by rfl) (hpl : (backTo pos (starEach es X.env)).any (·.1) = false := by rfl) :
    PE X (.Call (.Name x p) (e :: es) [] pos) (tMakeS C spv E t) := by
  refine ⟨fun pins s σ H Q I h => ?_⟩
  refine wpAny_Call_Name_kw (ld_glob I hg hm ?_ hdb)
  refine PySem.W.callWith_K (h₀ := X.base) I.ok.mod.kin M.kp (thn (ha.run pos pins s σ H _ I h) fun us s1 ⟨vs, H1, I1, r, q⟩ => ⟨I1.kIn, ?_⟩) he hpl
  exact run_makeS M F hr hb (hx σ) I1 r q
theorem pe_makeS0 (M : Mk X.K C f) (F : FnOk X.prog X.w X.K X.mg X.base CX k f fd ps spv) (hr : Room (k + 1) X.A) (hg : Gl X x) (hm : X.mg x = some (.ref C)) (hb : Binds X.K fd ps []) (hx : ∀ σ, PassesAt CX X σ (E σ))
    (hdb : (x == ("__debug__" : Str)) = false := by decide) : PE X (.Call (.Name x p) [] [] pos) (tMakeS C spv E tNil) := by
  refine ⟨fun pins s σ H Q I h => ?_⟩
  refine wpAny_Call_Name_kw (ld_glob I hg hm ?_ hdb)
  exact PySem.W.callWith_K0 I.kIn M.kp (run_makeS (us := []) M F hr hb (hx σ) I .nil h)
theorem made_at {Wv : WX} {σ : L2.St} {H1 : Hp} {sd : SD} {G1 : Gp} {Q : DQ} {P : VK} {ds : List D} {vs : List V} (hS : RelS H1 σ sd)
    (hW : ∀ C x d σ H sd G, RelS H σ sd → Rep X.K B H G → RelX H x d → W C x sd G → Wv (.ref C) d σ H)
    (r : RelL H1 ds vs) (R : Rep X.K B H1 G1) (q : ∀ a, Nw G1 a → sp (.ref a :: ds) (put G1 a (.ins C ns [])) (fun d G2 => d = .non ∧ Q (.ref a) G2) fun C x G3 => W C x sd G3) (hp : PostE X.K B H1 Q P)
    (x dx : Addr) (n1 : H1 x = none) (n2 : H1 dx = none) (ne : dx ≠ x) : liftSp X.K sp (.ref x :: vs) (upd (upd H1 dx (.own x)) x (.ins C dx [])) (fun v H2 => v = .non ∧ P (.ref x) H2) (WE Wv σ) := by
  have k1 : Kp H1 (upd H1 dx (.own x)) := .fresh n2
  have n1' : upd H1 dx (.own x) x = none := by rw [upd_ne (Ne.symm ne)]; exact n1
  have k2 : Kp (upd H1 dx (.own x)) (upd (upd H1 dx (.own x)) x (.ins C dx [])) := .fresh n1'
  have R1 : Rep X.K B (upd H1 dx (.own x)) G1 := R.fresh n2
  have R2 : Rep X.K B (upd (upd H1 dx (.own x)) x (.ins C dx [])) (put G1 x (.ins C ns [])) := R1.laid (o := .ins C ns []) n1' ⟨dx, [], upd_same, rfl, rfl⟩
  have kk := k1.trans k2
  refine lift_at (X := X) (H := H1) (G := G1) (hS.mono kk) hW (relL_cons.mpr ⟨(show Rel _ (.ref x) (.ref x) from rfl), r.mono kk⟩) R2 (q x (R.gnone n1)) fun v d H' G' k r' R' q' => ?_
  obtain ⟨rfl, q'⟩ := q'
  exact ⟨r', hp (.ref x) (.ref x) H' G' (kk.trans k) rfl R' q'⟩
theorem de_make (M : Mk X.K C f) (F : FnOk X.prog X.w X.K X.mg X.base (L2.CX X.prog X.w) k f fd ps (liftSp X.K sp)) (hr : Room (k + 1) X.A) (hg : Gl X x) (hm : X.mg x = some (.ref C)) (hb : Binds X.K fd ps []) (tk : Wish X B W)
    (ha : DA X B (e :: es) tD) (hdb : (x == ("__debug__" : Str)) = false := by decide) (he : starEach (e :: es) X.env = (false, eval e X.env) :: starEach es X.env := by rfl) (hpl : (backTo pos (starEach es X.env)).any (·.1) = false := by rfl) :
    DE X B (.Call (.Name x p) (e :: es) [] pos) (dMake C ns sp W tD) := by
  obtain ⟨Wv, tk, hW⟩ := tk.ex
  obtain ⟨t', pa, ha⟩ := ha.ex
  refine ⟨_, pe_makeS (E := WE Wv) M F hr hg hm hb (passAt tk) pa hdb he hpl, fun σ H sd G Q P hS R t hp => ?_⟩
  exact ha σ H sd G _ _ hS R t fun vs ds H1 G1 _ k1 r1 R1 q1 => made_at (X := X) (hS.mono k1) hW r1 R1 q1 (hp.mono k1)
theorem de_make0 (M : Mk X.K C f) (F : FnOk X.prog X.w X.K X.mg X.base (L2.CX X.prog X.w) k f fd ps (liftSp X.K sp)) (hr : Room (k + 1) X.A) (hg : Gl X x) (hm : X.mg x = some (.ref C)) (hb : Binds X.K fd ps []) (tk : Wish X B W)
    (hdb : (x == ("__debug__" : Str)) = false := by decide) : DE X B (.Call (.Name x p) [] [] pos) (dMake C ns sp W daNil) := by
  obtain ⟨Wv, tk, hW⟩ := tk.ex
  refine ⟨_, pe_makeS0 (E := WE Wv) M F hr hg hm hb (passAt tk) hdb, fun σ H sd G Q P hS R t hp => ?_⟩
  exact made_at (X := X) hS hW (show RelL H [] [] from rfl) R t hp
/-- raise X('..') -/
def dRaise (C : Addr) (W : DWX) : DTS := fun _ sd G => W C none sd G
theorem ds_raise {e : Expr} (hc : X.calm = true) (tk : Wish X B W) (he : PMk X e (fun _ H Q => Q (.ref C) none H)) : DS X B (.Raise (some e) none pos) (dRaise C W) := by
  obtain ⟨Wv, tk, hW⟩ := tk.ex
  exact ⟨_, ps_raise hc tk he, fun σ H sd G DD D hS R t hp => hW C none none σ H sd G hS R True.intro t⟩
end

/-! ### a def's body -/
def dstart (N : List Str) (ds : List D) : SD := ds.map some ++ List.replicate (N.length - ds.length) none
theorem relS_start {H : Hp} {N : List Str} : ∀ {ds : List D} {vs : List V}, RelL H ds vs → RelS H (start N vs) (dstart N ds) := fun {ds vs} r => by
  have hl := r.length
  refine ⟨by simp [L2.start, dstart, hl], fun i d e => ?_⟩
  unfold dstart at e
  unfold L2.start
  by_cases hi : i < ds.length
  · rw [List.getElem?_append_left (by simpa using hi)] at e
    rw [List.getElem?_append_left (by simp; omega)]
    rw [List.getElem?_map] at e
    cases q : ds[i]? with
    | none => rw [q] at e; cases e
    | some d' =>
      rw [q] at e
      have : d' = d := by simpa using e
      subst this
      obtain ⟨v, h1, h2⟩ := r.get i q
      exact ⟨v, by simp [h1], h2⟩
  · rw [List.getElem?_append_right (by simpa using Nat.le_of_not_lt hi)] at e
    have := List.mem_of_getElem? e
    simp [List.mem_replicate] at this
section
variable {P : Program} {w : World} {K : PySem.W.Frag} {mg : Str → Option Value} {base : Heap} {x qual : Str} {params : Arguments} {body : List Stmt} {scope : Scope} {f : Addr} {fd : FuncData}
/-- the context of a def's body -/
abbrev Bd (P : Program) (w : World) (K : PySem.W.Frag) (mg : Str → Option Value) (base : Heap) (N : List Str) (qual : Str) (scope : Scope) (f : Addr) (cdv : Value) (A : Around) (outer : List Env) (s : Shared) (H : Hp) (E : XK) : Cx :=
  cxOf (L2.CX P w) P w K mg base N qual scope f cdv A outer s H E
/-- the def's code object -/
def CdOk (K : PySem.W.Frag) (f : Addr) (cdv : Value) : Prop := ∃ (oc : Value) (od : Option Addr) (fd : FuncData) (osl : Array (Option Value)), K.lookup f = some ⟨oc, od, .func fd, osl⟩ ∧ fd.code = cdv
theorem FunD.okC {CX : CXT} {N ps : List Str} {k : Nat} {sp : Sp} {dvs : List V} {kws : List (Str × V)} (F : FunD K x qual params body scope dvs kws f fd) (S : FnScope N ps scope) (len : ∀ vs H Q E, sp vs H Q E → vs.length = ps.length)
    (hbody : ∀ (cdv : Value) (A : Around) (outer : List Env) (s : Shared) (H : Hp) (vs : List V) (Q : VK) (E : XK), CdOk K f cdv → Room k (A.deeper (PyProof.Rows.envOfC qual scope s.heap.objs.size f cdv)) → sp vs H Q E →
      ∃ t, PSs (cxOf CX P w K mg base N qual scope f cdv A outer s H E) body t ∧ t { nx := fun _ H' => Q .non H', rt := Q } (start N vs) H) : FnOk P w K mg base CX (k + 1) f fd ps sp := by
  obtain ⟨oc, od, dV, kV, doc, pm, an, cdv, ct, osl, rfl, lk, hcd, _, _⟩ := F.ex
  exact fn_of lk hcd S len fun A outer s H vs Q E hr hsp => hbody cdv A outer s H vs Q E ⟨oc, od, _, osl, lk, rfl⟩ hr hsp
theorem dfn_ok {N ps : List Str} {k : Nat} {sp : DSp} {t : DXK → DTS} (F : FunD K x qual params body scope [] [] f fd) (S : FnScope N ps scope) (len : ∀ ds G Q E, sp ds G Q E → ds.length = ps.length)
    (hpure : ∀ ds G Q E, sp ds G Q E → t E { nx := fun _ G => Q .non G, rt := Q } (dstart N ds) G)
    (hbody : ∀ (cdv : Value) (A : Around) (outer : List Env) (s : Shared) (H : Hp) (E : XK) (ED : DXK), Room k (A.deeper (PyProof.Rows.envOfC qual scope s.heap.objs.size f cdv)) → PassesOwn (model P w) (Bd P w K mg base N qual scope f cdv A outer s H E).A (Bd P w K mg base N qual scope f cdv A outer s H E).env (Bd P w K mg base N qual scope f cdv A outer s H E).xe →
      Wish (Bd P w K mg base N qual scope f cdv A outer s H E) ⟨H⟩ (fun C x _ G => ED C x G) → CdOk K f cdv → DSs (Bd P w K mg base N qual scope f cdv A outer s H E) ⟨H⟩ body (t ED)) :
    FnOk P w K mg base (L2.CX P w) (k + 1) f fd ps (liftSp K sp) := by
  refine FunD.okC F S (fun vs H Q E h => ?_) (fun cdv A outer s H vs Q E cd hr h => ?_)
  · obtain ⟨ds, G, QD, ED, r, R, q, _⟩ := h
    rw [← r.length]
    exact len _ _ _ _ q
  · obtain ⟨ds, G, QD, ED, r, R, q, hq, hx⟩ := h
    have tk : Takes (Bd P w K mg base N qual scope f cdv A outer s H E) (fun cls d _ H => E cls d H) := takes_of rfl rfl rfl rfl
    have wi : Wish (Bd P w K mg base N qual scope f cdv A outer s H E) ⟨H⟩ (fun C x _ G => ED C x G) := ⟨_, tk, fun C x d σ H' sd G' _ R' rx w => hx C x d H' G' R'.k0 R' rx w⟩
    obtain ⟨ts, p, w'⟩ := (hbody cdv A outer s H E ED hr (passes_of (X := Bd P w K mg base N qual scope f cdv A outer s H E) rfl) wi cd).ex
    refine ⟨ts, p, w' _ H _ G _ _ (relS_start r) R (hpure ds G QD ED q) ⟨fun σ' sd' H' G' k _ R' q' => hq .non .non H' G' k rfl R' q', hq, ?_, ?_⟩⟩
    · intro σ' sd' H' G' _ _ _ z
      exact z.elim
    · intro σ' sd' H' G' _ _ _ z
      exact z.elim
end
end DL
set_option Elab.async false
set_option linter.all false
set_option maxRecDepth 100000
set_option maxHeartbeats 4000000
namespace DL
open PySem PySem.Spec L2

/-! ### callees by name -/
structure Cal (P : Program) (w : World) (K : PySem.W.Frag) (mg : Str → Option Value) (base : Heap) (k : Nat) (x : Str) (sp : DSp) : Prop where
  ex : ∃ f fd ps, FnOk P w K mg base (L2.CX P w) k f fd ps (liftSp K sp) ∧ mg x = some (.ref f) ∧ PySem.W.keepIn K (.ref f) = true ∧ Binds K fd ps []
structure Met (P : Program) (w : World) (K : PySem.W.Frag) (mg : Str → Option Value) (base : Heap) (k : Nat) (C : Addr) (m : Str) (sp : DSp) : Prop where
  ex : ∃ f fd ps, FnOk P w K mg base (L2.CX P w) k f fd ps (liftSp K sp) ∧ Meth K C m f ∧ Binds K fd ps []
structure Mak (P : Program) (w : World) (K : PySem.W.Frag) (mg : Str → Option Value) (base : Heap) (k : Nat) (x : Str) (C : Addr) (sp : DSp) : Prop where
  ex : ∃ f fd ps, FnOk P w K mg base (L2.CX P w) k f fd ps (liftSp K sp) ∧ Mk K C f ∧ mg x = some (.ref C) ∧ Binds K fd ps []
section
variable {X : Cx} {B : Bx} {j k : Nat} {C : Addr} {sp : DSp} {x m : Str} {p pos apos : Pos} {e o : Expr} {es : List Expr} {W : DWX} {tD : DTA} {toD : DTE} {ns : List Str}
theorem ce_call (c : Cal X.prog X.w X.K X.mg X.base k x sp) (hr : Room j X.A) (hk : k ≤ j) (hg : Gl X x) (tk : Wish X B W) (ha : DA X B (e :: es) tD)
    (hdb : (x == ("__debug__" : Str)) = false := by decide) (he : starEach (e :: es) X.env = (false, eval e X.env) :: starEach es X.env := by rfl) (hpl : (backTo pos (starEach es X.env)).any (·.1) = false := by rfl) :
    DE X B (.Call (.Name x p) (e :: es) [] pos) (dCall sp W tD) := by
  obtain ⟨f, fd, ps, F, hm, hkp, hb⟩ := c.ex
  exact de_call F (hr.mono hk) hg hm hkp hb tk ha hdb he hpl
theorem ce_meth {pl : Sem Bool} (he : DE X B o toD) (cl : Cls X.K C) (c : Met X.prog X.w X.K X.mg X.base k C m sp) (hn : m ∉ ns) (hr : Room j X.A) (hk : k ≤ j) (tk : Wish X B W) (ha : DA X B (e :: es) tD)
    (hst : starEach (e :: es) X.env = (false, eval e X.env) :: starEach es X.env := by rfl) (hpl : (backTo pos (starEach es X.env)).any (·.1) = false := by rfl)
    (ht : eval (.Call (.Attribute o m apos) (e :: es) [] pos) X.env = (do
      let ov ← eval o X.env
      standAt apos.atName
      let (f, first) ← holding [ov] (getMethod ov m pl)
      callWith pos f first (backTo pos (starEach (e :: es) X.env)) (backToKw pos (keywordEach [] X.env))) := by rfl) :
    DE X B (.Call (.Attribute o m apos) (e :: es) [] pos) (dMeth C ns sp W toD tD) := by
  obtain ⟨f, fd, ps, F, hm, hb⟩ := c.ex
  exact de_meth he cl hm hn F (hr.mono hk) hb tk ha hst hpl ht
theorem ce_meth0 {pl : Sem Bool} (he : DE X B o toD) (cl : Cls X.K C) (c : Met X.prog X.w X.K X.mg X.base k C m sp) (hn : m ∉ ns) (hr : Room j X.A) (hk : k ≤ j) (tk : Wish X B W)
    (ht : eval (.Call (.Attribute o m apos) [] [] pos) X.env = (do
      let ov ← eval o X.env
      standAt apos.atName
      let (f, first) ← holding [ov] (getMethod ov m pl)
      callWith pos f first (backTo pos (starEach [] X.env)) (backToKw pos (keywordEach [] X.env))) := by rfl) :
    DE X B (.Call (.Attribute o m apos) [] [] pos) (dMeth C ns sp W toD daNil) := by
  obtain ⟨f, fd, ps, F, hm, hb⟩ := c.ex
  exact de_meth0 he cl hm hn F (hr.mono hk) hb tk ht
theorem ce_make (c : Mak X.prog X.w X.K X.mg X.base k x C sp) (hr : Room j X.A) (hk : k + 1 ≤ j) (hg : Gl X x) (tk : Wish X B W) (ha : DA X B (e :: es) tD)
    (hdb : (x == ("__debug__" : Str)) = false := by decide) (he : starEach (e :: es) X.env = (false, eval e X.env) :: starEach es X.env := by rfl) (hpl : (backTo pos (starEach es X.env)).any (·.1) = false := by rfl) :
    DE X B (.Call (.Name x p) (e :: es) [] pos) (dMake C ns sp W tD) := by
  obtain ⟨f, fd, ps, F, M, hm, hb⟩ := c.ex
  exact de_make M F (hr.mono hk) hg hm hb tk ha hdb he hpl
theorem ce_make0 (c : Mak X.prog X.w X.K X.mg X.base k x C sp) (hr : Room j X.A) (hk : k + 1 ≤ j) (hg : Gl X x) (tk : Wish X B W) (hdb : (x == ("__debug__" : Str)) = false := by decide) :
    DE X B (.Call (.Name x p) [] [] pos) (dMake C ns sp W daNil) := by
  obtain ⟨f, fd, ps, F, M, hm, hb⟩ := c.ex
  exact de_make0 M F (hr.mono hk) hg hm hb tk hdb
/-- a negative number written -/
theorem de_neg {i : Int} {kk : Nat} {p1 p2 : Pos} : DE X B (.UnaryOp .USub (.Constant (.int i) kk p1) p2) (dC (.int (-i))) :=
  ⟨_, pe_un un_neg pe_int, fun σ H sd G Q P hs R t hp => ⟨i, rfl, hp _ (.int (-i)) H G (.refl H) rfl R t⟩⟩
end
theorem r64 {k : Nat} {A : Around} (hr : Room k A) : A.units + 64 < cLine := hr.units
theorem r65 {k : Nat} {A : Around} (hr : Room k A) : A.units + 65 < cLine := by have := hr.un; omega
theorem r1 {k : Nat} {A : Around} (hr : Room k A) : A.units + 1 < cLine := by have := hr.un; omega
/-- what stands behind the top -/
structure Said (fa : List He.Fa) (fn : List He.DefD) (K : PySem.W.Frag) (mg : Str → Option Value) : Prop where
  c : He.SaysD fa fn K
  top : ∃ h : Heap, K.In h ∧ h.Ns mainGlobals mg
section
variable {fa : List He.Fa} {fn : List He.DefD} {K : PySem.W.Frag} {mg : Str → Option Value}
theorem Said.glo (S : Said fa fn K mg) (i : Nat) {x : Str} (h : fa[i]? = some (.glo x) := by rfl) : mg x = some (.ref (He.ga K x)) := by
  obtain ⟨hp, X, G⟩ := S.top
  exact He.glo_ok X G (S.c.fact i h)
theorem Said.free (S : Said fa fn K mg) (i : Nat) {x : Str} (h : fa[i]? = some (.free x) := by rfl) : mg x = none := by
  obtain ⟨hp, X, G⟩ := S.top
  exact He.free_ok X G (S.c.fact i h)
theorem Said.int (S : Said fa fn K mg) (i : Nat) {x : Str} {n : Int} (h : fa[i]? = some (.int x n) := by rfl) : ∃ t, mg x = some (.int n t) := by
  obtain ⟨hp, X, G⟩ := S.top
  exact He.int_ok X G (S.c.fact i h)
theorem Said.str (S : Said fa fn K mg) (i : Nat) {x z : Str} (h : fa[i]? = some (.str x z) := by rfl) : ∃ t, mg x = some (.str z t) := by
  obtain ⟨hp, X, G⟩ := S.top
  exact He.str_ok X G (S.c.fact i h)
theorem Said.cls (S : Said fa fn K mg) (i : Nat) {x : Str} (h : fa[i]? = some (.cls x) := by rfl) : Cls K (He.ga K x) := He.cls_ok (S.c.fact i h)
theorem Said.noat (S : Said fa fn K mg) (i : Nat) {x f : Str} (h : fa[i]? = some (.noat x f) := by rfl) : NoAttr K (He.ga K x) f := He.noat_ok (S.c.fact i h)
theorem Said.meth (S : Said fa fn K mg) (i : Nat) {x m : Str} (h : fa[i]? = some (.meth x m) := by rfl) : Meth K (He.ga K x) m (He.ma K (He.ga K x) m) := He.meth_ok (S.c.fact i h)
theorem Said.mkr (S : Said fa fn K mg) (i : Nat) {x : Str} (h : fa[i]? = some (.mkr x) := by rfl) : Mk K (He.ga K x) (He.ma K (He.ga K x) "__init__") := He.mkr_ok (S.c.fact i h)
/-- X('..') made, to be raised -/
theorem Said.exc (S : Said fa fn K mg) (i j : Nat) {x : Str} (h : fa[i]? = some (.exc x) := by rfl) (hg : fa[j]? = some (.glo x) := by rfl) {X : Cx} {m : Str} {n : Nat} {p p2 pos : Pos} (eK : X.K = K) (em : X.mg = mg) (gl : Gl X x) (hdb : (x == ("__debug__" : Str)) = false := by decide) :
    PMk X (.Call (.Name x p) [.Constant (.str m) n p2] [] pos) (fun _ H Q => Q (.ref (He.ga K x)) none H) := by
  subst eK em
  obtain ⟨h1, h2, h3, h4⟩ := He.exc_ok (S.c.fact i h)
  exact pmk_own PySem.F.excBase_ValueError h1 (S.glo j hg) h2 (raises_own h3 h4) gl hdb
end
end DL
set_option Elab.async false
set_option linter.all false
set_option maxRecDepth 100000
set_option maxHeartbeats 4000000
namespace DL
open PySem PySem.Spec L2

/-! ### the script's first use: a def of the laws, read by itself -/
abbrev rMod : R2 := rI (fun _ j => 0 < j) fun i j => .int (i % j)
abbrev rMul : R2 := rI CMul fun i j => .int (i * j)
abbrev rAdd : R2 := rI0 fun i j => .int (i + j)
abbrev rGt : R2 := rI0 fun i j => .bl (decide (j < i))
abbrev rLen0 (K : PySem.W.Frag) : List V → Hp → VK → Prop := fun xs H Q => ∃ x n, xs = [x] ∧ LenV K x H n ∧ Q (.int (n : Nat)) H
abbrev rInt1 : List V → Hp → VK → Prop := fun xs H Q => (∃ i, xs = [.int i] ∧ Q (.int i) H) ∨ ∃ k, xs = [.bl k] ∧ Q (.int (if k then 1 else 0)) H
abbrev rList1 (K : PySem.W.Frag) : List V → Hp → VK → Prop := fun xs H Q => ∃ p ys, xs = [.ref p] ∧ (SqL K H p ys ∨ SqT K H p ys) ∧ ∀ l, H l = none → Q (.ref l) (upd H l (.lst ys))
def rawBegun (K : PySem.W.Frag) : TS :=
  tSeq (tAsg (tC (.int 0)) (gName 1)) (tSeq (tFor (iSeq K (tVar 0)) (gName 2)
    (tAsg (tOp rMod (tOp rAdd (tOp rAdd (tOp rMul (tVar 1) (tC (.int 48271))) (tOp rMul (tOp rMod (tVar 2) (tC (.int 2147483647))) (tC (.int 69621)))) (tC (.int 11))) (tC (.int 2147483647))) (gName 1)))
    (tRet (tLst (tCons (tCB (rList1 K) (tCons (tVar 0) tNil)) (tCons (tOp rMul (tVar 1) (tCB rInt1 (tCons (tOp rGt (tCB (rLen0 K) (tCons (tVar 0) tNil)) (tC (.int 2))) tNil))) tNil)))))
def spBegun (K : PySem.W.Frag) : Sp := fun vs H Q _ => ∃ (a : Addr) (ns : List Int), vs = [.ref a] ∧ SqL K H a (ns.map V.int) ∧ ns.length ≤ 63 ∧
  ∀ (s : Int) (p q : Addr), 0 ≤ s → s < 2147483647 → H p = none → q ≠ p → H q = none → Q (.ref q) (upd (upd H p (.lst (ns.map V.int))) q (.lst [.ref p, .int s]))
theorem pure_begun {K : PySem.W.Frag} {x y z : Str} (vs : List V) (H : Hp) (Q : VK) (E : XK) (h : spBegun K vs H Q E) : rawBegun K { nx := fun _ H' => Q .non H', rt := Q } (start [x, y, z] vs) H := by
  obtain ⟨a, ns, rfl, hS, hl, hQ⟩ := h
  show tFor (iSeq K (tVar 0)) (gName 2) _ _ _ _
  refine ⟨_, rfl, a, rfl, .inl ⟨⟨_, hS⟩, ?_⟩⟩
  refine for_it (walk_list (xs := ns.map V.int)) (fun i σ' H' => H' = H ∧ ∃ (w : Option V) (s : Int), σ' = [some (.ref a), some (.int s), w] ∧ 0 ≤ s ∧ s < 2147483647) ⟨rfl, none, 0, rfl, by decide, by decide⟩ (fun i σ' H' _ h => by obtain ⟨rfl, _⟩ := h; exact hS) ?_ ?_
  · rintro i v σ' H1 H2 hi ⟨rfl, w, s, rfl, h0, h1⟩ ⟨rfl, hv⟩
    obtain ⟨n, -, hn⟩ : ∃ n, ns[i]? = some n ∧ V.int n = v := by simpa using hv
    subst hn
    refine ⟨_, rfl, _, _, rfl, rfl, Or.inr ⟨by decide, by decide⟩, ?_⟩
    refine ⟨_, rfl, _, _, rfl, rfl, (show (0:Int) < 2147483647 by decide), _, _, rfl, rfl, Or.inr ⟨by decide, by decide⟩, _, _, rfl, rfl, _, _, rfl, rfl, _, _, rfl, rfl, (show (0:Int) < 2147483647 by decide), ?_⟩
    refine ⟨rfl, some (.int n), _, rfl, ?_, ?_⟩
    · exact Int.emod_nonneg _ (by decide)
    · exact Int.emod_lt_of_pos _ (by decide)
  · rintro σ' H1 ⟨rfl, w, s, rfl, h0, h1⟩
    refine ⟨_, rfl, a, ns.map V.int, rfl, .inl hS, fun p hp => ?_⟩
    have hS' : SqL K (upd H1 p (.lst (ns.map V.int))) a (ns.map V.int) := by
      rcases hS with hS | hS
      · refine .inl ?_
        have hn : a ≠ p := fun z => by
          rw [z] at hS
          rcases hS with e | ⟨_, e⟩ <;> (rw [hp] at e; cases e)
        rcases hS with e | ⟨o, e⟩
        · exact .inl (by rw [upd_ne hn]; exact e)
        · exact .inr ⟨o, by rw [upd_ne hn]; exact e⟩
      · exact .inr hS
    refine ⟨_, rfl, _, rfl, _, _, rfl, .inl ⟨_, hS', rfl⟩, _, _, rfl, rfl, .inr ⟨_, rfl, ?_⟩⟩
    have fin : ∀ j : Int, 0 ≤ j → j ≤ 1 → CMul s j ∧ ([V.ref p, .int (s * j)].length ≤ sizeLine ∧ ∀ q, upd H1 p (.lst (ns.map V.int)) q = none → Q (.ref q) (upd (upd H1 p (.lst (ns.map V.int))) q (.lst [V.ref p, .int (s * j)]))) := fun j j0 j1 => by
      refine ⟨.inr ⟨by omega, by omega⟩, (show 2 ≤ sizeLine by decide), fun q hq => ?_⟩
      have hne : q ≠ p := fun z => by
        rw [z, upd_same] at hq
        cases hq
      rw [upd_ne hne] at hq
      have : j = 0 ∨ j = 1 := by omega
      rcases this with rfl | rfl
      · exact hQ (s * 0) p q (by omega) (by omega) hp hne hq
      · exact hQ (s * 1) p q (by omega) (by omega) hp hne hq
    cases decide ((2 : Int) < ((ns.map V.int).length : Nat)) with
    | true => exact ⟨s, 1, rfl, rfl, fin 1 (by decide) (by decide)⟩
    | false => exact ⟨s, 0, rfl, rfl, fin 0 (by decide) (by decide)⟩
/-! ### a box of draws -/
/-- at b: the numbers left, at l, and what was stirred -/
def Box (G : Gp) (b l : Addr) : Prop := l ≠ b ∧ ∃ (ns : List Int) (s : Int), G b = some (.lst [.ref l, .int s]) ∧ G l = some (.lst (ns.map D.int)) ∧ 0 ≤ s ∧ s < 2147483647
def spLaw (K : PySem.W.Frag) : Sp := fun vs H Q E => ∃ (a : Addr) (ns : List Int), vs = [.ref a] ∧ SqL K H a (ns.map V.int) ∧ ns.length ≤ 63 ∧ (∀ q ∈ csOf K, H q.2.1 = some (.tbl #[])) ∧ ∀ v H', v = .bl true → Q v H'
theorem tabs0 {K : PySem.W.Frag} {H : Hp} (h : ∀ q ∈ csOf K, H q.2.1 = some (.tbl #[])) : LamX.Tabs (tabsOf K) H := fun p hp => by
  obtain ⟨q, hq, rfl⟩ := List.mem_map.mp hp
  exact .nil (h q hq)
/-- a law's body: its first statement makes the box -/
theorem law_ok {P : Program} {w : World} {K : PySem.W.Frag} {mg : Str → Option Value} {base : Heap} {x qual : Str} {params : Arguments} {st : Stmt} {body : List Stmt} {scope : Scope} {f : Addr} {fd : FuncData} {N ps : List Str} {k : Nat} {t : DTS}
    (F : FunD K x qual params (st :: body) scope [] [] f fd) (S : FnScope N ps scope) (hps : ps.length = 1)
    (hpure : ∀ b l G sd, Box G b l → (∀ a, a ≠ b → a ≠ l → G a = none) → sd[1]? = some (some (.ref b)) → sd.length = N.length → t { nx := fun _ _ => False, rt := fun d _ => d = .bl true } sd G) (hN : 2 ≤ N.length)
    (h1 : ∀ (cdv : Value) (A : Around) (outer : List Env) (s : Shared) (H : Hp) (E : XK), Room k (A.deeper (PyProof.Rows.envOfC qual scope s.heap.objs.size f cdv)) →
      PS (Bd P w K mg base N qual scope f cdv A outer s H E) st (tAsg (tCallS (spBegun K) (WE fun _ _ _ _ => False) (tCons (tVar 0) tNil)) (gName 1)))
    (hbody : ∀ (cdv : Value) (A : Around) (outer : List Env) (s : Shared) (H : Hp) (E : XK), Room k (A.deeper (PyProof.Rows.envOfC qual scope s.heap.objs.size f cdv)) → PassesOwn (model P w) (Bd P w K mg base N qual scope f cdv A outer s H E).A (Bd P w K mg base N qual scope f cdv A outer s H E).env (Bd P w K mg base N qual scope f cdv A outer s H E).xe →
      Wish (Bd P w K mg base N qual scope f cdv A outer s H E) ⟨H⟩ W0 → CdOk K f cdv → DSs (Bd P w K mg base N qual scope f cdv A outer s H E) ⟨H⟩ body t) :
    FnOk P w K mg base (L2.CX P w) (k + 1) f fd ps (spLaw K) := by
  refine FunD.okC F S (fun vs H Q E h => ?_) (fun cdv A outer s H vs Q E cd hr h => ?_)
  · obtain ⟨a, ns, rfl, _⟩ := h
    rw [hps]
    rfl
  · obtain ⟨a, ns, rfl, hS, hl, hT, hQ⟩ := h
    obtain ⟨ts, p, w'⟩ := (hbody cdv A outer s H E hr (passes_of (X := Bd P w K mg base N qual scope f cdv A outer s H E) rfl) wish0 cd).ex
    refine ⟨_, pss_cons (h1 cdv A outer s H E hr) p, ?_⟩
    have hlen : (start N [V.ref a]).length = N.length := by
      simp [L2.start]
      omega
    refine ⟨.ref a, by simp [L2.start], a, ns, rfl, hS, hl, fun sd p q h0 h1 hp hqp hq => ?_⟩
    have k1 : Kp H (upd H p (.lst (ns.map V.int))) := .fresh hp
    have hq' : upd H p (.lst (ns.map V.int)) q = none := by rw [upd_ne hqp]; exact hq
    have k2 : Kp (upd H p (.lst (ns.map V.int))) (upd (upd H p (.lst (ns.map V.int))) q (.lst [.ref p, .int sd])) := .fresh hq'
    have ri : ∀ H' : Hp, RelL H' (ns.map D.int) (ns.map V.int) := fun H' => by
      clear hS hl k1 hq' k2
      induction ns with
      | nil => exact rfl
      | cons n ns ih => exact ⟨_, _, rfl, rfl, ih⟩
    have R0 : Rep K ⟨H⟩ H (fun _ => none) := ⟨.refl H, fun _ _ e => (by cases e), tabs0 hT⟩
    have R1 : Rep K ⟨H⟩ (upd H p (.lst (ns.map V.int))) (put (fun _ => none) p (.lst (ns.map D.int))) := R0.laid (o := .lst _) hp ⟨_, upd_same, ri _, by rw [List.length_map, sizeLine_eq]; omega⟩
    have R2 : Rep K ⟨H⟩ (upd (upd H p (.lst (ns.map V.int))) q (.lst [.ref p, .int sd])) (put (put (fun _ => none) p (.lst (ns.map D.int))) q (.lst [.ref p, .int sd])) := R1.laid (o := .lst _) hq' ⟨_, upd_same, ⟨_, _, rfl, rfl, _, _, rfl, rfl, rfl⟩, by simp [sizeLine_eq]⟩
    have hsl : (start N [V.ref a]).length = (List.replicate N.length (none : Option D)).length := by rw [hlen, List.length_replicate]
    refine w' ((start N [V.ref a]).set 1 (some (.ref q))) _ ((List.replicate N.length none).set 1 (some (.ref q))) _ { nx := fun _ _ => False, rt := fun d _ => d = .bl true } _ ?_ R2 ?_ ?_
    · refine RelS.set (v := .ref q) (d := .ref q) ⟨hsl, fun i d e => ?_⟩ rfl 1
      have := List.mem_of_getElem? e
      simp [List.mem_replicate] at this
    · refine hpure q p _ _ ⟨hqp.symm, ns, sd, put_same, by rw [put_ne hqp.symm, put_same], h0, h1⟩ (fun a ha hl => by rw [put_ne ha, put_ne hl]) (by rw [List.getElem?_set_self (by rw [List.length_replicate]; omega)]) (by simp)
    · refine ⟨fun _ _ _ _ _ _ _ z => z.elim, fun v d H' G' _ r _ e => ?_, fun _ _ _ _ _ _ _ z => z.elim, fun _ _ _ _ _ _ _ z => z.elim⟩
      subst e
      exact hQ _ _ (by exact r)
theorem hCX {P : Program} : ∀ (w : World) (H : Hp) (s : Shared) (e : Value) (s' : Shared), L2.CX P w [] H s (fun _ _ _ => False) e s' → False := fun w H s e s' h => by
  obtain ⟨_, _, _, _, _, _, _, _, _, _, _, _, z⟩ := h
  exact z
end DL
set_option Elab.async false
set_option linter.all false
set_option maxRecDepth 100000
set_option maxHeartbeats 4000000
namespace DL
open PySem PySem.Spec L2

/-! ### the program's classes -/
structure Cs where
  cEnd : Addr
  cCarry : Addr
  cHall : Addr
  cWorld : Addr
  cRecord : Addr
  cCarryError : Addr
  cBadOffers : Addr
  cBadEnds : Addr
  cNoThing : Addr
  cHeld : Addr
  cNoRoom : Addr
  cFallen : Addr
  cNoHand : Addr
  cNoEnd : Addr
  cBadWish : Addr
  cBusy : Addr
  cBadLog : Addr
  cBadText : Addr
def cs (K : PySem.W.Frag) : Cs := ⟨He.ga K "End", He.ga K "Carry", He.ga K "Hall", He.ga K "World", He.ga K "Record", He.ga K "CarryError", He.ga K "BadOffers", He.ga K "BadEnds", He.ga K "NoThing", He.ga K "Held", He.ga K "NoRoom", He.ga K "Fallen", He.ga K "NoHand", He.ga K "NoEnd", He.ga K "BadWish", He.ga K "Busy", He.ga K "BadLog", He.ga K "BadText"⟩
def nEnd : List Str := ["name", "knows", "things", "made", "lifted", "frozen", "coming", "kept", "told", "seen", "left", "edits", "rises", "is_down"]
def nCarry : List Str := ["number", "by", "source", "thing", "wish", "stage", "edit", "kinds", "above", "turn", "would", "goal", "kind", "worth", "ends", "kept"]
def nHall : List Str := ["ends", "carries", "holds", "leaves", "rises", "told"]
def nWorld : List Str := ["hall", "ends", "road"]
def nRecord : List Str := ["where", "was"]
theorem ndEnd : nEnd.Nodup := by decide +kernel
theorem ndCarry : nCarry.Nodup := by decide +kernel
theorem ndHall : nHall.Nodup := by decide +kernel
theorem ndWorld : nWorld.Nodup := by decide +kernel
theorem ndRecord : nRecord.Nodup := by decide +kernel

/-! ### promises -/
abbrev wx (E : DXK) : DWX := fun C x _ G => E C x G
def sp0 (f : Gp → DQ → DXK → Prop) : DSp := fun ds G Q E => ds = [] ∧ f G Q E
def sp1 (f : D → Gp → DQ → DXK → Prop) : DSp := fun ds G Q E => ∃ a, ds = [a] ∧ f a G Q E
def sp2 (f : D → D → Gp → DQ → DXK → Prop) : DSp := fun ds G Q E => ∃ a b, ds = [a, b] ∧ f a b G Q E
def sp3 (f : D → D → D → Gp → DQ → DXK → Prop) : DSp := fun ds G Q E => ∃ a b c, ds = [a, b, c] ∧ f a b c G Q E
def sp4 (f : D → D → D → D → Gp → DQ → DXK → Prop) : DSp := fun ds G Q E => ∃ a b c d, ds = [a, b, c, d] ∧ f a b c d G Q E
def sp5 (f : D → D → D → D → D → Gp → DQ → DXK → Prop) : DSp := fun ds G Q E => ∃ a b c d e, ds = [a, b, c, d, e] ∧ f a b c d e G Q E
def sp6 (f : D → D → D → D → D → D → Gp → DQ → DXK → Prop) : DSp := fun ds G Q E => ∃ a b c d e g, ds = [a, b, c, d, e, g] ∧ f a b c d e g G Q E
def sp7 (f : D → D → D → D → D → D → D → Gp → DQ → DXK → Prop) : DSp := fun ds G Q E => ∃ a b c d e g h, ds = [a, b, c, d, e, g, h] ∧ f a b c d e g h G Q E
theorem sp0_len {f} : ∀ ds G Q E, sp0 f ds G Q E → ds.length = 0 := fun _ _ _ _ ⟨e, _⟩ => by rw [e]; rfl
theorem sp1_len {f} : ∀ ds G Q E, sp1 f ds G Q E → ds.length = 1 := fun _ _ _ _ ⟨_, e, _⟩ => by rw [e]; rfl
theorem sp2_len {f} : ∀ ds G Q E, sp2 f ds G Q E → ds.length = 2 := fun _ _ _ _ ⟨_, _, e, _⟩ => by rw [e]; rfl
theorem sp3_len {f} : ∀ ds G Q E, sp3 f ds G Q E → ds.length = 3 := fun _ _ _ _ ⟨_, _, _, e, _⟩ => by rw [e]; rfl
theorem sp4_len {f} : ∀ ds G Q E, sp4 f ds G Q E → ds.length = 4 := fun _ _ _ _ ⟨_, _, _, _, e, _⟩ => by rw [e]; rfl
theorem sp5_len {f} : ∀ ds G Q E, sp5 f ds G Q E → ds.length = 5 := fun _ _ _ _ ⟨_, _, _, _, _, e, _⟩ => by rw [e]; rfl
theorem sp6_len {f} : ∀ ds G Q E, sp6 f ds G Q E → ds.length = 6 := fun _ _ _ _ ⟨_, _, _, _, _, _, e, _⟩ => by rw [e]; rfl
theorem sp7_len {f} : ∀ ds G Q E, sp7 f ds G Q E → ds.length = 7 := fun _ _ _ _ ⟨_, _, _, _, _, _, _, e, _⟩ => by rw [e]; rfl
end DL
set_option Elab.async false
set_option linter.all false
set_option maxRecDepth 100000
set_option maxHeartbeats 4000000
namespace DL
open PySem PySem.Spec L2

/-! ### loops, comprehensions: by what stays -/
theorem forL_ind {stay : Gp → Prop} {g : DTG} {tb : DTS} {DD : DEnds} {items : List D} (I : Nat → SD → Gp → Prop) (hst : ∀ i sd G, I i sd G → stay G)
    (step : ∀ i x sd G (K : SD → Gp → Prop), items[i]? = some x → I i sd G → (∀ sd2 G2, I (i + 1) sd2 G2 → K sd2 G2) → g x sd G fun sd1 G1 => tb { DD with nx := fun sd2 G2 => stay G2 ∧ K sd2 G2, ct := fun sd2 G2 => stay G2 ∧ K sd2 G2, bk := DD.nx } sd1 G1)
    (fin : ∀ sd G, I items.length sd G → DD.nx sd G) {sd : SD} {G : Gp} (h0 : I 0 sd G) : stay G ∧ dForL stay g tb DD items sd G := by
  refine ⟨hst 0 _ _ h0, ?_⟩
  suffices h : ∀ (ys : List D) (i : Nat) sd G, items.drop i = ys → i ≤ items.length → I i sd G → dForL stay g tb DD ys sd G from h items 0 sd G rfl (Nat.zero_le _) h0
  intro ys
  induction ys with
  | nil =>
    intro i sd G e hi hI
    have : items.length ≤ i := List.drop_eq_nil_iff.mp e
    have : i = items.length := Nat.le_antisymm hi this
    subst this
    exact fin _ _ hI
  | cons y ys ih =>
    intro i sd G e hi hI
    have hlt : i < items.length := by
      rcases Nat.lt_or_ge i items.length with h | h
      · exact h
      · rw [List.drop_eq_nil_iff.mpr h] at e
        cases e
    have e1 : items[i]? = some y := by
      have := List.getElem?_drop (xs := items) (i := i) (j := 0)
      rw [e] at this
      simpa using this.symm
    have e2 : items.drop (i + 1) = ys := by
      have := List.drop_drop (i := 1) (j := i) (l := items)
      rw [e] at this
      simpa [Nat.add_comm] using this.symm
    exact step i y sd G _ e1 hI fun sd2 G2 h2 => ih (i + 1) sd2 G2 e2 hlt h2
theorem dComp_pure {ti : DTI} {g : DTG} {tt : DTT} {te : DTE} {vs : List Nat} {sd : SD} {G : Gp} {Q : DQ} {items : List D} {stay : Gp → Prop} (f : D → Option D) (hti : ∀ R : List D → (Gp → Prop) → Gp → Prop, R items stay G → ti sd G R)
    (hst0 : stay G) (hst : ∀ p ys, G p = none → stay (put G p (.lst ys))) (ht : ∀ p ys x, G p = none → x ∈ items → turnIs g tt te (dwipe sd vs) x (put G p (.lst ys)) (f x))
    (q : ∀ p, Nw G p → Q (.ref p) (put G p (.lst (items.filterMap f)))) : dComp ti g tt te vs sd G Q := by
  refine hti _ ⟨hst0, fun p hp => ⟨hst p _ hp, ?_⟩⟩
  exact dcL_pure f hp (fun ys => hst p ys hp) items [] (fun x hx ys => ht p ys x hp hx) (by simpa using q p hp)
/-! ### for simp: readings run from their head; what follows is left alone until it is met -/

@[simp] theorem sp1_app {f : D → Gp → DQ → DXK → Prop} {a : D} {G Q E} : sp1 f [a] G Q E = f a G Q E := propext ⟨fun ⟨_, e, h⟩ => by cases e; exact h, fun h => ⟨_, rfl, h⟩⟩
@[simp] theorem sp2_app {f : D → D → Gp → DQ → DXK → Prop} {a b : D} {G Q E} : sp2 f [a, b] G Q E = f a b G Q E := propext ⟨fun ⟨_, _, e, h⟩ => by cases e; exact h, fun h => ⟨_, _, rfl, h⟩⟩
@[simp] theorem sp3_app {f : D → D → D → Gp → DQ → DXK → Prop} {a b c : D} {G Q E} : sp3 f [a, b, c] G Q E = f a b c G Q E := propext ⟨fun ⟨_, _, _, e, h⟩ => by cases e; exact h, fun h => ⟨_, _, _, rfl, h⟩⟩
@[simp] theorem sp4_app {f : D → D → D → D → Gp → DQ → DXK → Prop} {a b c d : D} {G Q E} : sp4 f [a, b, c, d] G Q E = f a b c d G Q E := propext ⟨fun ⟨_, _, _, _, e, h⟩ => by cases e; exact h, fun h => ⟨_, _, _, _, rfl, h⟩⟩
@[simp] theorem sp5_app {f : D → D → D → D → D → Gp → DQ → DXK → Prop} {a b c d e : D} {G Q E} : sp5 f [a, b, c, d, e] G Q E = f a b c d e G Q E := propext ⟨fun ⟨_, _, _, _, _, e, h⟩ => by cases e; exact h, fun h => ⟨_, _, _, _, _, rfl, h⟩⟩
@[simp] theorem sp6_app {f : D → D → D → D → D → D → Gp → DQ → DXK → Prop} {a b c d e g : D} {G Q E} : sp6 f [a, b, c, d, e, g] G Q E = f a b c d e g G Q E := propext ⟨fun ⟨_, _, _, _, _, _, e, h⟩ => by cases e; exact h, fun h => ⟨_, _, _, _, _, _, rfl, h⟩⟩
@[simp] theorem sp7_app {f : D → D → D → D → D → D → D → Gp → DQ → DXK → Prop} {a b c d e g h : D} {G Q E} : sp7 f [a, b, c, d, e, g, h] G Q E = f a b c d e g h G Q E := propext ⟨fun ⟨_, _, _, _, _, _, _, e, h⟩ => by cases e; exact h, fun h => ⟨_, _, _, _, _, _, _, rfl, h⟩⟩
@[simp] theorem dstart_app {N : List Str} {ds : List D} : dstart N ds = ds.map some ++ List.replicate (N.length - ds.length) none := (rfl)
@[simp] theorem rep0 {α : Type} {x : α} : List.replicate 0 x = [] := (rfl)
@[simp] theorem repS {α : Type} {x : α} {n : Nat} : List.replicate (n + 1) x = x :: List.replicate n x := (rfl)

theorem charNat_inj {a b : Char} (h : a.toNat = b.toNat) : a = b := Char.ext (UInt32.toNat_inj.mp h)
theorem mapNat_inj : ∀ {a b : List Char}, a.map Char.toNat = b.map Char.toNat → a = b
  | [], [], _ => rfl
  | [], _ :: _, h => by simp at h
  | _ :: _, [], h => by simp at h
  | x :: a, y :: b, h => by
    simp only [List.map_cons, List.cons.injEq] at h
    rw [charNat_inj h.1, mapNat_inj h.2]
@[simp] theorem ofString_inj {s t : String} : (Str.ofString s = Str.ofString t) = (s = t) := propext ⟨fun h => by
  rw [Str.ofString_eq_toList, Str.ofString_eq_toList] at h
  have h2 : s.toList.map Char.toNat = t.toList.map Char.toNat := by simpa using h
  exact String.toList_inj.mp (mapNat_inj h2), fun h => by rw [h]⟩
/-- what a term must not be looked into for -/
structure Tg {α : Sort u} (a : α) : Type where
  mk ::
def iteP (c : Bool) (A B : Prop) (ta : Tg A) (tb : Tg B) : Prop := if c = true then A else B
@[simp] theorem iteP_true {A B : Prop} {ta : Tg A} {tb : Tg B} : iteP true A B ta tb = A := by simp [iteP]
@[simp] theorem iteP_false {A B : Prop} {ta : Tg A} {tb : Tg B} : iteP false A B ta tb = B := by simp [iteP]
theorem iteP_of {c : Bool} {A B : Prop} {ta : Tg A} {tb : Tg B} (h1 : c = true → A) (h2 : c = false → B) : iteP c A B ta tb := by cases c; exact h2 rfl; exact h1 rfl
def slotD (o : Option (Option D)) (G : Gp) (Q : DQ) : Prop := match o with
  | some (some d) => Q d G
  | _ => False
theorem slotD_congr {o o' : Option (Option D)} {G : Gp} {Q : DQ} (h : o = o') : slotD o G Q = slotD o' G Q := by rw [h]
@[simp] theorem slotD_some {d : D} {G Q} : slotD (some (some d)) G Q = Q d G := (rfl)
def optD (o : Option D) (G : Gp) (Q : DQ) (tq : Tg Q) : Prop := ∃ v, o = some v ∧ Q v G
@[simp] theorem optD_some {d : D} {G Q tq} : optD (some d) G Q tq = Q d G := by simp [optD]
theorem optD_of {o : Option D} {d : D} {G : Gp} {Q : DQ} {tq} (h : o = some d) (q : Q d G) : optD o G Q tq := ⟨d, h, q⟩
def callP (sp : DSp) (ds : List D) (G : Gp) (Q : DQ) (E : DXK) (ts : Tg sp) (tq : Tg Q) (te : Tg E) : Prop := sp ds G Q E
theorem call1 {f : D → Gp → DQ → DXK → Prop} {a : D} {G Q E} {ts tq te} (h : f a G Q E) : callP (sp1 f) [a] G Q E ts tq te := ⟨_, rfl, h⟩
theorem call2 {f : D → D → Gp → DQ → DXK → Prop} {a b : D} {G Q E} {ts tq te} (h : f a b G Q E) : callP (sp2 f) [a, b] G Q E ts tq te := ⟨_, _, rfl, h⟩
theorem call3 {f : D → D → D → Gp → DQ → DXK → Prop} {a b c : D} {G Q E} {ts tq te} (h : f a b c G Q E) : callP (sp3 f) [a, b, c] G Q E ts tq te := ⟨_, _, _, rfl, h⟩
theorem call4 {f : D → D → D → D → Gp → DQ → DXK → Prop} {a b c d : D} {G Q E} {ts tq te} (h : f a b c d G Q E) : callP (sp4 f) [a, b, c, d] G Q E ts tq te := ⟨_, _, _, _, rfl, h⟩
theorem call5 {f : D → D → D → D → D → Gp → DQ → DXK → Prop} {a b c d e : D} {G Q E} {ts tq te} (h : f a b c d e G Q E) : callP (sp5 f) [a, b, c, d, e] G Q E ts tq te := ⟨_, _, _, _, _, rfl, h⟩
theorem call6 {f : D → D → D → D → D → D → Gp → DQ → DXK → Prop} {a b c d e g : D} {G Q E} {ts tq te} (h : f a b c d e g G Q E) : callP (sp6 f) [a, b, c, d, e, g] G Q E ts tq te := ⟨_, _, _, _, _, _, rfl, h⟩
theorem call7 {f : D → D → D → D → D → D → D → Gp → DQ → DXK → Prop} {a b c d e g k : D} {G Q E} {ts tq te} (h : f a b c d e g k G Q E) : callP (sp7 f) [a, b, c, d, e, g, k] G Q E ts tq te := ⟨_, _, _, _, _, _, _, rfl, h⟩
def loopP (items : List D) (stay : Gp → Prop) (g : DTG) (tb : DTS) (DD : DEnds) (sd : SD) (G : Gp) (t1 : Tg stay) (t2 : Tg g) (t3 : Tg tb) (t4 : Tg DD) : Prop := stay G ∧ dForL stay g tb DD items sd G
def compP (t : DTE) (sd : SD) (G : Gp) (Q : DQ) (tt : Tg t) (tq : Tg Q) : Prop := t sd G Q
/-- a part with a name of its own -/
def dN (t : DTE) : DTE := t
@[simp ↓] theorem dN_app {t : DTE} {sd G Q} : dN t sd G Q = compP t sd G Q ⟨⟩ ⟨⟩ := (rfl)
def tupP (n : Nat) (t : DTGs) (d : D) (sd : SD) (G : Gp) (Q : SD → Gp → Prop) : Prop := match d with
  | .tup ds => if ds.length = n then t ds sd G Q else False
  | _ => False
theorem tupP_congr {n : Nat} {t : DTGs} {d d' : D} {sd : SD} {G : Gp} {Q : SD → Gp → Prop} (h : d = d') : tupP n t d sd G Q = tupP n t d' sd G Q := by rw [h]
def dBP (Q : Bool → Gp → Prop) (d : D) (G : Gp) : Prop := match d with
  | .bl b => Q b G
  | _ => False
@[simp ↓] theorem dVar_app {i sd G Q} : dVar i sd G Q = slotD (sd[i]?) G Q := by
  unfold dVar slotD
  exact (rfl)
@[simp ↓] theorem dC_app {d sd G Q} : dC d sd G Q = Q d G := (rfl)
@[simp ↓] theorem dOp_app {r ta tb sd G Q} : dOp r ta tb sd G Q = ta sd G fun d G1 => tb sd G1 fun e G2 => r d e G2 Q := (rfl)
theorem dB_congr {Q : Bool → Gp → Prop} {d d' : D} {G : Gp} (h : d = d') : dB Q d G = dB Q d' G := by rw [h]
@[simp] theorem dB_bl {Q : Bool → Gp → Prop} {b : Bool} {G : Gp} : dB Q (.bl b) G = Q b G := (rfl)
@[simp ↓] theorem dTest_app {t sd G} {Q : Bool → Gp → Prop} : dTest t sd G Q = t sd G (dB Q) := (rfl)
@[simp ↓] theorem dChain_app {r r' ta tb tc sd G Q} : dChain r r' ta tb tc sd G Q = ta sd G fun x G1 => tb sd G1 fun y G2 => r x y G2 (dB fun k G3 => iteP k (tc sd G3 fun z G4 => r' y z G4 Q) (Q (.bl false) G3) ⟨⟩ ⟨⟩) := (rfl)
@[simp ↓] theorem dIfE_app {c t u sd G Q} : dIfE c t u sd G Q = c sd G fun b G1 => iteP b (t sd G1 Q) (u sd G1 Q) ⟨⟩ ⟨⟩ := (rfl)
@[simp ↓] theorem dAnd_app {t u : DTT} {sd G} {Q : Bool → Gp → Prop} : dAnd t u sd G Q = t sd G fun c G1 => iteP c (u sd G1 Q) (Q false G1) ⟨⟩ ⟨⟩ := (rfl)
@[simp ↓] theorem dOr_app {t u : DTT} {sd G} {Q : Bool → Gp → Prop} : dOr t u sd G Q = t sd G fun c G1 => iteP c (Q true G1) (u sd G1 Q) ⟨⟩ ⟨⟩ := (rfl)
@[simp ↓] theorem dNot_app {t : DTT} {sd G} {Q : Bool → Gp → Prop} : dNot t sd G Q = t sd G fun c G1 => Q (!c) G1 := (rfl)
@[simp ↓] theorem dAndV_app {ta tb sd G Q} : dAndV ta tb sd G Q = ta sd G (dB fun c G1 => iteP c (tb sd G1 Q) (Q (.bl false) G1) ⟨⟩ ⟨⟩) := (rfl)
@[simp ↓] theorem dOrV_app {ta tb sd G Q} : dOrV ta tb sd G Q = ta sd G (dB fun c G1 => iteP c (Q (.bl true) G1) (tb sd G1 Q) ⟨⟩ ⟨⟩) := (rfl)
@[simp ↓] theorem dNotV_app {ta sd G Q} : dNotV ta sd G Q = ta sd G (dB fun c G1 => Q (.bl (!c)) G1) := (rfl)
@[simp ↓] theorem dNext_app {n r b c} {sd G} : dNext ⟨n, r, b, c⟩ sd G = n sd G := (rfl)
@[simp ↓] theorem dSeq_app {t u} {n r b c} {sd G} : dSeq t u ⟨n, r, b, c⟩ sd G = t ⟨u ⟨n, r, b, c⟩, r, b, c⟩ sd G := (rfl)
@[simp ↓] theorem dDrop_app {te} {n r b c} {sd G} : dDrop te ⟨n, r, b, c⟩ sd G = te sd G fun _ G1 => n sd G1 := (rfl)
@[simp ↓] theorem dRet_app {te} {n r b c} {sd G} : dRet te ⟨n, r, b, c⟩ sd G = te sd G r := (rfl)
@[simp ↓] theorem dRetN_app {n r b c} {sd G} : dRetN ⟨n, r, b, c⟩ sd G = r .non G := (rfl)
@[simp ↓] theorem dIf_app {tc t u} {n r b c} {sd G} : dIf tc t u ⟨n, r, b, c⟩ sd G = tc sd G fun k G1 => iteP k (t ⟨n, r, b, c⟩ sd G1) (u ⟨n, r, b, c⟩ sd G1) ⟨⟩ ⟨⟩ := (rfl)
@[simp ↓] theorem dSkip_app {n r b c} {sd G} : dSkip ⟨n, r, b, c⟩ sd G = c sd G := (rfl)
@[simp ↓] theorem dBreak_app {n r b c} {sd G} : dBreak ⟨n, r, b, c⟩ sd G = b sd G := (rfl)
@[simp ↓] theorem dgName_app {i d sd G} {Q : SD → Gp → Prop} : dgName i d sd G Q = Q (sd.set i (some d)) G := (rfl)
@[simp ↓] theorem dgNil_app {sd G} {Q : SD → Gp → Prop} : dgNil [] sd G Q = Q sd G := (rfl)
@[simp ↓] theorem dgCons_app {t u d r sd G} {Q : SD → Gp → Prop} : dgCons t u (d :: r) sd G Q = t d sd G fun sd' G' => u r sd' G' Q := (rfl)
@[simp ↓] theorem dgTup_app {n t d sd G} {Q : SD → Gp → Prop} : dgTup n t d sd G Q = tupP n t d sd G Q := (rfl)
@[simp] theorem tupP_tup {n t ds sd G} {Q : SD → Gp → Prop} (h : ds.length = n) : tupP n t (.tup ds) sd G Q = t ds sd G Q := by
  simp only [tupP]
  rw [if_pos h]
@[simp ↓] theorem dAsg_app {te g} {n r b c} {sd G} : dAsg te g ⟨n, r, b, c⟩ sd G = te sd G fun d G1 => g d sd G1 n := (rfl)
def parP (i j : Nat) (ds : List D) (D : DEnds) (sd : SD) (G1 : Gp) : Prop := match ds with
  | [d, e] => D.nx ((sd.set i (some d)).set j (some e)) G1
  | _ => False
@[simp ↓] theorem dPar_app {i j ta} {n r b c} {sd G} : dPar i j ta ⟨n, r, b, c⟩ sd G = ta sd G fun ds G1 => parP i j ds ⟨n, r, b, c⟩ sd G1 := (rfl)
@[simp ↓] theorem parP_2 {i j d e} {n r b c} {sd G} : parP i j [d, e] ⟨n, r, b, c⟩ sd G = n ((sd.set i (some d)).set j (some e)) G := (rfl)
@[simp ↓] theorem daNil_app {sd G} {Q : List D → Gp → Prop} : daNil sd G Q = Q [] G := (rfl)
@[simp ↓] theorem daCons_app {ta tr sd G} {Q : List D → Gp → Prop} : daCons ta tr sd G Q = ta sd G fun d G1 => tr sd G1 fun ds G2 => Q (d :: ds) G2 := (rfl)
@[simp ↓] theorem dTup_app {t sd G Q} : dTup t sd G Q = t sd G fun ds G1 => Q (.tup ds) G1 := (rfl)
@[simp ↓] theorem dLst_app {t sd G Q} : dLst t sd G Q = t sd G fun ds G1 => ∀ p, Nw G1 p → Q (.ref p) (put G1 p (.lst ds)) := (rfl)
@[simp ↓] theorem dFor_app {ti g tb} {DD : DEnds} {sd G} : dFor ti g tb DD sd G = ti sd G fun items stay G1 => loopP items stay g tb DD sd G1 ⟨⟩ ⟨⟩ ⟨⟩ ⟨⟩ := (rfl)
@[simp ↓] theorem dYes_app {sd G} {Q : Bool → Gp → Prop} : dYes sd G Q = Q true G := (rfl)
@[simp ↓] theorem doNone_app {sd G} {Q : Option Int → Gp → Prop} : doNone sd G Q = Q none G := (rfl)
def intP (d : D) (G : Gp) (Q : Option Int → Gp → Prop) : Prop := match d with
  | .int i => Q (some i) G
  | _ => False
theorem intP_congr {d d' : D} {G : Gp} {Q : Option Int → Gp → Prop} (h : d = d') : intP d G Q = intP d' G Q := by rw [h]
@[simp] theorem intP_int {i : Int} {G} {Q : Option Int → Gp → Prop} : intP (.int i) G Q = Q (some i) G := (rfl)
@[simp ↓] theorem doSome_app {t sd G} {Q : Option Int → Gp → Prop} : doSome t sd G Q = t sd G fun d G1 => intP d G1 Q := (rfl)
@[simp ↓] theorem dSl_app {te tl th sd G Q} : dSl te tl th sd G Q = te sd G fun d G1 => tl sd G1 fun l G2 => th sd G2 fun u G3 => slR d l u G3 Q := (rfl)
@[simp ↓] theorem dgSub_app {to ti v sd G} {Q : SD → Gp → Prop} : dgSub to ti v sd G Q = to sd G fun o G1 => ti sd G1 fun i G2 => setR o i v G2 fun G3 => Q sd G3 := (rfl)
@[simp ↓] theorem dCB_app {rD t sd G Q} : dCB rD t sd G Q = t sd G fun ds G1 => rD ds G1 Q := (rfl)
@[simp ↓] theorem dBM_app {T rD to t sd G Q} : dBM T rD to t sd G Q = to sd G fun d G1 => tyD T d G1 ∧ t sd G1 fun ds G2 => rD d ds G2 Q := (rfl)
@[simp ↓] theorem dCall_app {sp W t sd G Q} : dCall sp W t sd G Q = t sd G fun ds G1 => callP sp ds G1 Q (fun C x G2 => W C x sd G2) ⟨⟩ ⟨⟩ ⟨⟩ := (rfl)
@[simp ↓] theorem dMake_app {C ns sp W t sd G Q} : dMake C ns sp W t sd G Q = t sd G fun ds G1 => ∀ a, Nw G1 a → callP sp (.ref a :: ds) (put G1 a (.ins C ns [])) (fun d G2 => d = .non ∧ Q (.ref a) G2) (fun C x G3 => W C x sd G3) ⟨⟩ ⟨⟩ ⟨⟩ := (rfl)
@[simp ↓] theorem dRaise_app {C W} {n r b c} {sd G} : dRaise C W ⟨n, r, b, c⟩ sd G = W C none sd G := (rfl)
/-- isinstance -/
def isiO (o : Option String) (T : String) (G : Gp) (Q : DQ) : Prop := ∃ a, o = some a ∧ Q (.bl (isTy a T)) G
theorem isiO_congr {o o' : Option String} {T : String} {G : Gp} {Q : DQ} (h : o = o') : isiO o T G Q = isiO o' T G Q := by rw [h]
@[simp] theorem isiO_some {a T : String} {G Q} : isiO (some a) T G Q = Q (.bl (isTy a T)) G := by simp [isiO]
@[simp ↓] theorem isiR_app {d : D} {T : String} {G Q} : isiR [d, .ty T] G Q = (T ∈ tyNames ∧ isiO (tyN G d) T G Q) := (rfl)
theorem loop_ind {stay : Gp → Prop} {g : DTG} {tb : DTS} {DD : DEnds} {items : List D} (I : Nat → SD → Gp → Prop) (hst : ∀ i sd G, I i sd G → stay G)
    (step : ∀ i x sd G (K : SD → Gp → Prop), items[i]? = some x → I i sd G → (∀ sd2 G2, I (i + 1) sd2 G2 → K sd2 G2) → g x sd G fun sd1 G1 => tb { DD with nx := fun sd2 G2 => stay G2 ∧ K sd2 G2, ct := fun sd2 G2 => stay G2 ∧ K sd2 G2, bk := DD.nx } sd1 G1)
    (fin : ∀ sd G, I items.length sd G → DD.nx sd G) {sd : SD} {G : Gp} (h0 : I 0 sd G) {t1 t2 t3 t4} : loopP items stay g tb DD sd G t1 t2 t3 t4 := forL_ind I hst step fin h0
@[simp] theorem tyN_non {G : Gp} : tyN G .non = some "NoneType" := (rfl)
@[simp] theorem tyN_bl {G : Gp} {b : Bool} : tyN G (.bl b) = some "bool" := (rfl)
@[simp] theorem tyN_int {G : Gp} {b : Int} : tyN G (.int b) = some "int" := (rfl)
@[simp] theorem tyN_str {G : Gp} {b : Str} : tyN G (.str b) = some "str" := (rfl)
@[simp] theorem tyN_tup {G : Gp} {b : List D} : tyN G (.tup b) = some "tuple" := (rfl)
@[simp] theorem tyN_ty {G : Gp} {b : String} : tyN G (.ty b) = none := (rfl)
theorem tyN_lst {G : Gp} {p : Addr} {xs : List D} (h : G p = some (.lst xs)) : tyN G (.ref p) = some "list" := by simp [tyN, h]
theorem tyN_dict {G : Gp} {p : Addr} {t : Bool} {xs : List (D × D)} (h : G p = some (.dict t xs)) : tyN G (.ref p) = some "dict" := by simp [tyN, h]
theorem tyN_ref {G : Gp} {p : Addr} {a : String} (h : tyN G (.ref p) = some a) : a = "list" ∨ a = "dict" := by
  simp only [tyN] at h
  split at h <;> simp at h <;> simp [← h]
theorem tyN_ext {G G' : Gp} {d : D} {a : String} (e : Ext G G') (h : tyN G d = some a) : tyN G' d = some a := by
  cases d <;> try exact h
  rename_i p
  simp only [tyN] at h ⊢
  cases g : G p with
  | none => rw [g] at h; cases h
  | some o => rw [g] at h; rw [e p o g]; exact h
@[simp] theorem memTy {x : String} : (x ∈ tyNames) = (x = "NoneType" ∨ x = "bool" ∨ x = "int" ∨ x = "str" ∨ x = "tuple" ∨ x = "list" ∨ x = "dict") := by simp [tyNames]

theorem eqV_congr {neg : Bool} {d d' e e' : D} {G : Gp} {Q : DQ} (h : d = d') (h2 : e = e') : eqV neg d e G Q = eqV neg d' e' G Q := by rw [h, h2]
theorem inR_congr {neg : Bool} {d d' e e' : D} {G : Gp} {Q : DQ} (h : d = d') (h2 : e = e') : inR neg d e G Q = inR neg d' e' G Q := by rw [h, h2]
theorem isNR_congr {neg : Bool} {d d' e e' : D} {G : Gp} {Q : DQ} (h : d = d') (h2 : e = e') : isNR neg d e G Q = isNR neg d' e' G Q := by rw [h, h2]
theorem addR_congr {d d' e e' : D} {G : Gp} {Q : DQ} (h : d = d') (h2 : e = e') : addR d e G Q = addR d' e' G Q := by rw [h, h2]
theorem subR_congr {d d' e e' : D} {G : Gp} {Q : DQ} (h : d = d') (h2 : e = e') : subR d e G Q = subR d' e' G Q := by rw [h, h2]
theorem mulR_congr {d d' e e' : D} {G : Gp} {Q : DQ} (h : d = d') (h2 : e = e') : mulR d e G Q = mulR d' e' G Q := by rw [h, h2]
theorem modR_congr {d d' e e' : D} {G : Gp} {Q : DQ} (h : d = d') (h2 : e = e') : modR d e G Q = modR d' e' G Q := by rw [h, h2]
theorem divR_congr {d d' e e' : D} {G : Gp} {Q : DQ} (h : d = d') (h2 : e = e') : divR d e G Q = divR d' e' G Q := by rw [h, h2]
theorem cmpR_congr {p : Int → Int → Bool} {d d' e e' : D} {G : Gp} {Q : DQ} (h : d = d') (h2 : e = e') : cmpR p d e G Q = cmpR p d' e' G Q := by rw [h, h2]
theorem ixR_congr {d d' e e' : D} {G : Gp} {Q : DQ} (h : d = d') (h2 : e = e') : ixR d e G Q = ixR d' e' G Q := by rw [h, h2]
theorem lenR_congr {ds ds' : List D} {G : Gp} {Q : DQ} (h : ds = ds') : lenR ds G Q = lenR ds' G Q := by rw [h]
theorem intR_congr {ds ds' : List D} {G : Gp} {Q : DQ} (h : ds = ds') : intR ds G Q = intR ds' G Q := by rw [h]
theorem maxR_congr {ds ds' : List D} {G : Gp} {Q : DQ} (h : ds = ds') : maxR ds G Q = maxR ds' G Q := by rw [h]
theorem tupleR_congr {ds ds' : List D} {G : Gp} {Q : DQ} (h : ds = ds') : tupleR ds G Q = tupleR ds' G Q := by rw [h]
theorem listR_congr {ds ds' : List D} {G : Gp} {Q : DQ} (h : ds = ds') : listR ds G Q = listR ds' G Q := by rw [h]
theorem isiR_congr {ds ds' : List D} {G : Gp} {Q : DQ} (h : ds = ds') : isiR ds G Q = isiR ds' G Q := by rw [h]
theorem slR_congr {d d' : D} {lo lo' hi hi' : Option Int} {G : Gp} {Q : DQ} (h : d = d') (h1 : lo = lo') (h2 : hi = hi') : slR d lo hi G Q = slR d' lo' hi' G Q := by rw [h, h1, h2]
theorem setR_congr {d d' i i' v v' : D} {G : Gp} {Q : Gp → Prop} (h : d = d') (h1 : i = i') (h2 : v = v') : setR d i v G Q = setR d' i' v' G Q := by rw [h, h1, h2]
theorem appR_congr {d d' : D} {ds ds' : List D} {G : Gp} {Q : DQ} (h : d = d') (h2 : ds = ds') : appR d ds G Q = appR d' ds' G Q := by rw [h, h2]
theorem popR_congr {d d' : D} {ds ds' : List D} {G : Gp} {Q : DQ} (h : d = d') (h2 : ds = ds') : popR d ds G Q = popR d' ds' G Q := by rw [h, h2]
theorem extR_congr {d d' : D} {ds ds' : List D} {G : Gp} {Q : DQ} (h : d = d') (h2 : ds = ds') : extR d ds G Q = extR d' ds' G Q := by rw [h, h2]
/-! ### readings, by what stands where -/
@[simp] theorem addR_int {i j : Int} {G Q} : addR (.int i) (.int j) G Q = Q (.int (i + j)) G := (rfl)
@[simp] theorem addR_str {i j : Str} {G Q} : addR (.str i) (.str j) G Q = (i.length + j.length ≤ sizeLine ∧ Q (.str (i ++ j)) G) := (rfl)
@[simp] theorem addR_tup {i j : List D} {G Q} : addR (.tup i) (.tup j) G Q = (i.length + j.length ≤ sizeLine ∧ Q (.tup (i ++ j)) G) := (rfl)
def addO (o o' : Option DO) (G : Gp) (Q : DQ) : Prop := ∃ x y, o = some (.lst x) ∧ o' = some (.lst y) ∧ x.length + y.length ≤ sizeLine ∧ ∀ p, Nw G p → Q (.ref p) (put G p (.lst (x ++ y)))
theorem addO_congr {o p o' p' : Option DO} {G : Gp} {Q : DQ} (h0 : o = o') (h1 : p = p') : addO o p G Q = addO o' p' G Q := by rw [h0, h1]
@[simp] theorem addR_ref {a b : Addr} {G Q} : addR (.ref a) (.ref b) G Q = addO (G a) (G b) G Q := (rfl)
@[simp] theorem addO_lst {x y : List D} {G Q} : addO (some (.lst x)) (some (.lst y)) G Q = (x.length + y.length ≤ sizeLine ∧ ∀ p, Nw G p → Q (.ref p) (put G p (.lst (x ++ y)))) := by simp [addO]
@[simp] theorem subR_int {i j : Int} {G Q} : subR (.int i) (.int j) G Q = Q (.int (i - j)) G := (rfl)
@[simp] theorem mulR_int {i j : Int} {G Q} : mulR (.int i) (.int j) G Q = (CMul i j ∧ Q (.int (i * j)) G) := (rfl)
def mulO (o : Option DO) (k : Int) (G : Gp) (Q : DQ) : Prop := ∃ x, o = some (.lst x) ∧ (-(2 ^ 63) ≤ k ∧ k < 2 ^ 63 ∧ x.length * k.toNat ≤ sizeLine) ∧ ∀ p, Nw G p → Q (.ref p) (put G p (.lst (List.replicate k.toNat x).flatten))
theorem mulO_congr {o o' : Option DO} {k : Int} {G : Gp} {Q : DQ} (h0 : o = o') : mulO o k G Q = mulO o' k G Q := by rw [h0]
@[simp] theorem mulR_ref {a : Addr} {k : Int} {G Q} : mulR (.ref a) (.int k) G Q = mulO (G a) k G Q := (rfl)
@[simp] theorem mulO_lst {x : List D} {k : Int} {G Q} : mulO (some (.lst x)) k G Q = ((-(2 ^ 63) ≤ k ∧ k < 2 ^ 63 ∧ x.length * k.toNat ≤ sizeLine) ∧ ∀ p, Nw G p → Q (.ref p) (put G p (.lst (List.replicate k.toNat x).flatten))) := by simp [mulO]
@[simp] theorem modR_int {i j : Int} {G Q} : modR (.int i) (.int j) G Q = (0 < j ∧ Q (.int (i % j)) G) := (rfl)
@[simp] theorem divR_int {i j : Int} {G Q} : divR (.int i) (.int j) G Q = (CDivX i j ∧ Q (.int (i / j)) G) := (rfl)
@[simp] theorem cmpR_int {p : Int → Int → Bool} {i j : Int} {G Q} : cmpR p (.int i) (.int j) G Q = Q (.bl (p i j)) G := (rfl)
@[simp] theorem isNR_non {neg : Bool} {d : D} {G Q} : isNR neg d .non G Q = Q (.bl (decide (d = .non) != neg)) G := (rfl)
@[simp] theorem lenR_tup {xs : List D} {G Q} : lenR [.tup xs] G Q = Q (.int (xs.length : Nat)) G := (rfl)
@[simp] theorem lenR_str {z : Str} {G Q} : lenR [.str z] G Q = (z.length ≤ sizeLine ∧ Q (.int (z.length : Nat)) G) := (rfl)
def lenO (o : Option DO) (G : Gp) (Q : DQ) : Prop := ∃ o', o = some o' ∧ (match o' with
    | .lst ds => Q (.int (ds.length : Nat)) G
    | .rol ds => Q (.int (ds.length : Nat)) G
    | .dict _ kvs => Q (.int (kvs.length : Nat)) G
    | _ => False)
theorem lenO_congr {o o' : Option DO} {G : Gp} {Q : DQ} (h0 : o = o') : lenO o G Q = lenO o' G Q := by rw [h0]
@[simp] theorem lenR_ref {a : Addr} {G Q} : lenR [.ref a] G Q = lenO (G a) G Q := (rfl)
@[simp] theorem lenO_lst {xs : List D} {G Q} : lenO (some (.lst xs)) G Q = Q (.int (xs.length : Nat)) G := by simp [lenO]
@[simp] theorem lenO_dict {t : Bool} {xs : List (D × D)} {G Q} : lenO (some (.dict t xs)) G Q = Q (.int (xs.length : Nat)) G := by simp [lenO]
@[simp ↓] theorem ixR_tup {xs : List D} {i : Int} {G Q} : ixR (.tup xs) (.int i) G Q = optD (atI xs i) G Q ⟨⟩ := (rfl)
@[simp] theorem ixR_str {z : Str} {i : Int} {G Q} : ixR (.str z) (.int i) G Q = (z.length ≤ sizeLine ∧ ∃ c, atI z.cps.toList i = some c ∧ Q (.str ⟨#[c]⟩) G) := (rfl)
def ixO (o : Option DO) (e : D) (G : Gp) (Q : DQ) : Prop := ∃ o', o = some o' ∧ anyO o' (fun ds => ∃ i v, e = .int i ∧ atI ds i = some v ∧ Q v G) fun t kvs => keyOk t e = true ∧ ∃ v, valD kvs e = some v ∧ Q v G
theorem ixO_congr {o o' : Option DO} {e e' : D} {G : Gp} {Q : DQ} (h0 : o = o') (h1 : e = e') : ixO o e G Q = ixO o' e' G Q := by rw [h0, h1]
@[simp] theorem ixR_ref {a : Addr} {e : D} {G Q} : ixR (.ref a) e G Q = ixO (G a) e G Q := (rfl)
@[simp] theorem ixO_lst {xs : List D} {i : Int} {G Q} : ixO (some (.lst xs)) (.int i) G Q = optD (atI xs i) G Q ⟨⟩ := by simp [ixO, anyO, optD]
@[simp] theorem ixO_dict {t : Bool} {xs : List (D × D)} {e : D} {G Q} : ixO (some (.dict t xs)) e G Q = (keyOk t e = true ∧ optD (valD xs e) G Q ⟨⟩) := by simp [ixO, anyO, optD]
@[simp] theorem ixO_ldict {t : Bool} {xs : List (D × D)} {e : D} {G Q} : ixO (some (.ldict t xs)) e G Q = (keyOk t e = true ∧ optD (valD xs e) G Q ⟨⟩) := by simp [ixO, anyO, optD]
@[simp] theorem slR_tup {xs : List D} {lo hi : Option Int} {G Q} : slR (.tup xs) lo hi G Q = Q (.tup (cutD xs lo hi)) G := (rfl)
def slO (o : Option DO) (lo hi : Option Int) (G : Gp) (Q : DQ) : Prop := ∃ o', o = some o' ∧ lstO o' fun ds => ∀ p, Nw G p → Q (.ref p) (put G p (.lst (cutD ds lo hi)))
theorem slO_congr {o o' : Option DO} {lo lo' hi hi' : Option Int} {G : Gp} {Q : DQ} (h0 : o = o') (h1 : lo = lo') (h2 : hi = hi') : slO o lo hi G Q = slO o' lo' hi' G Q := by rw [h0, h1, h2]
@[simp] theorem slR_ref {a : Addr} {lo hi : Option Int} {G Q} : slR (.ref a) lo hi G Q = slO (G a) lo hi G Q := (rfl)
@[simp] theorem slO_lst {xs : List D} {lo hi : Option Int} {G Q} : slO (some (.lst xs)) lo hi G Q = ∀ p, Nw G p → Q (.ref p) (put G p (.lst (cutD xs lo hi))) := by simp [slO, lstO]
def natO (o : Option Nat) (Q : Nat → Prop) : Prop := ∃ j, o = some j ∧ Q j
theorem natO_congr {o o' : Option Nat} {Q : Nat → Prop} (h : o = o') : natO o Q = natO o' Q := by rw [h]
@[simp] theorem natO_some {j : Nat} {Q : Nat → Prop} : natO (some j) Q = Q j := by simp [natO]
def setO (o : Option DO) (a : Addr) (i v : D) (G : Gp) (Q : Gp → Prop) : Prop := ∃ ob, o = some ob ∧ (match ob with
    | .lst ds => ∃ k j, i = .int k ∧ ixN ds.length k = some j ∧ Q (put G a (.lst (ds.set j v)))
    | .dict t kvs => keyOk t i = true ∧ kvs.length < sizeLine ∧ Q (put G a (.dict t (putD kvs i v)))
    | _ => False)
theorem setO_congr {o o' : Option DO} {a : Addr} {i i' v v' : D} {G : Gp} {Q : Gp → Prop} (h0 : o = o') (h1 : i = i') (h2 : v = v') : setO o a i v G Q = setO o' a i' v' G Q := by rw [h0, h1, h2]
@[simp] theorem setR_ref {a : Addr} {i v : D} {G} {Q : Gp → Prop} : setR (.ref a) i v G Q = setO (G a) a i v G Q := (rfl)
@[simp] theorem setO_lst {xs : List D} {a : Addr} {k : Int} {v : D} {G} {Q : Gp → Prop} : setO (some (.lst xs)) a (.int k) v G Q = natO (ixN xs.length k) (fun j => Q (put G a (.lst (xs.set j v)))) := by simp [setO, natO]
@[simp] theorem setO_dict {t : Bool} {xs : List (D × D)} {a : Addr} {i v : D} {G} {Q : Gp → Prop} : setO (some (.dict t xs)) a i v G Q = (keyOk t i = true ∧ xs.length < sizeLine ∧ Q (put G a (.dict t (putD xs i v)))) := by simp [setO]
def appO (o : Option DO) (a : Addr) (y : D) (G : Gp) (Q : DQ) : Prop := ∃ o', o = some o' ∧ (match o' with
    | .lst xs => xs.length < sizeLine ∧ Q .non (put G a (.lst (xs ++ [y])))
    | _ => False)
theorem appO_congr {o o' : Option DO} {a : Addr} {y y' : D} {G : Gp} {Q : DQ} (h0 : o = o') (h1 : y = y') : appO o a y G Q = appO o' a y' G Q := by rw [h0, h1]
@[simp] theorem appR_ref {a : Addr} {y : D} {G Q} : appR (.ref a) [y] G Q = appO (G a) a y G Q := (rfl)
@[simp] theorem appO_lst {xs : List D} {a : Addr} {y : D} {G Q} : appO (some (.lst xs)) a y G Q = (xs.length < sizeLine ∧ Q .non (put G a (.lst (xs ++ [y])))) := by simp [appO]
def popO (o : Option DO) (a : Addr) (i : Int) (G : Gp) (Q : DQ) : Prop := ∃ o', o = some o' ∧ (match o' with
    | .lst xs => 0 ≤ i ∧ ∃ y, xs[i.toNat]? = some y ∧ Q y (put G a (.lst (xs.eraseIdx i.toNat)))
    | _ => False)
theorem popO_congr {o o' : Option DO} {a : Addr} {i i' : Int} {G : Gp} {Q : DQ} (h0 : o = o') (h1 : i = i') : popO o a i G Q = popO o' a i' G Q := by rw [h0, h1]
@[simp] theorem popR_ref {a : Addr} {i : Int} {G Q} : popR (.ref a) [.int i] G Q = popO (G a) a i G Q := (rfl)
@[simp] theorem popO_lst {xs : List D} {a : Addr} {i : Int} {G Q} : popO (some (.lst xs)) a i G Q = (0 ≤ i ∧ optD (xs[i.toNat]?) (put G a (.lst (xs.eraseIdx i.toNat))) Q ⟨⟩) := by simp [popO, optD]
def extO (o o' : Option DO) (a : Addr) (G : Gp) (Q : DQ) : Prop := ∃ x y, o = some (.lst x) ∧ o' = some (.lst y) ∧ x.length + y.length ≤ sizeLine ∧ Q .non (put G a (.lst (x ++ y)))
theorem extO_congr {o o' p p' : Option DO} {a : Addr} {G : Gp} {Q : DQ} (h0 : o = o') (h1 : p = p') : extO o p a G Q = extO o' p' a G Q := by rw [h0, h1]
@[simp] theorem extR_ref {a b : Addr} {G Q} : extR (.ref a) [.ref b] G Q = extO (G a) (G b) a G Q := (rfl)
@[simp] theorem extO_lst {x y : List D} {a : Addr} {G Q} : extO (some (.lst x)) (some (.lst y)) a G Q = (x.length + y.length ≤ sizeLine ∧ Q .non (put G a (.lst (x ++ y)))) := by simp [extO]
@[simp] theorem intR_int {i : Int} {G Q} : intR [.int i] G Q = Q (.int i) G := (rfl)
@[simp] theorem maxR_int {i j : Int} {G Q} : maxR [.int i, .int j] G Q = Q (.int (max i j)) G := (rfl)
@[simp] theorem tupleR_tup {xs : List D} {G Q} : tupleR [.tup xs] G Q = Q (.tup xs) G := (rfl)
def tupleO (o : Option DO) (G : Gp) (Q : DQ) : Prop := ∃ o', o = some o' ∧ lstO o' fun ds => Q (.tup ds) G
theorem tupleO_congr {o o' : Option DO} {G : Gp} {Q : DQ} (h0 : o = o') : tupleO o G Q = tupleO o' G Q := by rw [h0]
@[simp] theorem tupleR_ref {a : Addr} {G Q} : tupleR [.ref a] G Q = tupleO (G a) G Q := (rfl)
@[simp] theorem tupleO_lst {xs : List D} {G Q} : tupleO (some (.lst xs)) G Q = Q (.tup xs) G := by simp [tupleO, lstO]
@[simp] theorem listR_tup {xs : List D} {G Q} : listR [.tup xs] G Q = ∀ p, Nw G p → Q (.ref p) (put G p (.lst xs)) := (rfl)
def listO (o : Option DO) (G : Gp) (Q : DQ) : Prop := ∃ o', o = some o' ∧ lstO o' fun ds => ∀ p, Nw G p → Q (.ref p) (put G p (.lst ds))
theorem listO_congr {o o' : Option DO} {G : Gp} {Q : DQ} (h0 : o = o') : listO o G Q = listO o' G Q := by rw [h0]
@[simp] theorem listR_ref {a : Addr} {G Q} : listR [.ref a] G Q = listO (G a) G Q := (rfl)
@[simp] theorem listO_lst {xs : List D} {G Q} : listO (some (.lst xs)) G Q = ∀ p, Nw G p → Q (.ref p) (put G p (.lst xs)) := by simp [listO, lstO]
def lrngD (d : D) (G1 : Gp) (Q : DQ) : Prop := match d with
  | .int n => (0 ≤ n ∧ n ≤ 1000000) ∧ ∀ p, Nw G1 p → Q (.ref p) (put G1 p (.lst (rngD 0 n.toNat)))
  | _ => False
theorem lrngD_congr {d d' : D} {G : Gp} {Q : DQ} (h0 : d = d') : lrngD d G Q = lrngD d' G Q := by rw [h0]
@[simp] theorem lrngD_int {n : Int} {G1 Q} : lrngD (.int n) G1 Q = ((0 ≤ n ∧ n ≤ 1000000) ∧ ∀ p, Nw G1 p → Q (.ref p) (put G1 p (.lst (rngD 0 n.toNat)))) := (rfl)
@[simp ↓] theorem dListRng_app {ta : DTE} {sd G Q} : dListRng ta sd G Q = ta sd G fun d G1 => lrngD d G1 Q := (rfl)
def seqD (d : D) (G : Gp) (R : List D → (Gp → Prop) → Gp → Prop) : Prop := match d with
  | .tup ds => R ds (fun _ => True) G
  | .ref a => ∃ o, G a = some o ∧ lstO o fun ds => R ds (fun G => G a = some o) G
  | _ => False
theorem seqD_congr {d d' : D} {G : Gp} {R : List D → (Gp → Prop) → Gp → Prop} (h0 : d = d') : seqD d G R = seqD d' G R := by rw [h0]
@[simp ↓] theorem diSeq_app {te : DTE} {sd G R} : diSeq te sd G R = te sd G fun d G1 => seqD d G1 R := (rfl)
@[simp] theorem seqD_tup {ds : List D} {G R} : seqD (.tup ds) G R = R ds (fun _ => True) G := (rfl)
def seqO (o : Option DO) (a : Addr) (G : Gp) (R : List D → (Gp → Prop) → Gp → Prop) : Prop := ∃ o', o = some o' ∧ lstO o' fun ds => R ds (fun G => G a = some o') G
theorem seqO_congr {o o' : Option DO} {a : Addr} {G : Gp} {R : List D → (Gp → Prop) → Gp → Prop} (h0 : o = o') : seqO o a G R = seqO o' a G R := by rw [h0]
@[simp] theorem seqD_ref {a : Addr} {G R} : seqD (.ref a) G R = seqO (G a) a G R := (rfl)
@[simp] theorem seqO_lst {xs : List D} {a : Addr} {G R} : seqO (some (.lst xs)) a G R = R xs (fun G => G a = some (.lst xs)) G := by simp [seqO, lstO]
def rngL (ds : List D) (G : Gp) (R : List D → (Gp → Prop) → Gp → Prop) : Prop := match ds with
  | [.int j] => -(2 ^ 62) ≤ j ∧ j ≤ 1000000 ∧ R (rngD 0 j.toNat) (fun _ => True) G
  | _ => False
theorem rngL_congr {ds ds' : List D} {G : Gp} {R : List D → (Gp → Prop) → Gp → Prop} (h0 : ds = ds') : rngL ds G R = rngL ds' G R := by rw [h0]
@[simp ↓] theorem diRng_app {te : DTA} {sd G R} : diRng te sd G R = te sd G fun d G1 => rngL d G1 R := (rfl)
@[simp] theorem rngL_int {j : Int} {G R} : rngL [.int j] G R = (-(2 ^ 62) ≤ j ∧ j ≤ 1000000 ∧ R (rngD 0 j.toNat) (fun _ => True) G) := (rfl)
def rng2L (ds : List D) (G : Gp) (R : List D → (Gp → Prop) → Gp → Prop) : Prop := match ds with
  | [.int i, .int j] => (-(2 ^ 62) ≤ i ∧ i ≤ 1000000 ∧ -(2 ^ 62) ≤ j ∧ j ≤ 1000000 ∧ j - i ≤ 1000000) ∧ R (rngD i (j - i).toNat) (fun _ => True) G
  | _ => False
theorem rng2L_congr {ds ds' : List D} {G : Gp} {R : List D → (Gp → Prop) → Gp → Prop} (h0 : ds = ds') : rng2L ds G R = rng2L ds' G R := by rw [h0]
@[simp ↓] theorem diRng2_app {te : DTA} {sd G R} : diRng2 te sd G R = te sd G fun d G1 => rng2L d G1 R := (rfl)
@[simp] theorem rng2L_int {i j : Int} {G R} : rng2L [.int i, .int j] G R = ((-(2 ^ 62) ≤ i ∧ i ≤ 1000000 ∧ -(2 ^ 62) ≤ j ∧ j ≤ 1000000 ∧ j - i ≤ 1000000) ∧ R (rngD i (j - i).toNat) (fun _ => True) G) := (rfl)
def fldD (C : Addr) (ns : List Str) (i : Nat) (d : D) (G : Gp) (Q : DQ) : Prop := match d with
  | .ref a => ∃ o, G a = some o ∧ (match o with
    | .ins C' ns' fs => C' = C ∧ ns' = ns ∧ ∃ v, fs[i]? = some v ∧ Q v G
    | _ => False)
  | _ => False
theorem fldD_congr {C : Addr} {ns : List Str} {i : Nat} {d d' : D} {G : Gp} {Q : DQ} (h0 : d = d') : fldD C ns i d G Q = fldD C ns i d' G Q := by rw [h0]
@[simp ↓] theorem dFld_app {C ns i ta sd G Q} : dFld C ns i ta sd G Q = ta sd G fun d G1 => fldD C ns i d G1 Q := (rfl)
def fldO (C : Addr) (ns : List Str) (i : Nat) (o : Option DO) (G : Gp) (Q : DQ) : Prop := ∃ o', o = some o' ∧ (match o' with
    | .ins C' ns' fs => C' = C ∧ ns' = ns ∧ ∃ v, fs[i]? = some v ∧ Q v G
    | _ => False)
theorem fldO_congr {C : Addr} {ns : List Str} {i : Nat} {o o' : Option DO} {G : Gp} {Q : DQ} (h0 : o = o') : fldO C ns i o G Q = fldO C ns i o' G Q := by rw [h0]
@[simp] theorem fldD_ref {C ns i a G Q} : fldD C ns i (.ref a) G Q = fldO C ns i (G a) G Q := (rfl)
@[simp] theorem fldO_ins {C ns i fs G Q} : fldO C ns i (some (.ins C ns fs)) G Q = optD (fs[i]?) G Q ⟨⟩ := by simp [fldO, optD]
def sfldD (C : Addr) (ns : List Str) (i : Nat) (d v : D) (G : Gp) (Q : Gp → Prop) : Prop := match d with
  | .ref a => ∃ o, G a = some o ∧ (match o with
    | .ins C' ns' fs => C' = C ∧ ns' = ns ∧ i ≤ fs.length ∧ Q (put G a (.ins C ns (storeF fs i v)))
    | _ => False)
  | _ => False
theorem sfldD_congr {C : Addr} {ns : List Str} {i : Nat} {d d' v v' : D} {G : Gp} {Q : Gp → Prop} (h0 : d = d') (h1 : v = v') : sfldD C ns i d v G Q = sfldD C ns i d' v' G Q := by rw [h0, h1]
@[simp ↓] theorem dsFld_app {C ns i to te} {n r b c} {sd G} : dsFld C ns i to te ⟨n, r, b, c⟩ sd G = te sd G fun v G1 => to sd G1 fun d G2 => sfldD C ns i d v G2 fun G3 => n sd G3 := (rfl)
def sfldO (C : Addr) (ns : List Str) (i : Nat) (o : Option DO) (a : Addr) (v : D) (G : Gp) (Q : Gp → Prop) : Prop := ∃ o', o = some o' ∧ (match o' with
    | .ins C' ns' fs => C' = C ∧ ns' = ns ∧ i ≤ fs.length ∧ Q (put G a (.ins C ns (storeF fs i v)))
    | _ => False)
theorem sfldO_congr {C : Addr} {ns : List Str} {i : Nat} {o o' : Option DO} {a : Addr} {v v' : D} {G : Gp} {Q : Gp → Prop} (h0 : o = o') (h1 : v = v') : sfldO C ns i o a v G Q = sfldO C ns i o' a v' G Q := by rw [h0, h1]
@[simp] theorem sfldD_ref {C ns i a v G} {Q : Gp → Prop} : sfldD C ns i (.ref a) v G Q = sfldO C ns i (G a) a v G Q := (rfl)
@[simp] theorem sfldO_ins {C ns i fs a v G} {Q : Gp → Prop} : sfldO C ns i (some (.ins C ns fs)) a v G Q = (i ≤ fs.length ∧ Q (put G a (.ins C ns (storeF fs i v)))) := by simp [sfldO]
def methD (C : Addr) (ns : List Str) (d : D) (G : Gp) (P : Prop) : Prop := match d with
  | .ref a => (∃ fs, G a = some (.ins C ns fs)) ∧ P
  | _ => False
theorem methD_congr {C : Addr} {ns : List Str} {d d' : D} {G : Gp} {P : Prop} (h0 : d = d') : methD C ns d G P = methD C ns d' G P := by rw [h0]
@[simp ↓] theorem dMeth_app {C ns sp W to t sd G Q} : dMeth C ns sp W to t sd G Q = to sd G fun d G1 => methD C ns d G1 (t sd G1 fun ds G2 => callP sp (d :: ds) G2 Q (fun C x G3 => W C x sd G3) ⟨⟩ ⟨⟩ ⟨⟩) := by
  unfold dMeth methD
  congr 1
  funext d G1
  cases d <;> rfl
def methO (C : Addr) (ns : List Str) (o : Option DO) : Prop := ∃ fs, o = some (.ins C ns fs)
@[simp] theorem methD_ref {C ns a G P} : methD C ns (.ref a) G P = (methO C ns (G a) ∧ P) := (rfl)
@[simp] theorem methO_ins {C ns fs} : methO C ns (some (.ins C ns fs)) = True := by simp [methO]
def inO (neg : Bool) (d : D) (o : Option DO) (G : Gp) (Q : DQ) : Prop := ∃ o', o = some o' ∧ anyO o' (fun ds => (ds.all (dat 20) && dat 20 d) = true ∧ Q (.bl (ds.any (fun z => peq z d) != neg)) G) fun t kvs => keyOk t d = true ∧ Q (.bl ((valD kvs d).isSome != neg)) G
theorem inO_congr {neg : Bool} {d d' : D} {o o' : Option DO} {G : Gp} {Q : DQ} (h0 : d = d') (h1 : o = o') : inO neg d o G Q = inO neg d' o' G Q := by rw [h0, h1]
@[simp] theorem inR_tup {neg : Bool} {d : D} {ds : List D} {G Q} : inR neg d (.tup ds) G Q = ((ds.all (dat 0) && dat 0 d) = true ∧ Q (.bl (ds.any (fun z => peq z d) != neg)) G) := (rfl)
@[simp] theorem inR_ref {neg : Bool} {d : D} {a : Addr} {G Q} : inR neg d (.ref a) G Q = inO neg d (G a) G Q := (rfl)
@[simp] theorem inO_lst {neg : Bool} {d : D} {ds : List D} {G Q} : inO neg d (some (.lst ds)) G Q = ((ds.all (dat 20) && dat 20 d) = true ∧ Q (.bl (ds.any (fun z => peq z d) != neg)) G) := by simp [inO, anyO]
@[simp] theorem inO_dict {neg t : Bool} {d : D} {kvs} {G Q} : inO neg d (some (.dict t kvs)) G Q = (keyOk t d = true ∧ Q (.bl ((valD kvs d).isSome != neg)) G) := by simp [inO, anyO]
@[simp] theorem inO_ldict {neg t : Bool} {d : D} {kvs} {G Q} : inO neg d (some (.ldict t kvs)) G Q = (keyOk t d = true ∧ Q (.bl ((valD kvs d).isSome != neg)) G) := by simp [inO, anyO]
def lensetD (d : D) (G : Gp) (Q : DQ) : Prop := ∃ ns : List Int, ns.length ≤ 4000 ∧ Q (.int ((dd ns).length : Nat)) G ∧ (match d with
  | .tup ds => ds = ns.map .int
  | .ref a => ∃ o, G a = some o ∧ lstO o fun ds => ds = ns.map .int
  | _ => False)
theorem lensetD_congr {d d' : D} {G : Gp} {Q : DQ} (h0 : d = d') : lensetD d G Q = lensetD d' G Q := by rw [h0]
@[simp ↓] theorem dLenSet_app {ta sd G Q} : dLenSet ta sd G Q = ta sd G fun d G1 => lensetD d G1 Q := (rfl)
theorem map_int_inj {a b : List Int} (h : a.map D.int = b.map D.int) : a = b := by
  induction a generalizing b with
  | nil => cases b <;> simp at h ⊢
  | cons x a ih => cases b with
    | nil => simp at h
    | cons y b => simp at h; rw [h.1, ih h.2]
@[simp] theorem lensetD_tup {ns : List Int} {G Q} : lensetD (.tup (ns.map .int)) G Q = (ns.length ≤ 4000 ∧ Q (.int ((dd ns).length : Nat)) G) :=
  propext ⟨fun ⟨ms, h1, h2, h3⟩ => by cases map_int_inj h3; exact ⟨h1, h2⟩, fun ⟨h1, h2⟩ => ⟨ns, h1, h2, rfl⟩⟩
def lensetO (o : Option DO) (G : Gp) (Q : DQ) : Prop := ∃ ns : List Int, ns.length ≤ 4000 ∧ Q (.int ((dd ns).length : Nat)) G ∧ ∃ o', o = some o' ∧ lstO o' fun ds => ds = ns.map .int
theorem lensetO_congr {o o' : Option DO} {G : Gp} {Q : DQ} (h0 : o = o') : lensetO o G Q = lensetO o' G Q := by rw [h0]
@[simp] theorem lensetD_ref {a : Addr} {G Q} : lensetD (.ref a) G Q = lensetO (G a) G Q := (rfl)
@[simp] theorem lensetO_lst {ns : List Int} {G Q} : lensetO (some (.lst (ns.map .int))) G Q = (ns.length ≤ 4000 ∧ Q (.int ((dd ns).length : Nat)) G) :=
  propext ⟨fun ⟨ms, h1, h2, o, e, h3⟩ => by cases e; cases map_int_inj h3; exact ⟨h1, h2⟩, fun ⟨h1, h2⟩ => ⟨ns, h1, h2, _, rfl, rfl⟩⟩
def tyO (T : String) (o : Option DO) : Prop := ∃ o', o = some o' ∧ (match o' with
    | .lst _ => T = "list"
    | .rol _ => T = "list"
    | .dict _ _ => T = "dict"
    | _ => False)
@[simp] theorem tyD_ref {T : String} {a : Addr} {G} : tyD T (.ref a) G = tyO T (G a) := (rfl)
@[simp] theorem tyD_str {T : String} {a : Str} {G} : tyD T (.str a) G = (T = "str") := (rfl)
@[simp] theorem tyO_lst {T : String} {xs : List D} : tyO T (some (.lst xs)) = (T = "list") := by simp [tyO]
@[simp] theorem tyO_dict {T : String} {t : Bool} {xs : List (D × D)} : tyO T (some (.dict t xs)) = (T = "dict") := by simp [tyO]
theorem tyD_lst {a : Addr} {xs : List D} {G : Gp} (h : G a = some (.lst xs)) : tyD "list" (.ref a) G = True := by simp [tyD, h]
@[simp] theorem ixN_0 {n : Nat} (h : 0 < n) : ixN n 0 = some 0 := by simp [ixN, h]
@[simp] theorem ixN_1 {n : Nat} (h : 1 < n) : ixN n 1 = some 1 := by
  have : (1 : Int) < n := by omega
  simp [ixN, this]
theorem eqV_nil {G : Gp} {a b : Addr} {xs : List D} {neg : Bool} {Q : DQ} (h1 : G a = some (.lst xs)) (h2 : G b = some (.lst [])) : eqV neg (.ref a) (.ref b) G Q = (xs.all (dat 20) = true ∧ Q (.bl (xs.isEmpty != neg)) G) := by
  simp only [eqV, h1, h2, lstO]
  cases xs <;> simp [peqL, PyData.eqvAll, PyData.eqv]
@[simp] theorem eqV_int {G : Gp} {i j : Int} {neg : Bool} {Q : DQ} : eqV neg (.int i) (.int j) G Q = Q (.bl (decide (i = j) != neg)) G := by
  simp [eqV, dat, peq_int]
@[simp] theorem eqV_str {G : Gp} {i j : Str} {neg : Bool} {Q : DQ} : eqV neg (.str i) (.str j) G Q = Q (.bl (decide (i = j) != neg)) G := by
  simp [eqV, dat, peq_str]
@[simp] theorem eqV_bl {G : Gp} {i j : Bool} {neg : Bool} {Q : DQ} : eqV neg (.bl i) (.bl j) G Q = Q (.bl ((i == j) != neg)) G := by
  simp [eqV, dat, peq, toPD, PyData.eqv]
@[simp] theorem eqV_tup_nil {G : Gp} {x : D} {xs : List D} {neg : Bool} {Q : DQ} : eqV neg (.tup (x :: xs)) (.tup []) G Q = (dat 20 (.tup (x :: xs)) = true ∧ Q (.bl (false != neg)) G) := by
  simp [eqV, dat, peq, toPD, toPDs, PyData.eqv, PyData.eqvAll]
@[simp] theorem eqV_non_int {G : Gp} {j : Int} {neg : Bool} {Q : DQ} : eqV neg .non (.int j) G Q = Q (.bl (false != neg)) G := by
  simp [eqV, dat, peq, toPD, PyData.eqv]
@[simp] theorem eqV_int_non {G : Gp} {j : Int} {neg : Bool} {Q : DQ} : eqV neg (.int j) .non G Q = Q (.bl (false != neg)) G := by
  simp [eqV, dat, peq, toPD, PyData.eqv]
@[simp] theorem eqV_non {G : Gp} {neg : Bool} {Q : DQ} : eqV neg .non .non G Q = Q (.bl (true != neg)) G := by
  simp [eqV, dat, peq, toPD, PyData.eqv]
@[simp] theorem atI_0 {α : Type} {x : α} {xs : List α} : atI (x :: xs) 0 = some x := by simp [atI, ixN]
@[simp] theorem atI_1 {α : Type} {x y : α} {xs : List α} : atI (x :: y :: xs) 1 = some y := by
  have : (1 : Int) < (xs.length : Int) + 1 + 1 := by omega
  simp [atI, ixN, this]
@[simp] theorem atI_2 {α : Type} {x y z : α} {xs : List α} : atI (x :: y :: z :: xs) 2 = some z := by
  have : (2 : Int) < (xs.length : Int) + 1 + 1 + 1 := by omega
  simp [atI, ixN, this]
@[simp] theorem atI_3 {α : Type} {x y z u : α} {xs : List α} : atI (x :: y :: z :: u :: xs) 3 = some u := by
  have : (3 : Int) < (xs.length : Int) + 1 + 1 + 1 + 1 := by omega
  simp [atI, ixN, this]
@[simp] theorem atI_4 {α : Type} {x y z u v : α} {xs : List α} : atI (x :: y :: z :: u :: v :: xs) 4 = some v := by
  have : (4 : Int) < (xs.length : Int) + 1 + 1 + 1 + 1 + 1 := by omega
  simp [atI, ixN, this]
@[simp] theorem atI_5 {α : Type} {x y z u v w : α} {xs : List α} : atI (x :: y :: z :: u :: v :: w :: xs) 5 = some w := by
  have : (5 : Int) < (xs.length : Int) + 1 + 1 + 1 + 1 + 1 + 1 := by omega
  simp [atI, ixN, this]
theorem atI_nat {α : Type} {xs : List α} {i : Nat} (h : i < xs.length) : atI xs (i : Int) = some (xs[i]) := by
  simp [atI, ixN, h]
theorem dat_int {n : Nat} {i : Int} : dat n (.int i) = true := by cases n <;> rfl
theorem dat_str {n : Nat} {i : Str} : dat n (.str i) = true := by cases n <;> rfl
theorem dat_bl {n : Nat} {i : Bool} : dat n (.bl i) = true := by cases n <;> rfl
theorem dat_non {n : Nat} : dat n .non = true := by cases n <;> rfl
theorem put_at {G : Gp} {a b : Addr} {o : DO} : put G a o b = if b = a then some o else G b := rfl
theorem ne_fr {G : Gp} {a p : Addr} {o : DO} (h : G a = some o) (hp : G p = none) : a ≠ p := fun z => by rw [z, hp] at h; cases h
/-- if b then .. -/
theorem ite_bl {b c : Bool} {Q : DQ} {G : Gp} (h : Q (.bl (b && c)) G) : if b = true then Q (.bl c) G else Q (.bl false) G := by
  cases b <;> simpa using h
theorem put_none {G : Gp} {a b : Addr} {o : DO} (h : put G a o b = none) : b ≠ a ∧ a ≠ b ∧ G b = none := by
  by_cases hb : b = a
  · subst hb
    rw [put_same] at h
    cases h
  · rw [put_ne hb] at h
    exact ⟨hb, Ne.symm hb, h⟩
theorem nw_put {G : Gp} {a b : Addr} {o : DO} : Nw (put G a o) b = (¬ b = a ∧ ¬ a = b ∧ Nw G b) := propext ⟨fun h => put_none h, fun h => by unfold Nw; rw [put_ne h.1]; exact h.2.2⟩
theorem Nw.ne {G : Gp} {a p : Addr} {o : DO} (h : G a = some o) (hp : Nw G p) : ¬ a = p ∧ ¬ p = a := ⟨ne_fr h hp, (ne_fr h hp).symm⟩
/-- x == [] of a new list -/
theorem eq_new {G : Gp} {a : Addr} {xs : List D} {neg : Bool} {Q : DQ} (h1 : G a = some (.lst xs)) (hd : xs.all (dat 20) = true) (q : ∀ p, Nw G p → Q (.bl (xs.isEmpty != neg)) (put G p (.lst []))) : ∀ p, Nw G p → eqV neg (.ref a) (.ref p) (put G p (.lst [])) Q := fun p hp => by
  rw [eqV_nil (by rw [put_ne (ne_fr h1 hp)]; exact h1) put_same]
  exact ⟨hd, q p hp⟩
theorem Ext.of_put {G G' : Gp} {p : Addr} {o : DO} (h : Ext G G') (hp : G' p = none) : Ext G (DL.put G' p o) := h.trans (Ext.put hp)
theorem all_ints {n : Nat} (ns : List Int) : (ns.map D.int).all (dat n) = true := by
  rw [List.all_eq_true]
  intro x hx
  obtain ⟨i, _, rfl⟩ := List.mem_map.mp hx
  exact dat_int
end DL
set_option Elab.async false
set_option linter.all false
set_option maxRecDepth 100000
set_option maxHeartbeats 4000000
namespace DL
open PySem PySem.Spec L2

/-! ### a dict locked while it is walked -/
def dLock (t : DTS) : DTS := fun DD sd G => ∃ a b kvs, G a = some (.dict b kvs) ∧
  t ⟨fun sd' G' => G' a = some (.ldict b kvs) ∧ DD.nx sd' (put G' a (.dict b kvs)), fun v G' => G' a = some (.ldict b kvs) ∧ DD.rt v (put G' a (.dict b kvs)),
    fun sd' G' => G' a = some (.ldict b kvs) ∧ DD.bk sd' (put G' a (.dict b kvs)), fun sd' G' => G' a = some (.ldict b kvs) ∧ DD.ct sd' (put G' a (.dict b kvs))⟩ sd (put G a (.ldict b kvs))
def dLockE (t : DTE) : DTE := fun sd G Q => ∃ a b kvs, G a = some (.dict b kvs) ∧ t sd (put G a (.ldict b kvs)) fun v G' => G' a = some (.ldict b kvs) ∧ Q v (put G' a (.dict b kvs))
section
variable {K : PySem.W.Frag} {B : Bx} {H H' : Hp} {G G' : Gp} {a : Addr} {b : Bool} {kvs : List (D × D)} {od : Obj} {u : HO}
theorem locks (R : Rep K B H G) (g : G a = some (.dict b kvs)) : ∃ u, H a = some u ∧ Mut (some u) ∧ (∀ xs, u ≠ .tup xs) ∧ (∀ o v, u ≠ .frz o v) ∧ (∀ od, Kp H (upd H a (.frz od u)) ∧ Rep K B (upd H a (.frz od u)) (put G a (.ldict b kvs))) := by
  have r := R.at_ a _ g
  cases b with
  | false =>
    obtain ⟨z, ks, h1, h2, h3⟩ := r
    refine ⟨_, h1, trivial, fun _ => nofun, fun _ _ => nofun, fun od => ?_⟩
    have k : Kp H (upd H a (.frz od (.dK ks))) := .write h1 fun _ => nofun
    exact ⟨k, R.write (o := .ldict false kvs) h1 (fun _ => nofun) ⟨z, od, ks, upd_same, h2, h3.mono k⟩⟩
  | true =>
    obtain ⟨z, ks, h1, h2, h3⟩ := r
    refine ⟨_, h1, trivial, fun _ => nofun, fun _ _ => nofun, fun od => ?_⟩
    have k : Kp H (upd H a (.frz od (.dT ks))) := .write h1 fun _ => nofun
    exact ⟨k, R.write (o := .ldict true kvs) h1 (fun _ => nofun) ⟨z, od, ks, upd_same, h2, h3.mono k⟩⟩
theorem unlocks (R : Rep K B H G) (hu : H a = some u) (n : ∀ xs, u ≠ .tup xs) (m : ∀ o v, u ≠ .frz o v) (k : Kp (upd H a (.frz od u)) H') (R' : Rep K B H' G') (g : G' a = some (.ldict b kvs)) :
    H' a = some (.frz od u) ∧ TK H' (upd H' a u) ∧ Kp H (upd H' a u) ∧ Rep K B (upd H' a u) (put G' a (.dict b kvs)) := by
  have e1 : H' a = some (.frz od u) := k.frz a od u upd_same
  have kt : TK H' (upd H' a u) := ⟨fun c xs b h => by
    have hc : c ≠ a := fun z => by
      rw [z] at h
      cases b with
      | false => rw [show H' a = some (.tup xs) from h] at e1; cases e1
      | true => obtain ⟨o, _, h⟩ := h; rw [e1] at h; cases h; exact n _ rfl
    cases b with
    | false => exact (upd_ne hc).trans h
    | true => obtain ⟨o, h1, h2⟩ := h; exact ⟨o, h1, (upd_ne hc).trans h2⟩, fun c φ h => by
    have hc : c ≠ a := fun z => by rw [z, e1] at h; cases h
    exact (upd_ne hc).trans h⟩
  have kp : Kp H (upd H' a u) := ⟨fun c xs h => by
    have hc : c ≠ a := fun z => by rw [z, hu] at h; cases h; exact n _ rfl
    rw [upd_ne hc]
    exact k.tup c xs (by rw [upd_ne hc]; exact h), fun c o v h => by
    have hc : c ≠ a := fun z => by rw [z, hu] at h; cases h; exact m _ _ rfl
    rw [upd_ne hc]
    exact k.frz c o v (by rw [upd_ne hc]; exact h), fun c fs h => by
    have hc : c ≠ a := fun z => by
      rw [z, hu] at h
      cases h
      have r := R'.at_ a _ g
      cases b with
      | false => obtain ⟨_, ob, ks, h1, _⟩ := r; rw [e1] at h1; cases h1
      | true => obtain ⟨_, ob, ks, h1, _⟩ := r; rw [e1] at h1; cases h1
    rw [upd_ne hc]
    exact k.xd c fs (by rw [upd_ne hc]; exact h), fun c φ h => by
    have hc : c ≠ a := fun z => by
      rw [z, hu] at h
      cases h
      have r := R'.at_ a _ g
      cases b with
      | false => obtain ⟨_, ob, ks, h1, _⟩ := r; rw [e1] at h1; cases h1
      | true => obtain ⟨_, ob, ks, h1, _⟩ := r; rw [e1] at h1; cases h1
    rw [upd_ne hc]
    exact k.ext c φ (by rw [upd_ne hc]; exact h)⟩
  refine ⟨e1, kt, kp, R.k0.trans kp, fun c o' q => ?_, tabs_write R'.tb e1 (fun _ => nofun) (fun _ => nofun)⟩
  by_cases hc : c = a
  · subst hc
    rw [put_same] at q
    cases q
    have r := R'.at_ c _ g
    cases b with
    | false =>
      obtain ⟨z, ob, ks, h1, h2, h3⟩ := r
      rw [e1] at h1
      cases h1
      exact ⟨z, ks, upd_same, h2, h3.monoT kt⟩
    | true =>
      obtain ⟨z, ob, ks, h1, h2, h3⟩ := r
      rw [e1] at h1
      cases h1
      exact ⟨z, ks, upd_same, h2, h3.monoT kt⟩
  · rw [put_ne hc] at q
    exact RepO.monoT (upd_ne hc) kt (R'.at_ c o' q)
variable {X : Cx}
theorem ds_lock {st : Stmt} {t : DTS} (h : DS X B st t) : DS X B st (dLock t) := by
  obtain ⟨ts, p, w⟩ := h.ex
  refine ⟨_, ps_lock p, fun σ H sd G DD D hS R ⟨a, b, kvs, g, q⟩ hP => ?_⟩
  obtain ⟨u, hu, mu, n, m, hl⟩ := locks R g
  refine ⟨a, u, hu, mu, fun od => ?_⟩
  obtain ⟨k1, R1⟩ := hl od
  refine w σ _ sd _ _ _ (hS.mono k1) R1 q ⟨fun σ' sd' H' G' k hS' R' q' => ?_, fun v d H' G' k r' R' q' => ?_, fun σ' sd' H' G' k hS' R' q' => ?_, fun σ' sd' H' G' k hS' R' q' => ?_⟩
  · obtain ⟨e1, kt, kp, R2⟩ := unlocks R hu n m k R' q'.1
    exact ⟨e1, hP.nx _ _ _ _ kp (hS'.monoT kt) R2 q'.2⟩
  · obtain ⟨e1, kt, kp, R2⟩ := unlocks R hu n m k R' q'.1
    exact ⟨e1, hP.rt _ _ _ _ kp (r'.monoT kt) R2 q'.2⟩
  · obtain ⟨e1, kt, kp, R2⟩ := unlocks R hu n m k R' q'.1
    exact ⟨e1, hP.bk _ _ _ _ kp (hS'.monoT kt) R2 q'.2⟩
  · obtain ⟨e1, kt, kp, R2⟩ := unlocks R hu n m k R' q'.1
    exact ⟨e1, hP.ct _ _ _ _ kp (hS'.monoT kt) R2 q'.2⟩
theorem de_lock {e : Expr} {t : DTE} (h : DE X B e t) : DE X B e (dLockE t) := by
  obtain ⟨ts, p, w⟩ := h.ex
  refine ⟨_, pe_lock p, fun σ H sd G Q P hS R ⟨a, b, kvs, g, q⟩ hP => ?_⟩
  obtain ⟨u, hu, mu, n, m, hl⟩ := locks R g
  refine ⟨a, u, hu, mu, fun od => ?_⟩
  obtain ⟨k1, R1⟩ := hl od
  refine w σ _ sd _ _ _ (hS.mono k1) R1 q fun v d H' G' k r' R' q' => ?_
  obtain ⟨e1, kt, kp, R2⟩ := unlocks R hu n m k R' q'.1
  exact ⟨e1, hP _ _ _ _ kp (r'.monoT kt) R2 q'.2⟩
end

/-! ### for k in d; d.values() -/
def ldO (o : Option DO) (P : Bool → List (D × D) → Prop) : Prop := ∃ b kvs, o = some (.ldict b kvs) ∧ P b kvs
theorem ldO_congr {o o' : Option DO} {P : Bool → List (D × D) → Prop} (h0 : o = o') : ldO o P = ldO o' P := by rw [h0]
@[simp] theorem ldO_is {b kvs P} : ldO (some (.ldict b kvs)) P = P b kvs := propext ⟨fun ⟨_, _, e, h⟩ => by cases e; exact h, fun h => ⟨_, _, rfl, h⟩⟩
def intKey : D → Bool
  | .int _ => true
  | .tup ds => decide (1 ≤ ds.length ∧ ds.length ≤ 1000) && ds.all fun d => match d with
    | .int _ => true
    | _ => false
  | _ => false
def diKeys (te : DTE) : DTI := fun sd G R => te sd G fun d G1 => match d with
  | .ref a => ldO (G1 a) fun b kvs => kvs.all (fun kv => intKey kv.1) = true ∧ R (kvs.map (·.1)) (fun G => G a = some (.ldict b kvs)) G1
  | _ => False
def diVals (te : DTE) : DTI := fun sd G R => te sd G fun d G1 => match d with
  | .ref a => ldO (G1 a) fun b kvs => b = false ∧ R (kvs.map (·.2)) (fun G => G a = some (.ldict b kvs)) G1
  | _ => False
def keysD (d : D) (G1 : Gp) (R : List D → (Gp → Prop) → Gp → Prop) : Prop := match d with
  | .ref a => ldO (G1 a) fun b kvs => kvs.all (fun kv => intKey kv.1) = true ∧ R (kvs.map (·.1)) (fun G => G a = some (.ldict b kvs)) G1
  | _ => False
def valsD (d : D) (G1 : Gp) (R : List D → (Gp → Prop) → Gp → Prop) : Prop := match d with
  | .ref a => ldO (G1 a) fun b kvs => b = false ∧ R (kvs.map (·.2)) (fun G => G a = some (.ldict b kvs)) G1
  | _ => False
theorem keysD_congr {d d' : D} {G : Gp} {R : List D → (Gp → Prop) → Gp → Prop} (h0 : d = d') : keysD d G R = keysD d' G R := by rw [h0]
theorem valsD_congr {d d' : D} {G : Gp} {R : List D → (Gp → Prop) → Gp → Prop} (h0 : d = d') : valsD d G R = valsD d' G R := by rw [h0]
@[simp ↓] theorem diKeys_app {te sd G R} : diKeys te sd G R = te sd G fun d G1 => keysD d G1 R := (rfl)
@[simp ↓] theorem diVals_app {te sd G R} : diVals te sd G R = te sd G fun d G1 => valsD d G1 R := (rfl)
@[simp] theorem keysD_ref {a G R} : keysD (.ref a) G R = ldO (G a) fun b kvs => kvs.all (fun kv => intKey kv.1) = true ∧ R (kvs.map (·.1)) (fun G => G a = some (.ldict b kvs)) G := (rfl)
@[simp] theorem valsD_ref {a G R} : valsD (.ref a) G R = ldO (G a) fun b kvs => b = false ∧ R (kvs.map (·.2)) (fun G => G a = some (.ldict b kvs)) G := (rfl)
section
variable {X : Cx} {B : Bx} {tg e : Expr} {te : DTE} {ta : DTA} {pos p apos cpos : Pos}
theorem frz_same {K : PySem.W.Frag} {H1 H : Hp} {a : Addr} {ob ob' : Obj} {u v : HO} (h1 : H1 a = some (.frz ob u)) (k : Kp H1 H) (h2 : H a = some (.frz ob' v)) : ob' = ob ∧ v = u := by
  have := k.frz _ _ _ h1
  rw [this] at h2
  cases h2
  exact ⟨rfl, rfl⟩
theorem kD_rel {H : Hp} {k : Key} (h : intKey (kD k) = true) : Rel H (kD k) (kV k) := by
  cases k with
  | inl i => rfl
  | inr x => cases h
theorem kDs_rel {H : Hp} : ∀ {ks : List Key}, ((ks.map kD).all fun d => match d with | .int _ => true | _ => false) = true → RelL H (ks.map kD) (ks.map kV)
  | [], _ => rfl
  | k :: ks, h => by
    cases k with
    | inl i => exact ⟨_, _, rfl, rfl, kDs_rel (ks := ks) (by simpa [kD] using h)⟩
    | inr x => simp [kD] at h
theorem di_keys (he : DE X B e te) : DI X B tg e (diKeys te) := by
  obtain ⟨te', pe, he⟩ := he.ex
  refine ⟨_, pi_keys pe, fun σ H sd G QD R hS R0 t hP => ?_⟩
  refine he σ H sd G _ _ hS R0 t fun v d H1 G1 k1 r1 R1 q1 => ?_
  cases d with
  | ref a =>
    cases r1
    obtain ⟨b, kvs, g, hall, q1⟩ := q1
    rw [List.all_eq_true] at hall
    have r := R1.at_ a _ g
    cases b with
    | false =>
      obtain ⟨z, ob, ks, h1, h2, h3⟩ := r
      refine ⟨a, ob, rfl, .inl ⟨ks, h1, hP _ _ _ H1 G1 k1 R1 ⟨by simpa using z, fun H => H a = some (.frz ob (.dK ks)), fun i H x H' => H' = H ∧ ∃ k v, ks[i]? = some (k, v) ∧ x = kV k, ?_, fun H G k _ _ => k.frz _ _ _ h1, ?_⟩ q1⟩⟩
      · have hl : ks.length = (kvs.map (·.1)).length := by simpa using (congrArg List.length h2).symm
        rw [← hl]
        exact walk_keys
      · rintro i H G x H' hi k R _ ⟨rfl, key, v, e1, rfl⟩
        have e2 : (kvs.map (·.1))[i]? = some (kD key) := by rw [h2, List.getElem?_map, e1]; rfl
        refine ⟨_, e2, kD_rel ?_, .refl _, R⟩
        have := List.mem_of_getElem? e2
        obtain ⟨kv, hm, e3⟩ := List.mem_map.mp this
        rw [← e3]
        exact hall kv hm
    | true =>
      obtain ⟨z, ob, ks, h1, h2, h3⟩ := r
      refine ⟨a, ob, rfl, .inr ⟨ks, h1, hP _ _ _ H1 G1 k1 R1 ⟨by simpa using z, fun H => H a = some (.frz ob (.dT ks)), fun i H x H' => H' = H ∧ ∃ (k : List Key) (v : V) (q : Addr), ks[i]? = some (k, v) ∧ x = .ref q ∧ H q = some (.tup (k.map kV)), ?_, fun H G k _ _ => k.frz _ _ _ h1, ?_⟩ q1⟩⟩
      · have hl : ks.length = (kvs.map (·.1)).length := by simpa using (congrArg List.length h2).symm
        rw [← hl]
        exact walk_keysT
      · rintro i H G x H' hi k R _ ⟨rfl, key, v, q, e1, rfl, hq⟩
        have e2 : (kvs.map (·.1))[i]? = some (.tup (key.map kD)) := by rw [h2, List.getElem?_map, e1]; rfl
        have := List.mem_of_getElem? e2
        obtain ⟨kv, hm, e3⟩ := List.mem_map.mp this
        have hk : intKey (.tup (key.map kD)) = true := by rw [← e3]; exact hall kv hm
        simp only [intKey, Bool.and_eq_true, decide_eq_true_eq] at hk
        have ko : offs (key.map kD) = false := key_off fun z => by rw [z] at hk; exact absurd hk.1.1 (by decide)
        exact ⟨_, e2, ⟨q, _, rfl, by rw [ko]; exact hq, kDs_rel hk.2, Nat.le_trans hk.1.2 (by decide)⟩, .refl _, R⟩
  | _ => exact (show False from q1).elim
theorem di_vals (he : DE X B e te) (hbase : attributeBase e "values" X.env (eval e X.env) = eval e X.env := by rfl) (hline : (apos.endLine == cpos.line) = true := by rfl) : DI X B tg (.Call (.Attribute e "values" apos) [] [] cpos) (diVals te) := by
  obtain ⟨te', pe, he⟩ := he.ex
  refine ⟨_, pi_values pe hbase hline, fun σ H sd G QD R hS R0 t hP => ?_⟩
  refine he σ H sd G _ _ hS R0 t fun v d H1 G1 k1 r1 R1 q1 => ?_
  cases d with
  | ref a =>
    cases r1
    obtain ⟨b, kvs, g, rfl, q1⟩ := q1
    obtain ⟨z, ob, ks, h1, h2, h3⟩ := R1.at_ a _ g
    refine ⟨a, ob, ks, rfl, h1, hP _ _ _ H1 G1 k1 R1 ⟨by simpa using z, fun H => H a = some (.frz ob (.dK ks)), fun i H x H' => H' = H ∧ ∃ k, ks[i]? = some (k, x), ?_, fun H G k _ _ => k.frz _ _ _ h1, ?_⟩ q1⟩
    · have hl : ks.length = (kvs.map (·.2)).length := by simpa using (congrArg List.length h2).symm
      rw [← hl]
      exact walk_values
    · rintro i H G x H' hi k R st ⟨rfl, key, e1⟩
      obtain ⟨z', ob', ks', h1', h2', h3'⟩ := R.at_ a _ st
      have := frz_same (K := X.K) h1 k h1'
      cases this.2
      obtain ⟨y, e2, r⟩ := h3'.get i (d := (kvs.map (·.2))[i]) (List.getElem?_eq_getElem hi)
      rw [List.getElem?_map, e1] at e2
      cases e2
      exact ⟨_, List.getElem?_eq_getElem hi, r, .refl _, R⟩
  | _ => exact (show False from q1).elim
/-- enumerate(list) -/
def enumD (xs : List D) : List D := xs.mapIdx fun i x => .tup [.int (i : Nat), x]
def diEnum (ta : DTA) : DTI := fun sd G R => ta sd G fun ds G1 => match ds with
  | [.ref a] => ∃ o, G1 a = some o ∧ lstO o fun xs => R (enumD xs) (fun G => G a = some o) G1
  | _ => False
def enumL (ds : List D) (G1 : Gp) (R : List D → (Gp → Prop) → Gp → Prop) : Prop := match ds with
  | [.ref a] => ∃ o, G1 a = some o ∧ lstO o fun xs => R (enumD xs) (fun G => G a = some o) G1
  | _ => False
theorem yPair_new {K : PySem.W.Frag} {H H' : Hp} {G : Gp} {fx fy : Nat → Option V} {i : Nat} {v : V} {dx dy : D} {x y : V} (h : YPair fx fy i H v H') (ex : fx i = some x) (ey : fy i = some y) (rx : Rel H dx x) (ry : Rel H dy y) (R : Rep K B H G) (off : offs [dx, dy] = false := by rfl) :
    Rel H' (.tup [dx, dy]) v ∧ Kp H H' ∧ Rep K B H' G := by
  obtain ⟨T, x', y', rfl, hT, rfl, e1, e2⟩ := h
  rw [ex] at e1
  rw [ey] at e2
  cases e1
  cases e2
  have k : Kp H (upd H T (.tup [x, y])) := .fresh hT
  exact ⟨⟨T, _, rfl, by rw [off]; exact upd_same, ⟨_, _, rfl, rx.mono k, _, _, rfl, ry.mono k, rfl⟩, by simp [sizeLine_eq]⟩, k, R.fresh hT⟩
theorem enumD_at {xs : List D} {i : Nat} {d : D} (h : xs[i]? = some d) : (enumD xs)[i]? = some (.tup [.int (i : Nat), d]) := by
  simp [enumD, List.getElem?_mapIdx, h]
theorem di_enum {elts : List Expr} {kk : Nat} {tpos : Pos} (hg : Gl X "enumerate") (hm : X.mg "enumerate" = none) (ha : DA X B [e] ta) (hs : starEach [e] X.env = [(false, eval e X.env)] := by rfl) :
    DI X B (.Tuple elts kk tpos) (.Call (.Name "enumerate" p) [e] [] pos) (diEnum ta) := by
  obtain ⟨ta', pa, ha⟩ := ha.ex
  refine ⟨_, pi_enum hg hm pa hs, fun σ H sd G QD R hS R0 t hP => ?_⟩
  refine ha σ H sd G _ _ hS R0 t fun vs ds H1 G1 _ k1 r1 R1 q1 => ?_
  match ds, q1, r1 with
  | [.ref a], q1, r1 =>
    obtain ⟨v, rfl, rv⟩ := rel1 r1
    cases rv
    obtain ⟨o, g, q1⟩ := q1
    obtain ⟨xs, il, q1, ho⟩ := lstO_is g q1
    obtain ⟨vs, h1, h2, h3⟩ := lstRd R1 il
    have rd : ∀ {H : Hp} {G : Gp}, Rep X.K B H G → G a = some o → ∃ xs', Rd H a (.lst xs') ∧ RelL H xs xs' ∧ xs.length ≤ sizeLine := fun {H G} R g => lstRd R (by rcases ho with rfl | rfl <;> simp [IsLst, g])
    refine ⟨a, vs, rfl, .inl h1, hP _ _ _ H1 G1 k1 R1 ⟨by simpa [enumD] using h3, fun H => ∃ xs', SqL X.K H a xs' ∧ xs'.length = xs.length, fun i H x H' => ∀ xs' : List V, SqL X.K H a xs' → YPair (fun i => some (.int (i : Nat))) (fun i => xs'[i]?) i H x H', ?_, ?_, ?_⟩ q1⟩
    · have hl : (enumD xs).length = xs.length := by simp [enumD]
      rw [hl]
      refine ⟨fun i H hi ⟨xs', h, e⟩ => (walk_enum (xs := xs')).goes i H (by omega) h, fun H ⟨xs', h, e⟩ => by rw [← e]; exact (walk_enum (xs := xs')).stops H h, fun i H v H' hi _ y xs' h' => ?_⟩
      obtain ⟨T, x, e1, e2, e3, e4⟩ := y
      exact ⟨T, .int (i : Nat), x, e1, e2, e3, rfl, e4 xs' h'⟩
    · intro H G k R st
      obtain ⟨xs', h1, h2, _⟩ := rd R st
      exact ⟨xs', .inl h1, h2.length.symm⟩
    · intro i H G x H' hi k R st y
      obtain ⟨xs', h1, h2, _⟩ := rd R st
      have hi' : i < xs.length := by simpa [enumD] using hi
      obtain ⟨v, e1, r⟩ := h2.get i (d := xs[i]) (List.getElem?_eq_getElem hi')
      obtain ⟨a1, a2, a3⟩ := yPair_new (dx := .int (i : Nat)) (dy := xs[i]) (y xs' (.inl h1)) rfl e1 rfl r R
      exact ⟨_, enumD_at (List.getElem?_eq_getElem hi'), a1, a2, a3⟩
/-- the signs of a text -/
def signsD (z : Str) : List D := z.cps.toList.map fun c => .str ⟨#[c]⟩
def diStr (te : DTE) : DTI := fun sd G R => te sd G fun d G1 => match d with
  | .str z => z.length ≤ sizeLine ∧ R (signsD z) (fun _ => True) G1
  | _ => False
theorem di_str (he : DE X B e te) : DI X B tg e (diStr te) := by
  obtain ⟨te', pe, he⟩ := he.ex
  refine ⟨_, pi_str pe, fun σ H sd G QD R hS R0 t hP => ?_⟩
  refine he σ H sd G _ _ hS R0 t fun v d H1 G1 k1 r1 R1 q1 => ?_
  cases d with
  | str z =>
    obtain ⟨rfl, ok⟩ := r1
    obtain ⟨hz, q1⟩ := q1
    have hl : (signsD z).length = z.cps.size := by simp [signsD]
    refine ⟨z, rfl, hP _ _ _ H1 G1 k1 R1 ⟨by rw [hl]; exact hz, fun _ => True, _, by rw [hl]; exact walk_str, fun _ _ _ _ _ => trivial, ?_⟩ q1⟩
    rintro i H G x H' hi k R _ ⟨rfl, c, e1, rfl⟩
    refine ⟨.str ⟨#[c]⟩, by simp [signsD, e1], ⟨rfl, ?_⟩, .refl _, R⟩
    have hi' : i < z.cps.toList.length := by simpa [signsD] using hi
    refine okS_sign (i := (i : Nat)) ok ?_
    have e2 : z.cps.toList[i]? = some c := by simpa using e1
    rw [atI_nat hi', ← List.getElem?_eq_getElem hi', e2]
  | _ => exact (show False from q1).elim
end
@[simp ↓] theorem diEnum_app {te sd G R} : diEnum te sd G R = te sd G fun d G1 => enumL d G1 R := (rfl)
def enumO (o : Option DO) (a : Addr) (G1 : Gp) (R : List D → (Gp → Prop) → Gp → Prop) : Prop := ∃ o', o = some o' ∧ lstO o' fun xs => R (enumD xs) (fun G => G a = some o') G1
@[simp] theorem enumL_ref {a G R} : enumL [.ref a] G R = enumO (G a) a G R := (rfl)
@[simp] theorem enumO_lst {xs a G R} : enumO (some (.lst xs)) a G R = R (enumD xs) (fun G => G a = some (.lst xs)) G := by simp [enumO, lstO]
def strD (d : D) (G1 : Gp) (R : List D → (Gp → Prop) → Gp → Prop) : Prop := match d with
  | .str z => z.length ≤ sizeLine ∧ R (signsD z) (fun _ => True) G1
  | _ => False
theorem strD_congr {d d' : D} {G : Gp} {R : List D → (Gp → Prop) → Gp → Prop} (h0 : d = d') : strD d G R = strD d' G R := by rw [h0]
theorem enumL_congr {ds ds' : List D} {G : Gp} {R : List D → (Gp → Prop) → Gp → Prop} (h0 : ds = ds') : enumL ds G R = enumL ds' G R := by rw [h0]
theorem enumO_congr {o o' : Option DO} {a : Addr} {G : Gp} {R : List D → (Gp → Prop) → Gp → Prop} (h0 : o = o') : enumO o a G R = enumO o' a G R := by rw [h0]
@[simp] theorem strD_str {z G R} : strD (.str z) G R = (z.length ≤ sizeLine ∧ R (signsD z) (fun _ => True) G) := (rfl)
@[simp ↓] theorem diStr_app {te sd G R} : diStr te sd G R = te sd G fun d G1 => strD d G1 R := (rfl)
theorem dLock_congr {t : DTS} {DD : DEnds} {sd sd' : SD} {G : Gp} (h : sd = sd') : dLock t DD sd G = dLock t DD sd' G := by rw [h]
theorem dLockE_congr {t : DTE} {sd sd' : SD} {G : Gp} {Q : DQ} (h : sd = sd') : dLockE t sd G Q = dLockE t sd' G Q := by rw [h]
theorem dLockE_of {t : DTE} {sd : SD} {G : Gp} {Q : DQ} {a : Addr} {b : Bool} {kvs : List (D × D)} (g : G a = some (.dict b kvs)) (h : t sd (put G a (.ldict b kvs)) fun v G' => G' a = some (.ldict b kvs) ∧ Q v (put G' a (.dict b kvs))) : dLockE t sd G Q := ⟨a, b, kvs, g, h⟩
theorem dLock_of {t : DTS} {n r b' c} {sd : SD} {G : Gp} {a : Addr} {b : Bool} {kvs : List (D × D)} (g : G a = some (.dict b kvs))
    (h : t ⟨fun sd' G' => G' a = some (.ldict b kvs) ∧ n sd' (put G' a (.dict b kvs)), fun v G' => G' a = some (.ldict b kvs) ∧ r v (put G' a (.dict b kvs)),
    fun sd' G' => G' a = some (.ldict b kvs) ∧ b' sd' (put G' a (.dict b kvs)), fun sd' G' => G' a = some (.ldict b kvs) ∧ c sd' (put G' a (.dict b kvs))⟩ sd (put G a (.ldict b kvs))) : dLock t ⟨n, r, b', c⟩ sd G := ⟨a, b, kvs, g, h⟩
end DL
set_option Elab.async false
set_option linter.all false
set_option maxRecDepth 100000
set_option maxHeartbeats 4000000
namespace DL
open PySem PySem.Spec L2

/-! ### d.get, d.pop -/
section
variable {X : Cx} {B : Bx}
theorem mt_get (hu : X.A.units + 1 < cLine) : MtR X "dict.get" (fun x xs H Q => ∃ a y r, x = .ref a ∧ DGet H a y r ∧ ((xs = [y] ∧ Q (r.getD .non) H) ∨ ∃ z, xs = [y, z] ∧ Q (r.getD z) H)) := by
  rintro pins s σ H x xs v us Q I rx rxs ⟨a, y, r, rfl, g, ⟨rfl, q⟩ | ⟨z, rfl, q⟩⟩
  · cases rx
    obtain ⟨u, rfl, ru⟩ := vals1 rxs
    exact d_get1 hu I g ru fun w' s3 I3 rw' => ⟨_, H, I3, rw', q⟩
  · cases rx
    obtain ⟨u, u2, rfl, ru, ru2⟩ := vals2 rxs
    exact d_get2 hu I g ru ru2 fun w' s3 I3 rw' => ⟨_, H, I3, rw', q⟩
theorem mt_popK : MtR X "dict.pop" (fun x xs H Q => ∃ (a : Addr) (kvs : List (Key × V)) (k : Key), x = .ref a ∧ H a = some (.dK kvs) ∧ ((xs = [kV k] ∧ ∃ v, valV kvs k = some v ∧ Q v (upd H a (.dK (dropK kvs k)))) ∨
    ∃ z, xs = [kV k, z] ∧ (∀ v, valV kvs k = some v → Q v (upd H a (.dK (dropK kvs k)))) ∧ (valV kvs k = none → Q z H))) := by
  rintro pins s σ H x xs v us Q I rx rxs ⟨a, kvs, k, rfl, ea, ⟨rfl, w, l, q⟩ | ⟨z, rfl, q1, q2⟩⟩
  · cases rx
    obtain ⟨u, rfl, ru⟩ := vals1 rxs
    exact d_pop I ea ru l (.inl rfl) fun w' s3 I3 rw' => ⟨_, _, I3, rw', q⟩
  · cases rx
    obtain ⟨u, u2, rfl, ru, ru2⟩ := vals2 rxs
    cases l : valV kvs k with
    | some w => exact d_pop I ea ru l (.inr ⟨u2, rfl⟩) fun w' s4 I4 rw' => ⟨w, _, I4, rw', q1 w l⟩
    | none => exact d_popD I ea ru l fun s4 I4 => ⟨z, H, I4, ru2, q2 l⟩
theorem mt_popT1 (hc : X.calm = true) (hu : X.A.units + 1 < cLine) : MtR X "dict.pop" (fun x xs H Q => ∃ (a : Addr) (kvs : List (List L2.Key × V)) (k : List L2.Key) (b : Addr) (v : V), x = .ref a ∧ xs = [.ref b] ∧ H a = some (.dT kvs) ∧ H b = some (.tup (k.map kV)) ∧
    valV kvs k = some v ∧ Q v (upd H a (.dT (dropK kvs k)))) := by
  rintro pins s σ H x xs v us Q I rx rxs ⟨a, kvs, k, b, v0, rfl, rfl, ha, hb, ev, q⟩
  cases rx
  obtain ⟨u1, rfl, r1⟩ := vals1 rxs
  cases r1
  obtain ⟨z, hd, xs', rel, dd⟩ := dt_of I.hok ha
  have hz : xs'.length ≤ sizeLine := by rw [← Paired.length rel]; exact z
  refine call_meetsIn PySem.F.slot_dict_pop dd.typeIs PySem.F.entry_dict_pop (PySem.F.args_dict_pop_2 _ _) (meetsH_dict_pop (tupleKind (mixKind X.prog X.w)) a b hd [] (.inl rfl))
    ⟨tupleKind_room_in1 hu, k, xs', key_of I.hok hb, dd, hz, fun p hp h' dd' hs => ?_, fun hn tk => ?_⟩
  · have r := rel.val k
    rw [hp, ev] at r
    obtain ⟨o, es, ep, hq, h2, h3, h4, _, h5⟩ := dd'
    have I2 : Inv X pins σ (upd H a (.dT (dropK kvs k))) { s with heap := h', toks := s.toks + (tupleKind (mixKind X.prog X.w)).draws k } :=
      d_write I (by rw [ha]; exact True.intro) hs ⟨o, hq⟩ ⟨Nat.le_trans (dropK_le kvs k) z, hd, _, (L2.DX.KT_drop k rel).keeps (fun c ys ec => (by rw [upd_ne (ne_of ec ha (fun z => nomatch z))]; exact ec)), o, es, ep, hq, h2, h3, h4, h5⟩
    show EP X pins σ Q p.2 _
    exact ⟨v0, _, I2, r, q⟩
  · have r := rel.val k
    rw [hn, ev] at r
    exact (show False from r).elim
def getR : D → List D → Gp → DQ → Prop := fun d ds G Q => match d with
  | .ref a => ∃ t kvs, (G a = some (.dict t kvs) ∨ G a = some (.ldict t kvs)) ∧ (match ds with
    | [k] => keyOk t k = true ∧ Q ((valD kvs k).getD .non) G
    | [k, z] => keyOk t k = true ∧ Q ((valD kvs k).getD z) G
    | _ => False)
  | _ => False
theorem dm_get (hu : X.A.units + 1 < cLine) : DMt X B "dict.get" getR := by
  refine ⟨_, mt_get hu, fun H G x d xs ds Q P r1 r2 R q hp => ?_⟩
  cases d with
  | ref a =>
    cases r1
    obtain ⟨t, kvs, g, q⟩ := q
    obtain ⟨o, ho, g⟩ : ∃ o, (o = .dict t kvs ∨ o = .ldict t kvs) ∧ G a = some o := by
      rcases g with g | g
      · exact ⟨_, .inl rfl, g⟩
      · exact ⟨_, .inr rfl, g⟩
    match ds, q, r2 with
    | [k], q, r2 =>
      obtain ⟨y, rfl, ry⟩ := rel1 r2
      obtain ⟨hk, q⟩ := q
      obtain ⟨r, dg, m⟩ := dk_rel R g ho ry hk
      refine ⟨a, y, r, rfl, dg, .inl ⟨rfl, ?_⟩⟩
      cases e : valD kvs k with
      | none =>
        rw [e] at m q
        cases r with
        | none => exact hp _ .non H G (.refl H) rfl R q
        | some _ => exact (show False from m).elim
      | some w =>
        rw [e] at m q
        cases r with
        | none => exact (show False from m).elim
        | some v => exact hp _ w H G (.refl H) m R q
    | [k, z], q, r2 =>
      obtain ⟨y, v2, rfl, ry, rz⟩ := rel2 r2
      obtain ⟨hk, q⟩ := q
      obtain ⟨r, dg, m⟩ := dk_rel R g ho ry hk
      refine ⟨a, y, r, rfl, dg, .inr ⟨v2, rfl, ?_⟩⟩
      cases e : valD kvs k with
      | none =>
        rw [e] at m q
        cases r with
        | none => exact hp _ z H G (.refl H) rz R q
        | some _ => exact (show False from m).elim
      | some w =>
        rw [e] at m q
        cases r with
        | none => exact (show False from m).elim
        | some v => exact hp _ w H G (.refl H) m R q
    | [], q, _ => exact (show False from q).elim
    | _ :: _ :: _ :: _, q, _ => exact (show False from q).elim
  | _ => exact (show False from q).elim
def dpopR : D → List D → Gp → DQ → Prop := fun d ds G Q => match d with
  | .ref a => ∃ t kvs, G a = some (.dict t kvs) ∧ (match ds with
    | [k] => keyOk t k = true ∧ ∃ v, valD kvs k = some v ∧ Q v (put G a (.dict t (dropD kvs k)))
    | [k, z] => keyOk t k = true ∧ (match valD kvs k with
      | some v => Q v (put G a (.dict t (dropD kvs k)))
      | none => Q z G)
    | _ => False)
  | _ => False
theorem dm_pop (hc : X.calm = true) (hu : X.A.units + 1 < cLine) : DMt X B "dict.pop" dpopR := by
  refine ⟨_, (mt_popK.or ((mt_popT1 hc hu).or (L2.DX.mt_popT hu))), fun H G x d xs ds Q P r1 r2 R q hp => ?_⟩
  cases d with
  | ref a =>
    cases r1
    obtain ⟨t, kvs, g, q⟩ := q
    have st := R.at_ a _ g
    cases t with
    | false =>
      obtain ⟨z, ks, h1, h2, h3⟩ := st
      have fin : ∀ {k : D} {key : Key} {v : V} {w : D}, k = kD key → valD kvs k = some w → valV ks key = some v → Q w (put G a (.dict false (dropD kvs k))) → P v (upd H a (.dK (dropK ks key))) := fun {k key v w} ek e1 e2 q => by
        subst ek
        have m := find_rel (f := kD) (fun _ _ => kD_inj) key h2 h3
        rw [e1, e2] at m
        have kw : Kp H (upd H a (.dK (dropK ks key))) := .write h1 fun _ => nofun
        obtain ⟨d1, d2⟩ := drop_rel (f := kD) (fun _ _ => kD_inj) key h2 h3
        exact hp v w _ _ kw (Rel.mono kw m) (R.write (o := .dict false (dropD kvs (kD key))) h1 (fun _ => nofun) ⟨Nat.le_trans (dropD_length _ _) z, _, upd_same, d1, d2.mono kw⟩) q
      have look : ∀ key, match valD kvs (kD key), valV ks key with | some d, some v => Rel H d v | none, none => True | _, _ => False := fun key => find_rel (f := kD) (fun _ _ => kD_inj) key h2 h3
      match ds, q, r2 with
      | [k], q, r2 =>
        obtain ⟨y, rfl, ry⟩ := rel1 r2
        obtain ⟨hk, w, e1, q⟩ := q
        obtain ⟨key, hk⟩ := Option.isSome_iff_exists.mp (show (dKey k).isSome = true from hk)
        have e := dKey_eq hk
        subst e
        have ev := rel_kD ry
        subst ev
        have m := look key
        rw [e1] at m
        cases e2 : valV ks key with
        | none => rw [e2] at m; exact (show False from m).elim
        | some v => exact .inl ⟨a, ks, key, rfl, h1, .inl ⟨rfl, v, e2, fin rfl e1 e2 q⟩⟩
      | [k, zz], q, r2 =>
        obtain ⟨y, v2, rfl, ry, rz⟩ := rel2 r2
        obtain ⟨hk, q⟩ := q
        obtain ⟨key, hk⟩ := Option.isSome_iff_exists.mp (show (dKey k).isSome = true from hk)
        have e := dKey_eq hk
        subst e
        have ev := rel_kD ry
        subst ev
        have m := look key
        refine .inl ⟨a, ks, key, rfl, h1, .inr ⟨v2, rfl, fun v e2 => ?_, fun e2 => ?_⟩⟩
        · rw [e2] at m
          cases e1 : valD kvs (kD key) with
          | none => rw [e1] at m; exact (show False from m).elim
          | some w =>
            rw [e1] at q
            exact fin rfl e1 e2 q
        · rw [e2] at m
          cases e1 : valD kvs (kD key) with
          | some w => rw [e1] at m; exact (show False from m).elim
          | none =>
            rw [e1] at q
            exact hp v2 zz H G (.refl H) rz R q
      | [], q, _ => exact (show False from q).elim
      | _ :: _ :: _ :: _, q, _ => exact (show False from q).elim
    | true =>
      obtain ⟨z, ks, h1, h2, h3⟩ := st
      have inj : ∀ a b : List Key, D.tup (a.map kD) = D.tup (b.map kD) → a = b := fun _ _ z => kDs_inj (D.tup.inj z)
      have fin : ∀ {k : D} {key : List Key} {v : V} {w : D}, k = .tup (key.map kD) → valD kvs k = some w → valV ks key = some v → Q w (put G a (.dict true (dropD kvs k))) → P v (upd H a (.dT (dropK ks key))) := fun {k key v w} ek e1 e2 q => by
        subst ek
        have m := find_rel (f := fun k : List Key => D.tup (k.map kD)) inj key h2 h3
        rw [e1, e2] at m
        have kw : Kp H (upd H a (.dT (dropK ks key))) := .write h1 fun _ => nofun
        obtain ⟨d1, d2⟩ := drop_rel (f := fun k : List Key => D.tup (k.map kD)) inj key h2 h3
        exact hp v w _ _ kw (Rel.mono kw m) (R.write (o := .dict true (dropD kvs (.tup (key.map kD)))) h1 (fun _ => nofun) ⟨Nat.le_trans (dropD_length _ _) z, _, upd_same, d1, d2.mono kw⟩) q
      have look : ∀ key : List Key, match valD kvs (.tup (key.map kD)), valV ks key with | some d, some v => Rel H d v | none, none => True | _, _ => False := fun key => find_rel (f := fun k : List Key => D.tup (k.map kD)) inj key h2 h3
      have keyed : ∀ {k : D} {y : V}, keyOk true k = true → Rel H k y → ∃ (key : List Key) (b : Addr), k = .tup (key.map kD) ∧ y = .ref b ∧ H b = some (.tup (key.map kV)) := fun {k y} hk ry => by
        cases k with
        | tup ds =>
          obtain ⟨key, e, ko⟩ := keyT hk
          subst e
          obtain ⟨b, xs, rfl, hb, rl, _⟩ := ry
          rw [ko] at hb
          have ev := rel_kDs rl
          subst ev
          exact ⟨key, b, rfl, rfl, hb⟩
        | _ => exact absurd hk (by simp [keyOk])
      match ds, q, r2 with
      | [k], q, r2 =>
        obtain ⟨y, rfl, ry⟩ := rel1 r2
        obtain ⟨hk, w, e1, q⟩ := q
        obtain ⟨key, b, rfl, rfl, hb⟩ := keyed hk ry
        have m := look key
        rw [e1] at m
        cases e2 : valV ks key with
        | none => rw [e2] at m; exact (show False from m).elim
        | some v => exact .inr (.inl ⟨a, ks, key, b, v, rfl, rfl, h1, hb, e2, fin rfl e1 e2 q⟩)
      | [k, zz], q, r2 =>
        obtain ⟨y, v2, rfl, ry, rz⟩ := rel2 r2
        obtain ⟨hk, q⟩ := q
        obtain ⟨key, b, rfl, rfl, hb⟩ := keyed hk ry
        have m := look key
        refine .inr (.inr ⟨a, ks, key, b, v2, rfl, rfl, h1, hb, fun v e2 => ?_, fun e2 => ?_⟩)
        · rw [e2] at m
          cases e1 : valD kvs (.tup (key.map kD)) with
          | none => rw [e1] at m; exact (show False from m).elim
          | some w =>
            rw [e1] at q
            exact fin rfl e1 e2 q
        · rw [e2] at m
          cases e1 : valD kvs (.tup (key.map kD)) with
          | some w => rw [e1] at m; exact (show False from m).elim
          | none =>
            rw [e1] at q
            exact hp v2 zz H G (.refl H) rz R q
      | [], q, _ => exact (show False from q).elim
      | _ :: _ :: _ :: _, q, _ => exact (show False from q).elim
  | _ => exact (show False from q).elim
/-! ### {} -/
def dNewD (t : Bool) : DTE := fun _ G Q => ∀ p, Nw G p → Q (.ref p) (put G p (.dict t []))
theorem de_newDK {pos : Pos} : DE X B (.Dict [] [] pos) (dNewD false) := ⟨_, pe_dnewK, fun σ H sd G Q P hS R t hp p hn =>
  hp _ (.ref p) _ _ (.fresh hn) rfl (R.laid (o := .dict false []) hn ⟨Nat.zero_le _, [], upd_same, rfl, rfl⟩) (t p (R.gnone hn))⟩
theorem de_newDT {pos : Pos} : DE X B (.Dict [] [] pos) (dNewD true) := ⟨_, pe_dnewT, fun σ H sd G Q P hS R t hp p hn =>
  hp _ (.ref p) _ _ (.fresh hn) rfl (R.laid (o := .dict true []) hn ⟨Nat.zero_le _, [], upd_same, rfl, rfl⟩) (t p (R.gnone hn))⟩
end
@[simp ↓] theorem dNewD_app {t sd G Q} : dNewD t sd G Q = ∀ p, Nw G p → Q (.ref p) (put G p (.dict t [])) := (rfl)
def getO (o : Option DO) (ds : List D) (G : Gp) (Q : DQ) : Prop := ∃ t kvs, (o = some (.dict t kvs) ∨ o = some (.ldict t kvs)) ∧ (match ds with
    | [k] => keyOk t k = true ∧ Q ((valD kvs k).getD .non) G
    | [k, z] => keyOk t k = true ∧ Q ((valD kvs k).getD z) G
    | _ => False)
theorem getR_congr {d d' : D} {ds ds' : List D} {G : Gp} {Q : DQ} (h0 : d = d') (h1 : ds = ds') : getR d ds G Q = getR d' ds' G Q := by rw [h0, h1]
theorem dpopR_congr {d d' : D} {ds ds' : List D} {G : Gp} {Q : DQ} (h0 : d = d') (h1 : ds = ds') : dpopR d ds G Q = dpopR d' ds' G Q := by rw [h0, h1]
theorem getO_congr {o o' : Option DO} {ds ds' : List D} {G : Gp} {Q : DQ} (h0 : o = o') (h1 : ds = ds') : getO o ds G Q = getO o' ds' G Q := by rw [h0, h1]
@[simp] theorem getR_ref {a ds G Q} : getR (.ref a) ds G Q = getO (G a) ds G Q := (rfl)
@[simp] theorem getO_1 {t kvs k G Q} : getO (some (.dict t kvs)) [k] G Q = (keyOk t k = true ∧ Q ((valD kvs k).getD .non) G) :=
  propext ⟨fun ⟨_, _, e, h⟩ => by rcases e with e | e <;> cases e; exact h, fun h => ⟨_, _, .inl rfl, h⟩⟩
@[simp] theorem getO_2 {t kvs k z G Q} : getO (some (.dict t kvs)) [k, z] G Q = (keyOk t k = true ∧ Q ((valD kvs k).getD z) G) :=
  propext ⟨fun ⟨_, _, e, h⟩ => by rcases e with e | e <;> cases e; exact h, fun h => ⟨_, _, .inl rfl, h⟩⟩
def dpopO (o : Option DO) (a : Addr) (ds : List D) (G : Gp) (Q : DQ) : Prop := ∃ t kvs, o = some (.dict t kvs) ∧ (match ds with
    | [k] => keyOk t k = true ∧ ∃ v, valD kvs k = some v ∧ Q v (put G a (.dict t (dropD kvs k)))
    | [k, z] => keyOk t k = true ∧ (match valD kvs k with
      | some v => Q v (put G a (.dict t (dropD kvs k)))
      | none => Q z G)
    | _ => False)
theorem dpopO_congr {o o' : Option DO} {a : Addr} {ds ds' : List D} {G : Gp} {Q : DQ} (h0 : o = o') (h1 : ds = ds') : dpopO o a ds G Q = dpopO o' a ds' G Q := by rw [h0, h1]
def elseD (o : Option D) (G1 : Gp) (z : D) (G : Gp) (Q : DQ) : Prop := match o with
  | some v => Q v G1
  | none => Q z G
theorem elseD_congr {o o' : Option D} {G1 : Gp} {z : D} {G : Gp} {Q : DQ} (h0 : o = o') : elseD o G1 z G Q = elseD o' G1 z G Q := by rw [h0]
@[simp] theorem elseD_some {v G1 z G Q} : elseD (some v) G1 z G Q = Q v G1 := (rfl)
@[simp] theorem elseD_none {G1 z G Q} : elseD none G1 z G Q = Q z G := (rfl)
@[simp] theorem dpopR_ref {a ds G Q} : dpopR (.ref a) ds G Q = dpopO (G a) a ds G Q := (rfl)
@[simp] theorem dpopO_1 {t kvs a k G Q} : dpopO (some (.dict t kvs)) a [k] G Q = (keyOk t k = true ∧ optD (valD kvs k) (put G a (.dict t (dropD kvs k))) Q ⟨⟩) :=
  propext ⟨fun ⟨_, _, e, h⟩ => by cases e; exact h, fun h => ⟨_, _, rfl, h⟩⟩
@[simp] theorem dpopO_2 {t kvs a k z G Q} : dpopO (some (.dict t kvs)) a [k, z] G Q = (keyOk t k = true ∧ elseD (valD kvs k) (put G a (.dict t (dropD kvs k))) z G Q) :=
  propext ⟨fun ⟨_, _, e, h⟩ => by cases e; exact h, fun h => ⟨_, _, rfl, h⟩⟩
@[simp] theorem keyOk_int {i : Int} : keyOk false (.int i) = true := (rfl)
@[simp] theorem keyOk_str {i : Str} : keyOk false (.str i) = true := (rfl)
@[simp] theorem keyOk_pair {i j : Int} : keyOk true (.tup [.int i, .int j]) = true := (rfl)
end DL
set_option Elab.async false
set_option linter.all false
set_option maxRecDepth 100000
set_option maxHeartbeats 4000000
namespace DL
open PySem PySem.Spec L2
open PySem.W (AllAlike Sortable dataLe EachIs)

/-! ### sorted -/
theorem each_of_vals {R : Value → PyData × V → Prop} : ∀ {bs : List (PyData × V)} {us : List Value}, Vals (bs.map (·.2)) us → (∀ b ∈ bs, ∀ u, RelV b.2 u → R u b) → EachIs R us bs
  | [], us, r, _ => by
    cases r
    exact .nil
  | b :: bs, us, r, h => by
    cases r with
    | cons r1 r2 => exact .cons (h b (by simp) _ r1) (each_of_vals r2 fun c hc => h c (by simp [hc]))
theorem vals_of_each : ∀ {bs : List (PyData × V)} {us : List Value}, EachIs (fun u b => RelV b.2 u) us bs → Vals (bs.map (·.2)) us
  | [], us, r => by
    cases r
    exact .nil
  | b :: bs, us, r => by
    cases r with
    | cons r1 r2 => exact .cons r1 (vals_of_each r2)
def rSortA (K : PySem.W.Frag) : List V → Hp → VK → Prop := fun xs H Q => ∃ (a : Addr) (bs : List (PyData × V)), xs = [.ref a] ∧ SqL K H a (bs.map (·.2)) ∧ (∀ b ∈ bs, Dp K H b.2 b.1 ∧ b.1.depth ≤ 20) ∧ AllAlike (bs.map (·.1)) ∧ Sortable (bs.map (·.1)) ∧ bs.length ≤ sizeLine ∧
  ∀ p, H p = none → Q (.ref p) (upd H p (.lst ((bs.mergeSort (dataLe false (·.1))).map (·.2))))
section
variable {X : Cx} {B : Bx}
theorem cr_sortA (hu : X.A.units + 64 < cLine) : CallR X (.builtin "sorted") (rSortA X.K) := by
  intro pins s σ H xs us Q I r h
  obtain ⟨a, bs, rfl, hs, hd, hal, hk, hz, q⟩ := h
  obtain ⟨its, rv, hl, hz'⟩ := I.list hs
  obtain ⟨u, rfl, ru⟩ := vals1 r
  obtain rfl : u = Value.ref a := ru
  have e : EachIs (fun u b => RelV b.2 u) its bs := each_of_vals rv fun b _ u r => r
  have er : EachIs (fun v b => ∃ as, Reads s.heap v b.1 as) its bs := each_of_vals rv fun b hb u r => Dp.reads I _ _ _ (hd b hb).1 r
  refine PySem.W.sorted_data (enc := fun b : PyData × V => b.1) (R := fun u b => RelV b.2 u) hl.isList e er hal hk hz (fun b hb => by have := (hd b hb).2; omega) fun out hlen eo => ?_
  refine ⟨.ref (s.heap.objs.size + 1), upd H (s.heap.objs.size + 1) (.lst ((bs.mergeSort (dataLe false (·.1))).map (·.2))), I.laid (t' := s.toks) (fun b o e => PyProof.Rows.sortedAll_old e) (Nat.le_succ _) ?_, rfl, q _ (I.hok.fresh (Nat.le_succ _))⟩
  obtain ⟨n, hn⟩ := PyProof.Rows.sortedAll_at s.heap its (List.toArray out)
  exact ⟨by rw [List.length_map, List.length_mergeSort]; exact hz, out, n, vals_of_each eo, hn⟩
/-- the data in their order -/
def sortD (xs : List D) : List D := xs.mergeSort (dataLe false toPD)
def srtOk (xs : List D) : Prop := xs.all (dat 20) = true ∧ AllAlike (xs.map toPD) ∧ Sortable (xs.map toPD)
def srtR : List D → Gp → DQ → Prop := fun ds G Q => match ds with
  | [.ref a] => ∃ o, G a = some o ∧ lstO o fun xs => srtOk xs ∧ ∀ p, Nw G p → Q (.ref p) (put G p (.lst (sortD xs)))
  | _ => False
theorem relL_zip {K : PySem.W.Frag} {H : Hp} : ∀ {ds : List D} {vs : List V}, RelL H ds vs → (∀ d ∈ ds, dat 20 d = true) → ∃ bs : List (D × V), bs.map (·.1) = ds ∧ bs.map (·.2) = vs ∧ (∀ b ∈ bs, Rel H b.1 b.2 ∧ dat 20 b.1 = true)
  | [], vs, r, _ => by
    cases (relL_nil.mp r)
    exact ⟨[], rfl, rfl, by simp⟩
  | d :: ds, vs, r, h => by
    obtain ⟨x, r', rfl, h1, h2⟩ := r
    obtain ⟨bs, e1, e2, e3⟩ := relL_zip (K := K) h2 fun d hd => h d (by simp [hd])
    refine ⟨(d, x) :: bs, by simp [e1], by simp [e2], ?_⟩
    intro b hb
    rcases List.mem_cons.mp hb with rfl | hb
    · exact ⟨h1, h d (by simp)⟩
    · exact e3 b hb
theorem relL_pairs {H : Hp} : ∀ {bs : List (D × V)}, (∀ b ∈ bs, Rel H b.1 b.2) → RelL H (bs.map (·.1)) (bs.map (·.2))
  | [], _ => rfl
  | b :: bs, h => ⟨_, _, rfl, h b (by simp), relL_pairs fun c hc => h c (by simp [hc])⟩
theorem dc_sorted (hu : X.A.units + 64 < cLine) : DCall X B (.builtin "sorted") srtR := by
  refine ⟨_, cr_sortA hu, fun H G xs ds Q P r R q hp => ?_⟩
  match ds, q, r with
  | [.ref a], q, r =>
    obtain ⟨x, rfl, rx⟩ := rel1 r
    cases rx
    obtain ⟨o, g, q⟩ := q
    obtain ⟨xs, il, ⟨⟨hk1, hk2, hk3⟩, q⟩, ho⟩ := lstO_is g q
    obtain ⟨vs, h1, h2, h3⟩ := lstRd R il
    obtain ⟨bs, rfl, rfl, hb⟩ := relL_zip (K := X.K) h2 (List.all_eq_true.mp hk1)
    have em : ((bs.map fun b => (toPD b.1, b.2)).mergeSort (dataLe false (·.1))).map (·.2) = (bs.mergeSort (dataLe false fun b => toPD b.1)).map (·.2) := by
      have := List.map_mergeSort (r := dataLe false fun b : D × V => toPD b.1) (s := dataLe false fun b : PyData × V => b.1) (f := fun b : D × V => (toPD b.1, b.2)) (l := bs) (fun _ _ _ _ => rfl)
      rw [← this, List.map_map]
      rfl
    have ed : (bs.mergeSort (dataLe false fun b => toPD b.1)).map (·.1) = sortD (bs.map (·.1)) := List.map_mergeSort (fun _ _ _ _ => rfl)
    refine ⟨a, bs.map fun b => (toPD b.1, b.2), rfl, .inl (by rw [List.map_map]; exact h1), fun b hb' => ?_, by rw [List.map_map] at hk2 ⊢; exact hk2, by rw [List.map_map] at hk3 ⊢; exact hk3, by simpa using h3, fun p hn => ?_⟩
    · obtain ⟨c, hc, rfl⟩ := List.mem_map.mp hb'
      obtain ⟨r1, r2⟩ := hb c hc
      obtain ⟨d1, d2, d3⟩ := dat_dp (K := X.K) c.1 20 c.2 r2 r1
      exact ⟨d1, d3⟩
    · rw [em]
      have rs : RelL H ((bs.mergeSort (dataLe false fun b => toPD b.1)).map (·.1)) ((bs.mergeSort (dataLe false fun b => toPD b.1)).map (·.2)) := relL_pairs fun b hb' => (hb b (List.mem_mergeSort.mp hb')).1
      rw [ed] at rs
      obtain ⟨k, R'⟩ := lst_new hn rs (by simp [sortD]; simpa using h3) R
      exact hp _ (.ref p) _ _ k rfl R' (q p (R.gnone hn))
end
@[simp] theorem srtR_ref {a : Addr} {G Q} : srtR [.ref a] G Q = (∃ o, G a = some o ∧ lstO o fun xs => srtOk xs ∧ ∀ p, Nw G p → Q (.ref p) (put G p (.lst (sortD xs)))) := (rfl)

/-! ### sorted of what a dict shows -/
mutual
theorem reads_lt {h : Heap} : ∀ {v : Value} {d : PyData} {as : List Addr}, Reads h v d as → ∀ a ∈ as, a < h.objs.size
  | _, _, _, .none, a, m => nomatch m
  | _, _, _, .bool _, a, m => nomatch m
  | _, _, _, .int _ _, a, m => nomatch m
  | _, _, _, .str _ _, a, m => nomatch m
  | _, _, _, .list h1 _ _ h4, a, m => by
    rcases List.mem_cons.mp m with rfl | m
    · exact Heap.lt_size h1
    · exact readsAll_lt h4 a m
  | _, _, _, .tuple _ _ _ h4, a, m => readsAll_lt h4 a m
  | _, _, _, .dict h1 _ _ h4 h5, a, m => by
    rcases List.mem_append.mp m with m | m
    · rcases List.mem_cons.mp m with rfl | m
      · exact Heap.lt_size h1
      · exact readsAll_lt h4 a m
    · exact readsAll_lt h5 a m
theorem readsAll_lt {h : Heap} : ∀ {vs : List Value} {ds : List PyData} {as : List Addr}, ReadsAll h vs ds as → ∀ a ∈ as, a < h.objs.size
  | _, _, _, .nil, a, m => nomatch m
  | _, _, _, .cons h1 h2, a, m => by
    rcases List.mem_append.mp m with m | m
    · exact reads_lt h1 a m
    · exact readsAll_lt h2 a m
end
section
open PyProof.Rows
variable {prog : Program} {w : World} {d : Addr} {es : Array DictEntry} {ep : Nat}
/-- a dict, whatever its keys: its keys -/
theorem kdl_raw (lo : (d == sysModules) = false) : PySem.W.KdlSrc prog w "dict" d d es.size (fun i v => ∃ en, es[i]? = some en ∧ v = en.key) (fun h => DT.Raw h d es ep) where
  type := fun _ hm => hm.typeIs
  there := fun _ hm => ⟨hm.lt, hm.lt⟩
  keep := fun _ _ hm hk => hm.at' fun o e => hk d (.inl rfl) o e
  notList := by decide
  notTuple := by decide
  hint := fun _ _ _ _ hm hq => PySem.W.kdl_hint_dict hm.typeIs hq
  iter := fun A s hh hm => by
    obtain ⟨o, ho, hc, hdat⟩ := id hm
    have hlt := hm.lt
    refine ⟨_, fun i h => h.IsKeyIter s.heap.objs.size d i es.size ep ∧ DT.Raw h d es ep, fun E Q hq => iter_keys lo ho hc hdat hq, ?_, ⟨⟨_, Heap.get?_push_size _ rfl, rfl, rfl⟩, hm.push _⟩⟩
    refine ⟨fun b hb => by simp at hb; simp [hb], fun i h h' st hk => ⟨st.1.at fun o e => hk s.heap.objs.size (by simp) o e, st.2.at' fun o e => hk d (by simp) o e⟩, fun i s' Q E hi st hQ => ?_, fun s' Q E st hQ => ?_, fun _ _ _ _ st hQ => wpAny_pyIter_keyiter st.1 hQ⟩
    · obtain ⟨od, hod, _, hdd⟩ := st.2
      refine next_key_item st.1 hod hdd rfl (Array.getElem?_eq_getElem hi) fun h' hit' hs' => ?_
      exact hQ _ h' s'.toks ⟨_, Array.getElem?_eq_getElem hi, rfl⟩ ⟨hit', st.2.at' fun o e => hs'.extBut d o (Nat.ne_of_lt hlt) e⟩ fun b o hb e => hs'.extBut b o (fun h => hb (by simp [h])) e
    · obtain ⟨od, hod, _, hdd⟩ := st.2
      exact next_key_end hh st.1 hod hdd rfl (Nat.le_refl _) fun h' he' => hQ h' s'.toks fun b o hb e => he' b o (fun h => hb (by simp [h])) e
end
section
variable {X : Cx} {pins : List (Addr × Obj)} {σ : L2.St} {H : Hp} {s : Shared} {Q : VK} {T : String} {r d : Addr} {n : Nat} {P : Nat → Value → Prop} {OK : Heap → Prop}
theorem sort_src (K : PySem.W.KdlSrc X.prog X.w T r d n P OK) (hc : X.calm = true) (hok : OK s.heap) (hn : n ≤ sizeLine) (I : L2.Inv X pins σ H s) (hu : X.A.units + 64 < cLine)
    (hP : ∀ acc : List Value, acc.length = n → (∀ (j : Nat) v, acc[j]? = some v → P j v) → ∃ bs : List (PyData × V), Vals (bs.map (·.2)) acc ∧ (∀ b ∈ bs, Dp X.K H b.2 b.1 ∧ b.1.depth ≤ 20) ∧ AllAlike (bs.map (·.1)) ∧ Sortable (bs.map (·.1)) ∧
      ∀ p, H p = none → Q (.ref p) (upd H p (.lst ((bs.mergeSort (dataLe false (·.1))).map (·.2))))) :
    wpAny (model X.prog X.w) X.A (call (.builtin "sorted") [.ref r]) (EP X pins σ Q) X.xe s := by
  refine Calls.call_function_entry PyProof.Rows.kind_sorted PyProof.Rows.plain_sorted PyProof.Rows.entry_sorted (PyProof.Rows.args_sorted1 _) ?_
  unfold Builtin.«sorted»
  refine wpAny_bind (m := checkCount "sorted" 1 1 _) (wpAny_pure ?_)
  refine wpAny_bind (PySem.W.kdu_collect (A := X.A.in1) K (I.ok.hd hc) hok hn fun h' tk acc hk hacc => ?_)
  have hal : acc.toList.length = n := by rw [Array.length_toList, hacc.1]
  obtain ⟨bs, rv, hd, hall, hsrt, q⟩ := hP acc.toList hal fun j v e => hacc.2 j v (by rw [← Array.getElem?_toList]; exact e)
  have I1 : L2.Inv X pins σ H { s with heap := h', toks := tk } := I.kept hk
  refine wpAny_bind (wpAny_newList ?_ (by rw [hal]; exact hn))
  have hoL : (h'.push (PyProof.Rows.seqObj "list" acc.toList.toArray 0)).get? h'.objs.size = some (PyProof.Rows.seqObj "list" acc.toList.toArray 0) := Heap.get?_push_size _ rfl
  show wpAny _ _ _ _ _ { s with heap := h'.push (PyProof.Rows.seqObj "list" acc.toList.toArray 0), toks := tk }
  have e : EachIs (fun u b => RelV b.2 u) acc.toList bs := each_of_vals rv fun b _ u r => r
  have er : EachIs (fun v b => ∃ as, Reads (h'.push (PyProof.Rows.seqObj "list" acc.toList.toArray 0)) v b.1 as ∧ h'.objs.size ∉ as) acc.toList bs := each_of_vals rv fun b hb u r => by
    obtain ⟨as, rd⟩ := Dp.reads I1 _ _ _ (hd b hb).1 r
    exact ⟨as, PyProof.Rows.Reads.keeps (fun b o e => Heap.get?_push_of_some _ e) rd, fun m => Nat.lt_irrefl _ (reads_lt rd _ m)⟩
  have hbl : bs.length = n := by
    have e1 : (bs.map (·.2)).length = acc.toList.length := rv.length
    rw [List.length_map] at e1
    omega
  refine wpAny_bind (wpAny_holding (PySem.W.list_sort_data (s := { s with heap := h'.push (PyProof.Rows.seqObj "list" acc.toList.toArray 0), toks := tk }) (enc := fun b : PyData × V => b.1) (R := fun u b => RelV b.2 u) hoL e er hall hsrt (by omega)
    (fun b hb => by have := (hd b hb).2; show X.A.units + 1 + 1 + _ < cLine; omega) fun out hlen eo => ?_))
  obtain ⟨e', he'⟩ := PyProof.Rows.sortedHeap_at (vs := acc.toList) (out := List.toArray out) hoL
  refine wpAny_pure ⟨_, rfl, .ref h'.objs.size, upd H h'.objs.size (.lst ((bs.mergeSort (dataLe false (·.1))).map (·.2))), I1.laid (t' := tk) (fun b u e => ?_) (Nat.le_refl _)
    (show ObjOk X.prog X.w _ _ _ (.lst _) from ⟨by rw [List.length_map, List.length_mergeSort]; omega, out, e', vals_of_each eo, he'⟩), rfl, q _ (I1.hok.fresh (Nat.le_refl _))⟩
  have hb : b < h'.objs.size := Heap.lt_size e
  rw [PyProof.Rows.sortedHeap_old (Nat.ne_of_lt hb) (by rw [PyProof.Rows.size_push']; exact Nat.lt_succ_of_lt hb)]
  exact Heap.get?_push_of_some _ e
end

theorem build {H : Hp} : ∀ {kd : List D} {acc : List Value}, kd.length = acc.length → (∀ (j : Nat) d v, kd[j]? = some d → acc[j]? = some v → ∃ x : V, RelV x v ∧ Rel H d x) → ∃ vs : List V, Vals vs acc ∧ RelL H kd vs
  | [], [], _, _ => ⟨[], .nil, rfl⟩
  | [], _ :: _, h, _ => by simp at h
  | _ :: _, [], h, _ => by simp at h
  | d :: kd, v :: acc, h, f => by
    obtain ⟨x, r1, r2⟩ := f 0 d v rfl rfl
    obtain ⟨vs, r3, r4⟩ := build (H := H) (kd := kd) (acc := acc) (by simpa using h) fun j d v h1 h2 => f (j + 1) d v (by simpa using h1) (by simpa using h2)
    exact ⟨x :: vs, .cons r1 r3, x, vs, rfl, r2, r4⟩
/-- data with their values, sorted -/
theorem sort_fin {K : PySem.W.Frag} {H : Hp} {kd : List D} {vs : List V} (h2 : RelL H kd vs) (hk : srtOk kd) : ∃ bs : List (PyData × V), bs.map (·.2) = vs ∧ (∀ b ∈ bs, Dp K H b.2 b.1 ∧ b.1.depth ≤ 20) ∧ AllAlike (bs.map (·.1)) ∧ Sortable (bs.map (·.1)) ∧
    RelL H (sortD kd) ((bs.mergeSort (dataLe false (·.1))).map (·.2)) := by
  obtain ⟨hk1, hk2, hk3⟩ := hk
  obtain ⟨bs, rfl, rfl, hb⟩ := relL_zip (K := K) h2 (List.all_eq_true.mp hk1)
  have em : ((bs.map fun b => (toPD b.1, b.2)).mergeSort (dataLe false (·.1))).map (·.2) = (bs.mergeSort (dataLe false fun b => toPD b.1)).map (·.2) := by
    have := List.map_mergeSort (r := dataLe false fun b : D × V => toPD b.1) (s := dataLe false fun b : PyData × V => b.1) (f := fun b : D × V => (toPD b.1, b.2)) (l := bs) (fun _ _ _ _ => rfl)
    rw [← this, List.map_map]
    rfl
  have ed : (bs.mergeSort (dataLe false fun b => toPD b.1)).map (·.1) = sortD (bs.map (·.1)) := List.map_mergeSort (fun _ _ _ _ => rfl)
  refine ⟨bs.map fun b => (toPD b.1, b.2), by rw [List.map_map]; rfl, fun b hb' => ?_, by rw [List.map_map] at hk2 ⊢; exact hk2, by rw [List.map_map] at hk3 ⊢; exact hk3, ?_⟩
  · obtain ⟨c, hc, rfl⟩ := List.mem_map.mp hb'
    obtain ⟨r1, r2⟩ := hb c hc
    obtain ⟨d1, d2, d3⟩ := dat_dp (K := K) c.1 20 c.2 r2 r1
    exact ⟨d1, d3⟩
  · rw [em]
    have rs : RelL H ((bs.mergeSort (dataLe false fun b => toPD b.1)).map (·.1)) ((bs.mergeSort (dataLe false fun b => toPD b.1)).map (·.2)) := relL_pairs fun b hb' => (hb b (List.mem_mergeSort.mp hb')).1
    rw [ed] at rs
    exact rs
section
variable {X : Cx} {B : Bx}
/-- sorted(d): its keys -/
def rSortK (K : PySem.W.Frag) : List V → Hp → VK → Prop := fun xs H Q => ∃ (B : Bx) (G : Gp) (a : Addr) (t : Bool) (kvs : List (D × D)), xs = [.ref a] ∧ Rep K B H G ∧ (G a = some (.dict t kvs) ∨ G a = some (.ldict t kvs)) ∧ kvs.all (fun kv => intKey kv.1) = true ∧ srtOk (kvs.map (·.1)) ∧
  ∀ p vs, H p = none → RelL H (sortD (kvs.map (·.1))) vs → Q (.ref p) (upd H p (.lst vs))
theorem cr_sortK (hc : X.calm = true) (hu : X.A.units + 64 < cLine) : CallR X (.builtin "sorted") (rSortK X.K) := by
  intro pins s σ H xs us Q I r h
  obtain ⟨B, G, a, t, kvs, rfl, R, g, hall, hk, q⟩ := h
  obtain ⟨u, rfl, ru⟩ := vals1 r
  obtain rfl : u = Value.ref a := ru
  rw [List.all_eq_true] at hall
  have fin : ∀ (acc : List Value), acc.length = kvs.length → (∀ (j : Nat) d v, (kvs.map (·.1))[j]? = some d → acc[j]? = some v → ∃ x : V, RelV x v ∧ Rel H d x) → ∃ bs : List (PyData × V), Vals (bs.map (·.2)) acc ∧ (∀ b ∈ bs, Dp X.K H b.2 b.1 ∧ b.1.depth ≤ 20) ∧ AllAlike (bs.map (·.1)) ∧ Sortable (bs.map (·.1)) ∧
      ∀ p, H p = none → Q (.ref p) (upd H p (.lst ((bs.mergeSort (dataLe false (·.1))).map (·.2)))) := fun acc hl f => by
    obtain ⟨vs, v1, v2⟩ := build (H := H) (kd := kvs.map (·.1)) (acc := acc) (by simpa using hl.symm) f
    obtain ⟨bs, b1, b2, b3, b4, b5⟩ := sort_fin (K := X.K) v2 hk
    exact ⟨bs, by rw [b1]; exact v1, b2, b3, b4, fun p hp => q p _ hp b5⟩
  cases t with
  | false =>
    obtain ⟨z, ks, h1, h2⟩ : kvs.length ≤ sizeLine ∧ ∃ ks : List (Key × V), Rd H a (.dK ks) ∧ kvs.map (·.1) = ks.map (fun k => kD k.1) := by
      rcases g with g | g
      · obtain ⟨z, ks, h1, h2, _⟩ := R.at_ a _ g
        exact ⟨z, ks, .inl h1, h2⟩
      · obtain ⟨z, ob, ks, h1, h2, _⟩ := R.at_ a _ g
        exact ⟨z, ks, .inr ⟨ob, h1⟩, h2⟩
    obtain ⟨z', lo, vs, rel, dd⟩ := dk_rd I.hok h1
    obtain ⟨ep, hat⟩ := dd.dictAt
    have l1 : ks.length = vs.length := rel.length
    have l2 : kvs.length = ks.length := by simpa using congrArg List.length h2
    refine sort_src (PySem.W.kdl_dict (knd := mixKind X.prog X.w) (kvs := vs) (ep := ep) lo) hc hat (by omega) I hu fun acc hl hP => fin acc (by omega) fun j d v hd hv => ?_
    obtain ⟨k, x, e1, e2⟩ := hP j v hv
    have e3 : (vs.map (·.1))[j]? = some k := by rw [List.getElem?_map, e1]; rfl
    rw [← rel.keys] at e3
    have e4 : (ks.map fun k => kD k.1)[j]? = some (kD k) := by
      rw [List.getElem?_map] at e3 ⊢
      cases e5 : ks[j]? with
      | none => rw [e5] at e3; cases e3
      | some y => rw [e5] at e3; cases e3; rfl
    rw [h2, e4] at hd
    cases hd
    refine ⟨kV k, relV_key e2, kD_rel ?_⟩
    have hm := List.mem_of_getElem? e4
    rw [← h2] at hm
    obtain ⟨kv, hm, e6⟩ := List.mem_map.mp hm
    rw [← e6]
    exact hall kv hm
  | true =>
    obtain ⟨z, ks, h1, h2⟩ : kvs.length ≤ sizeLine ∧ ∃ ks : List (List Key × V), Rd H a (.dT ks) ∧ kvs.map (·.1) = ks.map (fun k => D.tup (k.1.map kD)) := by
      rcases g with g | g
      · obtain ⟨z, ks, h1, h2, _⟩ := R.at_ a _ g
        exact ⟨z, ks, .inl h1, h2⟩
      · obtain ⟨z, ob, ks, h1, h2, _⟩ := R.at_ a _ g
        exact ⟨z, ks, .inr ⟨ob, h1⟩, h2⟩
    obtain ⟨z', lo, xs', rel, o, es, ep, ho, hx, hdat, hes, his, hn⟩ := dt_rd I.hok h1
    have l1 : ks.length = xs'.length := Paired.length rel
    have l2 : kvs.length = ks.length := by simpa using congrArg List.length h2
    have l3 : es.size = xs'.length := size_of_entries hes
    refine sort_src (kdl_raw (es := es) (ep := ep) lo) hc ⟨o, ho, hx, hdat⟩ (by omega) I hu fun acc hl hP => fin acc (by omega) fun j d v hd hv => ?_
    obtain ⟨en, e1, rfl⟩ := hP j v hv
    have hj : j < ks.length := by
      have := (Array.getElem?_eq_some_iff.mp e1).1
      omega
    obtain ⟨b, hb, p1, p2, p3⟩ := paired_get rel (i := j) (a := ks[j]) (List.getElem?_eq_getElem hj)
    have e2 := entry_at hes j
    rw [hb] at e2
    have e3 : es[j]? = some (entryOfKey (tupleKind (mixKind X.prog X.w)) b) := e2
    rw [e1] at e3
    cases e3
    have e4 : (ks.map fun k => D.tup (k.1.map kD))[j]? = some (.tup (ks[j].1.map kD)) := by rw [List.getElem?_map, List.getElem?_eq_getElem hj]; rfl
    rw [h2, e4] at hd
    cases hd
    have hm := List.mem_of_getElem? e4
    rw [← h2] at hm
    obtain ⟨kv, hm, e6⟩ := List.mem_map.mp hm
    have hk' : intKey (.tup (ks[j].1.map kD)) = true := by rw [← e6]; exact hall kv hm
    simp only [intKey, Bool.and_eq_true, decide_eq_true_eq] at hk'
    have ko : offs (ks[j].1.map kD) = false := key_off fun z => by rw [z] at hk'; exact absurd hk'.1.1 (by decide)
    exact ⟨.ref b.2.1, rfl, b.2.1, _, rfl, by rw [ko]; exact p2, kDs_rel hk'.2, Nat.le_trans hk'.1.2 (by decide)⟩
def srtO (o : Option DO) (G : Gp) (Q : DQ) : Prop := ∃ o', o = some o' ∧ anyO o' (fun xs => srtOk xs ∧ ∀ p, Nw G p → Q (.ref p) (put G p (.lst (sortD xs)))) fun _ kvs => kvs.all (fun kv => intKey kv.1) = true ∧ srtOk (kvs.map (·.1)) ∧ ∀ p, Nw G p → Q (.ref p) (put G p (.lst (sortD (kvs.map (·.1)))))
def sortedR : List D → Gp → DQ → Prop := fun ds G Q => match ds with
  | [.ref a] => srtO (G a) G Q
  | _ => False
theorem dc_sortedA (hc : X.calm = true) (hu : X.A.units + 64 < cLine) : DCall X B (.builtin "sorted") sortedR := by
  obtain ⟨r, h1, h2⟩ := dc_sorted (X := X) (B := B) hu
  refine ⟨_, h1.or (cr_sortK hc hu), fun H G xs ds Q P r R q hp => ?_⟩
  match ds, q, r with
  | [.ref a], q, r =>
    obtain ⟨o, g, q⟩ := q
    have lists : ∀ {ys : List D}, lstO o (fun xs => srtOk xs ∧ ∀ p, Nw G p → Q (.ref p) (put G p (.lst (sortD xs)))) → _ := fun {ys} q => h2 H G xs [.ref a] Q P r R ⟨o, g, q⟩ hp
    have dicts : ∀ {t : Bool} {kvs : List (D × D)}, (G a = some (.dict t kvs) ∨ G a = some (.ldict t kvs)) → (kvs.all (fun kv => intKey kv.1) = true ∧ srtOk (kvs.map (·.1)) ∧ ∀ p, Nw G p → Q (.ref p) (put G p (.lst (sortD (kvs.map (·.1)))))) → rSortK X.K xs H P := fun {t kvs} g ⟨q1, q2, q3⟩ => by
      obtain ⟨x, rfl, rx⟩ := rel1 r
      cases rx
      refine ⟨B, G, a, t, kvs, rfl, R, g, q1, q2, fun p vs hn rl => ?_⟩
      have hz : kvs.length ≤ sizeLine := by
        rcases g with g | g <;> (have := R.at_ a _ g; cases t <;> exact this.1)
      obtain ⟨k, R'⟩ := lst_new hn rl (by simp [sortD]; simpa using hz) R
      exact hp _ (.ref p) _ _ k rfl R' (q3 p (R.gnone hn))
    cases o with
    | lst ys => exact .inl (lists (ys := ys) q)
    | rol ys => exact .inl (lists (ys := ys) q)
    | dict t kvs => exact .inr (dicts (.inl g) q)
    | ldict t kvs => exact .inr (dicts (.inr g) q)
    | ins C ns fs => exact (show False from q).elim
    | fn c => exact (show False from q).elim
end
theorem sortedR_congr {ds ds' : List D} {G : Gp} {Q : DQ} (h0 : ds = ds') : sortedR ds G Q = sortedR ds' G Q := by rw [h0]
theorem srtO_congr {o o' : Option DO} {G : Gp} {Q : DQ} (h0 : o = o') : srtO o G Q = srtO o' G Q := by rw [h0]
@[simp] theorem sortedR_ref {a G Q} : sortedR [.ref a] G Q = srtO (G a) G Q := (rfl)
@[simp] theorem srtO_lst {xs G Q} : srtO (some (.lst xs)) G Q = (srtOk xs ∧ ∀ p, Nw G p → Q (.ref p) (put G p (.lst (sortD xs)))) := by simp [srtO, anyO]
@[simp] theorem srtO_dict {t kvs G Q} : srtO (some (.dict t kvs)) G Q = (kvs.all (fun kv => intKey kv.1) = true ∧ srtOk (kvs.map (·.1)) ∧ ∀ p, Nw G p → Q (.ref p) (put G p (.lst (sortD (kvs.map (·.1)))))) := by simp [srtO, anyO]
end DL
set_option Elab.async false
set_option linter.all false
set_option maxRecDepth 100000
set_option maxHeartbeats 4000000
namespace DL
open PySem PySem.Spec L2
open PySem.W (AllAlike Sortable dataLe EachIs)

/-! ### sorted(d.items()), tuple keys -/
def pairD (kv : D × D) : D := .tup [kv.1, kv.2]
mutual
theorem depth_of : ∀ (d : D) (n : Nat), dat n d = true → (toPD d).depth ≤ n
  | .non, _, _ => by simp [toPD, PyData.depth]
  | .bl _, _, _ => by simp [toPD, PyData.depth]
  | .int _, _, _ => by simp [toPD, PyData.depth]
  | .str _, _, _ => by simp [toPD, PyData.depth]
  | .ty _, n, h => by cases n <;> cases h
  | .ref _, n, h => by cases n <;> cases h
  | .tup _, 0, h => by cases h
  | .tup ds, n + 1, h => by
    have hd : ∀ d ∈ ds, dat n d = true := by simpa [dat, List.all_eq_true] using h
    have := depthAll_le (toPDs ds) n (depth_ofL ds n hd)
    simp only [toPD, PyData.depth]
    omega
theorem depth_ofL : ∀ (ds : List D) (n : Nat), (∀ d ∈ ds, dat n d = true) → ∀ d ∈ toPDs ds, d.depth ≤ n
  | [], _, _, d, hd => by simp [toPDs] at hd
  | e :: ds, n, h, d, hd => by
    rcases List.mem_cons.mp (show d ∈ toPD e :: toPDs ds from hd) with rfl | hd
    · exact depth_of e n (h e (by simp))
    · exact depth_ofL ds n (fun c hc => h c (by simp [hc])) d hd
end
theorem depth_dat {d : D} (h : dat 20 d = true) : (toPD d).depth ≤ 20 := depth_of d 20 h
theorem each_build {α β : Type} {R : α → β → Prop} : ∀ {us : List α} {bs : List β}, us.length = bs.length → (∀ (j : Nat) u b, us[j]? = some u → bs[j]? = some b → R u b) → EachIs R us bs
  | [], [], _, _ => .nil
  | [], _ :: _, h, _ => by simp at h
  | _ :: _, [], h, _ => by simp at h
  | u :: us, b :: bs, h, f => .cons (f 0 u b rfl rfl) (each_build (by simpa using h) fun j u b h1 h2 => f (j + 1) u b (by simpa using h1) (by simpa using h2))
theorem each_maps {α β : Type} {f : β → α} : ∀ {us : List α} {bs : List β}, EachIs (fun u b => u = f b) us bs → us = bs.map f
  | [], [], _ => rfl
  | _, _, .cons h1 h2 => by rw [h1, each_maps h2]; rfl
theorem RepO.grow {K : PySem.W.Frag} {H H' : Hp} {a : Addr} {o : DO} (h : RepO K H a o) (g : ∀ b u, H b = some u → H' b = some u) : RepO K H' a o := by
  have e : H' a = H a := by
    cases o with
    | lst ds => obtain ⟨xs, h, _⟩ := h; rw [h, g _ _ h]
    | rol ds => obtain ⟨xs, h | ⟨_, h⟩, _⟩ := h <;> rw [h, g _ _ h]
    | dict t kvs => cases t <;> (obtain ⟨_, ks, h, _⟩ := h; rw [h, g _ _ h])
    | ldict t kvs => cases t <;> (obtain ⟨_, _, ks, h, _⟩ := h; rw [h, g _ _ h])
    | ins C ns ds => obtain ⟨dx, fs, h, _⟩ := h; rw [h, g _ _ h]
    | fn c => obtain ⟨h, _⟩ := h; rw [h, g _ _ h]
  exact RepO.monoT e (.of g) h
/-- tuples already laid are tracked -/
theorem takeX {X : Cx} {pins : List (Addr × Obj)} {σ : L2.St} {H0 : Hp} {s : Shared} {h' : Heap} {tk : Nat} {P : Addr → List V → Bool → Prop} (I0 : Inv X pins σ H0 s) : ∀ (L : List Addr) (H1 : Hp), Inv X pins σ H1 { s with heap := h', toks := tk } → L.Nodup →
    (∀ a ∈ L, s.heap.objs.size ≤ a ∧ H1 a = none ∧ ∃ vs b o, P a vs b ∧ Obj.dict o = none ∧ h'.get? a = some o ∧ ∀ H2, ObjOk X.prog X.w H2 h' a (.tup vs)) →
    ∃ H2, Inv X pins σ H2 { s with heap := h', toks := tk } ∧ (∀ b o, H1 b = some o → H2 b = some o) ∧ ∀ a ∈ L, ∃ vs b o, P a vs b ∧ Obj.dict o = none ∧ H2 a = some (tuO b o vs)
  | [], H1, I1, _, _ => ⟨H1, I1, fun _ _ e => e, fun _ h => nomatch h⟩
  | a :: L, H1, I1, hn, h => by
    obtain ⟨hb, hnone, vs, b, o, hP, ho, hg, ok⟩ := h a (List.mem_cons_self ..)
    have I2 : Inv X pins σ (upd H1 a (tuO b o vs)) { s with heap := h', toks := tk } := I1.take (h' := h') (t' := tk) (fun b ob _ e => e) (I0.fpOk hb hnone) (tuO_ok hg (ok _))
    rw [List.nodup_cons] at hn
    obtain ⟨H2, I3, g, q⟩ := takeX I0 L (upd H1 a (tuO b o vs)) I2 hn.2 fun c hc => by
      obtain ⟨c1, c2, c3⟩ := h c (List.mem_cons_of_mem _ hc)
      exact ⟨c1, by rw [upd_ne (fun z => hn.1 (by rw [← z]; exact hc))]; exact c2, c3⟩
    refine ⟨H2, I3, fun b o e => g b o (by rw [upd_ne (ne_of_none e hnone)]; exact e), fun c hc => ?_⟩
    rcases List.mem_cons.mp hc with rfl | hc
    · exact ⟨vs, b, o, hP, ho, g _ _ upd_same⟩
    · exact q c hc
def rSortI (K : PySem.W.Frag) : List V → Hp → VK → Prop := fun xs H Q => ∃ (B : Bx) (G : Gp) (p a : Addr) (kvs : List (D × D)), xs = [.ref p] ∧ H p = some (L2.DX.itemsO p a) ∧ Rep K B H G ∧ (G a = some (.dict true kvs) ∨ G a = some (.ldict true kvs)) ∧ kvs.all (fun kv => intKey kv.1) = true ∧ srtOk (kvs.map pairD) ∧
  ∀ H' l vs, (∀ b u, H b = some u → H' b = some u) → H l = none → H' l = some (.lst vs) → RelL H' (sortD (kvs.map pairD)) vs → Q (.ref l) H'
section
variable {X : Cx} {B : Bx}
theorem cr_sortI (hc : X.calm = true) (hu : X.A.units + 64 < cLine) : CallR X (.builtin "sorted") (rSortI X.K) := by
  intro pins s σ H xs us Q I r h
  obtain ⟨B, G, p, a, kvs, rfl, hp, R, g, hall, ⟨hk1, hk2, hk3⟩, q⟩ := h
  obtain rfl := Vals.ref1 r
  rw [List.all_eq_true] at hall
  have view : s.heap.IsItemsView p a := (show ObjOk X.prog X.w H s.heap p (L2.DX.itemsO p a) from I.hok p _ hp).1
  obtain ⟨z, ks, h1, h2, h3⟩ : kvs.length ≤ sizeLine ∧ ∃ ks : List (List Key × V), Rd H a (.dT ks) ∧ kvs.map (·.1) = ks.map (fun k => D.tup (k.1.map kD)) ∧ RelL H (kvs.map (·.2)) (ks.map (·.2)) := by
    rcases g with g | g
    · obtain ⟨z, ks, h1, h2, h3⟩ := R.at_ a _ g
      exact ⟨z, ks, .inl h1, h2, h3⟩
    · obtain ⟨z, ob, ks, h1, h2, h3⟩ := R.at_ a _ g
      exact ⟨z, ks, .inr ⟨ob, h1⟩, h2, h3⟩
  obtain ⟨z', lo, xs', rel, o, es, ep, ho, hx, hdat, hes, his, hn⟩ := dt_rd I.hok h1
  have l1 : ks.length = xs'.length := Paired.length rel
  have l2 : kvs.length = ks.length := by simpa using congrArg List.length h2
  have l3 : es.size = xs'.length := size_of_entries hes
  have hh : X.A.handled = none := I.ok.hd hc
  refine DT.sortedI (es := es) (ep := ep) hh view ⟨o, ho, hx, hdat⟩ (by omega) fun h' tk as hk hlt hl hG => ?_
  have lak : as.length = kvs.length := by omega
  have nd : as.Nodup := List.Pairwise.imp (fun h => Nat.ne_of_lt h) hG.rise
  -- the pairs that were made
  have pr : ∀ (j : Nat) (b : Addr), as[j]? = some b → ∃ (kv : D × D) (kq : Addr) (v : V) (u : Value) (ky : List V), kvs[j]? = some kv ∧ Rel H kv.1 (.ref kq) ∧ Rel H kv.2 v ∧ RelV v u ∧ h'.get? b = some { cls := .type "tuple", data := .seq #[Value.ref kq, u] } := by
    intro j b hj
    obtain ⟨en, he, hg⟩ := hG.pairs j b hj
    have hjl : j < as.length := (List.getElem?_eq_some_iff.mp hj).1
    have hjk : j < ks.length := by omega
    obtain ⟨x, hxj, p1, p2, p3⟩ := paired_get rel (i := j) (a := ks[j]) (List.getElem?_eq_getElem hjk)
    rw [entry_at hes j, hxj] at he
    have een : entryOfKey (tupleKind (mixKind X.prog X.w)) x = en := Option.some.inj he
    have hjv : j < kvs.length := by omega
    have e4 : (ks.map fun k => D.tup (k.1.map kD))[j]? = some (.tup (ks[j].1.map kD)) := by rw [List.getElem?_map, List.getElem?_eq_getElem hjk]; rfl
    have e5 : kvs[j].1 = .tup (ks[j].1.map kD) := by
      rw [← h2, List.getElem?_map, List.getElem?_eq_getElem hjv] at e4
      exact Option.some.inj e4
    have hk' : intKey (.tup (ks[j].1.map kD)) = true := by rw [← e5]; exact hall _ (List.getElem_mem hjv)
    simp only [intKey, Bool.and_eq_true, decide_eq_true_eq] at hk'
    obtain ⟨v, e6, rv⟩ := h3.get j (d := kvs[j].2) (by rw [List.getElem?_map, List.getElem?_eq_getElem hjv]; rfl)
    rw [List.getElem?_map, List.getElem?_eq_getElem hjk] at e6
    have e7 : ks[j].2 = v := Option.some.inj e6
    refine ⟨kvs[j], x.2.1, v, x.2.2, ks[j].1.map kV, List.getElem?_eq_getElem hjv, ?_, rv, by rw [← e7]; exact p3, ?_⟩
    · rw [e5]
      have ko : offs (ks[j].1.map kD) = false := key_off fun z => by rw [z] at hk'; exact absurd hk'.1.1 (by decide)
      exact ⟨x.2.1, _, rfl, by rw [ko]; exact p2, kDs_rel hk'.2, Nat.le_trans hk'.1.2 (by decide)⟩
    · rw [hg, ← een]
      rfl
  -- the heap of the sort
  have hob : (h'.push { cls := .type "list", data := .seq (as.map Value.ref).toArray }).get? h'.objs.size = some (PyProof.Rows.seqObj "list" (as.map Value.ref).toArray 0) := Heap.get?_push_size _ rfl
  have kb : ∀ b o, s.heap.get? b = some o → (h'.push { cls := .type "list", data := .seq (as.map Value.ref).toArray }).get? b = some o := fun b o e => Heap.get?_push_of_some _ (hk b o e)
  have ne0 : ∀ b o, h'.get? b = some o → b ≠ h'.objs.size := fun b o e => Nat.ne_of_lt (Heap.lt_size e)
  generalize hh2 : h'.push { cls := .type "list", data := .seq (as.map Value.ref).toArray } = h2 at hob kb ⊢
  have ka : ∀ b o, h'.get? b = some o → h2.get? b = some o := fun b o e => by rw [← hh2]; exact Heap.get?_push_of_some _ e
  have dks : ∀ kv ∈ kvs, dat 20 (pairD kv) = true := fun kv hkv => List.all_eq_true.mp hk1 _ (List.mem_map.mpr ⟨kv, hkv, rfl⟩)
  -- what is sorted
  obtain ⟨bs, hbs⟩ : ∃ bs : List (D × Addr), bs = (kvs.map pairD).zip as := ⟨_, rfl⟩
  have bl : bs.length = kvs.length := by rw [hbs, List.length_zip, List.length_map]; omega
  have b1 : bs.map (·.1) = kvs.map pairD := by rw [hbs]; exact List.map_fst_zip (by rw [List.length_map]; omega)
  have b2 : bs.map (·.2) = as := by rw [hbs]; exact List.map_snd_zip (by rw [List.length_map]; omega)
  have bat : ∀ (j : Nat) (b : D × Addr), bs[j]? = some b → ∃ kv, kvs[j]? = some kv ∧ b.1 = pairD kv ∧ as[j]? = some b.2 := fun j b hj => by
    have c1 : (bs.map (·.1))[j]? = some b.1 := by rw [List.getElem?_map, hj]; rfl
    have c2 : (bs.map (·.2))[j]? = some b.2 := by rw [List.getElem?_map, hj]; rfl
    rw [b1, List.getElem?_map] at c1
    rw [b2] at c2
    cases e : kvs[j]? with
    | none => rw [e] at c1; cases c1
    | some kv => rw [e] at c1; exact ⟨kv, rfl, (Option.some.inj c1).symm, c2⟩
  have e : EachIs (fun (u : Value) (b : D × Addr) => u = .ref b.2) (as.map Value.ref) bs := each_build (by rw [List.length_map]; omega) fun j u b hu hb => by
    obtain ⟨kv, _, _, h⟩ := bat j b hb
    rw [List.getElem?_map, h] at hu
    exact (Option.some.inj hu).symm
  have er : EachIs (fun v (b : D × Addr) => ∃ as', Reads h2 v (toPD b.1) as' ∧ h'.objs.size ∉ as') (as.map Value.ref) bs := each_build (by rw [List.length_map]; omega) fun j u b hu hb => by
    obtain ⟨kv, hkv, e1, h⟩ := bat j b hb
    rw [List.getElem?_map, h] at hu
    have eu := (Option.some.inj hu).symm
    subst eu
    obtain ⟨kv', kq, v, u, ky, hkv', r1, r2, r3, hg⟩ := pr j b.2 h
    rw [hkv] at hkv'
    cases hkv'
    have dk := dks kv (List.mem_of_getElem? hkv)
    have d12 : dat 19 kv.1 = true ∧ dat 19 kv.2 = true := by simpa [pairD, dat] using dk
    obtain ⟨x1, _, _⟩ := dat_dp (K := X.K) kv.1 19 _ d12.1 r1
    obtain ⟨x2, _, _⟩ := dat_dp (K := X.K) kv.2 19 _ d12.2 r2
    obtain ⟨a1, rd1⟩ := Dp.reads I _ _ (Value.ref kq) x1 rfl
    obtain ⟨a2, rd2⟩ := Dp.reads I _ _ _ x2 r3
    have rd1' := PyProof.Rows.Reads.keeps kb rd1
    have rd2' := PyProof.Rows.Reads.keeps kb rd2
    refine ⟨a1 ++ (a2 ++ []), ?_, fun m => ?_⟩
    · rw [e1]
      exact Reads.tuple (ka _ _ hg) rfl rfl (.cons rd1' (.cons rd2' .nil))
    · have lt1 : ∀ c ∈ a1 ++ (a2 ++ []), c < s.heap.objs.size := fun c hc => by
        rcases List.mem_append.mp hc with hc | hc
        · exact reads_lt rd1 c hc
        · exact reads_lt rd2 c (by simpa using hc)
      have := lt1 _ m
      omega
  have hbk : ∀ b ∈ bs, ∃ kv ∈ kvs, b.1 = pairD kv := fun b hb => by
    obtain ⟨j, hj⟩ := List.mem_iff_getElem?.mp hb
    obtain ⟨kv, hkv, e1, _⟩ := bat j b hj
    exact ⟨kv, List.mem_of_getElem? hkv, e1⟩
  have em : bs.map (fun b => toPD b.1) = (kvs.map pairD).map toPD := by rw [← b1, List.map_map]; rfl
  refine PySem.W.list_sort_data (s := { s with heap := h2, toks := tk }) (enc := fun b : D × Addr => toPD b.1) hob e er (by rw [em]; exact hk2) (by rw [em]; exact hk3) (by omega) (fun b hb => ?_) fun out hlen eo => ?_
  · obtain ⟨kv, hkv, e1⟩ := hbk b hb
    have h20 := depth_dat (dks kv hkv)
    rw [e1]
    show X.A.units + 1 + 1 + _ < cLine
    omega
  show EP X pins σ Q (.ref h'.objs.size) { s with heap := PyProof.Rows.sortedHeap h2 h'.objs.size (as.map Value.ref) (List.toArray out), toks := tk }
  obtain ⟨zs, hzs⟩ : ∃ zs : List (D × Addr), zs = bs.mergeSort (dataLe false fun b => toPD b.1) := ⟨_, rfl⟩
  rw [← hzs] at eo
  have hout : out = zs.map fun b => Value.ref b.2 := each_maps eo
  have zmem : ∀ b ∈ zs, b ∈ bs := fun b hb => by rw [hzs] at hb; exact List.mem_mergeSort.mp hb
  have zl : zs.length = kvs.length := by rw [hzs, List.length_mergeSort]; exact bl
  have z1 : zs.map (·.1) = sortD (kvs.map pairD) := by
    rw [hzs, ← b1]
    exact List.map_mergeSort (fun _ _ _ _ => rfl)
  -- behind the sort
  have kF : ∀ b o, b ≠ h'.objs.size → h2.get? b = some o → (PyProof.Rows.sortedHeap h2 h'.objs.size (as.map Value.ref) (List.toArray out)).get? b = some o := fun b o hb e => (PyProof.Rows.sortedHeap_old hb (Heap.lt_size e)).trans e
  have kS : ∀ b o, s.heap.get? b = some o → (PyProof.Rows.sortedHeap h2 h'.objs.size (as.map Value.ref) (List.toArray out)).get? b = some o := fun b o e => kF b o (ne0 _ _ (hk b o e)) (kb b o e)
  obtain ⟨eF, heF⟩ := PyProof.Rows.sortedHeap_at (vs := as.map Value.ref) (out := List.toArray out) hob
  have I1 : L2.Inv X pins σ H { s with heap := PyProof.Rows.sortedHeap h2 h'.objs.size (as.map Value.ref) (List.toArray out), toks := tk } := I.kept (t' := tk) kS
  have hn0 : H h'.objs.size = none := I.hok.fresh (Nat.le_of_lt hlt)
  have rv : Vals (zs.map fun z => V.ref z.2) out := by
    rw [hout]
    exact vals_maps (fun z : D × Addr => V.ref z.2) (fun z => Value.ref z.2) zs fun _ _ => rfl
  have I2 : L2.Inv X pins σ (upd H h'.objs.size (.lst (zs.map fun z => V.ref z.2))) { s with heap := PyProof.Rows.sortedHeap h2 h'.objs.size (as.map Value.ref) (List.toArray out), toks := tk } :=
    I1.take (h' := PyProof.Rows.sortedHeap h2 h'.objs.size (as.map Value.ref) (List.toArray out)) (t' := tk) (fun b ob _ e => e) (I.fpOk (Nat.le_of_lt hlt) hn0) ⟨by rw [List.length_map]; omega, out, eF, rv, heF⟩
  obtain ⟨H2, I3, g2, qt⟩ := takeX (P := fun b vs k => ∃ (j : Nat) (kv : D × D) (kq : Addr) (v : V), as[j]? = some b ∧ kvs[j]? = some kv ∧ vs = [.ref kq, v] ∧ Rel H kv.1 (.ref kq) ∧ Rel H kv.2 v ∧ k = offs [kv.1, kv.2]) I as _ I2 nd fun b hb => by
    obtain ⟨j, hj⟩ := List.mem_iff_getElem?.mp hb
    obtain ⟨kv, kq, v, u, ky, hkv, r1, r2, r3, hg⟩ := pr j b hj
    have hbl : s.heap.objs.size ≤ b := Nat.le_of_lt (hG.above b hb)
    refine ⟨hbl, ?_, [.ref kq, v], _, _, ⟨j, kv, kq, v, hj, hkv, rfl, r1, r2, rfl⟩, rfl, kF _ _ (ne0 _ _ hg) (ka _ _ hg), fun H3 => ⟨(by rw [sizeLine_eq]; show 2 ≤ 16777216; omega), [Value.ref kq, u], .cons rfl (.cons r3 .nil), ⟨_, kF _ _ (ne0 _ _ hg) (ka _ _ hg), rfl, 0, rfl⟩⟩⟩
    rw [upd_ne (ne0 _ _ hg)]
    exact I.hok.fresh hbl
  have gr : ∀ b o, H b = some o → H2 b = some o := fun b o e => g2 b o (by rw [upd_ne (ne_of_none e hn0)]; exact e)
  refine ⟨.ref h'.objs.size, H2, I3, rfl, q H2 h'.objs.size (zs.map fun z => V.ref z.2) gr hn0 (g2 _ _ upd_same) ?_⟩
  rw [← z1]
  have rz : ∀ b ∈ zs.map (fun z => (z.1, V.ref z.2)), Rel H2 b.1 b.2 := fun b hb => by
    obtain ⟨c, hc, rfl⟩ := List.mem_map.mp hb
    obtain ⟨j, hj⟩ := List.mem_iff_getElem?.mp (zmem c hc)
    obtain ⟨kv, hkv, e1, h⟩ := bat j c hj
    obtain ⟨vs, k, o, ⟨i, kv', kq, v, i1, i2, ev, r1, r2, ek⟩, ho, hH⟩ := qt c.2 (List.mem_of_getElem? h)
    have eij : i = j := (List.getElem?_inj (List.getElem?_eq_some_iff.mp i1).1 nd).mp (i1.trans h.symm)
    subst eij
    rw [hkv] at i2
    cases i2
    subst ev
    subst ek
    show Rel H2 c.1 (.ref c.2)
    rw [e1]
    exact ⟨c.2, _, rfl, TupH.of ho hH, ⟨_, _, rfl, r1.monoT (.of gr), _, _, rfl, r2.monoT (.of gr), rfl⟩, by simp [sizeLine_eq]⟩
  have := relL_pairs rz
  rw [List.map_map, List.map_map] at this
  exact this
end

/-- d.items() -/
def dSortItems (te : DTE) : DTE := fun sd G Q => te sd G fun d G1 => match d with
  | .ref a => ∃ kvs, G1 a = some (.dict true kvs) ∧ kvs.all (fun kv => intKey kv.1) = true ∧ srtOk (kvs.map pairD) ∧ ∀ l, Nw G1 l → Q (.ref l) (put G1 l (.lst (sortD (kvs.map pairD))))
  | _ => False
section
variable {X : Cx} {B : Bx} {e : Expr} {te : DTE} {p pos apos cpos : Pos}
theorem de_sortItems (hc : X.calm = true) (hu : X.A.units + 64 < cLine) (hg : Gl X "sorted") (hm : X.mg "sorted" = none) (he : DE X B e te)
    (hbase : attributeBase e "items" X.env (eval e X.env) = eval e X.env := by rfl) (hline : (apos.endLine == cpos.line) = true := by rfl)
    (hs : starEach [.Call (.Attribute e "items" apos) [] [] cpos] X.env = (false, eval (.Call (.Attribute e "items" apos) [] [] cpos) X.env) :: starEach [] X.env := by rfl) :
    DE X B (.Call (.Name "sorted" p) [.Call (.Attribute e "items" apos) [] [] cpos] [] pos) (dSortItems te) := by
  obtain ⟨te', pe, he⟩ := he.ex
  refine ⟨_, pe_callB (cr_sortI hc hu) hg hm (by decide +kernel) (pa_cons (pe_bm0 PySem.F.plainAttrs_dict PySem.F.slot_dict_items PySem.F.type_dict_items L2.DX.mt_itemsT pe hbase hline) pa_nil hs) (by decide) (by decide) hs (by rfl), fun σ H sd G Q P hS R t hp => ?_⟩
  refine he σ H sd G _ _ hS R t fun v d H1 G1 k1 r1 R1 q1 => ?_
  cases d with
  | ref a =>
    cases r1
    obtain ⟨kvs, g, q1, q2, q3⟩ := q1
    have st := R1.at_ a _ g
    have z := st.1
    obtain ⟨_, ks, h1, _, _⟩ := st
    refine ⟨.inr (.inr (.inl ⟨rfl, .inr ⟨ks, h1⟩⟩)), a, ks, rfl, rfl, h1, fun p' hn => ?_⟩
    have R2 : Rep X.K B (upd H1 p' (L2.DX.itemsO p' a)) G1 := R1.fresh hn
    refine ⟨B, G1, p', a, kvs, rfl, upd_same, R2, .inl g, q1, q2, fun H' l vs gr hl hH rl => ?_⟩
    have hl1 : H1 l = none := by
      by_cases e : l = p'
      · rw [e]; exact hn
      · rw [upd_ne e] at hl; exact hl
    have gr1 : ∀ b u, H1 b = some u → H' b = some u := fun b u e => gr b u (by rw [upd_ne (ne_of_none e hn)]; exact e)
    have k : Kp H1 H' := ⟨fun a xs h => gr1 _ _ h, fun a o u h => gr1 _ _ h, fun a fs h => gr1 _ _ h, fun a fs h => gr1 _ _ h⟩
    have R' : Rep X.K B H' (put G1 l (.lst (sortD (kvs.map pairD)))) := by
      refine ⟨R1.k0.trans k, fun c o' e => ?_, R1.tb.ext gr1⟩
      by_cases hcl : c = l
      · subst hcl
        rw [put_same] at e
        cases e
        exact ⟨vs, hH, rl, by simp [sortD]; exact z⟩
      · rw [put_ne hcl] at e
        exact (R1.at_ c o' e).grow gr1
    exact hp _ (.ref l) H' _ (k1.trans k) rfl R' (q3 l (R1.gnone hl1))
  | _ => exact (show False from q1).elim
end

def sitO (o : Option DO) (G1 : Gp) (Q : DQ) : Prop := ∃ kvs, o = some (.dict true kvs) ∧ kvs.all (fun kv => intKey kv.1) = true ∧ srtOk (kvs.map pairD) ∧ ∀ l, Nw G1 l → Q (.ref l) (put G1 l (.lst (sortD (kvs.map pairD))))
def sitD (d : D) (G1 : Gp) (Q : DQ) : Prop := match d with
  | .ref a => sitO (G1 a) G1 Q
  | _ => False
@[simp ↓] theorem dSortItems_app {te sd G Q} : dSortItems te sd G Q = te sd G fun d G1 => sitD d G1 Q := (rfl)
theorem sitD_congr {d d' : D} {G : Gp} {Q : DQ} (h0 : d = d') : sitD d G Q = sitD d' G Q := by rw [h0]
theorem sitO_congr {o o' : Option DO} {G : Gp} {Q : DQ} (h0 : o = o') : sitO o G Q = sitO o' G Q := by rw [h0]
@[simp] theorem sitD_ref {a G Q} : sitD (.ref a) G Q = sitO (G a) G Q := (rfl)
@[simp] theorem sitO_is {kvs G1 Q} : sitO (some (.dict true kvs)) G1 Q = (kvs.all (fun kv => intKey kv.1) = true ∧ srtOk (kvs.map pairD) ∧ ∀ l, Nw G1 l → Q (.ref l) (put G1 l (.lst (sortD (kvs.map pairD))))) :=
  propext ⟨fun ⟨_, e, h⟩ => by cases e; exact h, fun h => ⟨_, rfl, h⟩⟩
end DL
set_option Elab.async false
set_option linter.all false
set_option maxRecDepth 100000
set_option maxHeartbeats 4000000
namespace DL
open PySem PySem.Spec L2

/-! ### the head, with tables and one more Bool -/
abbrev AlX : Type := He.AlT × Bool
/-- the code objects' tables: empty, each told by one name -/
def tbB (g : Addr → Option Obj) (K : PySem.W.Frag) : Bool := (csOf K).all fun q => PySem.W.codeHdIn K q.1 q.2.1 && ((match g q.2.1 with
  | some o => He.emptyTab o
  | none => false) && (csOf K).all fun r => r.2.1 != q.2.1 || r.2.2 == q.2.2)
def obsX (fa : List He.Fa) (fn : List He.DefD) (ts : List He.Tab) (xb : PySem.W.Frag → Bool) (g : Addr → Option Obj) (K : PySem.W.Frag) : AlX := (He.obsT fa fn ts K, xb K && tbB g K)
def obsXG (n : Nat) (fa : List He.Fa) (fn : List He.DefD) (ts : List He.Tab) (xb : PySem.W.Frag → Bool) (g : Addr → Option Obj) : AlX := obsX fa fn ts xb g (He.frT g (He.asD g n))
structure TbsK (K : PySem.W.Frag) : Prop where
  hd : ∀ q ∈ csOf K, PySem.W.codeHdIn K q.1 q.2.1 = true
  uq : ∀ q ∈ csOf K, ∀ r ∈ csOf K, r.2.1 = q.2.1 → r.2.2 = q.2.2
structure SaysZ (fa : List He.Fa) (fn : List He.DefD) (ts : List He.Tab) (xb : PySem.W.Frag → Bool) (w : World) (h : Heap) (K : PySem.W.Frag) : Prop where
  t : He.SaysT fa fn ts w K
  x : xb K = true
  k : TbsK K
  out : ∀ q ∈ csOf K, K.lookup q.2.1 = none
  empty : ∀ q ∈ csOf K, h.get? q.2.1 = some { cls := .none, data := .fields #[] }
theorem saysZ_of {n : Nat} {fa : List He.Fa} {fn : List He.DefD} {ts : List He.Tab} {xb : PySem.W.Frag → Bool} {w : World} {h : Heap} (e : obsXG n fa fn ts xb h.get? = (He.valT fn ts w, true)) : SaysZ fa fn ts xb w h (He.frT h.get? (He.asD h.get? n)) := by
  have e1 : He.SaysT fa fn ts w (He.frT h.get? (He.asD h.get? n)) := congrArg (fun z : AlX => z.1) e
  have e2 : (xb (He.frT h.get? (He.asD h.get? n)) && tbB h.get? (He.frT h.get? (He.asD h.get? n))) = true := congrArg (fun z : AlX => z.2) e
  generalize hK : He.frT h.get? (He.asD h.get? n) = K at e1 e2
  obtain ⟨h1, h2⟩ := Bool.and_eq_true_iff.mp e2
  have key : ∀ q ∈ csOf K, PySem.W.codeHdIn K q.1 q.2.1 = true ∧ (∃ o, h.get? q.2.1 = some o ∧ He.emptyTab o = true) ∧ ∀ r ∈ csOf K, r.2.1 = q.2.1 → r.2.2 = q.2.2 := fun q hq => by
    obtain ⟨h3, h4⟩ := Bool.and_eq_true_iff.mp (List.all_eq_true.mp h2 q hq)
    obtain ⟨h4, h5⟩ := Bool.and_eq_true_iff.mp h4
    refine ⟨h3, ?_, fun r hr er => ?_⟩
    · cases z : h.get? q.2.1 with
      | none => rw [z] at h4; cases h4
      | some o => rw [z] at h4; exact ⟨o, rfl, h4⟩
    · have := List.all_eq_true.mp h5 r hr
      rw [er] at this
      simpa using this
  refine ⟨e1, h1, ⟨fun q hq => (key q hq).1, fun q hq => (key q hq).2.2⟩, fun q hq => ?_, fun q hq => ?_⟩
  · obtain ⟨_, ⟨o, g, z⟩, _⟩ := key q hq
    rw [← hK]
    exact He.frT_none g z
  · obtain ⟨_, ⟨o, g, z⟩, _⟩ := key q hq
    rw [g, He.emptyTab_eq z]
def hookX (n : Nat) (fa : List He.Fa) (fn : List He.DefD) (ts : List He.Tab) (xb : PySem.W.Frag → Bool) : PySem.W.Hook where
  α := AlX
  obs := fun s => obsXG n fa fn ts xb s.heap.get?
  val := fun w => (He.valT fn ts w, true)
  says := fun w h => ∃ K : PySem.W.Frag, K.In h ∧ SaysZ fa fn ts xb w h K
  of := fun _ _ e => ⟨_, He.frT_in, saysZ_of e⟩
  keeps := fun _ _ _ ⟨K, hK, c⟩ k => ⟨K, PySem.W.Frag.In.keeps hK k, ⟨c.t, c.x, c.k, c.out, fun q hq => k _ _ (c.empty q hq)⟩⟩
theorem obsXG_eq {n : Nat} {fa : List He.Fa} {fn : List He.DefD} {ts : List He.Tab} {xb : PySem.W.Frag → Bool} {g : Addr → Option Obj} {s : Shared} (h : ∀ a, g a = s.heap.get? a) : obsXG n fa fn ts xb g = (hookX n fa fn ts xb).obs s := by
  have e : g = s.heap.get? := funext h
  rw [e] <;> rfl
/-- what stands behind the top -/
structure SaidX (fa : List He.Fa) (fn : List He.DefD) (ts : List He.Tab) (xb : PySem.W.Frag → Bool) (w : World) (K : PySem.W.Frag) (mg : Str → Option Value) : Prop extends Said fa fn K mg where
  t : He.SaysT fa fn ts w K
  x : xb K = true
  k : TbsK K
theorem saidX {fa : List He.Fa} {fn : List He.DefD} {ts : List He.Tab} {xb : PySem.W.Frag → Bool} {w : World} {K : PySem.W.Frag} {mg : Str → Option Value} {h : Heap} (e : SaysZ fa fn ts xb w h K) (X : K.In h) (G : h.Ns mainGlobals mg) : SaidX fa fn ts xb w K mg :=
  { c := e.t.d, top := ⟨h, X, G⟩, t := e.t, x := e.x, k := e.k }
/-- what the making of a lambda asks of the def's code object and its table -/
def TBs (K : PySem.W.Frag) (mg : Str → Option Value) (base : Heap) : Prop := ∀ q ∈ csOf K, LamX.TabB base mg q.1 q.2.1

/-! ### written tuples, tables -/
def strsIn : List Str → List Value → Bool
  | [], [] => true
  | z :: zs, .str x _ :: us => decide (x = z) && strsIn zs us
  | _, _ => false
theorem strsIn_ok : ∀ {zs : List Str} {us : List Value}, strsIn zs us = true → Vals (zs.map V.str) us
  | [], [], _ => .nil
  | [], _ :: _, h => by cases h
  | z :: zs, [], h => by cases h
  | z :: zs, u :: us, h => by
    cases u with
    | str x t =>
      obtain ⟨h1, h2⟩ := Bool.and_eq_true_iff.mp h
      have e := of_decide_eq_true h1
      subst e
      exact .cons ⟨t, rfl⟩ (strsIn_ok h2)
    | _ => cases h
def tupB (K : PySem.W.Frag) (a : Addr) (zs : List Str) : Bool := match K.lookup a with
  | some ⟨.type c, _, .seq its _, _⟩ => decide (c = "tuple") && (decide (its.size ≤ 100) && strsIn zs its.toList)
  | _ => false
theorem tupB_ok {K : PySem.W.Frag} {a : Addr} {zs : List Str} (h : tupB K a zs = true) (H : Hp) : SqT K H a (zs.map V.str) := by
  unfold tupB at h
  split at h
  · rename_i c d its n sl e
    obtain ⟨h1, h2⟩ := Bool.and_eq_true_iff.mp h
    obtain ⟨h3, h4⟩ := Bool.and_eq_true_iff.mp h2
    have e1 := of_decide_eq_true h1
    subst e1
    exact .inr ⟨_, its, n, e, rfl, rfl, Nat.le_trans (of_decide_eq_true h3) (by decide), strsIn_ok h4⟩
  · cases h
/-- a table of texts: what stands at some words -/
def tblQ : Option (Option Value) → Option Str → Bool
  | some (some (.str v _)), some s => decide (v = s) && PySem.PyData.strOk s
  | some none, none => true
  | _, _ => false
def tblB (K : PySem.W.Frag) (a : Addr) (tbl : List (Str × Option Str)) : Bool := tbl.all fun q => tblQ (PySem.W.nsIn K a q.1) q.2
theorem tblB_ok {K : PySem.W.Frag} {a : Addr} {tbl : List (Str × Option Str)} (h : tblB K a tbl = true) {z : Str} {r : Option Str} (hz : tbl.lookup z = some r) : (∃ s t, r = some s ∧ OkS s ∧ PySem.W.nsIn K a z = some (some (.str s t))) ∨ (r = none ∧ PySem.W.nsIn K a z = some none) := by
  have hm : (z, r) ∈ tbl := by
    clear h
    induction tbl with
    | nil => cases hz
    | cons q tbl ih =>
      obtain ⟨k, v⟩ := q
      rw [List.lookup_cons] at hz
      cases e : z == k with
      | true =>
        rw [e] at hz
        have e1 : z = k := by simpa using e
        cases hz
        rw [e1]
        exact List.mem_cons_self
      | false =>
        rw [e] at hz
        exact List.mem_cons_of_mem _ (ih hz)
  have h2 := List.all_eq_true.mp h _ hm
  have h2' : tblQ (PySem.W.nsIn K a z) r = true := h2
  cases e : PySem.W.nsIn K a z with
  | none => rw [e] at h2'; cases h2'
  | some o =>
    rw [e] at h2'
    cases o with
    | none =>
      cases r with
      | none => exact .inr ⟨rfl, rfl⟩
      | some _ => cases h2'
    | some u =>
      cases u with
      | str v t =>
        cases r with
        | none => cases h2'
        | some s =>
          obtain ⟨h3, h4⟩ := Bool.and_eq_true_iff.mp h2'
          have e3 := of_decide_eq_true h3
          subst e3
          exact .inl ⟨v, t, rfl, h4, rfl⟩
      | _ => cases r <;> cases h2'
section
variable {X : Cx} {B : Bx} {a o e f : Expr} {ta te tf : DTE} {x : Str} {p pos apos cpos : Pos} {zs : List Str} {c : Addr}
def dInC (neg : Bool) (zs : List Str) (ta : DTE) : DTE := fun sd G Q => ta sd G fun d G1 => dat 0 d = true ∧ Q (.bl ((zs.any fun z => peq (.str z) d) != neg)) G1
theorem inC_at {H : Hp} {d : D} {v : V} (hz : zs.all PySem.PyData.strOk = true) (hd : dat 0 d = true) (r : Rel H d v) : flatV v = true ∧ (zs.map V.str).all flatV = true ∧ inV v (zs.map V.str) = zs.any fun z => peq (.str z) d := by
  refine ⟨flat_rel hd r, by rw [List.all_map, List.all_eq_true]; intro z _; rfl, ?_⟩
  induction zs with
  | nil => rfl
  | cons z zs ih =>
    rw [List.all_cons, Bool.and_eq_true] at hz
    rw [List.map_cons, List.any_cons, ← ih hz.2]
    unfold inV
    rw [List.any_cons]
    congr 1
    exact eqV_rel (H := H) (d := .str z) (e := d) (v := .str z) (u := v) rfl hd ⟨rfl, hz.1⟩ r
theorem de_inC {neg : Bool} {op : CmpOp} (hop : op = (if neg then .NotIn else .In)) (ha : DE X B a ta) (hg : Gl X x) (hm : X.mg x = some (.ref c)) (hc : tupB X.K c zs = true)
    (hmk : behindInMarks op (.Name x p) = false := by rfl) (hz : zs.all PySem.PyData.strOk = true := by decide +kernel) (hd : (x == ("__debug__" : Str)) = false := by decide) : DE X B (.Compare a [op] [.Name x p] pos) (dInC neg zs ta) := by
  obtain ⟨ta', pa, ha⟩ := ha.ex
  have pg : PE X (.Name x p) (tC (.ref c)) := pe_glob (v := .ref c) hg hm rfl hd
  cases neg with
  | true =>
    subst hop
    refine ⟨_, pe_cmpR op_notIn_seq pa pg hmk, fun σ H sd G Q P hS R t hp => ?_⟩
    refine ha σ H sd G _ _ hS R t fun v d H1 G1 k1 r1 R1 q1 => ?_
    obtain ⟨f1, f2, f3⟩ := inC_at (zs := zs) hz q1.1 r1
    exact ⟨c, _, rfl, .inr (tupB_ok hc H1), f1, f2, by rw [f3]; exact hp _ (.bl _) H1 G1 k1 rfl R1 (by simpa using q1.2)⟩
  | false =>
    subst hop
    refine ⟨_, pe_cmpR op_in_seq pa pg hmk, fun σ H sd G Q P hS R t hp => ?_⟩
    refine ha σ H sd G _ _ hS R t fun v d H1 G1 k1 r1 R1 q1 => ?_
    obtain ⟨f1, f2, f3⟩ := inC_at (zs := zs) hz q1.1 r1
    exact ⟨c, _, rfl, .inr (tupB_ok hc H1), f1, f2, by rw [f3]; exact hp _ (.bl _) H1 G1 k1 rfl R1 (by simpa using q1.2)⟩
/-- NAME.get(e, f) of a written table of texts -/
def dGetK (tbl : List (Str × Option Str)) (te tf : DTE) : DTE := fun sd G Q => te sd G fun d G1 => tf sd G1 fun z G2 => match d with
  | .str y => ∃ r, tbl.lookup y = some r ∧ Q (match r with | some s => .str s | none => z) G2
  | _ => False
def tGetK (K : PySem.W.Frag) (w : World) (a : Addr) (ty tx : TE) : TE := fun σ H Q => ty σ H fun y H1 => tx σ H1 fun z H2 => ∃ (x : Str) (r : Option Value) (v : V), y = .str x ∧ PySem.W.nsIn K a x = some r ∧ (match r with | some u => RelV v u | none => v = z) ∧ Q v H2
theorem pe_getK {es : Array DictEntry} {n : Nat} {d : Addr} {ty tx : TE} (D : KDict X.K X.w d es n) (hg : Gl X x) (hm : X.mg x = some (.ref d)) (he : PE X e ty) (hf : PE X f tx) (m : M2 X (.Name x p) "get" apos e f cpos) (hd : (x == ("__debug__" : Str)) = false := by decide) :
    PE X (.Call (.Attribute (.Name x p) "get" apos) [e, f] [] cpos) (tGetK X.K X.w d ty tx) := by
  refine ⟨fun pins s σ H Q I h => ?_⟩
  have pg : PE X (.Name x p) (tC (.ref d)) := pe_glob (v := .ref d) hg hm rfl hd
  refine wpAny_Call_method m.base m.few m.line PySem.F.plainAttrs_dict PySem.F.slot_dict_get PySem.F.type_dict_get (thn (pg.run pins s σ H (fun v H' => v = .ref d ∧ H' = H) I ⟨rfl, rfl⟩) fun u s1 ⟨v0, H1, I1, rx, e1, e2⟩ => ?_)
  subst e1 e2
  obtain rfl : u = Value.ref d := rx
  refine ⟨kd_type D I1, fun b q => ?_, ?_⟩
  · cases q
    exact ⟨_, I1.kIn d _ D.at_, rfl⟩
  rw [m.trees]
  refine Calls.callWith_builtin rfl (Calls.evalArgs_plain (Calls.spliced_cons (thn (he.run pins s1 σ H1 _ I1 h) fun iv s2 ⟨y, H2, I2, ry, q2⟩ =>
    Calls.spliced_cons (thn (hf.run pins s2 σ H2 _ I2 q2) fun fv s3 ⟨z, H3, I3, rz, xs, r, v, ey, en, rv, q3⟩ => Calls.spliced_nil ?_))))
  subst ey
  obtain ⟨t, rfl⟩ := ry
  have hm3 := PySem.W.mapOf_K (prog := X.prog) (w := X.w) I3.kIn D.at_ D.lit
  refine call_meetsIn PySem.F.slot_dict_get (kd_type D I3) PySem.F.entry_dict_get (PySem.F.args_dict_get_3 _ _ _) (meets_dict_get_default (PySem.strKind X.prog X.w) d (PySem.strKind_is X.prog X.w xs t) D.low fv) ⟨_, hm3, ?_⟩
  rw [PySem.W.find_K D.at_ en]
  refine ⟨v, H3, I3.tok _, ?_, q3⟩
  cases r with
  | some u => exact rv
  | none =>
    have e : v = z := rv
    rw [e]
    exact rz
theorem de_getK {tbl : List (Str × Option Str)} (D : ∃ es n, KDict X.K X.w c es n) (hg : Gl X x) (hm : X.mg x = some (.ref c)) (ht : tblB X.K c tbl = true) (he : DE X B e te) (hf : DE X B f tf)
    (m : M2 X (.Name x p) "get" apos e f cpos := by exact ⟨rfl, rfl, rfl, rfl⟩) (hd : (x == ("__debug__" : Str)) = false := by decide) : DE X B (.Call (.Attribute (.Name x p) "get" apos) [e, f] [] cpos) (dGetK tbl te tf) := by
  obtain ⟨es, n, D⟩ := D
  obtain ⟨te', pe, he⟩ := he.ex
  obtain ⟨tf', pf, hf⟩ := hf.ex
  refine ⟨_, pe_getK D hg hm pe pf m hd, fun σ H sd G Q P hS R t hp => ?_⟩
  refine he σ H sd G _ _ hS R t fun v d H1 G1 k1 r1 R1 q1 => ?_
  refine hf σ H1 sd G1 _ _ (hS.mono k1) R1 q1 fun v2 d2 H2 G2 k2 r2 R2 q2 => ?_
  cases d with
  | str y =>
    obtain ⟨rfl, _⟩ := r1
    obtain ⟨r, hr, q2⟩ := q2
    rcases tblB_ok ht hr with ⟨s, t, rfl, ok, en⟩ | ⟨rfl, en⟩
    · exact ⟨y, _, .str s, rfl, en, ⟨t, rfl⟩, hp _ (.str s) H2 G2 (k1.trans k2) ⟨rfl, ok⟩ R2 q2⟩
    · exact ⟨y, _, v2, rfl, en, rfl, hp _ d2 H2 G2 (k1.trans k2) r2 R2 q2⟩
  | _ => exact (show False from q2).elim
/-- a, b, c = x, y, z -/
def dPar3 (i j l : Nat) (ta : DTA) : DTS := fun D sd G => ta sd G fun ds G1 => match ds with
  | [d, e, f] => D.nx (((sd.set i (some d)).set j (some e)).set l (some f)) G1
  | _ => False
theorem ds_par3 {i j l : Nat} {x y z : Str} {a b c : Expr} {ta : DTA} {px py pz pt pos : Pos} {kt k2 pt2} (hc : X.calm = true) (hN : X.N.Nodup) (hi : X.N[i]? = some x) (hj : X.N[j]? = some y) (hl : X.N[l]? = some z) (hij : i ≠ j) (hil : i ≠ l) (hjl : j ≠ l)
    (hx : X.env.scope.names.lookup x = some .local) (hy : X.env.scope.names.lookup y = some .local) (hz : X.env.scope.names.lookup z = some .local) (ha : DA X B [a, b, c] ta)
    (hw : swappedStores [.Tuple [.Name x px, .Name y py, .Name z pz] kt pt] (.Tuple [a, b, c] k2 pt2) X.env = pure (some [x, y, z]))
    (hs : swapsWithSole [.Tuple [.Name x px, .Name y py, .Name z pz] kt pt] (.Tuple [a, b, c] k2 pt2) pos.line X.env = pure false := by rfl) :
    DS X B (.Assign [.Tuple [.Name x px, .Name y py, .Name z pz] kt pt] (.Tuple [a, b, c] k2 pt2) pos) (dPar3 i j l ta) := by
  obtain ⟨ta', pa, ha⟩ := ha.ex
  refine ⟨_, ps_par3 hc hN hi hj hl hij hil hjl hx hy hz pa hw hs, fun σ H sd G DD D hs R t hp => ?_⟩
  refine ha σ H sd G _ _ hs R t fun vs ds H1 G1 _ k1 r1 R1 q1 => ?_
  match ds, q1, r1 with
  | [d, e, f], q1, r1 =>
    obtain ⟨v, r, rfl, h1, w, r', rfl, h2, u, r'', rfl, h3, h4⟩ := r1
    cases (relL_nil.mp h4)
    exact ⟨v, w, u, rfl, hp.nx _ _ H1 G1 k1 ((((hs.mono k1).set h1 i).set h2 j).set h3 l) R1 q1⟩
  | [], q1, _ => exact (show False from q1).elim
  | [_], q1, _ => exact (show False from q1).elim
  | [_, _], q1, _ => exact (show False from q1).elim
  | _ :: _ :: _ :: _ :: _, q1, _ => exact (show False from q1).elim
/-- xs[::-1] -/
def revD (d : D) (G1 : Gp) (Q : DQ) : Prop := match d with
  | .ref a => ∃ o, G1 a = some o ∧ lstO o fun xs => ∀ p, Nw G1 p → Q (.ref p) (put G1 p (.lst xs.reverse))
  | _ => False
def dRev (te : DTE) : DTE := fun sd G Q => te sd G fun d G1 => revD d G1 Q
theorem de_rev {k : Nat} {p1 p2 p3 : Pos} (he : DE X B e te) : DE X B (.Subscript e (.Slice none none (some (.UnaryOp .USub (.Constant (.int 1) k p1) p2)) p3) pos) (dRev te) := by
  obtain ⟨te', pe, he⟩ := he.ex
  refine ⟨_, pe_revL pe, fun σ H sd G Q P hS R t hp => ?_⟩
  refine he σ H sd G _ _ hS R t fun v d H1 G1 k1 r1 R1 q1 => ?_
  cases d with
  | ref a =>
    cases r1
    obtain ⟨o, g, q1⟩ := q1
    obtain ⟨xs, il, q1, ho⟩ := lstO_is g q1
    obtain ⟨vs, h1, h2, h3⟩ := lstRd R1 il
    refine ⟨a, vs, rfl, .inl h1, fun p hn => ?_⟩
    obtain ⟨kk, R'⟩ := lst_new hn h2.rev (by simpa using h3) R1
    exact hp _ (.ref p) _ _ (k1.trans kk) rfl R' (q1 p (R1.gnone hn))
  | _ => exact (show False from q1).elim
def minR : List D → Gp → DQ → Prop := fun ds G Q => match ds with
  | [.int i, .int j] => Q (.int (min i j)) G
  | _ => False
theorem dc_min (hc : X.calm = true) : DCall X B (.builtin "min") minR := by
  refine ⟨_, call_min2 hc, fun H G xs ds Q P r R q hp => ?_⟩
  match ds, q, r with
  | [.int i, .int j], q, r =>
    obtain ⟨x, y, rfl, r1, r2⟩ := rel2 r
    cases r1
    cases r2
    have e : (if j < i then j else i) = min i j := by omega
    exact ⟨i, j, rfl, hp _ (.int _) H G (.refl H) (by rw [e]; rfl) R q⟩
end
theorem minR_congr {ds ds' : List D} {G : Gp} {Q : DQ} (h0 : ds = ds') : minR ds G Q = minR ds' G Q := by rw [h0]
theorem revD_congr {d d' : D} {G : Gp} {Q : DQ} (h0 : d = d') : revD d G Q = revD d' G Q := by rw [h0]
@[simp] theorem minR_int {i j : Int} {G Q} : minR [.int i, .int j] G Q = Q (.int (min i j)) G := (rfl)
def revO (o : Option DO) (G1 : Gp) (Q : DQ) : Prop := ∃ o', o = some o' ∧ lstO o' fun xs => ∀ p, Nw G1 p → Q (.ref p) (put G1 p (.lst xs.reverse))
theorem revO_congr {o o' : Option DO} {G : Gp} {Q : DQ} (h0 : o = o') : revO o G Q = revO o' G Q := by rw [h0]
@[simp] theorem revD_ref {a G Q} : revD (.ref a) G Q = revO (G a) G Q := (rfl)
@[simp] theorem revO_lst {xs G Q} : revO (some (.lst xs)) G Q = ∀ p, Nw G p → Q (.ref p) (put G p (.lst xs.reverse)) := by simp [revO, lstO]
@[simp ↓] theorem dRev_app {te sd G Q} : dRev te sd G Q = te sd G fun d G1 => revD d G1 Q := (rfl)
def parP3 (i j l : Nat) (ds : List D) (D : DEnds) (sd : SD) (G1 : Gp) : Prop := match ds with
  | [d, e, f] => D.nx (((sd.set i (some d)).set j (some e)).set l (some f)) G1
  | _ => False
@[simp ↓] theorem dPar3_app {i j l ta} {n r b c} {sd G} : dPar3 i j l ta ⟨n, r, b, c⟩ sd G = ta sd G fun ds G1 => parP3 i j l ds ⟨n, r, b, c⟩ sd G1 := (rfl)
@[simp ↓] theorem parP3_3 {i j l d e f} {n r b c} {sd G} : parP3 i j l [d, e, f] ⟨n, r, b, c⟩ sd G = n (((sd.set i (some d)).set j (some e)).set l (some f)) G := (rfl)
def tblP (tbl : List (Str × Option Str)) (d z : D) (G : Gp) (Q : DQ) : Prop := match d with
  | .str y => ∃ r, tbl.lookup y = some r ∧ Q (match r with | some s => .str s | none => z) G
  | _ => False
theorem tblP_congr {tbl : List (Str × Option Str)} {d d' z z' : D} {G : Gp} {Q : DQ} (h0 : d = d') (h1 : z = z') : tblP tbl d z G Q = tblP tbl d' z' G Q := by rw [h0, h1]
theorem tblP_some {tbl : List (Str × Option Str)} {y s : Str} {z : D} {G : Gp} {Q : DQ} (h : tbl.lookup y = some (some s)) : tblP tbl (.str y) z G Q = Q (.str s) G := by simp [tblP, h]
theorem tblP_none {tbl : List (Str × Option Str)} {y : Str} {z : D} {G : Gp} {Q : DQ} (h : tbl.lookup y = some none) : tblP tbl (.str y) z G Q = Q z G := by simp [tblP, h]
@[simp ↓] theorem dGetK_app {tbl te tf sd G Q} : dGetK tbl te tf sd G Q = te sd G fun d G1 => tf sd G1 fun z G2 => tblP tbl d z G2 Q := (rfl)
def inCP (neg : Bool) (zs : List Str) (d : D) (G : Gp) (Q : DQ) : Prop := dat 0 d = true ∧ Q (.bl ((zs.any fun z => peq (.str z) d) != neg)) G
theorem inCP_congr {neg : Bool} {zs : List Str} {d d' : D} {G : Gp} {Q : DQ} (h0 : d = d') : inCP neg zs d G Q = inCP neg zs d' G Q := by rw [h0]
@[simp] theorem inCP_str {neg zs y G Q} : inCP neg zs (.str y) G Q = Q (.bl ((zs.any fun z => decide (z = y)) != neg)) G := by simp [inCP, dat_str, peq_str]
@[simp ↓] theorem dInC_app {neg zs ta sd G Q} : dInC neg zs ta sd G Q = ta sd G fun d G1 => inCP neg zs d G1 Q := (rfl)
end DL
set_option Elab.async false
set_option linter.all false
set_option maxRecDepth 100000
set_option maxHeartbeats 4000000
namespace DL
open PySem PySem.Spec L2

/-! ### d == {} -/
section
open PyProof.Rows
variable {prog : Program} {w : World} {A : Around} {E : Value → Shared → Prop} {s : Shared} {a b : Addr} {es es' : Array DictEntry} {ep ep' : Nat}
theorem samePairsNil {nm : String} {Q : Bool → Shared → Prop} (ha : (a == sysModules) = false) (hb : (b == sysModules) = false) (ra : DT.Raw s.heap a es ep) (rb : DT.Raw s.heap b es' ep') (h0 : es'.size = 0) (h : Q (es.size == 0) s) :
    wpAny (model prog w) A (Builtin.Dict.samePairs nm a b) Q E s := by
  obtain ⟨oa, hoa, _, hda⟩ := ra
  obtain ⟨ob, hob, _, hdb⟩ := rb
  unfold Builtin.Dict.samePairs Builtin.Dict.showsAll
  rw [if_neg (show ¬ (a == sysModules) = true by rw [ha]; exact Bool.false_ne_true), if_neg (show ¬ (b == sysModules) = true by rw [hb]; exact Bool.false_ne_true)]
  refine wpAny_bind (wpAny_pure (wpAny_bind (wpAny_pure ?_)))
  refine wpAny_bind (wpAny_dictEntries hoa hda ?_)
  dsimp only
  refine wpAny_bind (wpAny_dictEntries hob hdb ?_)
  by_cases hsz : es.size = 0
  case neg =>
    rw [if_pos (by rw [h0]; simpa using hsz)]
    have hbf : (es.size == 0) = false := by simpa using hsz
    rw [hbf] at h
    exact wpAny_bind (wpAny_rule (wpAny_pure h))
  case pos =>
    have hbf : (es.size == 0) = true := by simpa using hsz
    rw [hbf] at h
    rw [if_neg (by rw [h0, hsz]; simp)]
    refine wpAny_bind (wpAny_dictEpoch hoa hda ?_)
    refine wpAny_bind ?_
    rw [Std.Legacy.Range.forIn_eq_forIn_range']
    simp only [Std.Legacy.Range.size, Nat.sub_zero, Nat.add_sub_cancel, Nat.div_one]
    refine wpAny_forIn_list _ (fun rest q s' => s' = s ∧ q = (none, ()) ∧ rest = []) _ ?_ ?_ _ _ ⟨rfl, rfl, by rw [hsz]; rfl⟩
    · rintro x rest q s' ⟨_, _, hr⟩
      cases hr
    · rintro q s' ⟨rfl, rfl, _⟩
      exact wpAny_pure h
theorem rcNil (ha : (a == sysModules) = false) (hb : (b == sysModules) = false) (ra : DT.Raw s.heap a es ep) (rb : DT.Raw s.heap b es' ep') (h0 : es'.size = 0) (hu : A.units < cLine) (E Q : Value → Shared → Prop) (h : Q (.bool (es.size == 0)) s) : wpAny (model prog w) A (richCompare .Eq (.ref a) (.ref b)) Q E s := by
  refine wpAny_richCompare_same_room (op := .Eq) ra.typeIs rb.typeIs PySem.F.slot_dict_eq (wpAny_call_entry PySem.F.slot_dict_eq ra.typeIs PySem.F.entry_dict_eq ?_ (PySem.F.args_dict_eq_2 _ _)) hu
  show wpAny _ _ (Builtin.Dict.dictSlotArgs "__eq__" ⟨[.ref a, .ref b], []⟩ >>= _) _ _ s
  refine wpAny_bind ?_
  unfold Builtin.Dict.dictSlotArgs
  refine wpAny_bind (wpAny_notOrdered_dict ra.typeIs ?_)
  show wpAny _ _ (pure (Value.ref a, Value.ref b)) _ _ s
  refine wpAny_pure ?_
  refine wpAny_bind (wpAny_isInstance (T := "dict") rb.typeIs PySem.F.sub_dict_dict ?_)
  simp only [Bool.not_true, Bool.false_eq_true, if_false]
  refine wpAny_bind (wpAny_pure (wpAny_bind (wpAny_pure ?_)))
  refine wpAny_bind (samePairsNil ha hb ra rb h0 ?_)
  refine wpAny_pure ⟨_, rfl, ?_, ?_⟩
  · exact fun x => nomatch x
  · simpa using h
end
section
variable {X : Cx} {B : Bx}
theorem raw_of {pins : List (Addr × Obj)} {σ : L2.St} {H : Hp} {s : Shared} {K : PySem.W.Frag} {B : Bx} {G : Gp} {a : Addr} {t : Bool} {kvs : List (D × D)} (I : L2.Inv X pins σ H s) (R : Rep X.K B H G) (g : G a = some (.dict t kvs) ∨ G a = some (.ldict t kvs)) :
    (a == sysModules) = false ∧ ∃ es ep, DT.Raw s.heap a es ep ∧ es.size = kvs.length := by
  cases t with
  | false =>
    obtain ⟨z, ks, h1, h2⟩ : kvs.length ≤ sizeLine ∧ ∃ ks : List (Key × V), Rd H a (.dK ks) ∧ kvs.map (·.1) = ks.map (fun k => kD k.1) := by
      rcases g with g | g
      · obtain ⟨z, ks, h1, h2, _⟩ := R.at_ a _ g
        exact ⟨z, ks, .inl h1, h2⟩
      · obtain ⟨z, ob, ks, h1, h2, _⟩ := R.at_ a _ g
        exact ⟨z, ks, .inr ⟨ob, h1⟩, h2⟩
    obtain ⟨z', lo, vs, rel, o, es, ep, ho, hx, hdat, _, hp, _⟩ := dk_rd I.hok h1
    have l1 : ks.length = vs.length := rel.length
    have l2 : kvs.length = ks.length := by simpa using congrArg List.length h2
    have l3 : es.toList.length = vs.length := hp.length
    exact ⟨lo, es, ep, ⟨o, ho, hx, hdat⟩, by rw [Array.length_toList] at l3; omega⟩
  | true =>
    obtain ⟨z, ks, h1, h2⟩ : kvs.length ≤ sizeLine ∧ ∃ ks : List (List Key × V), Rd H a (.dT ks) ∧ kvs.map (·.1) = ks.map (fun k => D.tup (k.1.map kD)) := by
      rcases g with g | g
      · obtain ⟨z, ks, h1, h2, _⟩ := R.at_ a _ g
        exact ⟨z, ks, .inl h1, h2⟩
      · obtain ⟨z, ob, ks, h1, h2, _⟩ := R.at_ a _ g
        exact ⟨z, ks, .inr ⟨ob, h1⟩, h2⟩
    obtain ⟨z', lo, xs', rel, o, es, ep, ho, hx, hdat, hes, his, hn⟩ := dt_rd I.hok h1
    have l1 : ks.length = xs'.length := Paired.length rel
    have l2 : kvs.length = ks.length := by simpa using congrArg List.length h2
    have l3 : es.size = xs'.length := size_of_entries hes
    exact ⟨lo, es, ep, ⟨o, ho, hx, hdat⟩, by omega⟩
def rDnil (K : PySem.W.Frag) : R2 := fun x y H Q => ∃ (B : Bx) (G : Gp) (a b : Addr) (t t' : Bool) (kvs : List (D × D)), x = .ref a ∧ y = .ref b ∧ Rep K B H G ∧ (G a = some (.dict t kvs) ∨ G a = some (.ldict t kvs)) ∧ G b = some (.dict t' []) ∧ Q (.bl kvs.isEmpty) H
theorem op_eq_dnil (hu : X.A.units < cLine) : OpR X (compareOp .Eq) (rDnil X.K) := by
  intro pins s σ H x y v u Q I rx ry h
  obtain ⟨B, G, a, b, t, t', kvs, rfl, rfl, R, g, gb, q⟩ := h
  obtain rfl : v = Value.ref a := rx
  obtain rfl : u = Value.ref b := ry
  obtain ⟨ya, es, ep, ra, la⟩ := raw_of (K := X.K) I R g
  obtain ⟨yb, es', ep', rb, lb⟩ := raw_of (K := X.K) I R (.inl gb)
  have e : (es.size == 0) = kvs.isEmpty := by rw [la]; cases kvs <;> simp
  exact rcNil ya yb ra rb (by simpa using lb) hu _ _ ⟨.bl kvs.isEmpty, H, I, by rw [e]; rfl, q⟩
/-- e == {} -/
def dEqNil (ta : DTE) : DTE := fun sd G Q => ta sd G fun d G1 => ∀ p, Nw G1 p → match d with
  | .ref a => ∃ t kvs, G1 a = some (.dict t kvs) ∧ Q (.bl kvs.isEmpty) (put G1 p (.dict false []))
  | _ => False
variable {e : Expr} {ta : DTE} {pos p : Pos}
theorem de_eqNil (hu : X.A.units + 64 < cLine) (ha : DE X B e ta) (hm : behindInMarks .Eq (.Dict [] [] p) = false := by rfl) : DE X B (.Compare e [.Eq] [.Dict [] [] p] pos) (dEqNil ta) := by
  obtain ⟨ta', pa, ha⟩ := ha.ex
  refine ⟨_, pe_cmpR (op_eq_dnil (by omega)) pa pe_dnewK hm, fun σ H sd G Q P hS R t hp => ?_⟩
  refine ha σ H sd G _ _ hS R t fun v d H1 G1 k1 r1 R1 q1 => fun p hn => ?_
  have q1 := q1 p (R1.gnone hn)
  cases d with
  | ref a =>
    cases r1
    obtain ⟨t, kvs, g, q1⟩ := q1
    have R2 : Rep X.K B (upd H1 p (.dK [])) (put G1 p (.dict false [])) := R1.laid (o := .dict false []) hn ⟨Nat.zero_le _, [], upd_same, rfl, rfl⟩
    refine ⟨B, _, a, p, t, false, kvs, rfl, rfl, R2, .inl ?_, put_same, hp _ (.bl _) _ _ (k1.trans (.fresh hn)) rfl R2 q1⟩
    rw [put_ne (ne_fr g (R1.gnone hn))]
    exact g
  | _ => exact (show False from q1).elim
theorem dt_eqNil (hu : X.A.units + 64 < cLine) (ha : DE X B e ta) (hm : behindInMarks .Eq (.Dict [] [] p) = false := by rfl) : DT X B (.Compare e [.Eq] [.Dict [] [] p] pos) (dTest (dEqNil ta)) := by
  obtain ⟨ta', pa, ha⟩ := ha.ex
  refine ⟨_, pt_cmpR (op_eq_dnil (by omega)) pa pe_dnewK hm, fun σ H sd G Q P hS R t hp => ?_⟩
  refine ha σ H sd G _ _ hS R t fun v d H1 G1 k1 r1 R1 q1 => fun p hn => ?_
  have q1 := q1 p (R1.gnone hn)
  cases d with
  | ref a =>
    cases r1
    obtain ⟨t, kvs, g, q1⟩ := q1
    have R2 : Rep X.K B (upd H1 p (.dK [])) (put G1 p (.dict false [])) := R1.laid (o := .dict false []) hn ⟨Nat.zero_le _, [], upd_same, rfl, rfl⟩
    refine ⟨B, _, a, p, t, false, kvs, rfl, rfl, R2, .inl ?_, put_same, (post_bl hp) _ (.bl _) _ _ (k1.trans (.fresh hn)) rfl R2 q1⟩
    rw [put_ne (ne_fr g (R1.gnone hn))]
    exact g
  | _ => exact (show False from q1).elim
end
def eqnD (d : D) (G1 : Gp) (p : Addr) (Q : DQ) : Prop := match d with
  | .ref a => ∃ t kvs, G1 a = some (.dict t kvs) ∧ Q (.bl kvs.isEmpty) (put G1 p (.dict false []))
  | _ => False
@[simp ↓] theorem dEqNil_app {ta sd G Q} : dEqNil ta sd G Q = ta sd G fun d G1 => ∀ p, Nw G1 p → eqnD d G1 p Q := (rfl)
def eqnO (o : Option DO) (G1 : Gp) (p : Addr) (Q : DQ) : Prop := ∃ t kvs, o = some (.dict t kvs) ∧ Q (.bl kvs.isEmpty) (put G1 p (.dict false []))
theorem eqnD_congr {d d' : D} {G : Gp} {p : Addr} {Q : DQ} (h0 : d = d') : eqnD d G p Q = eqnD d' G p Q := by rw [h0]
theorem eqnO_congr {o o' : Option DO} {G : Gp} {p : Addr} {Q : DQ} (h0 : o = o') : eqnO o G p Q = eqnO o' G p Q := by rw [h0]
@[simp] theorem eqnD_ref {a G p Q} : eqnD (.ref a) G p Q = eqnO (G a) G p Q := (rfl)
@[simp] theorem eqnO_is {t kvs G p Q} : eqnO (some (.dict t kvs)) G p Q = Q (.bl kvs.isEmpty) (put G p (.dict false [])) :=
  propext ⟨fun ⟨_, _, e, h⟩ => by cases e; exact h, fun h => ⟨_, _, rfl, h⟩⟩
end DL
set_option Elab.async false
set_option linter.all false
set_option maxRecDepth 100000
set_option maxHeartbeats 4000000
/-! x in d.values() -/
namespace DL
open PySem PySem.Spec L2
theorem plain_ci : plainId "proto.contains_iter" = true := by decide +kernel
theorem entry_ci : entryFor table "proto.contains_iter" = some Builtin.«proto.contains_iter» := entryFor_of_fast (by kernel_rfl)
theorem noslot_vals : typeLookup (.type "dict_values") "__contains__" = pure none := by
  first | kernel_rfl | (unfold typeLookup; kernel_rfl)
def valuesO (p d : Addr) : HO := .ext fun h => h.IsValuesView p d
theorem valuesO_ok {P : Program} {w : World} {H : Hp} {h : Heap} {p d : Addr} (e : h.get? p = some { cls := .type "dict_values", data := .fields #[.ref d] }) : ObjOk P w H h p (valuesO p d) :=
  ⟨⟨_, e, rfl, rfl⟩, ⟨_, e⟩, fun h1 h2 q k => by
    obtain ⟨o, e1, e2⟩ := q
    exact ⟨o, k _ e1, e2⟩⟩
def rValsK : V → List V → Hp → VK → Prop := fun x xs H Q => ∃ (a : Addr) (kvs : List (Key × V)), x = .ref a ∧ xs = [] ∧ H a = some (.dK kvs) ∧ ∀ p, H p = none → Q (.ref p) (upd H p (valuesO p a))
section
variable {X : Cx} {B : Bx}
theorem mt_valsK : MtR X "dict.values" rValsK := by
  intro pins s σ H x xs v us Q I rx rxs h
  obtain ⟨a, kvs, rfl, rfl, ha, q⟩ := h
  cases rx
  cases rxs
  obtain ⟨z, hd, vs, kv, dd⟩ := dk_of I.hok ha
  refine call_meetsIn PySem.F.slot_dict_values dd.typeIs PySem.F.entry_dict_values (PySem.F.args_dict_values_1 _) (meets_dict_values (mixKind X.prog X.w) a hd) ⟨⟨vs, dd⟩, ?_⟩
  have hf : H s.heap.objs.size = none := I.hok.fresh (Nat.le_refl _)
  exact ⟨.ref s.heap.objs.size, upd H s.heap.objs.size (valuesO s.heap.objs.size a), I.laid (t' := s.toks) (fun b u e => Heap.get?_push_of_some _ e) (Nat.le_refl _) (valuesO_ok (Heap.get?_push_size _ rfl)), rfl, q _ hf⟩
theorem ci_loop {pins : List (Addr × Obj)} {σ : L2.St} {H : Hp} {it d : Addr} {x : Value} {y : V} {pd : PyData} {kvs : List (Key × V)} {ds : List PyData} {vs : List (Key × Value)} {ep : Nat} {A : Around} {R : Result → Shared → Prop}
    (hf : FpOk X pins H it) (hd : H d = some (.dK kvs)) (kv : KV kvs vs) (ry : RelV y x) (dy : Dp X.K H y pd) (sy : SeqAt.shaped pd = true)
    (hv : ∀ (i : Nat) (k : Key) (v : V), kvs[i]? = some (k, v) → ∃ p, ds[i]? = some p ∧ Dp X.K H v p ∧ SeqAt.shaped p = true) (hl : ds.length = kvs.length) (hh : A.handled = none) (hu : A.units + 65 < cLine) :
    ∀ (m i : Nat) (s : Shared), kvs.length - i = m → Inv X pins σ H s → s.heap.IsValIter it d i kvs.length ep → s.heap.DictAt (mixKind X.prog X.w) d vs ep →
      (∀ s', Inv X pins σ H s' → R (.ok (.ret (.bool ((ds.drop i).any fun z => PyData.eqv z pd)))) s') →
      wpAny (model X.prog X.w) A.in1 (Builtin.«proto.contains_iter» ⟨[.ref it, x], []⟩) (fun fin s' => match fin with | .done f => R (.ok f) s' | .again c' => c'.quiet = true ∧ codeAny (model X.prog X.w) A c' R s') (fun e s' => R (.error e) s') s := by
  intro m
  induction m with
  | zero =>
    intro i s hm I st da q
    have hlv : kvs.length = vs.length := Paired.length kv
    obtain ⟨f0, f1, f2, f3, f4, f5⟩ := hf
    unfold Builtin.«proto.contains_iter»
    rw [hlv] at st
    refine wpAny_bind (wpAny_pyNext_values_end hh st da (by rw [List.getElem?_eq_none_iff]; omega) fun h' eb => ?_)
    have I1 : Inv X pins σ H { s with heap := h' } := I.turned (t' := s.toks) (fun b o hb e => eb b o hb e) f0 f1 f3 f4 f5
    have hdr : ds.drop i = [] := List.drop_eq_nil_of_le (by omega)
    have := q _ I1
    rw [hdr] at this
    exact wpAny_bind (wpAny_rule (wpAny_pure this))
  | succ m ih =>
    intro i s hm I st da q
    have hlv : kvs.length = vs.length := Paired.length kv
    have hf' := hf
    obtain ⟨f0, f1, f2, f3, f4, f5⟩ := hf
    obtain ⟨⟨k, v⟩, hkv⟩ : ∃ p, kvs[i]? = some p := ⟨_, List.getElem?_eq_getElem (show i < kvs.length by omega)⟩
    obtain ⟨u, hu', ru⟩ := kv_get kv hkv
    obtain ⟨p, hp, dp, sp⟩ := hv i k v hkv
    unfold Builtin.«proto.contains_iter»
    rw [hlv] at st
    refine wpAny_bind (wpAny_pyNext_values_item st da hu' fun h' st' sb => ?_)
    have I1 : Inv X pins σ H { s with heap := h' } := I.turned (t' := s.toks) (fun b ob hb e => (sb.2 b hb).trans e) f0 f1 f3 f4 f5
    have hne : d ≠ it := fun z => by rw [z, f0] at hd; cases hd
    have da' : ({ s with heap := h' } : Shared).heap.DictAt (mixKind X.prog X.w) d vs ep := by
      obtain ⟨o, es, ho, rest⟩ := da
      exact ⟨o, es, (sb.2 d hne).trans ho, rest⟩
    rw [← hlv] at st'
    obtain ⟨as, r1⟩ := Dp.reads I1 p v u dp ru
    obtain ⟨bs, r2⟩ := Dp.reads I1 pd y x dy ry
    have hmin : A.in1.units + min p.depth pd.depth < cLine := by
      have := SeqAt.depth_of_shaped sp
      show A.units + 1 + min p.depth pd.depth < cLine
      omega
    refine wpAny_bind (SeqAt.eqAt_reads p pd A.in1 _ _ _ _ _ r1 r2 (SeqAt.canLay_of_shaped sp) (SeqAt.canLay_of_shaped sy) hmin _ _ _ _ ?_)
    have hdr : ds.drop i = p :: ds.drop (i + 1) := drop_at hp
    rw [hdr] at q
    cases hb : PyData.eqv p pd with
    | true =>
      have := q _ I1
      simp only [List.any_cons, hb, Bool.true_or] at this
      exact wpAny_bind (wpAny_rule (wpAny_pure this))
    | false =>
      simp only [List.any_cons, hb, Bool.false_or] at q
      exact wpAny_pure ⟨plainId_quiet plain_ci _, codeAny_builtin entry_ci (by
        rw [Around.under_plainId plain_ci _]
        exact ih (i + 1) _ (by omega) I1 st' da' q)⟩
/-- x in d.values() -/
def rInVals (K : PySem.W.Frag) (neg : Bool) : R2 := fun y v H Q => ∃ (p d : Addr) (kvs : List (Key × V)) (pd : PyData) (ds : List PyData), v = .ref p ∧ H p = some (valuesO p d) ∧ H d = some (.dK kvs) ∧ Dp K H y pd ∧ SeqAt.shaped pd = true ∧ ds.length = kvs.length ∧
  (∀ (i : Nat) (k : Key) (v : V), kvs[i]? = some (k, v) → ∃ p, ds[i]? = some p ∧ Dp K H v p ∧ SeqAt.shaped p = true) ∧ Q (.bl ((ds.any fun z => PyData.eqv z pd) != neg)) H
theorem contains_vals (hc : X.calm = true) (hu : X.A.units + 65 < cLine) {pins : List (Addr × Obj)} {s : Shared} {σ : L2.St} {H : Hp} {y : V} {x : Value} {p d : Addr} {kvs : List (Key × V)} {pd : PyData} {ds : List PyData} {Q : Bool → Shared → Prop} (I : Inv X pins σ H s) (ry : RelV y x)
    (hp : H p = some (valuesO p d)) (hd : H d = some (.dK kvs)) (dy : Dp X.K H y pd) (sy : SeqAt.shaped pd = true) (hl : ds.length = kvs.length)
    (hv : ∀ (i : Nat) (k : Key) (v : V), kvs[i]? = some (k, v) → ∃ p, ds[i]? = some p ∧ Dp X.K H v p ∧ SeqAt.shaped p = true) (q : ∀ s', Inv X pins σ H s' → Q (ds.any fun z => PyData.eqv z pd) s') :
    wpAny (model X.prog X.w) X.A (contains (.ref p) x) Q X.xe s := by
  have view : s.heap.IsValuesView p d := (show ObjOk X.prog X.w H s.heap p (valuesO p d) from I.hok p _ hp).1
  have hT := view.typeIs (s := s)
  obtain ⟨z, hds, vs, kv, ⟨o, es, ep, ho, hx, hdat, hr⟩⟩ := dk_of I.hok hd
  have da : s.heap.DictAt (mixKind X.prog X.w) d vs ep := ⟨o, es, ho, hx, hdat, hr⟩
  unfold contains
  refine wpAny_holding ?_
  rw [stdlibNamesSay?_of_typeIs hT]
  refine wpAny_bind (wpAny_specialOf hT noslot_vals ?_)
  show wpAny _ _ (if ((none : Option Value) == some Value.none) = true then _ else _) _ _ s
  rw [if_neg (by simp)]
  refine wpAny_bind (wpAny_callSpecialUnlessNone?_none hT noslot_vals ?_)
  refine wpAny_bind (wpAny_rule ?_)
  refine wpAny_bind (wpAny_tryCatch (wpAny_pyIter_values view da ?_))
  have hlv : kvs.length = vs.length := Paired.length kv
  have I2 : Inv X pins σ H { s with heap := s.heap.push { cls := .type "dict_valueiterator", data := .fields #[.ref d, .int 0 0, .int vs.length 0, .int ep 0] } } := I.kept (t' := s.toks) fun b ob q => Heap.get?_push_of_some _ q
  refine wpAny_bind (wpAny_runValue (codeAny_builtin entry_ci ?_))
  rw [Around.under_plainId plain_ci _]
  refine wpAny_mono (ci_loop (R := fun r s' => match r with
    | .ok (.ret v) => wpAny (model X.prog X.w) X.A (match v with
      | .bool b => pure b
      | _ => unsupported "internal:contains") Q X.xe s'
    | .ok _ => False
    | .error e => X.xe e s') (it := s.heap.objs.size) (d := d) (vs := vs) (ep := ep) (I.fpOk (Nat.le_refl _) (I.hok.fresh (Nat.le_refl _))) hd kv ry dy sy hv hl (I.ok.hd hc) hu kvs.length 0 _ (by omega) I2 ?_ (da.push _) fun s' I' => ?_) (fun fin s' h => by cases fin <;> exact h) fun e s' h => h
  · rw [hlv]
    exact ⟨_, Heap.get?_push_size _ rfl, rfl, rfl⟩
  · exact wpAny_pure (q s' I')
theorem op_in_vals (hc : X.calm = true) (hu : X.A.units + 65 < cLine) : OpR X (compareOp .In) (rInVals X.K false) := by
  intro pins s σ H x y v u Q I rx ry h
  obtain ⟨p, d, kvs, pd, ds, rfl, hp, hd, dy, sy, hl, hv, q⟩ := h
  obtain rfl : u = Value.ref p := ry
  show wpAny _ _ (do return Value.bool (← contains (Value.ref p) v)) _ _ s
  exact wpAny_bind (contains_vals hc hu I rx hp hd dy sy hl hv fun s' I' => wpAny_pure ⟨.bl _, H, I', rfl, by simpa using q⟩)
theorem op_notIn_vals (hc : X.calm = true) (hu : X.A.units + 65 < cLine) : OpR X (compareOp .NotIn) (rInVals X.K true) := by
  intro pins s σ H x y v u Q I rx ry h
  obtain ⟨p, d, kvs, pd, ds, rfl, hp, hd, dy, sy, hl, hv, q⟩ := h
  obtain rfl : u = Value.ref p := ry
  show wpAny _ _ (do return Value.bool (!(← contains (Value.ref p) v))) _ _ s
  exact wpAny_bind (contains_vals hc hu I rx hp hd dy sy hl hv fun s' I' => wpAny_pure ⟨.bl (!_), H, I', rfl, by simpa using q⟩)
/-- e in d.values() -/
def dInVals (neg : Bool) (ta td : DTE) : DTE := fun sd G Q => ta sd G fun e G1 => td sd G1 fun d G2 => match d with
  | .ref a => ∃ kvs, G2 a = some (.dict false kvs) ∧ (kvs.all (fun kv => dat 20 kv.2) && dat 20 e) = true ∧ Q (.bl ((kvs.any fun kv => peq kv.2 e) != neg)) G2
  | _ => False
theorem in_vals_at {K : PySem.W.Frag} {H : Hp} {G : Gp} {e : D} {a : Addr} {y : V} {kvs : List (D × D)} (r : Rel H e y) (R : Rep K B H G) (g : G a = some (.dict false kvs)) (h : (kvs.all (fun kv => dat 20 kv.2) && dat 20 e) = true) {p : Addr} (hp : H p = none) {P : VK} {neg : Bool} (q : P (.bl ((kvs.any fun kv => peq kv.2 e) != neg)) (upd H p (valuesO p a))) :
    ∃ ks : List (Key × V), H a = some (.dK ks) ∧ rInVals K neg y (.ref p) (upd H p (valuesO p a)) P := by
  obtain ⟨z1, z2⟩ := Bool.and_eq_true_iff.mp h
  rw [List.all_eq_true] at z1
  obtain ⟨z, ks, h1, h2, h3⟩ := R.at_ a _ g
  have hne : a ≠ p := fun z => by rw [z, hp] at h1; cases h1
  have k : Kp H (upd H p (valuesO p a)) := .fresh hp
  obtain ⟨d1, d2⟩ := dat_dp' (K := K) z2 (r.mono k)
  have hl : kvs.length = ks.length := by simpa using congrArg List.length h2
  refine ⟨ks, h1, p, a, ks, toPD e, kvs.map (fun kv => toPD kv.2), rfl, upd_same, by rw [upd_ne hne]; exact h1, d1, d2, by simp [hl], fun i key v hi => ?_, ?_⟩
  · have hi' : i < kvs.length := by have := (List.getElem?_eq_some_iff.mp hi).1; omega
    have e1 : (kvs.map (·.2))[i]? = some (kvs[i].2) := by rw [List.getElem?_map, List.getElem?_eq_getElem hi']; rfl
    obtain ⟨v', e2, rv⟩ := h3.get i e1
    rw [List.getElem?_map, hi] at e2
    cases e2
    obtain ⟨c1, c2⟩ := dat_dp' (K := K) (z1 _ (List.getElem_mem hi')) (rv.mono k)
    exact ⟨_, by rw [List.getElem?_map, List.getElem?_eq_getElem hi']; rfl, c1, c2⟩
  · rw [List.any_map]
    exact q
variable {e o : Expr} {ta td : DTE} {pos apos cpos : Pos}
theorem de_inVals (hc : X.calm = true) (hu : X.A.units + 65 < cLine) (ha : DE X B e ta) (hd : DE X B o td)
    (hbase : attributeBase o "values" X.env (eval o X.env) = eval o X.env := by rfl) (hline : (apos.endLine == cpos.line) = true := by rfl) (hm : behindInMarks .In (.Call (.Attribute o "values" apos) [] [] cpos) = false := by first | exact nobehind _ (by decide) (by decide) | rfl) :
    DE X B (.Compare e [.In] [.Call (.Attribute o "values" apos) [] [] cpos] pos) (dInVals false ta td) := by
  obtain ⟨ta', pa, ha⟩ := ha.ex
  obtain ⟨td', pd, hd⟩ := hd.ex
  refine ⟨_, pe_cmpR (op_in_vals hc hu) pa (pe_bm0 PySem.F.plainAttrs_dict PySem.F.slot_dict_values PySem.F.type_dict_values mt_valsK pd hbase hline) hm, fun σ H sd G Q P hS R t hp => ?_⟩
  refine ha σ H sd G _ _ hS R t fun v d H1 G1 k1 r1 R1 q1 => ?_
  refine hd σ H1 sd G1 _ _ (hS.mono k1) R1 q1 fun v2 d2 H2 G2 k2 r2 R2 q2 => ?_
  cases d2 with
  | ref a =>
    cases r2
    obtain ⟨kvs, g, z, q⟩ := q2
    obtain ⟨_, ks, h1, _⟩ := R2.at_ a _ g
    refine ⟨?_, a, ks, rfl, rfl, h1, fun p hn => ?_⟩
    · exact .inr (.inr (.inl ⟨rfl, .inl ⟨_, h1⟩⟩))
    · exact (in_vals_at (r1.mono k2) R2 g z hn (hp _ (.bl _) _ G2 ((k1.trans k2).trans (.fresh hn)) rfl (R2.fresh hn) q)).choose_spec.2
  | _ => exact (show False from q2).elim
theorem dt_inVals (hc : X.calm = true) (hu : X.A.units + 65 < cLine) (ha : DE X B e ta) (hd : DE X B o td)
    (hbase : attributeBase o "values" X.env (eval o X.env) = eval o X.env := by rfl) (hline : (apos.endLine == cpos.line) = true := by rfl) (hm : behindInMarks .In (.Call (.Attribute o "values" apos) [] [] cpos) = false := by first | exact nobehind _ (by decide) (by decide) | rfl) :
    DT X B (.Compare e [.In] [.Call (.Attribute o "values" apos) [] [] cpos] pos) (dTest (dInVals false ta td)) := by
  obtain ⟨ta', pa, ha⟩ := ha.ex
  obtain ⟨td', pd, hd⟩ := hd.ex
  refine ⟨_, pt_cmpR (op_in_vals hc hu) pa (pe_bm0 PySem.F.plainAttrs_dict PySem.F.slot_dict_values PySem.F.type_dict_values mt_valsK pd hbase hline) hm, fun σ H sd G Q P hS R t hp => ?_⟩
  refine ha σ H sd G _ _ hS R t fun v d H1 G1 k1 r1 R1 q1 => ?_
  refine hd σ H1 sd G1 _ _ (hS.mono k1) R1 q1 fun v2 d2 H2 G2 k2 r2 R2 q2 => ?_
  cases d2 with
  | ref a =>
    cases r2
    obtain ⟨kvs, g, z, q⟩ := q2
    obtain ⟨_, ks, h1, _⟩ := R2.at_ a _ g
    refine ⟨?_, a, ks, rfl, rfl, h1, fun p hn => ?_⟩
    · exact .inr (.inr (.inl ⟨rfl, .inl ⟨_, h1⟩⟩))
    · exact (in_vals_at (r1.mono k2) R2 g z hn ((post_bl hp) _ (.bl _) _ G2 ((k1.trans k2).trans (.fresh hn)) rfl (R2.fresh hn) q)).choose_spec.2
  | _ => exact (show False from q2).elim
theorem de_notInVals (hc : X.calm = true) (hu : X.A.units + 65 < cLine) (ha : DE X B e ta) (hd : DE X B o td)
    (hbase : attributeBase o "values" X.env (eval o X.env) = eval o X.env := by rfl) (hline : (apos.endLine == cpos.line) = true := by rfl) (hm : behindInMarks .NotIn (.Call (.Attribute o "values" apos) [] [] cpos) = false := by first | exact nobehind _ (by decide) (by decide) | rfl) :
    DE X B (.Compare e [.NotIn] [.Call (.Attribute o "values" apos) [] [] cpos] pos) (dInVals true ta td) := by
  obtain ⟨ta', pa, ha⟩ := ha.ex
  obtain ⟨td', pd, hd⟩ := hd.ex
  refine ⟨_, pe_cmpR (op_notIn_vals hc hu) pa (pe_bm0 PySem.F.plainAttrs_dict PySem.F.slot_dict_values PySem.F.type_dict_values mt_valsK pd hbase hline) hm, fun σ H sd G Q P hS R t hp => ?_⟩
  refine ha σ H sd G _ _ hS R t fun v d H1 G1 k1 r1 R1 q1 => ?_
  refine hd σ H1 sd G1 _ _ (hS.mono k1) R1 q1 fun v2 d2 H2 G2 k2 r2 R2 q2 => ?_
  cases d2 with
  | ref a =>
    cases r2
    obtain ⟨kvs, g, z, q⟩ := q2
    obtain ⟨_, ks, h1, _⟩ := R2.at_ a _ g
    refine ⟨?_, a, ks, rfl, rfl, h1, fun p hn => ?_⟩
    · exact .inr (.inr (.inl ⟨rfl, .inl ⟨_, h1⟩⟩))
    · exact (in_vals_at (r1.mono k2) R2 g z hn (hp _ (.bl _) _ G2 ((k1.trans k2).trans (.fresh hn)) rfl (R2.fresh hn) q)).choose_spec.2
  | _ => exact (show False from q2).elim
theorem dt_notInVals (hc : X.calm = true) (hu : X.A.units + 65 < cLine) (ha : DE X B e ta) (hd : DE X B o td)
    (hbase : attributeBase o "values" X.env (eval o X.env) = eval o X.env := by rfl) (hline : (apos.endLine == cpos.line) = true := by rfl) (hm : behindInMarks .NotIn (.Call (.Attribute o "values" apos) [] [] cpos) = false := by first | exact nobehind _ (by decide) (by decide) | rfl) :
    DT X B (.Compare e [.NotIn] [.Call (.Attribute o "values" apos) [] [] cpos] pos) (dTest (dInVals true ta td)) := by
  obtain ⟨ta', pa, ha⟩ := ha.ex
  obtain ⟨td', pd, hd⟩ := hd.ex
  refine ⟨_, pt_cmpR (op_notIn_vals hc hu) pa (pe_bm0 PySem.F.plainAttrs_dict PySem.F.slot_dict_values PySem.F.type_dict_values mt_valsK pd hbase hline) hm, fun σ H sd G Q P hS R t hp => ?_⟩
  refine ha σ H sd G _ _ hS R t fun v d H1 G1 k1 r1 R1 q1 => ?_
  refine hd σ H1 sd G1 _ _ (hS.mono k1) R1 q1 fun v2 d2 H2 G2 k2 r2 R2 q2 => ?_
  cases d2 with
  | ref a =>
    cases r2
    obtain ⟨kvs, g, z, q⟩ := q2
    obtain ⟨_, ks, h1, _⟩ := R2.at_ a _ g
    refine ⟨?_, a, ks, rfl, rfl, h1, fun p hn => ?_⟩
    · exact .inr (.inr (.inl ⟨rfl, .inl ⟨_, h1⟩⟩))
    · exact (in_vals_at (r1.mono k2) R2 g z hn ((post_bl hp) _ (.bl _) _ G2 ((k1.trans k2).trans (.fresh hn)) rfl (R2.fresh hn) q)).choose_spec.2
  | _ => exact (show False from q2).elim
end
def invD (neg : Bool) (e d : D) (G2 : Gp) (Q : DQ) : Prop := match d with
  | .ref a => ∃ kvs, G2 a = some (.dict false kvs) ∧ (kvs.all (fun kv => dat 20 kv.2) && dat 20 e) = true ∧ Q (.bl ((kvs.any fun kv => peq kv.2 e) != neg)) G2
  | _ => False
def invO (neg : Bool) (e : D) (o : Option DO) (G2 : Gp) (Q : DQ) : Prop := ∃ kvs, o = some (.dict false kvs) ∧ (kvs.all (fun kv => dat 20 kv.2) && dat 20 e) = true ∧ Q (.bl ((kvs.any fun kv => peq kv.2 e) != neg)) G2
@[simp ↓] theorem dInVals_app {neg ta td sd G Q} : dInVals neg ta td sd G Q = ta sd G fun e G1 => td sd G1 fun d G2 => invD neg e d G2 Q := (rfl)
@[simp] theorem invD_ref {neg e a G2 Q} : invD neg e (.ref a) G2 Q = invO neg e (G2 a) G2 Q := (rfl)
@[simp] theorem invO_is {neg e kvs G2 Q} : invO neg e (some (.dict false kvs)) G2 Q = ((kvs.all (fun kv => dat 20 kv.2) && dat 20 e) = true ∧ Q (.bl ((kvs.any fun kv => peq kv.2 e) != neg)) G2) := propext ⟨fun ⟨_, e, h⟩ => by cases e; exact h, fun h => ⟨_, rfl, h⟩⟩
end DL
set_option Elab.async false
set_option linter.all false
set_option maxRecDepth 100000
set_option maxHeartbeats 4000000
/-! zip of a tuple and a text, of a text and a list -/
namespace DL
open PySem PySem.Spec PyProof.Rows L2
def ItG (G1 G2 : List V → Hp → Prop) : It :=
  ⟨fun i H => ∃ xs ys, G1 xs H ∧ G2 ys H ∧ i < xs.length ∧ i < ys.length,
   fun i H v H' => ∃ T x y, v = .ref T ∧ H T = none ∧ H' = upd H T (.tup [x, y]) ∧ (∀ xs, G1 xs H → xs[i]? = some x) ∧ ∀ ys, G2 ys H → ys[i]? = some y,
   fun i H => ∃ xs ys, G1 xs H ∧ G2 ys H ∧ (i = xs.length ∨ i = ys.length) ∧ i ≤ xs.length ∧ i ≤ ys.length⟩
/-- one side of a zip -/
structure Side (P : Program) (w : World) (K : PySem.W.Frag) (it : Addr) (fp : List Addr) (Gd : List V → Hp → Prop) (Pv : List V → Nat → Value → Prop) (St : List V → Nat → Heap → Prop) (T : Nat → Heap → Prop) : Prop where
  draws : ∀ (xs : List V) (A : Around), A.handled = none → Draws P w A it fp xs.length (Pv xs) (St xs)
  rel : ∀ xs i u, Pv xs i u → ∃ x, xs[i]? = some x ∧ RelV x u
  up : ∀ (X : Cx) (pins : List (Addr × Obj)) (σ : L2.St) (H : Hp) (s : Shared) (i : Nat) (xs : List V), X.prog = P → X.w = w → X.K = K → Inv X pins σ H s → Gd xs H → T i s.heap → St xs i s.heap
  inj : ∀ (X : Cx) (pins : List (Addr × Obj)) (σ : L2.St) (H : Hp) (s : Shared) (xs ys : List V), X.prog = P → X.w = w → X.K = K → Inv X pins σ H s → Gd xs H → Gd ys H → xs = ys
  dn : ∀ xs i h, St xs i h → T i h
  at_ : ∀ i h h', T i h → (∀ o, h.get? it = some o → h'.get? it = some o) → T i h'
  obj : ∀ i h, T i h → ∃ o, h.get? it = some o ∧ ∀ v, o.data ≠ .cell v
theorem turn_zipG {P : Program} {w : World} {K : PySem.W.Frag} {elts : List Expr} {kk : Nat} {tpos : Pos} {z TI TO i1 i2 : Addr} {fp1 fp2 : List Addr} {G1 G2 : List V → Hp → Prop} {P1 P2 : List V → Nat → Value → Prop} {St1 St2 : List V → Nat → Heap → Prop} {T1 T2 : Nat → Heap → Prop}
    (D : ZipSep2 z TI TO i1 i2 fp1 fp2) (A1 : Side P w K i1 fp1 G1 P1 St1 T1) (A2 : Side P w K i2 fp2 G2 P2 St2 T2) (hii : i1 ≠ i2) :
    Turn P w K (.Tuple elts kk tpos) (ItG G1 G2) [z, TI, TO, i1, i2] z (fun i h => IsZip h z TI TO .none ∧ IsTupOf2 h TI (.ref i1) (.ref i2) ∧ (∃ x y, IsTupOf2 h TO x y) ∧ T1 i h ∧ T2 i h) where
  mem := by simp
  obj := fun i h st c hc => by
    obtain ⟨hz, hTI, ⟨x, y, hTO⟩, h1, h2⟩ := st
    have e' : c = z ∨ c = TI ∨ c = TO ∨ c = i1 ∨ c = i2 := by simpa using hc
    rcases e' with q | q | q | q | q
    · rw [q]; exact ⟨_, hz, fun v q => nomatch q⟩
    · rw [q]; exact ⟨_, hTI, fun v q => nomatch q⟩
    · rw [q]; exact ⟨_, hTO, fun v q => nomatch q⟩
    · rw [q]; exact A1.obj i h h1
    · rw [q]; exact A2.obj i h h2
  keep := fun i h h' st k => by
    obtain ⟨hz, hTI, ⟨x, y, hTO⟩, h1, h2⟩ := st
    exact ⟨k z (by simp) _ hz, k TI (by simp) _ hTI, ⟨x, y, k TO (by simp) _ hTO⟩, A1.at_ i h h' h1 fun o q => k i1 (by simp) o q, A2.at_ i h h' h2 fun o q => k i2 (by simp) o q⟩
  item := by
    intro X hP hw hK hc i pins s σ H E I hf st hg
    subst hP hw hK
    obtain ⟨hz, hTI, ⟨x0, y0, hTO⟩, h1, h2⟩ := st
    obtain ⟨xs, ys, g1, g2, l1, l2⟩ := hg
    have hh : X.A.in1.handled = none := I.ok.hd hc
    have hzl : z < s.heap.objs.size := Heap.lt_size hz
    refine wpAny_pyNext_zipD2_item D (A1.draws xs _ hh) (A2.draws ys _ hh) hz hTI hTO (A1.up X pins σ H s i xs rfl rfl rfl I g1 h1) (A2.up X pins σ H s i ys rfl rfl rfl I g2 h2) l1 l2 fun u u2 h' tk p1 p2 z' TO' s1 s2 hT hsz hk => ?_
    obtain ⟨x, hx, ru⟩ := A1.rel xs i u p1
    obtain ⟨y, hy, ru2⟩ := A2.rel ys i u2 p2
    refine ⟨_, rfl, wpAny_letOwnedTupleGo_zip (s := { s with heap := h', toks := tk }) z' fun h'' z'' sb => ?_⟩
    have hT2 : h''.get? s.heap.objs.size = some { cls := .type "tuple", data := .seq #[u, u2] } := (sb.2 _ (Nat.ne_of_gt hzl)).trans hT
    have new : ObjOk X.prog X.w (upd H s.heap.objs.size (.tup [x, y])) h'' s.heap.objs.size (.tup [x, y]) :=
      ⟨by show 2 ≤ sizeLine; decide, [u, u2], .cons ru (.cons ru2 .nil), ⟨_, hT2, rfl, _, rfl⟩⟩
    have I1 : Inv X pins σ (upd H s.heap.objs.size (.tup [x, y])) { s with heap := h'', toks := tk } :=
      I.turnedNew (t' := tk) (ch := [z, TI, TO, i1, i2]) (fun c o hb q => (sb.2 c (fun q' => hb (by simp [q']))).trans (hk c o (fun q' => hb (by simp [q'])) (fun q' => hb (by simp [q'])) (fun q' => hb (by simp [q'])) (fun q' => hb (by simp [q'])) q)) hf (Nat.le_refl _) new
    refine ⟨.ref s.heap.objs.size, _, I1, rfl, ⟨_, x, y, rfl, I.hok.fresh (Nat.le_refl _), rfl, fun l hl => by rw [A1.inj X pins σ H s l xs rfl rfl rfl I hl g1]; exact hx, fun l hl => by rw [A2.inj X pins σ H s l ys rfl rfl rfl I hl g2]; exact hy⟩, ⟨z'', ?_, ⟨u, u2, ?_⟩, ?_, ?_⟩, fun c hcm => ?_⟩
    · exact (sb.2 _ D.TIz).trans (hk _ _ D.TIz D.TITO D.TIi1 D.TIi2 hTI)
    · exact (sb.2 _ D.TOz).trans TO'
    · exact A1.at_ _ _ _ (A1.dn _ _ _ s1) fun o q => (sb.2 _ (Ne.symm D.zi1)).trans q
    · exact A2.at_ _ _ _ (A2.dn _ _ _ s2) fun o q => (sb.2 _ (Ne.symm D.zi2)).trans q
    · have hlt : c < s.heap.objs.size := by
        have e' : c = z ∨ c = TI ∨ c = TO ∨ c = i1 ∨ c = i2 := by simpa using hcm
        rcases e' with q | q | q | q | q
        · rw [q]; exact hzl
        · rw [q]; exact Heap.lt_size hTI
        · rw [q]; exact Heap.lt_size hTO
        · rw [q]; obtain ⟨_, e1, _⟩ := A1.obj i _ h1; exact Heap.lt_size e1
        · rw [q]; obtain ⟨_, e1, _⟩ := A2.obj i _ h2; exact Heap.lt_size e1
      rw [upd_ne (Nat.ne_of_lt hlt)]
      exact (hf c hcm).1
  done := by
    intro X hP hw hK hc i pins s σ H E I hf st hg
    subst hP hw hK
    obtain ⟨hz, hTI, ⟨x0, y0, hTO⟩, h1, h2⟩ := st
    obtain ⟨xs, ys, g1, g2, he, l1, l2⟩ := hg
    have hh : X.A.in1.handled = none := I.ok.hd hc
    exact wpAny_pyNext_zipD2_end D (A1.draws xs _ hh) (A2.draws ys _ hh) hz hTI hTO (A1.up X pins σ H s i xs rfl rfl rfl I g1 h1) (A2.up X pins σ H s i ys rfl rfl rfl I g2 h2) l1 l2 he fun h' tk hk => ⟨rfl, I.turnedL (t' := tk) (ch := [z, TI, TO, i1, i2]) (fun c o hb q =>
      hk c o (fun q' => hb (by simp [q'])) (fun q' => hb (by simp [q'])) (fun q' => hb (by simp [q'])) (fun q' => hb (by simp [q'])) q) hf⟩
  self := fun A i s Q E st h => wpAny_pyIter_zip st.1 h
/-! ### sides -/
def signsV (x : Str) : List V := x.cps.toList.map fun c => .str ⟨#[c]⟩
theorem side_text {P : Program} {w : World} {K : PySem.W.Frag} {it : Addr} {x : Str} {t : Tok} : Side P w K it [it] (fun xs _ => xs = signsV x) (fun xs i v => xs = signsV x ∧ ∃ c u, x.cps[i]? = some c ∧ v = .str ⟨#[c]⟩ u) (fun xs i h => xs = signsV x ∧ h.IsStrIter it (strIterType x) x t i) (fun i h => h.IsStrIter it (strIterType x) x t i) where
  draws := fun xs A hh => by
    have key : Draws P w A it [it] x.cps.size (fun i v => ∃ c u, x.cps[i]? = some c ∧ v = .str ⟨#[c]⟩ u) (fun i h => h.IsStrIter it (strIterType x) x t i) := by
      by_cases ha : x.cps.all (· < 128) = true
      · have e : strIterType x = "str_ascii_iterator" := by simp [strIterType, ha]
        rw [e]
        exact Draws.strAscii hh it x t
      · have e : strIterType x = "str_iterator" := by simp [strIterType, ha]
        rw [e]
        exact Draws.strWide hh it x t
    have hl : (signsV x).length = x.cps.size := by simp [signsV]
    exact {
      live := fun i h st => key.live i h st.2
      frame := fun i h h' st hk => ⟨st.1, key.frame i h h' st.2 hk⟩
      item := fun i s Q E hi st hQ => key.item i s Q E (by have := st.1; subst this; omega) st.2 fun u h' tk hu st' sb => hQ u h' tk ⟨st.1, hu⟩ ⟨st.1, st'⟩ sb
      done := fun s Q E st hE => key.done s Q E (by have := st.1; subst this; rw [← hl]; exact st.2) hE }
  rel := fun xs i u ⟨ex, c, k, e, hu⟩ => ⟨.str ⟨#[c]⟩, by subst ex; simp [signsV, e], by subst hu; exact ⟨k, rfl⟩⟩
  up := fun _ _ _ _ _ _ _ _ _ _ _ g st => ⟨g, st⟩
  inj := fun _ _ _ _ _ _ _ _ _ _ _ g g' => g.trans g'.symm
  dn := fun _ _ _ st => st.2
  at_ := fun i h h' st k => by
    obtain ⟨o, ho, r⟩ := st
    exact ⟨o, k o ho, r⟩
  obj := fun i h st => by
    obtain ⟨o, ho, hc, hd⟩ := st
    exact ⟨o, ho, fun v z => by rw [hd] at z; cases z⟩
theorem side_tuple {P : Program} {w : World} {K : PySem.W.Frag} {it a : Addr} (hne : a ≠ it) : Side P w K it [it, a] (fun xs H => SqT K H a xs) (fun xs i v => ∃ x, xs[i]? = some x ∧ RelV x v) (fun xs i h => h.IsTupleIter it a i ∧ ∃ items : List Value, Vals xs items ∧ h.IsTuple a items.toArray) (fun i h => h.IsTupleIter it a i) where
  draws := fun xs A hh => {
    live := fun _ _ st => let ⟨o, ho, _⟩ := st.1; ⟨o, ho⟩
    frame := fun i h h' st hk => by
      obtain ⟨⟨o, ho, r⟩, items, v, o2, ho2, r2⟩ := st
      exact ⟨⟨o, hk it (by simp) o ho, r⟩, items, v, o2, hk a (by simp) o2 ho2, r2⟩
    item := fun i s Q E hi st hQ => by
      obtain ⟨st1, items, v, st2⟩ := st
      have hl : items.toArray.size = xs.length := by simpa using v.length.symm
      refine (Draws.tuple hh it a hne items.toArray).item i s Q E (by omega) ⟨st1, st2⟩ fun u h' tk hu st' sb => ?_
      obtain ⟨x, hx⟩ : ∃ x, xs[i]? = some x := ⟨_, List.getElem?_eq_getElem hi⟩
      obtain ⟨u', hu', ru⟩ := v.get hx
      have e : u' = u := by
        have h2 : items[i]? = some u := by simpa using hu
        rw [hu'] at h2
        exact Option.some.inj h2
      subst e
      exact hQ u' h' tk ⟨x, hx, ru⟩ ⟨st'.1, items, v, st'.2⟩ sb
    done := fun s Q E st hE => by
      obtain ⟨st1, items, v, st2⟩ := st
      have hl : items.toArray.size = xs.length := by simpa using v.length.symm
      refine (Draws.tuple hh it a hne items.toArray).done s Q E ?_ hE
      rw [hl]
      exact ⟨st1, st2⟩ }
  rel := fun xs i u h => h
  up := fun X pins σ H s i xs hP hw hK I g st => by
    subst hP hw hK
    obtain ⟨its, rv, ⟨o, ho, hc, n, hd⟩, _⟩ := I.tuple g
    exact ⟨st, its, rv, o, ho, hc, n, hd⟩
  inj := fun X pins σ H s xs ys hP hw hK I g g' => by
    subst hP hw hK
    exact I.tuple_inj g g'
  dn := fun _ _ _ st => st.1
  at_ := fun i h h' st k => by
    obtain ⟨o, ho, r⟩ := st
    exact ⟨o, k o ho, r⟩
  obj := fun i h st => by
    obtain ⟨o, ho, hc, hd⟩ := st
    exact ⟨o, ho, fun v z => by rw [hd] at z; cases z⟩
theorem side_list {P : Program} {w : World} {K : PySem.W.Frag} {it a : Addr} (hne : a ≠ it) : Side P w K it [it, a] (fun xs H => SqL K H a xs) (fun xs i v => ∃ x, xs[i]? = some x ∧ RelV x v) (fun xs i h => h.IsListIter it a i ∧ ∃ items : List Value, Vals xs items ∧ h.IsList a items.toArray) (fun i h => h.IsListIter it a i) where
  draws := fun xs A hh => {
    live := fun _ _ st => let ⟨o, ho, _⟩ := st.1; ⟨o, ho⟩
    frame := fun i h h' st hk => by
      obtain ⟨⟨o, ho, r⟩, items, v, o2, ho2, r2⟩ := st
      exact ⟨⟨o, hk it (by simp) o ho, r⟩, items, v, o2, hk a (by simp) o2 ho2, r2⟩
    item := fun i s Q E hi st hQ => by
      obtain ⟨st1, items, v, st2⟩ := st
      have hl : items.toArray.size = xs.length := by simpa using v.length.symm
      refine (Draws.list hh it a hne items.toArray).item i s Q E (by omega) ⟨st1, st2⟩ fun u h' tk hu st' sb => ?_
      obtain ⟨x, hx⟩ : ∃ x, xs[i]? = some x := ⟨_, List.getElem?_eq_getElem hi⟩
      obtain ⟨u', hu', ru⟩ := v.get hx
      have e : u' = u := by
        have h2 : items[i]? = some u := by simpa using hu
        rw [hu'] at h2
        exact Option.some.inj h2
      subst e
      exact hQ u' h' tk ⟨x, hx, ru⟩ ⟨st'.1, items, v, st'.2⟩ sb
    done := fun s Q E st hE => by
      obtain ⟨st1, items, v, st2⟩ := st
      have hl : items.toArray.size = xs.length := by simpa using v.length.symm
      refine (Draws.list hh it a hne items.toArray).done s Q E ?_ hE
      rw [hl]
      exact ⟨st1, st2⟩ }
  rel := fun xs i u h => h
  up := fun X pins σ H s i xs hP hw hK I g st => by
    subst hP hw hK
    obtain ⟨its, rv, p, _⟩ := I.list g
    exact ⟨st, its, rv, p.isList⟩
  inj := fun X pins σ H s xs ys hP hw hK I g g' => by
    subst hP hw hK
    exact I.list_inj g g'
  dn := fun _ _ _ st => st.1
  at_ := fun i h h' st k => by
    obtain ⟨o, ho, r⟩ := st
    exact ⟨o, k o ho, r⟩
  obj := fun i h st => by
    obtain ⟨o, ho, hc, hd⟩ := st
    exact ⟨o, ho, fun v z => by rw [hd] at z; cases z⟩
def iZipTS (K : PySem.W.Frag) (ta : TA) : TI := fun σ H R => ta σ H fun vs H1 => ∃ a z xs, vs = [.ref a, .str z] ∧ SqT K H1 a xs ∧ R (ItG (fun xs H => SqT K H a xs) fun ys _ => ys = signsV z) H1
def iZipSL (K : PySem.W.Frag) (ta : TA) : TI := fun σ H R => ta σ H fun vs H1 => ∃ a z xs, vs = [.str z, .ref a] ∧ SqL K H1 a xs ∧ R (ItG (fun xs _ => xs = signsV z) fun ys H => SqL K H a ys) H1
theorem neA {a b : Addr} (h : @Ne Nat a b) : a ≠ b := h
theorem not1 {a b : Addr} (h : @Ne Nat a b) : a ∉ [b] := by
  rw [List.mem_singleton]
  exact h
theorem not2 {a b c : Addr} (h : @Ne Nat a b) (h' : @Ne Nat a c) : a ∉ [b, c] := by
  rw [List.mem_cons, List.mem_singleton]
  rintro (e | e)
  · exact h e
  · exact h' e
theorem zip_sep (n a : Nat) (h : a < n) : ZipSep2 (n + 4) (n + 2) (n + 3) n (n + 1) [n, a] [n + 1] :=
  ⟨neA (by omega), neA (by omega), neA (by omega), neA (by omega), by simp, not2 (by omega) (by omega), not2 (by omega) (by omega), neA (by omega), by simp, not1 (by omega), not1 (by omega), not1 (by omega), not2 (by omega) (by omega)⟩
theorem zip_sep' (n a : Nat) (h : a < n) : ZipSep2 (n + 4) (n + 2) (n + 3) n (n + 1) [n] [n + 1, a] :=
  ⟨neA (by omega), neA (by omega), neA (by omega), neA (by omega), by simp, not1 (by omega), not1 (by omega), neA (by omega), by simp, not2 (by omega) (by omega), not2 (by omega) (by omega), not2 (by omega) (by omega), not1 (by omega)⟩
theorem leA5 {n c : Nat} (h : c = n + 4 ∨ c = n + 2 ∨ c = n + 3 ∨ c = n ∨ c = n + 1) : n ≤ c := by omega
theorem ne_s (n : Nat) : @Ne Addr n (n + 1) := neA (by omega)
theorem ne_lt1 {n a : Nat} (h : a < n) : @Ne Addr a (n + 1) := neA (by omega)
section
variable {X : Cx} {e e2 : Expr} {ta : TA} {p pos tpos : Pos} {elts : List Expr} {kk : Nat}
theorem zip_fp {pins : List (Addr × Obj)} {σ : L2.St} {H : Hp} {s : Shared} (I : Inv X pins σ H s) {c : Addr} (hcm : c ∈ [s.heap.objs.size + 4, s.heap.objs.size + 2, s.heap.objs.size + 3, s.heap.objs.size, s.heap.objs.size + 1]) : FpOk X pins H c := by
  have hle : s.heap.objs.size ≤ c := by
    exact leA5 (by simpa using hcm)
  exact I.fpOk hle (I.hok.fresh hle)
theorem pi_zipTS (hg : Gl X "zip") (hm : X.mg "zip" = none) (ha : PA X [e, e2] ta)
    (hs : starEach [e, e2] X.env = (false, eval e X.env) :: starEach [e2] X.env := by rfl) (hpl : (backTo pos (starEach [e2] X.env)).any (·.1) = false := by rfl) :
    PI X (.Tuple elts kk tpos) (.Call (.Name "zip" p) [e, e2] [] pos) (iZipTS X.K ta) := by
  refine ⟨fun pins s σ H R I h => ?_⟩
  refine Call_ (ld_blt I hg hm PyProof.Rows.boot_zip (PyProof.Rows.callWith_type1 (thn (ha.run pos pins s σ H _ I h) fun us s1 ⟨vs, H1, I1, r1, q1⟩ => ?_) hs hpl))
  obtain ⟨a, z, xs, rfl, hqx, q⟩ := q1
  obtain ⟨u1, u2, rfl, ra, rz⟩ := vals2 r1
  cases ra
  obtain ⟨t, rfl⟩ := rz
  obtain ⟨its, rv, p1, _⟩ := I1.tuple hqx
  have la : a < s1.heap.objs.size := p1.lt
  have ht : s1.heap.IsTuple a its.toArray := by
    obtain ⟨o, ho, hc, n, hd⟩ := p1
    exact ⟨o, ho, hc, n, hd⟩
  refine zip_begins2 (begins_tuple a its.toArray) (begins_text z t) ht trivial fun h' hz hTI hTO h1 h2 hsz hk => wpAny_pyIter_zip hz ?_
  have I2 : Inv X pins σ H1 { s1 with heap := h' } := I1.kept (t' := s1.toks) hk
  exact ⟨s1.heap.objs.size + 4, [s1.heap.objs.size + 4, s1.heap.objs.size + 2, s1.heap.objs.size + 3, s1.heap.objs.size, s1.heap.objs.size + 1], _, _, H1, rfl, I2,
    turn_zipG (zip_sep _ a la) (side_tuple (Nat.ne_of_lt la)) (side_text (t := t)) (ne_s _), ⟨hz, hTI, ⟨_, _, hTO⟩, ⟨_, h1, rfl, rfl⟩, ⟨_, h2, rfl, rfl⟩⟩, fun c hcm => zip_fp I1 hcm, q⟩
theorem pi_zipSL (hg : Gl X "zip") (hm : X.mg "zip" = none) (ha : PA X [e, e2] ta)
    (hs : starEach [e, e2] X.env = (false, eval e X.env) :: starEach [e2] X.env := by rfl) (hpl : (backTo pos (starEach [e2] X.env)).any (·.1) = false := by rfl) :
    PI X (.Tuple elts kk tpos) (.Call (.Name "zip" p) [e, e2] [] pos) (iZipSL X.K ta) := by
  refine ⟨fun pins s σ H R I h => ?_⟩
  refine Call_ (ld_blt I hg hm PyProof.Rows.boot_zip (PyProof.Rows.callWith_type1 (thn (ha.run pos pins s σ H _ I h) fun us s1 ⟨vs, H1, I1, r1, q1⟩ => ?_) hs hpl))
  obtain ⟨a, z, xs, rfl, hqx, q⟩ := q1
  obtain ⟨u1, u2, rfl, rz, ra⟩ := vals2 r1
  cases ra
  obtain ⟨t, rfl⟩ := rz
  obtain ⟨its, rv, p1, _⟩ := I1.list hqx
  have la : a < s1.heap.objs.size := p1.lt
  refine zip_begins2 (begins_text z t) (begins_list a its.toArray) trivial p1.isList fun h' hz hTI hTO h1 h2 hsz hk => wpAny_pyIter_zip hz ?_
  have I2 : Inv X pins σ H1 { s1 with heap := h' } := I1.kept (t' := s1.toks) hk
  exact ⟨s1.heap.objs.size + 4, [s1.heap.objs.size + 4, s1.heap.objs.size + 2, s1.heap.objs.size + 3, s1.heap.objs.size, s1.heap.objs.size + 1], _, _, H1, rfl, I2,
    turn_zipG (zip_sep' _ a la) (side_text (t := t)) (side_list (ne_lt1 la)) (ne_s _), ⟨hz, hTI, ⟨_, _, hTO⟩, ⟨_, h1, rfl, rfl⟩, ⟨_, h2, rfl, rfl⟩⟩, fun c hcm => zip_fp I1 hcm, q⟩
end
end DL
set_option Elab.async false
set_option linter.all false
set_option maxRecDepth 100000
set_option maxHeartbeats 4000000
/-! zip, texts joined, cut, told; tables asked by a word -/
namespace DL
open PySem PySem.Spec L2
def zipD (xs ys : List D) : List D := List.zipWith (fun x y => .tup [x, y]) xs ys
def diZip (ta : DTA) : DTI := fun sd G R => ta sd G fun ds G1 => match ds with
  | [.tup xs, .str z] => z.length ≤ sizeLine ∧ R (zipD xs (signsD z)) (fun _ => True) G1
  | [.str z, .ref a] => ∃ xs, G1 a = some (.lst xs) ∧ z.length ≤ sizeLine ∧ R (zipD (signsD z) xs) (fun G => G a = some (.lst xs)) G1
  | _ => False
theorem zipD_at {xs ys : List D} {i : Nat} {x y : D} (h1 : xs[i]? = some x) (h2 : ys[i]? = some y) : (zipD xs ys)[i]? = some (.tup [x, y]) := by
  unfold zipD
  rw [List.getElem?_zipWith, h1, h2]
theorem zipD_len {xs ys : List D} : (zipD xs ys).length = min xs.length ys.length := by simp [zipD]
theorem signs_rel {H : Hp} {z : Str} (ok : OkS z) : RelL H (signsD z) (signsV z) := by
  have : ∀ cs : List Nat, (∀ c ∈ cs, OkS ⟨#[c]⟩) → RelL H (cs.map fun c => D.str ⟨#[c]⟩) (cs.map fun c => V.str ⟨#[c]⟩) := by
    intro cs
    induction cs with
    | nil => intro _; rfl
    | cons c cs ih => intro h; exact ⟨_, _, rfl, ⟨rfl, h c (by simp)⟩, ih fun d hd => h d (by simp [hd])⟩
  refine this _ fun c hc => ?_
  obtain ⟨i, hi⟩ := List.mem_iff_getElem?.mp hc
  refine okS_sign (i := (i : Nat)) ok ?_
  have hi' : i < z.cps.toList.length := (List.getElem?_eq_some_iff.mp hi).1
  rw [atI_nat hi', ← List.getElem?_eq_getElem hi', hi]
section
variable {X : Cx} {B : Bx} {e e2 o f : Expr} {ta te tf td : DTE} {taa : DTA} {p pos apos cpos tpos : Pos} {elts : List Expr} {kk : Nat}
theorem zip_off2 (xs : List D) (z : Str) : ∀ d ∈ zipD xs (signsD z), ∃ u v, d = .tup [u, v] ∧ offs [u, v] = false := fun d hd => by
  obtain ⟨i, hi⟩ := List.mem_iff_getElem?.mp hd
  unfold zipD at hi
  rw [List.getElem?_zipWith] at hi
  cases h1 : xs[i]? with
  | none => rw [h1] at hi; cases hi
  | some u => cases h2 : (signsD z)[i]? with
    | none => rw [h1, h2] at hi; cases hi
    | some v =>
      rw [h1, h2] at hi
      cases hi
      obtain ⟨c, _, rfl⟩ := List.mem_map.mp (List.mem_of_getElem? h2)
      exact ⟨u, _, rfl, by simp [offs, off1]⟩
theorem zip_off1 (z : Str) (xs : List D) : ∀ d ∈ zipD (signsD z) xs, ∃ u v, d = .tup [u, v] ∧ offs [u, v] = false := fun d hd => by
  obtain ⟨i, hi⟩ := List.mem_iff_getElem?.mp hd
  unfold zipD at hi
  rw [List.getElem?_zipWith] at hi
  cases h1 : (signsD z)[i]? with
  | none => rw [h1] at hi; cases hi
  | some u => cases h2 : xs[i]? with
    | none => rw [h1, h2] at hi; cases hi
    | some v =>
      rw [h1, h2] at hi
      cases hi
      obtain ⟨c, _, rfl⟩ := List.mem_map.mp (List.mem_of_getElem? h1)
      exact ⟨_, v, rfl, rfl⟩
theorem itG_yields {K : PySem.W.Frag} {H H' : Hp} {G : Gp} {G1 G2 : List V → Hp → Prop} {i : Nat} {v : V} {xs ys : List V} {dx dy : List D} (y : (ItG G1 G2).yld i H v H') (h1 : G1 xs H) (h2 : G2 ys H) (r1 : RelL H dx xs) (r2 : RelL H dy ys) (hi : i < (zipD dx dy).length) (R : Rep K B H G) (off : ∀ d ∈ zipD dx dy, ∃ u v, d = .tup [u, v] ∧ offs [u, v] = false) :
    ∃ d, (zipD dx dy)[i]? = some d ∧ Rel H' d v ∧ Kp H H' ∧ Rep K B H' G := by
  obtain ⟨T, x, u, rfl, hT, rfl, e1, e2⟩ := y
  rw [zipD_len] at hi
  have hx : i < dx.length := by omega
  have hy : i < dy.length := by omega
  obtain ⟨x', a1, rx⟩ := r1.get i (List.getElem?_eq_getElem hx)
  obtain ⟨u', a2, ry⟩ := r2.get i (List.getElem?_eq_getElem hy)
  have e1 := e1 xs h1
  have e2 := e2 ys h2
  rw [a1] at e1
  rw [a2] at e2
  cases e1
  cases e2
  have k : Kp H (upd H T (.tup [x, u])) := .fresh hT
  have hz := zipD_at (List.getElem?_eq_getElem hx) (List.getElem?_eq_getElem hy)
  have ko : offs [dx[i], dy[i]] = false := by
    obtain ⟨u, v, e, h⟩ := off _ (List.mem_of_getElem? hz)
    cases e
    exact h
  exact ⟨_, hz, ⟨T, _, rfl, by rw [ko]; exact upd_same, ⟨_, _, rfl, rx.mono k, _, _, rfl, ry.mono k, rfl⟩, by simp [sizeLine_eq]⟩, k, R.fresh hT⟩
theorem itG_walk {G1 G2 : List V → Hp → Prop} {n m : Nat} : Walk (ItG G1 G2) (min n m) (fun H => ∃ xs ys, G1 xs H ∧ G2 ys H ∧ xs.length = n ∧ ys.length = m) (ItG G1 G2).yld :=
  ⟨fun i H hi ⟨xs, ys, g1, g2, l1, l2⟩ => ⟨xs, ys, g1, g2, by omega, by omega⟩, fun H ⟨xs, ys, g1, g2, l1, l2⟩ => ⟨xs, ys, g1, g2, by omega, by omega, by omega⟩, fun i H x H' _ _ y => y⟩
theorem di_zipTS (hg : Gl X "zip") (hm : X.mg "zip" = none) (ha : DA X B [e, e2] taa)
    (hs : starEach [e, e2] X.env = (false, eval e X.env) :: starEach [e2] X.env := by rfl) (hpl : (backTo pos (starEach [e2] X.env)).any (·.1) = false := by rfl) :
    DI X B (.Tuple elts kk tpos) (.Call (.Name "zip" p) [e, e2] [] pos) (fun sd G R => taa sd G fun ds G1 => match ds with
      | [.tup xs, .str z] => z.length ≤ sizeLine ∧ R (zipD xs (signsD z)) (fun _ => True) G1
      | _ => False) := by
  obtain ⟨ta', pa, ha⟩ := ha.ex
  refine ⟨_, pi_zipTS hg hm pa hs hpl, fun σ H sd G QD R hS R0 t hP => ?_⟩
  refine ha σ H sd G _ _ hS R0 t fun vs ds H1 G1 _ k1 r1 R1 q1 => ?_
  match ds, q1, r1 with
  | [.tup xs, .str z], q1, r1 =>
    obtain ⟨v1, w1, rfl, ⟨a, us, rfl, h1, h2, h3⟩, v2, w2, rfl, ⟨rfl, ok⟩, h4⟩ := r1
    cases (relL_nil.mp h4)
    obtain ⟨hz, q1⟩ := q1
    have hl : (signsD z).length = (signsV z).length := by simp [signsD, signsV]
    refine ⟨a, z, us, rfl, h1.sq, hP _ _ _ H1 G1 k1 R1 ⟨by rw [zipD_len]; omega, fun H => ∃ xs' ys', SqT X.K H a xs' ∧ ys' = signsV z ∧ xs'.length = us.length ∧ ys'.length = (signsV z).length, _, by rw [zipD_len, h2.length, hl]; exact itG_walk, fun H G k R _ => ⟨us, signsV z, (k.tk.1 _ _ _ h1).sq, rfl, rfl, rfl⟩, ?_⟩ q1⟩
    rintro i H G x H' hi k R _ y
    exact itG_yields y ((k.tk.1 _ _ _ h1).sq) rfl (h2.mono k) (signs_rel ok) hi R (zip_off2 _ _)
theorem di_zipSL (hg : Gl X "zip") (hm : X.mg "zip" = none) (ha : DA X B [e, e2] taa)
    (hs : starEach [e, e2] X.env = (false, eval e X.env) :: starEach [e2] X.env := by rfl) (hpl : (backTo pos (starEach [e2] X.env)).any (·.1) = false := by rfl) :
    DI X B (.Tuple elts kk tpos) (.Call (.Name "zip" p) [e, e2] [] pos) (fun sd G R => taa sd G fun ds G1 => match ds with
      | [.str z, .ref a] => ∃ xs, G1 a = some (.lst xs) ∧ z.length ≤ sizeLine ∧ R (zipD (signsD z) xs) (fun G => G a = some (.lst xs)) G1
      | _ => False) := by
  obtain ⟨ta', pa, ha⟩ := ha.ex
  refine ⟨_, pi_zipSL hg hm pa hs hpl, fun σ H sd G QD R hS R0 t hP => ?_⟩
  refine ha σ H sd G _ _ hS R0 t fun vs ds H1 G1 _ k1 r1 R1 q1 => ?_
  match ds, q1, r1 with
  | [.str z, .ref a], q1, r1 =>
    obtain ⟨v1, w1, rfl, ⟨rfl, ok⟩, v2, w2, rfl, rv, h4⟩ := r1
    cases rv
    cases (relL_nil.mp h4)
    obtain ⟨xs, g, hz, q1⟩ := q1
    obtain ⟨us, h1, h2, h3⟩ := lst_at R1 g
    have hl : (signsD z).length = (signsV z).length := by simp [signsD, signsV]
    refine ⟨a, z, us, rfl, .inl (.inl h1), hP _ _ _ H1 G1 k1 R1 ⟨by rw [zipD_len]; omega, fun H => ∃ xs' ys', xs' = signsV z ∧ SqL X.K H a ys' ∧ xs'.length = (signsV z).length ∧ ys'.length = us.length, _, by rw [zipD_len, h2.length, hl]; exact itG_walk, fun H G k R st => ?_, ?_⟩ q1⟩
    · obtain ⟨us', h1', h2', _⟩ := lst_at R st
      exact ⟨signsV z, us', rfl, .inl (.inl h1'), rfl, by rw [← h2'.length, h2.length]⟩
    · rintro i H G x H' hi k R st y
      obtain ⟨us', h1', h2', _⟩ := lst_at R st
      exact itG_yields y rfl (.inl (.inl h1')) (signs_rel ok) h2' hi R (zip_off1 _ _)
/-! ### texts -/
def joinR : D → List D → Gp → DQ → Prop := fun d ds G Q => match d, ds with
  | .str a, [.ref p] => ∃ xs, G p = some (.lst xs) ∧ ∃ ys : List Str, xs = ys.map .str ∧ (ys.map (·.length)).sum + ys.length * a.length ≤ 16777216 ∧ OkS (Txt.join a ys) ∧ Q (.str (Txt.join a ys)) G
  | _, _ => False
def splitR : D → List D → Gp → DQ → Prop := fun d ds G Q => match d, ds with
  | .str a, [.str b] => (b.length == 0) = false ∧ a.length + 2 ≤ sizeLine ∧ (∀ z ∈ Txt.split a b, OkS z) ∧ (Txt.split a b).length ≤ sizeLine ∧ ∀ p, Nw G p → Q (.ref p) (put G p (.lst ((Txt.split a b).map .str)))
  | _, _ => False
def strR : List D → Gp → DQ → Prop := fun ds G Q => match ds with
  | [.int i] => i.natAbs.log2 < 1920 ∧ OkS (Str.ofString (toString i)) ∧ Q (.str (Str.ofString (toString i))) G
  | [.str a] => Q (.str a) G
  | _ => False
def intTR : List D → Gp → DQ → Prop := fun ds G Q => match ds with
  | [.str a] => ∃ n, PySem.intText? a = some n ∧ a.length ≤ 640 ∧ Q (.int n) G
  | _ => False
theorem strs_rel {H : Hp} : ∀ {ys : List Str}, (∀ z ∈ ys, OkS z) → RelL H (ys.map .str) (ys.map V.str)
  | [], _ => rfl
  | y :: ys, h => ⟨_, _, rfl, ⟨rfl, h y (by simp)⟩, strs_rel fun z hz => h z (by simp [hz])⟩
theorem strs_of {H : Hp} : ∀ {ys : List Str} {vs : List V}, RelL H (ys.map .str) vs → vs = ys.map V.str
  | [], vs, h => h
  | y :: ys, vs, ⟨v, r, e, ⟨h1, _⟩, h2⟩ => by subst e h1; rw [List.map_cons, strs_of h2]
theorem dm_join : DMt X B "str.join" joinR := by
  refine ⟨_, mt_join, fun H G x d xs ds Q P r1 r2 R q hp => ?_⟩
  match d, ds, q, r1, r2 with
  | .str a, [.ref p], q, r1, r2 =>
    obtain ⟨rfl, _⟩ := r1
    obtain ⟨v, rfl, rv⟩ := rel1 r2
    cases rv
    obtain ⟨xs, g, ys, rfl, hz, ok, q⟩ := q
    obtain ⟨us, h1, h2, h3⟩ := lst_at R g
    cases strs_of h2
    exact ⟨a, p, ys, rfl, rfl, .inl (.inl (.inl h1)), hz, hp _ (.str _) H G (.refl H) ⟨rfl, ok⟩ R q⟩
theorem dm_split : DMt X B "str.split" splitR := by
  refine ⟨_, mt_split, fun H G x d xs ds Q P r1 r2 R q hp => ?_⟩
  match d, ds, q, r1, r2 with
  | .str a, [.str b], q, r1, r2 =>
    obtain ⟨rfl, _⟩ := r1
    obtain ⟨v, rfl, rv⟩ := rel1 r2
    obtain ⟨rfl, _⟩ := rv
    obtain ⟨h1, h2, h3, h4, q⟩ := q
    refine ⟨a, b, rfl, rfl, h1, h2, fun p hn => ?_⟩
    have rl : RelL H ((Txt.split a b).map .str) ((Txt.split a b).map V.str) := strs_rel h3
    obtain ⟨k, R'⟩ := lst_new hn rl (by simpa using h4) R
    exact hp _ (.ref p) _ _ k rfl R' (q p (R.gnone hn))
theorem dc_str : DCall X B (.type "str") strR := by
  refine ⟨_, call_str_int.or SkE.call_str_str, fun H G xs ds Q P r R q hp => ?_⟩
  match ds, q, r with
  | [.int i], q, r =>
    obtain ⟨x, rfl, rx⟩ := rel1 r
    cases rx
    exact .inl ⟨i, rfl, q.1, hp _ (.str _) H G (.refl H) ⟨rfl, q.2.1⟩ R q.2.2⟩
  | [.str a], q, r =>
    obtain ⟨x, rfl, rx⟩ := rel1 r
    obtain ⟨rfl, ok⟩ := rx
    exact .inr ⟨a, rfl, hp _ (.str _) H G (.refl H) ⟨rfl, ok⟩ R q⟩
theorem dc_intT : DCall X B (.type "int") intTR := by
  refine ⟨_, call_int_str, fun H G xs ds Q P r R q hp => ?_⟩
  match ds, q, r with
  | [.str a], q, r =>
    obtain ⟨x, rfl, rx⟩ := rel1 r
    obtain ⟨rfl, ok⟩ := rx
    obtain ⟨n, h1, h2, q⟩ := q
    exact ⟨a, n, rfl, h1, h2, hp _ (.int _) H G (.refl H) rfl R q⟩
/-! ### a written table asked by a word -/
def tbS (d : D) (P : Str → Prop) : Prop := match d with
  | .str y => P y
  | _ => False
/-- T[word] -/
def dIxK (tbl : List (Str × Str)) (te : DTE) : DTE := fun sd G Q => te sd G fun d G1 => tbS d fun y => ∃ s, tbl.lookup y = some s ∧ Q (.str s) G1
/-- word in T -/
def dInK (neg : Bool) (tbl : List (Str × Str)) (te : DTE) : DTE := fun sd G Q => te sd G fun d G1 => tbS d fun y => Q (.bl ((tbl.lookup y).isSome != neg)) G1
/-- a table of texts, whole -/
structure TabOf (K : PySem.W.Frag) (w : World) (c : Addr) (tbl : List (Str × Str)) : Prop where
  D : ∃ es n, KDict K w c es n
  at_ : tblB K c (tbl.map fun q => (q.1, some q.2)) = true
  no : ∀ z, tbl.lookup z = none → PySem.W.nsIn K c z = some none
theorem lookup_map {tbl : List (Str × Str)} {y s : Str} (h : tbl.lookup y = some s) : (tbl.map fun q => (q.1, some q.2)).lookup y = some (some s) := by
  induction tbl with
  | nil => cases h
  | cons q tbl ih =>
    rw [List.map_cons, List.lookup_cons]
    rw [show tbl.lookup y = tbl.lookup y from rfl] at ih
    obtain ⟨k, v⟩ := q
    rw [List.lookup_cons] at h
    cases e : y == k with
    | true => rw [e] at h; cases h; rfl
    | false => rw [e] at h; exact ih h
theorem keys_no {P : Params} : ∀ {l : List DictEntry} {ks : List Str}, l.map He.keyOf = He.keysIn P ks → ∀ {z : Str}, z ∉ ks → l.find? (·.key.isStr z) = none ∧ l.any (·.refKey) = false
  | [], _, _, z, _ => ⟨rfl, rfl⟩
  | e :: r, [], h, z, _ => by cases h
  | e :: r, k :: ks, h, z, hz => by
    have h1 : He.keyOf e :: r.map He.keyOf = some (k, PyData.keyHash P k) :: He.keysIn P ks := h
    injection h1 with h2 h3
    obtain ⟨i1, i2⟩ := keys_no h3 (z := z) fun q => hz (List.mem_cons_of_mem _ q)
    unfold He.keyOf at h2
    split at h2
    · rename_i x t q
      have h4 := Option.some.inj h2
      obtain ⟨h5, h6⟩ := Prod.mk.inj h4
      have hk : (x == z) = false := by
        rw [h5]
        refine beq_eq_false_iff_ne.mpr fun e => hz ?_
        rw [e]
        exact List.mem_cons_self
      refine ⟨?_, ?_⟩
      · rw [List.find?_cons]
        have : e.key.isStr z = false := by rw [q]; exact hk
        rw [this]
        exact i1
      · rw [List.any_cons, i2]
        simp [DictEntry.refKey, q]
    · cases h2
theorem dicW_no {K : PySem.W.Frag} {w : World} {a : Addr} {ks : List Str} (h : He.dicW K a = some (He.keysIn w.params ks)) {z : Str} (hz : z ∉ ks) : PySem.W.nsIn K a z = some none := by
  unfold He.dicW at h
  unfold PySem.W.nsIn
  split at h
  · rename_i c es n sl q
    split at h
    · obtain ⟨h1, h2⟩ := keys_no (Option.some.inj h) hz
      rw [q]
      simp only [h1, h2]
      rfl
    · cases h
  · cases h
theorem tab_of {fa : List He.Fa} {fn : List He.DefD} {ts : List He.Tab} {w : World} {K : PySem.W.Frag} (c : He.SaysT fa fn ts w K) (i : Nat) {t : He.Tab} (h : ts[i]? = some t) {tbl : List (Str × Str)} (hb : tblB K (t.1 K) (tbl.map fun q => (q.1, some q.2)) = true) (hk : t.2 = tbl.map (·.1)) : TabOf K w (t.1 K) tbl where
  D := c.tab i h
  at_ := hb
  no := fun z hz => by
    have e : ts.map (fun t => He.dicW K (t.1 K)) = ts.map fun t => some (He.keysIn w.params t.2) := congrArg (fun z : He.AlT => z.2) c
    have e2 : (ts.map fun t => He.dicW K (t.1 K))[i]? = (ts.map fun t => some (He.keysIn w.params t.2))[i]? := by rw [e]
    rw [List.getElem?_map, List.getElem?_map, h] at e2
    refine dicW_no (Option.some.inj e2) fun hm => ?_
    rw [hk] at hm
    obtain ⟨q, hq, rfl⟩ := List.mem_map.mp hm
    have : ∀ l : List (Str × Str), q ∈ l → l.lookup q.1 ≠ none := by
      intro l
      induction l with
      | nil => intro h; cases h
      | cons r l ih =>
        intro hm z
        obtain ⟨k, v⟩ := r
        rw [List.lookup_cons] at z
        cases e : q.1 == k with
        | true => rw [e] at z; cases z
        | false =>
          rw [e] at z
          rcases List.mem_cons.mp hm with h1 | h1
          · rw [h1] at e; simp at e
          · exact ih h1 z
    exact this tbl hq hz
variable {tbl : List (Str × Str)} {x : Str} {c : Addr}
theorem pe_nameK (hg : Gl X x) (hm : X.mg x = some (.ref c)) (hd : (x == ("__debug__" : Str)) = false := by decide) : PE X (.Name x p) (tC (.ref c)) := pe_glob hg hm rfl hd
theorem de_ixK (T : TabOf X.K X.w c tbl) (hg : Gl X x) (hm : X.mg x = some (.ref c)) (he : DE X B e te) (hs : PlainIx e := by exact fun _ _ => rfl) (hd : (x == ("__debug__" : Str)) = false := by decide) :
    DE X B (.Subscript (.Name x p) e pos) (dIxK tbl te) := by
  obtain ⟨es, n, D⟩ := T.D
  obtain ⟨te', pe, he⟩ := he.ex
  refine ⟨_, pe_ix ix_kdict (pe_nameK hg hm hd) pe hs, fun σ H sd G Q P hS R t hp => ?_⟩
  refine he σ H sd G _ _ hS R t fun v d H1 G1 k1 r1 R1 q1 => ?_
  cases d with
  | str y =>
    obtain ⟨rfl, _⟩ := r1
    obtain ⟨s, hr, q2⟩ := q1
    rcases tblB_ok T.at_ (lookup_map hr) with ⟨s', t, e', ok, en⟩ | ⟨e', _⟩
    · cases e'
      exact ⟨c, y, .str s, rfl, rfl, ⟨es, n, _, D.at_, D.lit, en, ⟨t, rfl⟩⟩, hp _ (.str s) H1 G1 k1 ⟨rfl, ok⟩ R1 q2⟩
    · cases e'
  | _ => exact (show False from q1).elim
theorem inK_at {K : PySem.W.Frag} {w : World} (T : TabOf K w c tbl) (y : Str) : ∃ r', PySem.W.nsIn K c y = some r' ∧ r'.isSome = (tbl.lookup y).isSome := by
  cases hr : tbl.lookup y with
  | none => exact ⟨none, T.no y hr, rfl⟩
  | some s =>
    rcases tblB_ok T.at_ (lookup_map hr) with ⟨s', t, e', ok, en⟩ | ⟨e', _⟩
    · exact ⟨_, en, rfl⟩
    · cases e'
theorem de_inK (T : TabOf X.K X.w c tbl) (hg : Gl X x) (hm : X.mg x = some (.ref c)) (he : DE X B e te) (hb : behindInMarks .In (.Name x p) = false := by first | exact nobehind _ (by decide) (by decide) | rfl) (hd : (x == ("__debug__" : Str)) = false := by decide) :
    DE X B (.Compare e [.In] [.Name x p] pos) (dInK false tbl te) := by
  obtain ⟨es, n, D⟩ := T.D
  obtain ⟨te', pe, he⟩ := he.ex
  refine ⟨_, pe_cmpR (op_in_kd D) pe (pe_nameK hg hm hd) hb, fun σ H sd G Q P hS R t hp => ?_⟩
  refine he σ H sd G _ _ hS R t fun v d H1 G1 k1 r1 R1 q1 => ?_
  cases d with
  | str y =>
    obtain ⟨rfl, _⟩ := r1
    obtain ⟨r', en, e'⟩ := inK_at T y
    exact ⟨y, r', rfl, rfl, en, by rw [e']; exact hp _ (.bl _) H1 G1 k1 rfl R1 (by simpa [tbS] using q1)⟩
  | _ => exact (show False from q1).elim
theorem dt_inK (T : TabOf X.K X.w c tbl) (hg : Gl X x) (hm : X.mg x = some (.ref c)) (he : DE X B e te) (hb : behindInMarks .In (.Name x p) = false := by first | exact nobehind _ (by decide) (by decide) | rfl) (hd : (x == ("__debug__" : Str)) = false := by decide) :
    DT X B (.Compare e [.In] [.Name x p] pos) (dTest (dInK false tbl te)) := by
  obtain ⟨es, n, D⟩ := T.D
  obtain ⟨te', pe, he⟩ := he.ex
  refine ⟨_, pt_cmpR (op_in_kd D) pe (pe_nameK hg hm hd) hb, fun σ H sd G Q P hS R t hp => ?_⟩
  refine he σ H sd G _ _ hS R t fun v d H1 G1 k1 r1 R1 q1 => ?_
  cases d with
  | str y =>
    obtain ⟨rfl, _⟩ := r1
    obtain ⟨r', en, e'⟩ := inK_at T y
    exact ⟨y, r', rfl, rfl, en, by rw [e']; exact (post_bl hp) _ (.bl _) H1 G1 k1 rfl R1 (by simpa [tbS] using q1)⟩
  | _ => exact (show False from q1).elim
theorem de_notInK (T : TabOf X.K X.w c tbl) (hg : Gl X x) (hm : X.mg x = some (.ref c)) (he : DE X B e te) (hb : behindInMarks .NotIn (.Name x p) = false := by first | exact nobehind _ (by decide) (by decide) | rfl) (hd : (x == ("__debug__" : Str)) = false := by decide) :
    DE X B (.Compare e [.NotIn] [.Name x p] pos) (dInK true tbl te) := by
  obtain ⟨es, n, D⟩ := T.D
  obtain ⟨te', pe, he⟩ := he.ex
  refine ⟨_, pe_cmpR (op_notIn_kd D) pe (pe_nameK hg hm hd) hb, fun σ H sd G Q P hS R t hp => ?_⟩
  refine he σ H sd G _ _ hS R t fun v d H1 G1 k1 r1 R1 q1 => ?_
  cases d with
  | str y =>
    obtain ⟨rfl, _⟩ := r1
    obtain ⟨r', en, e'⟩ := inK_at T y
    exact ⟨y, r', rfl, rfl, en, by rw [e']; exact hp _ (.bl _) H1 G1 k1 rfl R1 (by simpa [tbS] using q1)⟩
  | _ => exact (show False from q1).elim
theorem dt_notInK (T : TabOf X.K X.w c tbl) (hg : Gl X x) (hm : X.mg x = some (.ref c)) (he : DE X B e te) (hb : behindInMarks .NotIn (.Name x p) = false := by first | exact nobehind _ (by decide) (by decide) | rfl) (hd : (x == ("__debug__" : Str)) = false := by decide) :
    DT X B (.Compare e [.NotIn] [.Name x p] pos) (dTest (dInK true tbl te)) := by
  obtain ⟨es, n, D⟩ := T.D
  obtain ⟨te', pe, he⟩ := he.ex
  refine ⟨_, pt_cmpR (op_notIn_kd D) pe (pe_nameK hg hm hd) hb, fun σ H sd G Q P hS R t hp => ?_⟩
  refine he σ H sd G _ _ hS R t fun v d H1 G1 k1 r1 R1 q1 => ?_
  cases d with
  | str y =>
    obtain ⟨rfl, _⟩ := r1
    obtain ⟨r', en, e'⟩ := inK_at T y
    exact ⟨y, r', rfl, rfl, en, by rw [e']; exact (post_bl hp) _ (.bl _) H1 G1 k1 rfl R1 (by simpa [tbS] using q1)⟩
  | _ => exact (show False from q1).elim
end
/-! ### for simp -/
def zipL (ds : List D) (G1 : Gp) (R : List D → (Gp → Prop) → Gp → Prop) : Prop := match ds with
  | [.tup xs, .str z] => z.length ≤ sizeLine ∧ R (zipD xs (signsD z)) (fun _ => True) G1
  | _ => False
def zipL2 (ds : List D) (G1 : Gp) (R : List D → (Gp → Prop) → Gp → Prop) : Prop := match ds with
  | [.str z, .ref a] => ∃ xs, G1 a = some (.lst xs) ∧ z.length ≤ sizeLine ∧ R (zipD (signsD z) xs) (fun G => G a = some (.lst xs)) G1
  | _ => False
def diZipTS (ta : DTA) : DTI := fun sd G R => ta sd G fun ds G1 => zipL ds G1 R
def diZipSL (ta : DTA) : DTI := fun sd G R => ta sd G fun ds G1 => zipL2 ds G1 R
@[simp ↓] theorem diZipTS_app {ta sd G R} : diZipTS ta sd G R = ta sd G fun ds G1 => zipL ds G1 R := (rfl)
@[simp ↓] theorem diZipSL_app {ta sd G R} : diZipSL ta sd G R = ta sd G fun ds G1 => zipL2 ds G1 R := (rfl)
@[simp] theorem zipL_is {xs z G1 R} : zipL [.tup xs, .str z] G1 R = (z.length ≤ sizeLine ∧ R (zipD xs (signsD z)) (fun _ => True) G1) := (rfl)
def zipO (o : Option DO) (z : Str) (a : Addr) (G1 : Gp) (R : List D → (Gp → Prop) → Gp → Prop) : Prop := ∃ xs, o = some (.lst xs) ∧ z.length ≤ sizeLine ∧ R (zipD (signsD z) xs) (fun G => G a = some (.lst xs)) G1
@[simp] theorem zipL2_is {a z G1 R} : zipL2 [.str z, .ref a] G1 R = zipO (G1 a) z a G1 R := (rfl)
@[simp] theorem zipO_is {xs a z G1 R} : zipO (some (.lst xs)) z a G1 R = (z.length ≤ sizeLine ∧ R (zipD (signsD z) xs) (fun G => G a = some (.lst xs)) G1) := propext ⟨fun ⟨_, e, h⟩ => by cases e; exact h, fun h => ⟨_, rfl, h⟩⟩
@[simp ↓] theorem dIxK_app {tbl te sd G Q} : dIxK tbl te sd G Q = te sd G fun d G1 => tbS d fun y => ∃ s, tbl.lookup y = some s ∧ Q (.str s) G1 := (rfl)
@[simp ↓] theorem dInK_app {neg tbl te sd G Q} : dInK neg tbl te sd G Q = te sd G fun d G1 => tbS d fun y => Q (.bl ((tbl.lookup y).isSome != neg)) G1 := (rfl)
@[simp] theorem tbS_str {y P} : tbS (.str y) P = P y := (rfl)
def joinO (a : Str) (o : Option DO) (G : Gp) (Q : DQ) : Prop := ∃ xs, o = some (.lst xs) ∧ ∃ ys : List Str, xs = ys.map .str ∧ (ys.map (·.length)).sum + ys.length * a.length ≤ 16777216 ∧ OkS (Txt.join a ys) ∧ Q (.str (Txt.join a ys)) G
@[simp] theorem joinR_is {a p G Q} : joinR (.str a) [.ref p] G Q = joinO a (G p) G Q := (rfl)
theorem joinO_of {a : Str} {ys : List Str} {G : Gp} {Q : DQ} (hz : (ys.map (·.length)).sum + ys.length * a.length ≤ 16777216) (ok : OkS (Txt.join a ys)) (q : Q (.str (Txt.join a ys)) G) : joinO a (some (.lst (ys.map .str))) G Q := ⟨_, rfl, ys, rfl, hz, ok, q⟩
theorem splitR_is {a b G Q} : splitR (.str a) [.str b] G Q = ((b.length == 0) = false ∧ a.length + 2 ≤ sizeLine ∧ (∀ z ∈ Txt.split a b, OkS z) ∧ (Txt.split a b).length ≤ sizeLine ∧ ∀ p, Nw G p → Q (.ref p) (put G p (.lst ((Txt.split a b).map .str)))) := (rfl)
@[simp] theorem strR_int {i G Q} : strR [.int i] G Q = (i.natAbs.log2 < 1920 ∧ OkS (Str.ofString (toString i)) ∧ Q (.str (Str.ofString (toString i))) G) := (rfl)
@[simp] theorem strR_str {a G Q} : strR [.str a] G Q = Q (.str a) G := (rfl)
@[simp] theorem intTR_str {a G Q} : intTR [.str a] G Q = ∃ n, PySem.intText? a = some n ∧ a.length ≤ 640 ∧ Q (.int n) G := (rfl)
end DL
set_option Elab.async false
set_option linter.all false
set_option maxRecDepth 100000
set_option maxHeartbeats 4000000
/-! dicts displayed with written words as keys -/
namespace DL
open PySem PySem.Spec L2
def dPairs : List (Str × DTE) → SD → Gp → (List (Str × D) → Gp → Prop) → Prop
  | [], _, G, Q => Q [] G
  | (k, tv) :: r, sd, G, Q => tv sd G fun d G1 => dPairs r sd G1 fun ps G2 => Q ((k, d) :: ps) G2
def dDisp (t : List (Str × DTE)) : DTE := fun sd G Q => ∀ p, Nw G p → dPairs t sd (put G p (.dict false [])) fun ps G2 => G2 p = some (.dict false []) ∧ (ps.map (·.1)).Nodup ∧ Q (.ref p) (put G2 p (.dict false (ps.map fun q => (.str q.1, q.2))))
section
variable {X : Cx} {B : Bx} {pos : Pos}
structure DPs (X : Cx) (B : Bx) (pos : Pos) (keys : List (Option Expr)) (values : List Expr) (t : List (Str × DTE)) : Prop where
  ex : ∃ trs, PPs X pos keys values trs ∧ ∀ σ H sd G Q (P : List (V × V) → Hp → Prop), RelS H σ sd → Rep X.K B H G → dPairs t sd G Q →
    (∀ ps vs H1 G1, Kp H H1 → RelL H1 (ps.map (·.2)) vs → Rep X.K B H1 G1 → Q ps G1 → ps.length = t.length → P ((ps.map fun q => V.str q.1).zip vs) H1) → tPairs trs σ H P
  len : keys.length = t.length ∧ values.length = t.length
  some_ : keys.all (·.isSome) = true
  ok : ∀ q ∈ t, OkS q.1
theorem dps_nil : DPs X B pos [] [] [] := ⟨⟨_, pps_nil, fun σ H sd G Q P hS R t hP => hP [] [] H G (.refl H) rfl R t rfl⟩, ⟨rfl, rfl⟩, rfl, fun _ h => nomatch h⟩
theorem dps_cons {k : Str} {v : Expr} {ks : List (Option Expr)} {vs : List Expr} {tv : DTE} {t : List (Str × DTE)} {ke : Expr} (hk : DE X B ke (dC (.str k))) (pk : PE X ke (tC (.str k))) (hv : DE X B v tv) (hr : DPs X B pos ks vs t) (ok : OkS k := by decide +kernel) :
    DPs X B pos (some ke :: ks) (v :: vs) ((k, tv) :: t) := by
  obtain ⟨tv', pv, hv⟩ := hv.ex
  obtain ⟨trs, pr, hr'⟩ := hr.ex
  refine ⟨⟨_, pps_cons pk pv pr, fun σ H sd G Q P hS R t' hP => ?_⟩, ⟨by simp [hr.len.1], by simp [hr.len.2]⟩, by simp [hr.some_], fun q hq => ?_⟩
  · refine hv σ H sd G _ _ hS R t' fun x d H1 G1 k1 r1 R1 q1 => ?_
    refine hr' σ H1 sd G1 _ _ (hS.mono k1) R1 q1 fun ps us H2 G2 k2 r2 R2 q2 l2 => ?_
    have := hP ((k, d) :: ps) (x :: us) H2 G2 (k1.trans k2) ⟨x, us, rfl, r1.mono k2, r2⟩ R2 q2 (by simp [l2])
    simpa using this
  · rcases List.mem_cons.mp hq with rfl | hq
    · exact ok
    · exact hr.ok q hq
theorem mergeK_nd : ∀ (more kvs : List (Key × V)), (more.map (·.1)).Nodup → (∀ q ∈ more, ∀ r ∈ kvs, r.1 ≠ q.1) → mergeK kvs more = kvs ++ more
  | [], kvs, _, _ => by simp [mergeK]
  | q :: more, kvs, nd, h => by
    have e : putK kvs q.1 q.2 = kvs ++ [q] := by
      unfold putK
      rw [if_neg]
      rw [List.any_eq_true]
      rintro ⟨r, hr, z⟩
      exact h q (by simp) r hr (of_decide_eq_true z)
    rw [List.map_cons, List.nodup_cons] at nd
    have := mergeK_nd more (kvs ++ [q]) nd.2 fun q' hq' r hr => by
      rcases List.mem_append.mp hr with hr | hr
      · exact h q' (by simp [hq']) r hr
      · simp at hr
        subst hr
        intro z
        exact nd.1 (List.mem_map.mpr ⟨q', hq', z.symm⟩)
    show mergeK (putK kvs q.1 q.2) more = _
    rw [e, this]
    simp
theorem zip_pairs {ps : List (Str × D)} {vs : List V} (h : ps.length = vs.length) : (ps.map fun q => V.str q.1).zip vs = (List.zipWith (fun (q : Str × D) v => ((.inr q.1 : Key), v)) ps vs).map fun kv => (kV kv.1, kv.2) := by
  induction ps generalizing vs with
  | nil => rfl
  | cons p ps ih => cases vs with
    | nil => simp at h
    | cons v vs => simp at h; simp [ih h, kV]
theorem zw_fst {ps : List (Str × D)} {vs : List V} (hl : ps.length = vs.length) : (List.zipWith (fun (q : Str × D) v => ((.inr q.1 : Key), v)) ps vs).map (·.1) = ps.map fun q => (.inr q.1 : Key) := by
  induction ps generalizing vs with
  | nil => rfl
  | cons p ps ih => cases vs with
    | nil => simp at hl
    | cons v vs => simp at hl; have := ih hl; simp at this; simp [this]
theorem zw_snd {ps : List (Str × D)} {vs : List V} (hl : ps.length = vs.length) : (List.zipWith (fun (q : Str × D) v => ((.inr q.1 : Key), v)) ps vs).map (·.2) = vs := by
  induction ps generalizing vs with
  | nil => cases vs; rfl; simp at hl
  | cons p ps ih => cases vs with
    | nil => simp at hl
    | cons v vs => simp at hl; have := ih hl; simp at this; simp [this]
theorem de_disp {keys : List (Option Expr)} {values : List Expr} {t : List (Str × DTE)} (h : DPs X B pos keys values t) (h0 : keys ≠ [] := by exact fun z => nomatch z) (h15 : keys.length ≤ 15 := by decide) : DE X B (.Dict keys values pos) (dDisp t) := by
  obtain ⟨trs, pr, hr⟩ := h.ex
  refine ⟨_, pe_disp pr h.some_ (by rw [h.len.1, h.len.2]) h0 h15, fun σ H sd G Q P hS R t' hp p hn => ?_⟩
  have R1 : Rep X.K B (upd H p (.dK [])) (put G p (.dict false [])) := R.laid (o := .dict false []) hn ⟨Nat.zero_le _, [], upd_same, rfl, rfl⟩
  refine hr σ _ sd _ _ _ (hS.mono (.fresh hn)) R1 (t' p (R.gnone hn)) fun ps vs H2 G2 k2 r2 R2 q2 l2 => ?_
  obtain ⟨g, nd, q⟩ := q2
  obtain ⟨_, ks, e1, e2, e3⟩ := R2.at_ p _ g
  have eks : ks = [] := by cases ks; rfl; cases e2
  subst eks
  have hl : ps.length = vs.length := by simpa using r2.length
  refine ⟨e1, List.zipWith (fun (q : Str × D) v => ((.inr q.1 : Key), v)) ps vs, zip_pairs hl, by rw [List.length_zipWith]; have := h.len.1; omega, ?_⟩
  have m1 := zw_fst hl
  have m2 := zw_snd hl
  have mm : mergeK [] (List.zipWith (fun (q : Str × D) v => ((.inr q.1 : Key), v)) ps vs) = List.zipWith (fun (q : Str × D) v => ((.inr q.1 : Key), v)) ps vs := by
    refine mergeK_nd _ [] ?_ (fun _ _ _ h => nomatch h)
    rw [m1]
    have : (ps.map fun q => (.inr q.1 : Key)) = (ps.map (·.1)).map Sum.inr := by rw [List.map_map]; rfl
    rw [this, List.Nodup, List.pairwise_map]
    exact List.Pairwise.imp (fun hne z => hne (Sum.inr.inj z)) nd
  rw [mm]
  have kw : Kp H2 (upd H2 p (.dK (List.zipWith (fun (q : Str × D) v => ((.inr q.1 : Key), v)) ps vs))) := .write e1 fun _ z => nomatch z
  have R3 : Rep X.K B (upd H2 p (.dK (List.zipWith (fun (q : Str × D) v => ((.inr q.1 : Key), v)) ps vs))) (put G2 p (.dict false (ps.map fun q => (.str q.1, q.2)))) := by
    refine R2.write (o := .dict false _) e1 (fun _ z => nomatch z) ⟨?_, _, upd_same, ?_, ?_⟩
    · rw [List.length_map, l2, ← h.len.1]
      exact Nat.le_trans h15 (by decide)
    · have : (List.zipWith (fun (q : Str × D) v => ((.inr q.1 : Key), v)) ps vs).map (fun k => kD k.1) = ((List.zipWith (fun (q : Str × D) v => ((.inr q.1 : Key), v)) ps vs).map (·.1)).map kD := by rw [List.map_map]; rfl
      rw [this, m1, List.map_map, List.map_map]
      rfl
    · rw [m2, List.map_map]
      have e : (ps.map ((fun x : D × D => x.2) ∘ fun q : Str × D => (D.str q.1, q.2))) = ps.map (·.2) := rfl
      rw [e]
      exact r2.mono kw
  exact hp _ (.ref p) _ _ (((Kp.fresh hn).trans k2).trans kw) rfl R3 q
end
@[simp ↓] theorem dDisp_app {t sd G Q} : dDisp t sd G Q = ∀ p, Nw G p → dPairs t sd (put G p (.dict false [])) fun ps G2 => G2 p = some (.dict false []) ∧ (ps.map (·.1)).Nodup ∧ Q (.ref p) (put G2 p (.dict false (ps.map fun q => (.str q.1, q.2)))) := (rfl)
@[simp ↓] theorem dPairs_nil {sd G} {Q : List (Str × D) → Gp → Prop} : dPairs [] sd G Q = Q [] G := (rfl)
@[simp ↓] theorem dPairs_cons {k tv r sd G} {Q : List (Str × D) → Gp → Prop} : dPairs ((k, tv) :: r) sd G Q = tv sd G fun d G1 => dPairs r sd G1 fun ps G2 => Q ((k, d) :: ps) G2 := (rfl)
/-! ### comprehensions that do -/
def compB (items : List D) (stay : Gp → Prop) (g : DTG) (tt : DTT) (te : DTE) (vs : List Nat) (sd : SD) (G1 : Gp) (Q : DQ) : Prop := stay G1 ∧ ∀ p, Nw G1 p → stay (put G1 p (.lst [])) ∧ dcL stay g tt te (dwipe sd vs) p (Q (.ref p)) items [] (put G1 p (.lst []))
@[simp ↓] theorem dComp_app {ti g tt te vs sd G Q} : dComp ti g tt te vs sd G Q = ti sd G fun items stay G1 => compB items stay g tt te vs sd G1 Q := (rfl)
theorem compB_ind {g : DTG} {tt : DTT} {te : DTE} {vs : List Nat} {sd : SD} {G : Gp} {Q : DQ} {items : List D} {stay : Gp → Prop} (I : Addr → Nat → List D → Gp → Prop) 
    (hst0 : stay G) (h0 : ∀ p, Nw G p → I p 0 [] (put G p (.lst []))) (hst : ∀ p i acc G', Nw G p → I p i acc G' → stay G')
    (step : ∀ p i x acc G' (K : List D → Gp → Prop), Nw G p → items[i]? = some x → I p i acc G' → (∀ acc' G'', I p (i + 1) acc' G'' → K acc' G'') →
      g x (dwipe sd vs) G' fun sd2 G2 => tt sd2 G2 fun b G3 => if b = true then te sd2 G3 fun y G4 => G4 p = some (.lst acc) ∧ stay (put G4 p (.lst (acc ++ [y]))) ∧ K (acc ++ [y]) (put G4 p (.lst (acc ++ [y]))) else stay G3 ∧ K acc G3)
    (fin : ∀ p acc G', Nw G p → I p items.length acc G' → Q (.ref p) G') : compB items stay g tt te vs sd G Q := by
  refine ⟨hst0, fun p hp => ⟨hst p 0 [] _ hp (h0 p hp), ?_⟩⟩
  suffices h : ∀ (ys : List D) (i : Nat) acc G', items.drop i = ys → i ≤ items.length → I p i acc G' → dcL stay g tt te (dwipe sd vs) p (Q (.ref p)) ys acc G' from h items 0 [] _ rfl (Nat.zero_le _) (h0 p hp)
  intro ys
  induction ys with
  | nil =>
    intro i acc G' e hi hI
    have : items.length ≤ i := List.drop_eq_nil_iff.mp e
    have : i = items.length := Nat.le_antisymm hi this
    subst this
    exact fin p acc G' hp hI
  | cons y ys ih =>
    intro i acc G' e hi hI
    have hlt : i < items.length := by
      rcases Nat.lt_or_ge i items.length with h | h
      · exact h
      · rw [List.drop_eq_nil_iff.mpr h] at e
        cases e
    have e1 : items[i]? = some y := by
      have := List.getElem?_drop (xs := items) (i := i) (j := 0)
      rw [e] at this
      simpa using this.symm
    have e2 : items.drop (i + 1) = ys := by
      have := List.drop_drop (i := 1) (j := i) (l := items)
      rw [e] at this
      simpa [Nat.add_comm] using this.symm
    exact step p i y acc G' _ hp e1 hI fun acc' G'' h2 => ih (i + 1) acc' G'' e2 hlt h2
theorem ne_nw {G : Gp} {a p : Addr} {o : DO} (h : G a = some o) (hp : Nw G p) : a ≠ p := fun z => by rw [z, hp] at h; cases h
theorem Ext.nw {G G' : Gp} {p : Addr} {o : DO} (e : Ext G G') (hp : Nw G p) : Ext G (DL.put G' p o) := fun a u h => by
  rw [put_ne (ne_nw h hp)]
  exact e a u h
/-- each item gives f of it, the heap grows -/
theorem compB_ext {g : DTG} {te : DTE} {vs : List Nat} {sd : SD} {G : Gp} {Q : DQ} {items : List D} {stay : Gp → Prop} (f : D → D)
    (hst : ∀ G', Ext G G' → stay G')
    (step : ∀ x G' (K : DQ), x ∈ items → Ext G G' → (∀ G'', Ext G' G'' → K (f x) G'') → g x (dwipe sd vs) G' fun sd2 G2 => te sd2 G2 K)
    (q : ∀ p G', Nw G p → Ext G G' → G' p = some (.lst (items.map f)) → Q (.ref p) G') : compB items stay g dYes te vs sd G Q := by
  refine compB_ind (fun p i acc G' => Ext G G' ∧ G' p = some (.lst acc) ∧ acc = (items.take i).map f) (hst G (.refl G)) (fun p hp => ⟨.put hp, put_same, rfl⟩) (fun p i acc G' _ h => hst G' h.1) (fun p i x acc G' K hp hx ⟨e, g', ha⟩ hK => ?_) (fun p acc G' hp ⟨e, g', ha⟩ => ?_)
  · refine step x G' _ (List.mem_of_getElem? hx) e fun G4 e4 => ?_
    have ee : Ext G (put G4 p (.lst (acc ++ [f x]))) := (e.trans e4).nw hp
    refine ⟨e4 _ _ g', hst _ ee, hK _ _ ⟨ee, put_same, ?_⟩⟩
    rw [ha, List.take_add_one, hx]
    simp
  · subst ha
    rw [List.take_length] at g'
    exact q p G' hp e g'
/-- a comprehension that only looks -/
theorem compB_pure {g : DTG} {tt : DTT} {te : DTE} {vs : List Nat} {sd : SD} {G : Gp} {Q : DQ} {items : List D} {stay : Gp → Prop} (f : D → Option D)
    (hst0 : stay G) (hst : ∀ p ys, G p = none → stay (put G p (.lst ys))) (ht : ∀ p ys x, G p = none → x ∈ items → turnIs g tt te (dwipe sd vs) x (put G p (.lst ys)) (f x))
    (q : ∀ p, Nw G p → Q (.ref p) (put G p (.lst (items.filterMap f)))) : compB items stay g tt te vs sd G Q :=
  ⟨hst0, fun p hp => ⟨hst p _ hp, dcL_pure f hp (fun ys => hst p ys hp) items [] (fun x hx ys => ht p ys x hp hx) (by simpa using q p hp)⟩⟩
end DL
set_option Elab.async false
set_option linter.all false
set_option maxRecDepth 100000
set_option maxHeartbeats 4000000
namespace DL
open PySem PySem.Spec L2
section
variable {X : Cx} {B : Bx} {e o a b : Expr} {ta td : DTE} {pos apos cpos p : Pos} {x : Str} {c : Addr} {zs : List Str}
theorem dt_inC {neg : Bool} {op : CmpOp} (hop : op = (if neg then .NotIn else .In)) (ha : DE X B a ta) (hg : Gl X x) (hm : X.mg x = some (.ref c)) (hc : tupB X.K c zs = true)
    (hmk : behindInMarks op (.Name x p) = false := by rfl) (hz : zs.all PySem.PyData.strOk = true := by decide +kernel) (hd : (x == ("__debug__" : Str)) = false := by decide) : DT X B (.Compare a [op] [.Name x p] pos) (dTest (dInC neg zs ta)) := by
  obtain ⟨ta', pa, ha⟩ := ha.ex
  have pg : PE X (.Name x p) (tC (.ref c)) := pe_glob (v := .ref c) hg hm rfl hd
  cases neg with
  | true =>
    subst hop
    refine ⟨_, pt_cmpR op_notIn_seq pa pg hmk, fun σ H sd G Q P hS R t hp => ?_⟩
    refine ha σ H sd G _ _ hS R t fun v d H1 G1 k1 r1 R1 q1 => ?_
    obtain ⟨f1, f2, f3⟩ := inC_at (zs := zs) hz q1.1 r1
    exact ⟨c, _, rfl, .inr (tupB_ok hc H1), f1, f2, by rw [f3]; exact (post_bl hp) _ (.bl _) H1 G1 k1 rfl R1 (by simpa using q1.2)⟩
  | false =>
    subst hop
    refine ⟨_, pt_cmpR op_in_seq pa pg hmk, fun σ H sd G Q P hS R t hp => ?_⟩
    refine ha σ H sd G _ _ hS R t fun v d H1 G1 k1 r1 R1 q1 => ?_
    obtain ⟨f1, f2, f3⟩ := inC_at (zs := zs) hz q1.1 r1
    exact ⟨c, _, rfl, .inr (tupB_ok hc H1), f1, f2, by rw [f3]; exact (post_bl hp) _ (.bl _) H1 G1 k1 rfl R1 (by simpa using q1.2)⟩
end
end DL
set_option Elab.async false
set_option linter.all false
set_option maxRecDepth 100000
set_option maxHeartbeats 4000000
namespace DL
open PySem PySem.Spec L2 PyProof.Rows
/-! ### dict(t), dict(l): pairs with ints for keys -/
section
variable {X : Cx}
theorem pairs_at {pins : List (Addr × Obj)} {σ : L2.St} {H : Hp} {s : Shared} (I : L2.Inv X pins σ H s) : ∀ {ps : List Addr} {kvs : List (Key × V)}, Paired (fun p kv => SqT X.K H p [kV kv.1, kv.2]) ps kvs →
    ∃ (prs : List (Key × Value)) (pvs : List (Value × Value)), KV kvs prs ∧ prs.length = ps.length ∧ pvs.length = ps.length ∧ ∀ (j : Nat) (b : Addr), ps[j]? = some b → ∃ k u v, prs[j]? = some (k, v) ∧ pvs[j]? = some (u, v) ∧ IsTup s.heap b #[u, v] ∧ keyIs k u = true
  | _, _, .nil => ⟨[], [], .nil, rfl, rfl, fun j q e => by simp at e⟩
  | _, _, .cons (a := p) (b := kv) h t => by
    obtain ⟨prs, pvs, r, hl, hl2, hp⟩ := pairs_at I t
    obtain ⟨its, rv, ht, _⟩ := I.tuple h
    obtain ⟨u, y, ei, ru, ry⟩ := vals2 rv
    subst ei
    refine ⟨(kv.1, y) :: prs, (u, y) :: pvs, .cons ⟨rfl, ry⟩ r, by rw [List.length_cons, List.length_cons, hl], by rw [List.length_cons, List.length_cons, hl2], fun j b e => ?_⟩
    cases j with
    | zero =>
      have e' : p = b := Option.some.inj e
      subst e'
      exact ⟨kv.1, u, y, rfl, rfl, ht, kV_is (P := X.prog) (w := X.w) ru⟩
    | succ j =>
      obtain ⟨k, u', v, e1, e2, e3⟩ := hp j b (by simpa using e)
      exact ⟨k, u', v, by simpa using e1, by simpa using e2, e3⟩
theorem call_dictT (hcalm : X.calm = true) : CallR X (.type "dict") (fun xs H Q => ∃ (a : Addr) (o : Obj) (ps : List Addr) (kvs : List (Key × V)), xs = [.ref a] ∧ H a = some (.frz o (.tup (ps.map V.ref))) ∧ o.dict = none ∧ Paired (fun p kv => SqT X.K H p [kV kv.1, kv.2]) ps kvs ∧
    ∀ p, H p = none → Q (.ref p) (upd H p (.dK (mergeK [] kvs)))) := by
  intro pins s σ H xs us Q I r q
  obtain ⟨a, o, ps, kvs, ex, hq, hdn, hp, q⟩ := q
  subst ex
  obtain ⟨u, eu, rx⟩ := vals1 r
  subst eu
  cases rx
  obtain ⟨ho, hz, its, rv, ht⟩ := I.hok a _ hq
  have ei := refs_at rv
  subst ei
  rw [List.length_map] at hz
  obtain ⟨prs, pvs, rel, hl, hl2, hpr⟩ := pairs_at I hp
  obtain ⟨o', ho', hc, n, hdat⟩ := ht
  rw [ho] at ho'
  cases ho'
  have hsz : pvs.length = ps.length := hl2
  refine call_dict_pairs (knd := mixKind X.prog X.w) (kvs := prs) (PairArg.tuple a (ps.map Value.ref).toArray (fun j => ps.getD j 0) pvs) (I.ok.hd hcalm) ⟨⟨o, n, ho, hc, hdn, hdat⟩, by simp [hl2], fun j k v e => ?_⟩ ⟨by rw [hl, hl2], fun i key v e => ?_⟩ (by rw [hl2]; exact hz) fun h' tk hd' k => ?_
  · have hj : j < ps.length := by rw [← hl2]; exact (List.getElem?_eq_some_iff.mp e).1
    obtain ⟨k', u, v', e1, e2, e3, e4⟩ := hpr j ps[j] (List.getElem?_eq_getElem hj)
    rw [e] at e2
    cases e2
    have eg : ps.getD j 0 = ps[j] := by simp [List.getD_eq_getElem?_getD, hj]
    refine ⟨by simp [hj], .inl ?_⟩
    show s.heap.IsTuple (ps.getD j 0) #[k, v]
    rw [eg]
    exact e3
  · have hj : i < ps.length := by rw [← hl2]; exact (List.getElem?_eq_some_iff.mp e).1
    obtain ⟨k', u, v', e1, e2, e3, e4⟩ := hpr i ps[i] (List.getElem?_eq_getElem hj)
    have e : pvs[i]? = some (key, v) := e
    rw [e] at e2
    cases e2
    exact ⟨k', e1, e4⟩
  · have hm : (s.heap.objs.size == sysModules) = false := beq_eq_false_iff_ne.mpr (Nat.ne_of_gt I.big)
    have hlen : (mergeK [] kvs).length ≤ sizeLine := by
      refine Nat.le_trans (length_mergeK kvs []) ?_
      rw [List.length_nil, Nat.zero_add, rel.length, hl]
      exact hz
    exact ⟨.ref s.heap.objs.size, upd H s.heap.objs.size (.dK (mergeK [] kvs)), I.laid (t' := tk) (fun b o e => k b o (by simp) e) (Nat.le_refl _) (show ObjOk X.prog X.w _ _ _ (.dK (mergeK [] kvs)) from ⟨hlen, hm, merged [] prs, KV.merge rel .nil, hd'⟩), rfl, q _ (I.hok.fresh (Nat.le_refl _))⟩
/-- the pairs of it -/
def prsD (kvs : List (Int × D)) : List D := kvs.map fun q => .tup [.int q.1, q.2]
def dctD (kvs : List (Int × D)) : List (D × D) := kvs.map fun q => (.int q.1, q.2)
def dictR : List D → Gp → DQ → Prop := fun ds G Q => match ds with
  | [.tup xs] => ∃ kvs, xs = prsD kvs ∧ offs xs = true ∧ (kvs.map (·.1)).Nodup ∧ ∀ p, Nw G p → Q (.ref p) (put G p (.dict false (dctD kvs)))
  | [.ref a] => ∃ kvs, G a = some (.lst (prsD kvs)) ∧ (kvs.map (·.1)).Nodup ∧ ∀ p, Nw G p → Q (.ref p) (put G p (.dict false (dctD kvs)))
  | _ => False
theorem prs_rel {K : PySem.W.Frag} {H : Hp} : ∀ {kvs : List (Int × D)} {xs : List V}, RelL H (prsD kvs) xs → ∃ (ps : List Addr) (vs : List V), xs = ps.map V.ref ∧ RelL H (kvs.map (·.2)) vs ∧ Paired (fun p (kv : Key × V) => SqT K H p [kV kv.1, kv.2]) ps (List.zipWith (fun (q : Int × D) v => ((.inl q.1 : Key), v)) kvs vs)
  | [], xs, h => by cases (relL_nil.mp h); exact ⟨[], [], rfl, rfl, .nil⟩
  | q :: kvs, xs, h => by
    obtain ⟨x, r, rfl, ⟨p, ys, rfl, h1, ⟨k, r1, rfl, hk, v, r2, rfl, hv, h2⟩, _⟩, h3⟩ := h
    cases hk
    cases (relL_nil.mp h2)
    obtain ⟨ps, vs, rfl, r4, r5⟩ := prs_rel (K := K) (kvs := kvs) h3
    exact ⟨p :: ps, v :: vs, rfl, ⟨v, vs, rfl, hv, r4⟩, .cons h1.sq r5⟩
theorem dctD_at {K : PySem.W.Frag} {B : Bx} {H : Hp} {G : Gp} {kvs : List (Int × D)} {vs : List V} {p : Addr} (R : Rep K B H G) (hn : H p = none) (r : RelL H (kvs.map (·.2)) vs) (nd : (kvs.map (·.1)).Nodup) (hz : kvs.length ≤ sizeLine) :
    Kp H (upd H p (.dK (mergeK [] (List.zipWith (fun (q : Int × D) v => ((.inl q.1 : Key), v)) kvs vs)))) ∧ Rep K B (upd H p (.dK (mergeK [] (List.zipWith (fun (q : Int × D) v => ((.inl q.1 : Key), v)) kvs vs)))) (put G p (.dict false (dctD kvs))) := by
  have hl : kvs.length = vs.length := by simpa using r.length
  have f1 : ∀ {kvs : List (Int × D)} {vs : List V}, kvs.length = vs.length → (List.zipWith (fun (q : Int × D) v => ((.inl q.1 : Key), v)) kvs vs).map (·.1) = kvs.map fun q => (.inl q.1 : Key) := fun {kvs vs} h => by
    induction kvs generalizing vs with
    | nil => rfl
    | cons q kvs ih => cases vs with
      | nil => cases h
      | cons v vs =>
        have h' : kvs.length = vs.length := by simpa using h
        rw [List.zipWith_cons_cons, List.map_cons, List.map_cons, ih h']
  have f2 : ∀ {kvs : List (Int × D)} {vs : List V}, kvs.length = vs.length → (List.zipWith (fun (q : Int × D) v => ((.inl q.1 : Key), v)) kvs vs).map (·.2) = vs := fun {kvs vs} h => by
    induction kvs generalizing vs with
    | nil => cases vs with
      | nil => rfl
      | cons _ _ => cases h
    | cons q kvs ih => cases vs with
      | nil => cases h
      | cons v vs =>
        have h' : kvs.length = vs.length := by simpa using h
        rw [List.zipWith_cons_cons, List.map_cons, ih h']
  have hm : mergeK [] (List.zipWith (fun (q : Int × D) v => ((.inl q.1 : Key), v)) kvs vs) = List.zipWith (fun (q : Int × D) v => ((.inl q.1 : Key), v)) kvs vs := by
    rw [mergeK_nd _ [] (by
      rw [f1 hl]
      have : (kvs.map fun q => (.inl q.1 : Key)) = (kvs.map (·.1)).map Sum.inl := by rw [List.map_map]; rfl
      rw [this]
      rw [List.Nodup, List.pairwise_map]
      exact List.Pairwise.imp (fun h z => h (Sum.inl.inj z)) nd) fun q _ r hr => nomatch hr]
    rfl
  rw [hm]
  refine ⟨.fresh hn, R.laid hn ⟨by simpa [dctD] using hz, _, upd_same, ?_, ?_⟩⟩
  · have e1 : (dctD kvs).map (·.1) = kvs.map fun q => D.int q.1 := by simp [dctD]
    have e2 := congrArg (List.map kD) (f1 hl)
    rw [List.map_map, List.map_map] at e2
    rw [e1]
    exact e2.symm
  · rw [f2 hl]
    have e1 : (dctD kvs).map (·.2) = kvs.map (·.2) := by simp [dctD]
    rw [e1]
    exact r.mono (.fresh hn)
theorem dc_dict {B : Bx} (hc : X.calm = true) : DCall X B (.type "dict") dictR := by
  refine ⟨_, (call_dictP hc).or (call_dictT hc), fun H G xs ds Q P r R q hp => ?_⟩
  match ds, q, r with
  | [.tup ys], q, r =>
    obtain ⟨x, rfl, rx⟩ := rel1 r
    obtain ⟨a, vs, rfl, h1, h2, hz⟩ := rx
    obtain ⟨kvs, rfl, ho, nd, q⟩ := q
    rw [ho] at h1
    obtain ⟨o, hd, h1⟩ := h1
    obtain ⟨ps, ws, rfl, r4, r5⟩ := prs_rel (K := X.K) h2
    refine .inr ⟨a, o, ps, _, rfl, h1, hd, r5, fun p hn => ?_⟩
    obtain ⟨k, R'⟩ := dctD_at R hn r4 nd (by simpa [prsD] using hz)
    exact hp _ (.ref p) _ _ k rfl R' (q p (R.gnone hn))
  | [.ref a], q, r =>
    obtain ⟨x, rfl, rx⟩ := rel1 r
    cases rx
    obtain ⟨kvs, g, nd, q⟩ := q
    obtain ⟨xs, h1, h2, hz⟩ := R.at_ a _ g
    obtain ⟨ps, ws, rfl, r4, r5⟩ := prs_rel (K := X.K) h2
    refine .inl ⟨a, ps, _, rfl, .inl (.inl h1), r5, fun p hn => ?_⟩
    obtain ⟨k, R'⟩ := dctD_at R hn r4 nd (by simpa [prsD] using hz)
    exact hp _ (.ref p) _ _ k rfl R' (q p (R.gnone hn))
  | [], q, _ => exact q.elim
  | a :: b :: c, q, _ => exact (by cases a <;> exact (show False from q).elim)
  | [.non], q, _ => exact q.elim
  | [.bl _], q, _ => exact q.elim
  | [.int _], q, _ => exact q.elim
  | [.str _], q, _ => exact q.elim
  | [.ty _], q, _ => exact q.elim
end
end DL
set_option Elab.async false
set_option linter.all false
set_option maxRecDepth 100000
set_option maxHeartbeats 4000000
namespace DL
open PySem PySem.Spec L2 PyProof.Rows
open PySem.W (AllAlike Sortable dataLe)
/-! ### sorted(l, key=lambda r: r[0]) -/
/-- the lambda, called with a tuple -/
theorem call_first {P : Program} {w : World} {A : Around} {s : Shared} {f c' t : Addr} {q r : Str} {params : Arguments} {scope : Scope} {pm ctv : Value} {p1 p2 p3 : Pos} {j : Nat} {items : Array Value} {k : PyData} {x : Value}
    (hroom : A.depth < recursionLimit) (hk : scope.kind = .function) (hco : scope.isCoroutine = false) (hgen : scope.isGenerator = false) (hl : scope.names = [(r, .local)]) (hd : (r == ("__debug__" : Str)) = false)
    (ho : s.heap.get? f = some (PySem.W.kla_obj "<lambda>" q params (.Subscript (.Name r p1) (.Constant (.int 0) j p2) p3) scope [] pm c' ctv))
    (hb : ∀ v, bindArgs (PySem.W.kla_fn "<lambda>" q params (.Subscript (.Name r p1) (.Constant (.int 0) j p2) p3) scope [] pm (.ref c') ctv) ⟨[v], []⟩ = pure [(r, v)])
    (hc : s.heap.CodeRec (.ref c') q) (nl : s.heap.NoLimit) (ht : IsTup s.heap t items) (hx : items[0]? = some x) (hr : Reads s.heap x k []) :
    wpAny (model P w) A (call (.ref f) [.ref t]) (PySem.W.KeyPure k s) (fun _ _ => False) s := by
  refine wpAny_call ?_
  refine PySem.W.kla_callFunE hroom ho rfl hco hgen rfl hc ?_
  rw [hb]
  refine wpAny_pure (wpAny_newFunctionEnv (fun y hy => by rw [hl] at hy; simp at hy; rw [hy]; simp) (fun y hy => by
    have e : y = (r, Value.ref t) := by simpa using hy
    rw [e, hl]
    simp [List.lookup]) (fun h₁ hns hsb => ⟨nl.fresh _ hsb, ?_⟩) hk)
  refine PySem.W.kla_codeExpr ?_
  have kp : ∀ b o, s.heap.get? b = some o → h₁.get? b = some o := fun b o e => hsb.extBut b o (Nat.ne_of_lt (Heap.lt_size e)) (Heap.get?_push_of_some _ e)
  refine Subscript_ (wpAny_Name (wpAny_loadName_local (m := fun x => [(r, Value.ref t)].reverse.lookup x) (v := .ref t) hk ?_ hns (by simp [List.lookup]) (wpAny_Constant_int ?_)) hd)
  · show scope.names.lookup r = _
    rw [hl]
    simp [List.lookup]
  have ht' : IsTup h₁ t items := ht.keeps kp
  have hr' := hr
  refine subscriptTail_builtinR (x := x) ht'.typeIs slot_tuple_getitem.lookup (getItem_tuple (j := 0) (Q := fun r s' => r = x ∧ _) ht' (by omega) (by omega) ?_ hx ⟨rfl, ?_⟩) rfl
  · have hz : 0 < items.size := by
      rcases Nat.eq_zero_or_pos items.size with z | z
      · rw [Array.getElem?_eq_none (by omega)] at hx; cases hx
      · exact z
    unfold seqIndex?
    simp [hz]
  · exact ⟨h₁, _, rfl, kp, Reads.keeps kp hr⟩
theorem reads_ints {h : Heap} {vs : List Value} {ns : List Int} (hi : IntsAre vs ns) : ReadsAll h vs (ns.map PyData.int) [] := by
  induction hi with
  | nil => exact .nil
  | cons n t _ ih => exact ReadsAll.cons (h := h) (Reads.int n t) ih
/-- sorted(l, key=lambda r: r[0]): T the tables -/
def tSortFirst (K : PySem.W.Frag) (T : List (Addr × Str)) (t : TA) : TE := fun σ H Q => t σ H fun vs H1 => LamX.Tabs T H1 ∧ ∀ H2, LamX.ExtN H1 H2 → LamX.Tabs T H2 → ∃ (a : Addr) (bs : List (PyData × V)), vs = [.ref a] ∧ SqL K H2 a (bs.map (·.2)) ∧
  (∀ b ∈ bs, ∃ (p : Addr) (ys : List V) (i : Int), b.2 = .ref p ∧ SqT K H2 p (.int i :: ys) ∧ b.1 = .int i) ∧ AllAlike (bs.map (·.1)) ∧ Sortable (bs.map (·.1)) ∧
  ∀ p, H2 p = none → Q (.ref p) (upd H2 p (.lst ((bs.mergeSort (dataLe false (·.1))).map (·.2))))
theorem pe_sortFirst {X : Cx} {T : List (Addr × Str)} {c P : Addr} {r : Str} {params : Arguments} {scope : Scope} {e : Expr} {t : TA} {p p1 p2 p3 lpos kpos pos : Pos} {j k : Nat} (hr : Room (k + 1) X.A) (hg : Gl X "sorted") (hm : X.mg "sorted" = none) (ha : PA X [e] t)
    (TB : LamX.TabB X.base X.mg c P) (hcode : X.env.code = .ref c) (hmT : (P, X.env.qual ++ "<lambda>") ∈ T) (hu : ∀ p ∈ T, p.1 = P → p.2 = X.env.qual ++ "<lambda>")
    (hk : scope.kind = .function) (hco : scope.isCoroutine = false) (hgen : scope.isGenerator = false) (hl : scope.names = [(r, .local)]) (hd : (r == ("__debug__" : Str)) = false) (hdef : defaultsOf params X.env = ([], []))
    (hb : ∀ (q : Str) (pm cv ctv v : Value), bindArgs (PySem.W.kla_fn "<lambda>" q params (.Subscript (.Name r p1) (.Constant (.int 0) j p2) p3) scope [] pm cv ctv) ⟨[v], []⟩ = pure [(r, v)])
    (he : backTo pos (starEach [e] X.env) = (false, eval e X.env) :: backTo pos (starEach [] X.env) := by rfl) (hpl : (backTo pos (starEach [e] X.env)).any (·.1) = false := by rfl) :
    PE X (.Call (.Name "sorted" p) [e] [⟨some "key", .Lambda params (.Subscript (.Name r p1) (.Constant (.int 0) j p2) p3) scope lpos, kpos⟩] pos) (tSortFirst X.K T t) := by
  refine ⟨fun pins s σ H Q I h => ?_⟩
  refine wpAny_Call_Name_kw (ld_blt I hg hm (by rfl) ?_ (by decide) (by decide))
  refine PyProof.Rows.callWith_kw (thn (ha.run pos pins s σ H _ I h) fun us s1 ⟨vs, H1, I1, r1, hT, q1⟩ => ?_) he hpl
  have hclo : cloFrom X.env.cells scope.names [] = [] := by rw [hl]; rfl
  show wpAny _ _ (evalAll ((do let v ← eval (.Lambda params (.Subscript (.Name r p1) (.Constant (.int 0) j p2) p3) scope lpos) X.env; standAt pos; pure v) :: [])) _ _ s1
  refine wpAny_evalAll_cons (wpAny_bind ?_)
  refine LamX.lam_make2 I1 TB hcode hmT hu hT hdef (fun y hy e => by rw [hl] at hy; simp at hy; rw [hy] at e; cases e) fun f c' pm ctv H2 s2 I2 eN T2 hf hfn hfr hco' => ?_
  refine wpAny_bind (wpAny_standAt (wpAny_pure (wpAny_evalAll_nil ?_)))
  obtain ⟨a, bs, ev, hs, hbs, hal, hsk, q⟩ := q1 H2 eN T2
  subst ev
  obtain ⟨u, eu, ru⟩ := vals1 r1
  subst eu
  obtain rfl : u = Value.ref a := ru
  rw [hclo] at hf
  obtain ⟨its, rv, hli, hz⟩ := I2.list hs
  have e : PySem.W.EachIs (fun u b => RelV b.2 u) its bs := each_of_vals rv fun b _ u r => r
  obtain ⟨⟨oc, vs', tq, hoc, hdc, hvc⟩, _, _⟩ := I2.hok c' _ hco'
  have hzb : bs.length ≤ sizeLine := by simpa using hz
  show wpAny _ _ (call (.builtin "sorted") [.ref a] [(Str.ofString "key", .ref f)]) _ _ s2
  refine PySem.W.sorted_key_data (k := fun b : PyData × V => b.1) (b := false) (R := fun u b => RelV b.2 u) hli.isList e hal hsk hzb (fun b hb' => ?_) (PyProof.Rows.ksk_s1 _ _) (fun _ => PyProof.Rows.ksk_l1 _ _) (fun x => PyProof.Rows.ksk_t1 _ _) (fun v b hv hb' h tk kp => ?_) fun out ca h' tk kp hfr' hout hlen eo => ?_
  · obtain ⟨_, _, i, _, _, ek⟩ := hbs b hb'
    have hu' := hr.un
    have hdp : b.1.depth ≤ 1 := by
      rw [ek]
      exact Nat.zero_le _
    omega
  · obtain ⟨pa, ys, i, e1, h1, ek⟩ := hbs b hb'
    rw [e1] at hv
    obtain rfl : v = Value.ref pa := hv
    have I3 : L2.Inv X pins σ H2 { s2 with heap := h, toks := tk } := I2.kept (t' := tk) kp
    obtain ⟨i1, r1', t1, _⟩ := I3.tuple h1
    cases r1' with
    | @cons _ u0 _ us0 ra rw' =>
      obtain ⟨tq', rfl⟩ := ra
      refine call_first (x := .int i tq') (q := X.env.qual ++ "<lambda>") (by have := hr.dp; show X.A.depth < _; omega) hk hco hgen hl hd (kp _ _ hf) (fun v => hb _ _ _ _ v) ⟨c', oc, vs', tq, rfl, kp _ _ hoc, hdc, hvc⟩ I3.nolimit t1 (by simp) ?_
      rw [ek]
      exact Reads.int i tq'
  · refine ⟨.ref (s2.heap.objs.size + 1), upd H2 (s2.heap.objs.size + 1) (.lst ((bs.mergeSort (dataLe false (·.1))).map (·.2))), I2.laid (t' := tk) kp (Nat.le_succ _) ?_, rfl, q _ (I2.hok.fresh (Nat.le_succ _))⟩
    exact ⟨by rw [List.length_map, List.length_mergeSort]; exact hzb, out, ca, vals_of_each eo, hout⟩
end DL
set_option Elab.async false
set_option linter.all false
set_option maxRecDepth 100000
set_option maxHeartbeats 4000000
namespace DL
open PySem PySem.Spec L2 PyProof.Rows
open PySem.W (AllAlike Sortable dataLe)
/-! ### a lambda is made: only the tables change -/
theorem Kp.ofN {H H' : Hp} (e : LamX.ExtN H H') : Kp H H' := ⟨fun a xs h => e a _ h fun _ => nofun, fun a o u h => e a _ h fun _ => nofun, fun a fs h => e a _ h fun _ => nofun, fun a fs h => e a _ h fun _ => nofun⟩
theorem RepO.growN {K : PySem.W.Frag} {H H' : Hp} {a : Addr} {o : DO} (h : RepO K H a o) (g : LamX.ExtN H H') : RepO K H' a o := by
  have e : H' a = H a := by
    cases o with
    | lst ds => obtain ⟨xs, h, _⟩ := h; rw [h, g _ _ h fun _ => nofun]
    | rol ds => obtain ⟨xs, h | ⟨_, h⟩, _⟩ := h <;> rw [h, g _ _ h fun _ => nofun]
    | dict t kvs => cases t <;> (obtain ⟨_, ks, h, _⟩ := h; rw [h, g _ _ h fun _ => nofun])
    | ldict t kvs => cases t <;> (obtain ⟨_, _, ks, h, _⟩ := h; rw [h, g _ _ h fun _ => nofun])
    | ins C ns ds => obtain ⟨dx, fs, h, _⟩ := h; rw [h, g _ _ h fun _ => nofun]
    | fn c => obtain ⟨h, _⟩ := h; rw [h, g _ _ h fun _ z => by unfold FnO at z; cases z]
  exact RepO.monoT e (Kp.ofN g).tk h
theorem Rep.lam {K : PySem.W.Frag} {B : Bx} {H H' : Hp} {G : Gp} (R : Rep K B H G) (e : LamX.ExtN H H') (t : LamX.Tabs (tabsOf K) H') : Rep K B H' G := ⟨R.k0.trans (.ofN e), fun a o g => (R.at_ a o g).growN e, t⟩
/-- the def at f, its code object is told -/
def lamB (K : PySem.W.Frag) (f : Addr) (qual : Str) : Bool := match K.lookup f with
  | some ⟨_, _, .func fd, _⟩ => (match fd.code with
    | .ref c => (csOf K).any fun q => q.1 == c && q.2.2 == qual
    | _ => false)
  | _ => false
theorem lam_at {K : PySem.W.Frag} {f : Addr} {qual : Str} {cdv : Value} (h : lamB K f qual = true) (cd : CdOk K f cdv) : ∃ c P, cdv = .ref c ∧ (c, P, qual) ∈ csOf K := by
  obtain ⟨oc, od, fd, osl, lk, rfl⟩ := cd
  unfold lamB at h
  rw [lk] at h
  cases hc : fd.code with
  | ref c =>
    simp only [hc] at h
    obtain ⟨⟨c', P, n⟩, hq, e⟩ := List.any_eq_true.mp h
    simp only [Bool.and_eq_true, beq_iff_eq] at e
    obtain ⟨rfl, rfl⟩ := e
    exact ⟨c', P, rfl, hq⟩
  | _ => simp [hc] at h
/-- what a lambda's making asks -/
structure LamAt (X : Cx) (c P : Addr) : Prop where
  tb : LamX.TabB X.base X.mg c P
  code : X.env.code = .ref c
  mem : (P, X.env.qual ++ "<lambda>") ∈ tabsOf X.K
  uq : ∀ p ∈ tabsOf X.K, p.1 = P → p.2 = X.env.qual ++ "<lambda>"
theorem lamAt {X : Cx} {f : Addr} {qual : Str} {cdv : Value} (k : TbsK X.K) (tb : TBs X.K X.mg X.base) (lb : lamB X.K f qual = true) (cd : CdOk X.K f cdv) (hc : X.env.code = cdv) (hq : X.env.qual = qual ++ ".<locals>.") : ∃ c P, LamAt X c P := by
  obtain ⟨c, P, rfl, hm⟩ := lam_at lb cd
  refine ⟨c, P, tb _ hm, hc, ?_, fun p hp e => ?_⟩
  · rw [hq]
    exact List.mem_map.mpr ⟨_, hm, rfl⟩
  · obtain ⟨q, hq', rfl⟩ := List.mem_map.mp hp
    have := k.uq _ hm q hq' e
    simp only at this ⊢
    rw [this, hq]
/-! ### sorted(l, key=lambda r: r[0]) -/
def fstOf : D → D
  | .tup (x :: _) => x
  | _ => .non
def sortF (xs : List D) : List D := xs.mergeSort (dataLe false fun d => toPD (fstOf d))
def fstOk (d : D) : Prop := ∃ (i : Int) (ys : List D), d = .tup (.int i :: ys)
def srtF (d : D) (G : Gp) (Q : DQ) : Prop := match d with
  | .ref a => ∃ xs, G a = some (.lst xs) ∧ (∀ d ∈ xs, fstOk d) ∧ AllAlike (xs.map fun d => toPD (fstOf d)) ∧ Sortable (xs.map fun d => toPD (fstOf d)) ∧ ∀ p, Nw G p → Q (.ref p) (put G p (.lst (sortF xs)))
  | _ => False
def dSortF (te : DTE) : DTE := fun sd G Q => te sd G fun d G1 => srtF d G1 Q
theorem toPD_ints (ns : List Int) : toPD (.tup (ns.map .int)) = .tuple (ns.map .int) := by
  have : ∀ ns : List Int, toPDs (ns.map .int) = ns.map .int := fun ns => by
    induction ns with
    | nil => rfl
    | cons n ns ih => simp [toPDs, toPD, ih]
  show PyData.tuple (toPDs (ns.map .int)) = _
  rw [this]
theorem de_sortFirst {X : Cx} {B : Bx} {c P : Addr} {r : Str} {params : Arguments} {scope : Scope} {e : Expr} {te : DTE} {p p1 p2 p3 lpos kpos pos : Pos} {j k : Nat} (L : LamAt X c P) (hr : Room (k + 1) X.A) (hg : Gl X "sorted") (hm : X.mg "sorted" = none) (he' : DE X B e te)
    (hk : scope.kind = .function) (hco : scope.isCoroutine = false) (hgen : scope.isGenerator = false) (hl : scope.names = [(r, .local)]) (hd : (r == ("__debug__" : Str)) = false) (hdef : defaultsOf params X.env = ([], []))
    (hb : ∀ (q : Str) (pm cv ctv v : Value), bindArgs (PySem.W.kla_fn "<lambda>" q params (.Subscript (.Name r p1) (.Constant (.int 0) j p2) p3) scope [] pm cv ctv) ⟨[v], []⟩ = pure [(r, v)])
    (hs : starEach [e] X.env = (false, eval e X.env) :: starEach [] X.env := by rfl)
    (he : backTo pos (starEach [e] X.env) = (false, eval e X.env) :: backTo pos (starEach [] X.env) := by rfl) (hpl : (backTo pos (starEach [e] X.env)).any (·.1) = false := by rfl) :
    DE X B (.Call (.Name "sorted" p) [e] [⟨some "key", .Lambda params (.Subscript (.Name r p1) (.Constant (.int 0) j p2) p3) scope lpos, kpos⟩] pos) (dSortF te) := by
  obtain ⟨te', pe, hE⟩ := he'.ex
  refine ⟨_, pe_sortFirst (T := tabsOf X.K) hr hg hm (pa_cons pe pa_nil hs) L.tb L.code L.mem L.uq hk hco hgen hl hd hdef hb he hpl, fun σ H sd G Q P hS R t hp => ?_⟩
  refine hE σ H sd G _ _ hS R t fun v d H1 G1 k1 r1 R1 q1 => ?_
  refine ⟨R1.tb, fun H2 eN T2 => ?_⟩
  cases d with
  | ref a =>
    cases r1
    obtain ⟨xs, g, hf, hal, hsk, q⟩ := q1
    have R2 := R1.lam eN T2
    have k2 := Kp.ofN eN
    obtain ⟨vs, h1, h2, hz⟩ := R2.at_ a _ g
    have key : ∀ {ds : List D} {vs : List V}, RelL H2 ds vs → (∀ d ∈ ds, fstOk d) → ∃ bs : List (D × V), bs.map (·.1) = ds ∧ bs.map (·.2) = vs ∧ ∀ b ∈ bs, Rel H2 b.1 b.2 ∧ fstOk b.1 := fun {ds vs} h => by
      induction ds generalizing vs with
      | nil => cases (relL_nil.mp h); exact fun _ => ⟨[], rfl, rfl, nofun⟩
      | cons d ds ih =>
        obtain ⟨x, r, rfl, h3, h4⟩ := h
        intro hf
        obtain ⟨bs, e1, e2, h5⟩ := ih h4 fun y hy => hf y (by simp [hy])
        refine ⟨(d, x) :: bs, by simp [e1], by simp [e2], fun b hb => ?_⟩
        rcases List.mem_cons.mp hb with rfl | hb
        · exact ⟨h3, hf _ (by simp)⟩
        · exact h5 b hb
    obtain ⟨bs, e1, e2, h3⟩ := key h2 hf
    have m1 : (bs.map fun b => (toPD (fstOf b.1), b.2)).map (·.1) = xs.map fun d => toPD (fstOf d) := by rw [← e1, List.map_map, List.map_map]; rfl
    have m2 : (bs.map fun b => (toPD (fstOf b.1), b.2)).map (·.2) = vs := by rw [← e2, List.map_map]; rfl
    refine ⟨a, bs.map fun b => (toPD (fstOf b.1), b.2), rfl, by rw [m2]; exact .inl (.inl h1), fun b hb => ?_, by rw [m1]; exact hal, by rw [m1]; exact hsk, fun p hn => ?_⟩
    · obtain ⟨b0, hb0, rfl⟩ := List.mem_map.mp hb
      obtain ⟨rb, i, ys, ed⟩ := h3 b0 hb0
      rw [ed] at rb ⊢
      obtain ⟨pa, us, e3, t1, ⟨x, r', e4, hx, rl3⟩, _⟩ := rb
      subst e4
      cases hx
      exact ⟨pa, r', i, e3, t1.sq, rfl⟩
    · have em : ((bs.map fun b => (toPD (fstOf b.1), b.2)).mergeSort (dataLe false (·.1))).map (·.2) = (bs.mergeSort (dataLe false fun b => toPD (fstOf b.1))).map (·.2) := by
        have := List.map_mergeSort (r := dataLe false fun b : D × V => toPD (fstOf b.1)) (s := dataLe false fun b : PyData × V => b.1) (f := fun b => (toPD (fstOf b.1), b.2)) (l := bs) (fun _ _ _ _ => rfl)
        rw [← this, List.map_map]
        rfl
      have e3 : sortF xs = (bs.mergeSort (dataLe false fun b => toPD (fstOf b.1))).map (·.1) := by
        unfold sortF
        rw [← e1]
        exact (List.map_mergeSort (r := dataLe false fun b : D × V => toPD (fstOf b.1)) (s := dataLe false fun d => toPD (fstOf d)) (f := fun b : D × V => b.1) (l := bs) (fun _ _ _ _ => rfl)).symm
      rw [em]
      have rl : ∀ {l : List (D × V)}, (∀ b ∈ l, Rel H2 b.1 b.2) → RelL H2 (l.map (·.1)) (l.map (·.2)) := fun {l} h => by
        induction l with
        | nil => exact rfl
        | cons b l ih => exact ⟨_, _, rfl, h b (by simp), ih fun c hc => h c (by simp [hc])⟩
      have r2 : RelL H2 (sortF xs) ((bs.mergeSort (dataLe false fun b => toPD (fstOf b.1))).map (·.2)) := by
        rw [e3]
        exact rl fun b hb => (h3 b (List.mem_mergeSort.mp hb)).1
      refine hp _ (.ref p) _ _ (k1.trans (k2.trans (.fresh hn))) rfl (R2.laid (o := .lst (sortF xs)) hn ⟨_, upd_same, r2.mono (.fresh hn), ?_⟩) (q p (R2.gnone hn))
      unfold sortF
      rw [List.length_mergeSort]
      exact hz
  | _ => exact (show False from q1).elim
end DL
set_option Elab.async false
set_option linter.all false
set_option maxRecDepth 100000
set_option maxHeartbeats 4000000
namespace DL
open PySem PySem.Spec L2 PyProof.Rows
/-! ### while -/
def dWhile (tc : DTT) (tb : DTS) : DTS := fun DD sd G => ∃ W : Nat → SD → Gp → Prop, (∃ m, W m sd G) ∧ ∀ m sd G, W m sd G →
  ∃ N : SD → Gp → Prop, (∀ sd' G', N sd' G' → ∃ m', m' < m ∧ W m' sd' G') ∧ tc sd G fun b G1 => if b = true then tb ⟨N, DD.rt, DD.nx, N⟩ sd G1 else DD.nx sd G1
section
variable {X : Cx} {B : Bx} {pos : Pos}
theorem ds_while {c : Expr} {body : List Stmt} {tc : DTT} {tb : DTS} (po : PassesOwn (model X.prog X.w) X.A X.env X.xe) (hc : DT X B c tc) (hb : DSs X B body tb) : DS X B (.While c body [] pos) (dWhile tc tb) := by
  obtain ⟨tcv, pc, wc⟩ := hc.ex
  obtain ⟨tbv, pb, wb⟩ := hb.ex
  refine ⟨_, ps_while po pc pb, fun σ H sd G DD D hS R t hp => ?_⟩
  obtain ⟨W, ⟨m0, w0⟩, turn⟩ := t
  refine ⟨fun m σ' H' => ∃ sd' G', W m sd' G' ∧ RelS H' σ' sd' ∧ Rep X.K B H' G' ∧ Kp H H', ⟨m0, sd, G, w0, hS, R, .refl H⟩, ?_⟩
  rintro m σ1 H1 ⟨sd1, G1, w1, hS1, R1, k1⟩
  obtain ⟨N, hN, q0⟩ := turn m sd1 G1 w1
  refine wc σ1 H1 sd1 G1 _ _ hS1 R1 q0 fun b H2 G2 k2 R2 q => ?_
  cases b with
  | true =>
    rw [if_pos rfl] at q ⊢
    refine ⟨fun σ' H' => ∃ sd' G', N sd' G' ∧ RelS H' σ' sd' ∧ Rep X.K B H' G' ∧ Kp H H', fun σ' H' ⟨sd', G', n, a, b, c⟩ => ?_, ?_⟩
    · obtain ⟨m', hm, w'⟩ := hN sd' G' n
      exact ⟨m', hm, sd', G', w', a, b, c⟩
    · refine wb σ1 H2 sd1 G2 _ _ (hS1.mono k2) R2 q ⟨fun σ' sd' H' G' k a b n => ⟨sd', G', n, a, b, (k1.trans k2).trans k⟩, fun v d H' G' k r b n => hp.rt v d H' G' ((k1.trans k2).trans k) r b n, fun σ' sd' H' G' k a b n => hp.nx σ' sd' H' G' ((k1.trans k2).trans k) a b n, fun σ' sd' H' G' k a b n => ⟨sd', G', n, a, b, (k1.trans k2).trans k⟩⟩
  | false =>
    rw [if_neg (by decide)] at q ⊢
    exact hp.nx _ _ _ _ (k1.trans k2) (hS1.mono k2) R2 q
/-! ### try .. except X: -/
/-- L1: the classes caught; L2: those that pass -/
def dTry (tb : DWX → DTS) (L1 L2 : List Addr) (ts : DTS) (W : DWX) : DTS := fun DD sd G => tb (fun C x sd' G' => (C ∈ L1 ∧ ts DD sd' G') ∨ (C ∈ L2 ∧ W C x sd' G')) DD sd G
theorem ds_try {x : Str} {c : Value} {body suite : List Stmt} {b₀ : Stmt} {np pos' : Pos} {tb : DWX → DTS} {L1 L2 : List Addr} {ts : DTS} {W : DWX} (hs : X.stack = X.env :: X.outer) (hf : X.env.frame = some X.env.locals) (hc : Names X x c) (tk : Wish X B W)
    (h1 : ∀ C ∈ L1, PySem.W.exmOne X.K (.ref C) c = some true) (h2 : ∀ C ∈ L2, PySem.W.exmOne X.K (.ref C) c = some false)
    (hb : ∀ (B' : Bx) (W' : DWX) (pn : List (Addr × Obj)) (xe : Value → Shared → Prop), Wish (X.tr pn xe) B' W' → PassesOwn (model X.prog X.w) X.A X.env xe → DSs (X.tr pn xe) B' body (tb W'))
    (hsu : ∀ (a : Addr) (oe : Obj) (cls : Value) (d : Option Addr) (pn : List (Addr × Obj)), Zc cls d oe → (∃ vs, oe.data = .fields vs) → DSs (X.suite a ((a, oe) :: pn)) B (b₀ :: suite) ts) :
    DS X B (.Try body [.ExceptHandler (some (.Name x np)) none (b₀ :: suite) pos'] [] [] pos) (dTry tb L1 L2 ts W) := by
  obtain ⟨Wv, tkv, hW⟩ := tk.ex
  refine ⟨_, ps_try_only (tb := fun W D σ H => ∀ (pn : List (Addr × Obj)) (xe : Value → Shared → Prop), Takes (X.tr pn xe) W → PassesOwn (model X.prog X.w) X.A X.env xe → ∃ t, PSs (X.tr pn xe) body t ∧ t D σ H)
    (ts := fun a cls d D σ H => ∀ (oe : Obj) (pn : List (Addr × Obj)), Zc cls d oe → (∃ vs, oe.data = .fields vs) → ∃ t, PSs (X.suite a ((a, oe) :: pn)) (b₀ :: suite) t ∧ t D σ H) hs hf hc tkv (fun W pn xe tk po => ?_) (fun a oe cls d pn hz hv => ?_), fun σ H sd G DD D hS R t hp => ?_⟩
  · refine ⟨fun pins s σ H D I h => ?_⟩
    obtain ⟨t, p, q⟩ := h pn xe tk po
    exact p.run pins s σ H D I q
  · refine ⟨fun pins s σ H D I h => ?_⟩
    obtain ⟨t, p, q⟩ := h oe pn hz hv
    exact p.run pins s σ H D I q
  · intro pn xe tk' po'
    have hp' : PostS X.K ⟨H⟩ H DD D := ⟨fun σ' sd' H' G' k a b n => hp.nx σ' sd' H' G' k a (R.back b) n, fun v d H' G' k r b n => hp.rt v d H' G' k r (R.back b) n, fun σ' sd' H' G' k a b n => hp.bk σ' sd' H' G' k a (R.back b) n, fun σ' sd' H' G' k a b n => hp.ct σ' sd' H' G' k a (R.back b) n⟩
    have wi : Wish (X.tr pn xe) ⟨H⟩ (fun C x sd' G' => (C ∈ L1 ∧ ts DD sd' G') ∨ (C ∈ L2 ∧ W C x sd' G')) := ⟨_, tk', fun C x d σ' H' sd' G' hS' R' rx w => by
      have RB := R.back R'
      have kk : Kp H H' := R'.k0
      rcases w with ⟨hm, w⟩ | ⟨hm, w⟩
      · refine ⟨true, h1 C hm, fun _ a hn oe pn hz hv => ?_, (fun z => nomatch z)⟩
        obtain ⟨tsv, ps, ws⟩ := (hsu a oe (.ref C) d pn hz hv).ex
        exact ⟨tsv, ps, ws σ' H' sd' G' DD D hS' RB w ⟨fun σ' sd' H' G' k a b n => hp.nx σ' sd' H' G' (kk.trans k) a b n, fun v d H' G' k r b n => hp.rt v d H' G' (kk.trans k) r b n, fun σ' sd' H' G' k a b n => hp.bk σ' sd' H' G' (kk.trans k) a b n, fun σ' sd' H' G' k a b n => hp.ct σ' sd' H' G' (kk.trans k) a b n⟩⟩
      · exact ⟨false, h2 C hm, (fun z => nomatch z), fun _ => hW C x d σ' H' sd' G' hS' RB rx w⟩⟩
    obtain ⟨tbv, p, w⟩ := (hb ⟨H⟩ _ pn xe wi po').ex
    exact ⟨tbv, p, w σ H sd G DD D hS (R.rebase (.refl H)) t hp'⟩
end
end DL
set_option Elab.async false
set_option linter.all false
set_option maxRecDepth 100000
set_option maxHeartbeats 4000000
namespace DL
open PySem PySem.Spec L2 PyProof.Rows
open PySem.W (AllAlike Sortable dataLe)
/-! ### the engine: sorted by the first -/
@[simp ↓] theorem dSortF_app {te sd G Q} : dSortF te sd G Q = te sd G fun d G1 => srtF d G1 Q := (rfl)
def srtFO (o : Option DO) (G : Gp) (Q : DQ) : Prop := ∃ xs, o = some (.lst xs) ∧ (∀ d ∈ xs, fstOk d) ∧ AllAlike (xs.map fun d => toPD (fstOf d)) ∧ Sortable (xs.map fun d => toPD (fstOf d)) ∧ ∀ p, Nw G p → Q (.ref p) (put G p (.lst (sortF xs)))
@[simp] theorem srtF_ref {a G Q} : srtF (.ref a) G Q = srtFO (G a) G Q := (rfl)
theorem srtFO_ints {xs : List D} {G : Gp} {Q : DQ} (h : ∀ d ∈ xs, fstOk d) (q : ∀ p, Nw G p → Q (.ref p) (put G p (.lst (sortF xs)))) : srtFO (some (.lst xs)) G Q := by
  have hd : ∀ d ∈ xs, ∃ a : Int, toPD (fstOf d) = .int a := fun d hd => by
    obtain ⟨a, ys, rfl⟩ := h d hd
    exact ⟨a, by simp [fstOf, toPD]⟩
  refine ⟨xs, rfl, h, fun d hd' e he => ?_, .inr fun d hd' => ?_, q⟩
  · obtain ⟨x, hx, rfl⟩ := List.mem_map.mp hd'
    obtain ⟨y, hy, rfl⟩ := List.mem_map.mp he
    obtain ⟨a, e1⟩ := hd x hx
    obtain ⟨c, e2⟩ := hd y hy
    rw [e1, e2]
    rfl
  · obtain ⟨x, hx, rfl⟩ := List.mem_map.mp hd'
    obtain ⟨a, e1⟩ := hd x hx
    rw [e1]
    exact ⟨nofun, nofun⟩
/-! ### dict(..) -/
def dctT (xs : List D) (G : Gp) (Q : DQ) : Prop := ∃ kvs, xs = prsD kvs ∧ offs xs = true ∧ (kvs.map (·.1)).Nodup ∧ ∀ p, Nw G p → Q (.ref p) (put G p (.dict false (dctD kvs)))
def dctO (o : Option DO) (G : Gp) (Q : DQ) : Prop := ∃ kvs, o = some (.lst (prsD kvs)) ∧ (kvs.map (·.1)).Nodup ∧ ∀ p, Nw G p → Q (.ref p) (put G p (.dict false (dctD kvs)))
@[simp] theorem dictR_tup {xs G Q} : dictR [.tup xs] G Q = dctT xs G Q := (rfl)
@[simp] theorem dictR_ref {a G Q} : dictR [.ref a] G Q = dctO (G a) G Q := (rfl)
theorem dctT_of {os : List (Int × Int)} {G : Gp} {Q : DQ} (nd : (os.map (·.1)).Nodup) (q : ∀ p, Nw G p → Q (.ref p) (put G p (.dict false (os.map fun t => (.int t.1, .int t.2))))) : dctT (os.map fun t => .tup [.int t.1, .int t.2]) G Q := by
  refine ⟨os.map fun t => (t.1, .int t.2), ?_, ?_, ?_, ?_⟩
  · simp [prsD]
  · unfold offs
    rw [List.all_map, List.all_eq_true]
    exact fun _ _ => rfl
  · rw [List.map_map]
    exact nd
  · have e : dctD (os.map fun t => (t.1, D.int t.2)) = os.map fun t => (.int t.1, .int t.2) := by simp [dctD]
    rw [e]
    exact q
theorem dctO_of {kvs : List (Int × D)} {G : Gp} {Q : DQ} (nd : (kvs.map (·.1)).Nodup) (q : ∀ p, Nw G p → Q (.ref p) (put G p (.dict false (kvs.map fun t => (.int t.1, t.2))))) : dctO (some (.lst (kvs.map fun t => .tup [.int t.1, t.2]))) G Q := ⟨kvs, rfl, nd, q⟩
/-! ### while, try -/
def whileP (tc : DTT) (tb : DTS) (DD : DEnds) (sd : SD) (G : Gp) (t1 : Tg tc) (t2 : Tg tb) (t3 : Tg DD) : Prop := dWhile tc tb DD sd G
@[simp ↓] theorem dWhile_app {tc : DTT} {tb : DTS} {DD : DEnds} {sd G} : dWhile tc tb DD sd G = whileP tc tb DD sd G ⟨⟩ ⟨⟩ ⟨⟩ := (rfl)
theorem while_ind {tc : DTT} {tb : DTS} {DD : DEnds} (I : Nat → SD → Gp → Prop)
    (step : ∀ m sd G (K : SD → Gp → Prop), I m sd G → (∀ m' sd2 G2, m' < m → I m' sd2 G2 → K sd2 G2) → tc sd G fun b G1 => if b = true then tb ⟨K, DD.rt, DD.nx, K⟩ sd G1 else DD.nx sd G1)
    {m : Nat} {sd : SD} {G : Gp} (h0 : I m sd G) {t1 t2 t3} : whileP tc tb DD sd G t1 t2 t3 := by
  exact ⟨I, ⟨m, h0⟩, fun m sd G hI => ⟨fun sd2 G2 => ∃ m', m' < m ∧ I m' sd2 G2, fun _ _ h => h, step m sd G (fun sd2 G2 => ∃ m', m' < m ∧ I m' sd2 G2) hI fun m' sd2 G2 hm h => ⟨m', hm, h⟩⟩⟩
@[simp ↓] theorem dTry_app {tb : DWX → DTS} {L1 L2 : List Addr} {ts : DTS} {W : DWX} {n r b c sd G} : dTry tb L1 L2 ts W ⟨n, r, b, c⟩ sd G = tb (fun C x sd' G' => (C ∈ L1 ∧ ts ⟨n, r, b, c⟩ sd' G') ∨ (C ∈ L2 ∧ W C x sd' G')) ⟨n, r, b, c⟩ sd G := (rfl)
end DL
set_option Elab.async false
set_option linter.all false
set_option maxRecDepth 100000
set_option maxHeartbeats 4000000
/-! is True -/
namespace DL
open PySem PySem.Spec L2
def rIsB (neg : Bool) : R2 := fun x y H Q => ∃ a b, x = .bl a ∧ y = .bl b ∧ Q (.bl ((a == b) != neg)) H
section
variable {X : Cx} {B : Bx}
theorem op_isB' : OpR X (compareOp .Is) (rIsB false) := by
  intro pins s σ H x y v u Q I rx ry h
  obtain ⟨a, b, rfl, rfl, q⟩ := h
  cases rx
  cases ry
  refine PySem.wpAny_is_plain (by rfl) ⟨.bl ((a == b) != false), H, I, ?_, q⟩
  cases a <;> cases b <;> rfl
theorem op_notB' : OpR X (compareOp .IsNot) (rIsB true) := by
  intro pins s σ H x y v u Q I rx ry h
  obtain ⟨a, b, rfl, rfl, q⟩ := h
  cases rx
  cases ry
  refine PySem.wpAny_isNot_plain (by rfl) ⟨.bl ((a == b) != true), H, I, ?_, q⟩
  cases a <;> cases b <;> rfl
/-- is True, is not True, of bools -/
def isBR (neg : Bool) : DR2 := fun d e G Q => match d, e with
  | .bl a, .bl b => Q (.bl ((a == b) != neg)) G
  | _, _ => False
theorem op_isB : DOp X B (compareOp .Is) (isBR false) := by
  refine ⟨_, op_isB', fun H G x y d e Q P r1 r2 R q hp => ?_⟩
  match d, e, q, r1, r2 with
  | .bl a, .bl b, q, r1, r2 => exact ⟨a, b, r1, r2, hp _ (.bl _) H G (.refl H) rfl R q⟩
theorem op_notB : DOp X B (compareOp .IsNot) (isBR true) := by
  refine ⟨_, op_notB', fun H G x y d e Q P r1 r2 R q hp => ?_⟩
  match d, e, q, r1, r2 with
  | .bl a, .bl b, q, r1, r2 => exact ⟨a, b, r1, r2, hp _ (.bl _) H G (.refl H) rfl R q⟩
end
@[simp] theorem isBR_bl {neg a b G Q} : isBR neg (.bl a) (.bl b) G Q = Q (.bl ((a == b) != neg)) G := (rfl)
theorem isBR_congr {neg : Bool} {d d' e e' : D} {G : Gp} {Q : DQ} (h : d = d') (h2 : e = e') : isBR neg d e G Q = isBR neg d' e' G Q := by rw [h, h2]
end DL
set_option Elab.async false
set_option linter.all false
set_option maxRecDepth 100000
set_option maxHeartbeats 4000000
/-! list.count, list.index of bools; class names as values -/
namespace DL
open PySem PySem.Spec L2
section
variable {X : Cx} {B : Bx}
theorem vals_bls : ∀ {bs : List Bool} {its : List Value}, Vals (bs.map V.bl) its → its = bs.map Value.bool
  | [], _, .nil => rfl
  | b :: bs, _, .cons r rs => by
    cases r
    rw [vals_bls rs]
    rfl
def rCntB (K : PySem.W.Frag) : V → List V → Hp → VK → Prop := fun x xs H Q => ∃ (p : Addr) (bs : List Bool) (k : Bool), x = .ref p ∧ xs = [.bl k] ∧ SqL K H p (bs.map V.bl) ∧ Q (.int (bs.count k : Nat)) H
theorem count_bools (bs : List Bool) (k : Bool) : (bs.map Value.bool).countP (fun u => u == Value.bool k) = bs.count k := by
  induction bs with
  | nil => rfl
  | cons b bs ih =>
    rw [List.map_cons, List.countP_cons, ih, List.count_cons]
    congr 1
    cases b <;> cases k <;> rfl
theorem mt_bcount : MtR X "list.count" (rCntB X.K) := by
  intro pins s σ H x xs v us Q I rx rxs h
  obtain ⟨p, bs, k, rfl, rfl, hs, q⟩ := h
  cases rx
  obtain ⟨u, rfl, ru⟩ := rxs.one
  cases ru
  obtain ⟨its, rv, ⟨⟨cls, dd, data, sl⟩, n, ho, hc, hdn, hd⟩, hlen⟩ := I.list hs
  simp only at hc hd
  subst hc hd
  have hi := vals_bls rv
  subst hi
  refine call_meets PySem.F.slot_list_count ⟨_, ho, rfl⟩ PySem.F.entry_list_count (PySem.F.args_list_count_2 _ _)
    (SeqAt.list_countAt p (bs.map Value.bool).toArray n dd sl (.bool k) fun u => u == Value.bool k) ⟨ho, fun y hy => ?_, ?_⟩
  · obtain ⟨b, _, rfl⟩ := List.mem_map.mp (by simpa using hy : y ∈ bs.map Value.bool)
    have e : (Value.bool b == Value.bool k) = (b == k) := by cases b <;> cases k <;> rfl
    show SeqAt.EqAt _ _ _ _ (Value.bool b == Value.bool k)
    rw [e]
    exact SeqAt.EqAt.bool_bool b k
  refine ⟨.int (bs.count k : Nat), H, I.tok _, ⟨s.toks, ?_⟩, q⟩
  show Value.int (((bs.map Value.bool).toArray.toList.countP (fun u => u == Value.bool k) : Nat) : Int) s.toks = Value.int ((bs.count k : Nat) : Int) s.toks
  rw [List.toList_toArray, count_bools]
def countR : D → List D → Gp → DQ → Prop := fun d ds G Q => match d, ds with
  | .ref a, [.bl k] => ∃ bs : List Bool, G a = some (.lst (bs.map .bl)) ∧ Q (.int (bs.count k : Nat)) G
  | .ref a, [.int k] => ∃ ns : List Int, G a = some (.lst (ns.map .int)) ∧ Q (.int (ns.count k : Nat)) G
  | _, _ => False
theorem rel_bls {H : Hp} : ∀ {bs : List Bool} {xs : List V}, RelL H (bs.map .bl) xs → xs = bs.map V.bl
  | [], xs, r => by cases r; rfl
  | b :: bs, xs, r => by
    obtain ⟨x, ys, e, h1, h2⟩ := r
    subst e
    have e1 : x = .bl b := h1
    rw [e1, rel_bls h2]
    rfl
theorem rel_ints' {H : Hp} : ∀ {bs : List Int} {xs : List V}, RelL H (bs.map .int) xs → xs = bs.map V.int
  | [], xs, r => by cases r; rfl
  | b :: bs, xs, r => by
    obtain ⟨x, ys, e, h1, h2⟩ := r
    subst e
    have e1 : x = .int b := h1
    rw [e1, rel_ints' h2]
    rfl
theorem dm_count : DMt X B "list.count" countR := by
  refine ⟨_, MtR.or mt_bcount mt_lcount, fun H G x d xs ds Q P r1 r2 R q hp => ?_⟩
  match d, ds, q, r1, r2 with
  | .ref a, [.bl k], q, r1, r2 =>
    cases r1
    obtain ⟨v, ev, rv⟩ := rel1 r2
    subst ev
    obtain ⟨bs, g, q⟩ := q
    obtain ⟨vs, h1, h2, hz⟩ := lst_at R g
    have e := rel_bls h2
    subst e
    have ev : v = .bl k := rv
    subst ev
    exact .inl ⟨a, bs, k, rfl, rfl, .of h1, hp _ (.int _) H G (.refl H) rfl R q⟩
  | .ref a, [.int k], q, r1, r2 =>
    cases r1
    obtain ⟨v, ev, rv⟩ := rel1 r2
    subst ev
    obtain ⟨bs, g, q⟩ := q
    obtain ⟨vs, h1, h2, hz⟩ := lst_at R g
    have e := rel_ints' h2
    subst e
    have ev : v = .int k := rv
    subst ev
    exact .inr ⟨a, bs, k, rfl, rfl, .of h1, hp _ (.int _) H G (.refl H) rfl R q⟩
def indexR : D → List D → Gp → DQ → Prop := fun d ds G Q => match d, ds with
  | .ref a, [.bl k] => ∃ (bs : List Bool) (j : Nat), G a = some (.lst (bs.map .bl)) ∧ bs[j]? = some k ∧ (∀ m, m < j → bs[m]? ≠ some k) ∧ Q (.int j) G
  | _, _ => False
theorem dm_index : DMt X B "list.index" indexR := by
  refine ⟨_, mt_index, fun H G x d xs ds Q P r1 r2 R q hp => ?_⟩
  match d, ds, q, r1, r2 with
  | .ref a, [.bl k], q, r1, r2 =>
    cases r1
    obtain ⟨v, ev, rv⟩ := rel1 r2
    subst ev
    obtain ⟨bs, j, g, hj, hno, q⟩ := q
    obtain ⟨vs, h1, h2, hz⟩ := lst_at R g
    have e := rel_bls h2
    subst e
    have ev : v = .bl k := rv
    subst ev
    refine ⟨a, bs.map V.bl, .bl k, j, .bl k, rfl, rfl, .of h1, rfl, by rw [List.all_map, List.all_eq_true]; exact fun _ _ => rfl, by rw [List.getElem?_map, hj]; rfl, by show (k == k) = true; cases k <;> rfl, fun m z hm hz => ?_, hp _ (.int _) H G (.refl H) rfl R q⟩
    rw [List.getElem?_map] at hz
    obtain ⟨b, hb, rfl⟩ := Option.map_eq_some_iff.mp hz
    have := hno m hm
    rw [hb] at this
    show (b == k) = false
    cases b <;> cases k <;> simp_all
/-- a class, named -/
theorem de_cls {n : Str} {a : Addr} {pos : Pos} (hg : Gl X n) (hm : X.mg n = some (.ref a)) (hd : (n == ("__debug__" : Str)) = false := by decide) : DE X B (.Name n pos) (dC (.ref a)) := de_of_c (pe_glob (v := .ref a) hg hm rfl hd) fun _ => rfl
end
end DL
set_option Elab.async false
set_option linter.all false
set_option maxRecDepth 100000
set_option maxHeartbeats 4000000
/-! isinstance of a caught error, with or without fields of its own -/
namespace DL
open PySem PySem.Spec PySem.Calls PyProof.Rows
open PySem.W (Frag InstAt KitX findObj findObj_dataN looks_find looks_findIn looks_subIn class_get kitOne)
section
variable {prog : Program} {w : World} {A : Around} {E : Value → Shared → Prop} {s : Shared} {K : Frag} {x D : Addr} {ox : Obj} {od : Option Obj}
theorem findObj_any {C : Addr} {name : Str} {g a : Value} (h : findObj K C none name = some (.bind g a)) (hd : ∃ cd, PySem.W.clsIn K C = some cd) (ha : PySem.W.findIn K (.ref C) name = some (some a)) (hg : PySem.W.specialIn K a "__get__" = some (some g)) (ht : PySem.W.takesIn K a = some true) : findObj K C od name = some (.bind g a) := by
  obtain ⟨cd, hc⟩ := hd
  unfold findObj
  rw [hc, Option.bind_some, ha, Option.bind_some]
  simp [hg, ht]
/-- x.__class__, x an error -/
theorem class_of_exc {Q : Option Value → Shared → Prop} (C : L2.ExcC K D) (X : K.In s.heap) (I : InstAt s.heap x ox D od) (h : Q (some (.ref D)) { s with toks := s.toks + 1 }) : wpAny (model prog w) A (getAttr? (.ref x) "__class__") Q E s := by
  obtain ⟨cd, hcd, _⟩ := PySem.W.any_some C.hd
  have hf : findObj K D od "__class__" = some (.bind (.builtin "getset_descriptor.__get__") (.builtin "object.__class__")) := findObj_any (findObj_dataN (by rw [hcd]; rfl) C.ha C.hn C.ht) ⟨cd, hcd⟩ C.ha C.hn C.ht
  obtain ⟨hp, g, d, t, os⟩ := s
  have ty := I.type (M := model prog w)
  have gab := looks_findIn (M := model prog w) X C.hg
  have gat := looks_findIn (M := model prog w) X C.hk
  have fnd := looks_find (M := model prog w) X I hf
  have isB : PySem.W.Looks (model prog w) hp (isInstance (.ref x) (.type "BaseException")) true := ty.andThen (looks_subIn X C.hs)
  have no1 : (false && onTheHeap (Value.builtin "BaseException.__getattribute__")) = false := rfl
  have no2 : (onTheHeap (Value.ref D) && Value.builtin "BaseException.__getattribute__" == Value.builtin "object.__getattribute__") = false := by
    have e : (Value.builtin "BaseException.__getattribute__" == Value.builtin "object.__getattribute__") = false := by decide +kernel
    rw [e]; rfl
  unfold getAttr? getAttrBy? getAttrBy
  refine wpAny_bind (wpAny_mkText (wpAny_bind (wpAny_attempt (wpAny_holding (wpAny_bind (ty.at (wpAny_bind (gab.at ?_))))))))
  show wpAny _ _ (if (onTheHeap (Value.ref D) && Value.builtin "BaseException.__getattribute__" == Value.builtin "object.__getattribute__") = true then _ else _) _ _ _
  rw [no2, if_neg Bool.false_ne_true]
  unfold getAttrByItsOwn hookBefore
  refine wpAny_bind ?_
  rw [if_pos (show onTheHeap (Value.ref D) = true from rfl)]
  refine gat.at (wpAny_bind (wpAny_attempt (wpAny_holding ?_)))
  unfold callGetattribute
  rw [no1, if_neg Bool.false_ne_true]
  unfold boundAndCalled
  rw [PySem.F.excAttr_ValueError.ga.bind (.ref x)]
  refine wpAny_bind (wpAny_pure ?_)
  show wpAny _ _ (call (.builtin "BaseException.__getattribute__") [.ref x, .str "__class__" t]) _ _ _
  refine wpAny_call (codeAny_call_builtin PySem.F.excAttr_ValueError.ga.plain PySem.F.entry_bexc_ga ?_)
  refine @PySem.W.check_slot (model prog w) _ _ ⟨hp, g, d, t + 1, os⟩ "BaseException.__getattribute__" "BaseException" "__getattribute__" (.ref x) [.str "__class__" t] [] _ (by decide +kernel) (by decide +kernel) isB (PySem.F.args_bexc_ga (.ref x) (.str "__class__" t)) ?_
  unfold Builtin.«object.__getattribute__»
  refine wpAny_bind (wpAny_of_eq (a := ((Value.ref x : Value), [Value.str "__class__" t])) (by first | rfl | (simp only [slotArgs]; rfl)) ?_)
  refine wpAny_bind (wpAny_pure (wpAny_bind (ty.at (wpAny_bind (fnd.at ?_)))))
  show wpAny _ _ (holding [Value.builtin "object.__class__"] (call (.builtin "getset_descriptor.__get__") [.builtin "object.__class__", .ref x, .ref D]) >>= ret) _ _ _
  refine wpAny_bind (wpAny_holding (wpAny_call (class_get (s := ⟨hp, g, d, t + 1, os⟩) (ox := ox) (od := od) X I C.hm ?_)))
  refine wpAny_pure ?_
  show wpAny _ _ (handedOut (.ref D)) _ _ _
  rw [PySem.W.handedOut_of (v := .ref D) rfl]
  first
    | exact wpAny_pure (wpAny_pure h)
    | exact wpAny_pure h
    | exact wpAny_pure (wpAny_bind (wpAny_pure (wpAny_pure h)))
/-- isinstance asks an error's class -/
theorem kitx_exc (C : L2.ExcC K D) : KitX K (.ref x) (.ref D) (fun h => ∃ od, InstAt h x ox D od) := by
  obtain ⟨cd, hcd, _⟩ := PySem.W.any_some C.hd
  refine ⟨fun M h _ ⟨od, I⟩ => I.type, fun M h X _ => ?_, fun h tp dd its n sl X htp => ?_, fun X ⟨od, I⟩ k => class_of_exc C X I k⟩
  · unfold PySem.W.clsIn at hcd
    split at hcd
    · rename_i ho
      intro A' Q' E' s' k q
      unfold isType loadHead
      exact wpAny_bind (wpAny_loadPart (k _ _ (X _ _ ho)) (wpAny_pure q))
    · cases hcd
  · refine Bool.eq_false_iff.mpr fun q => ?_
    have e : D = tp := Value.ref.inj (beq_iff_eq.mp q)
    subst e
    unfold PySem.W.clsIn at hcd
    split at hcd
    · rename_i ho
      cases (X _ _ ho).symm.trans htp
    · cases hcd
end
open L2
def rIsX (K : Frag) (cls : Value) (d : Option Addr) (a : Addr) : List V → Hp → VK → Prop := fun xs H Q => ∃ (D : Addr) (c : V) (cv : Value) (b : Bool), cls = .ref D ∧ ExcC K D ∧ (d = none ∨ ∃ dd fs, d = some dd ∧ H dd = some (.xd fs)) ∧ xs = [.ref a, c] ∧ (∀ u, RelV c u → u = cv) ∧ kitOne K (.ref D) cv = some b ∧ Q (.bl b) H
theorem call_isX {X : Cx} {a : Addr} {cls : Value} {d : Option Addr} {oe : Obj} {pn : List (Addr × Obj)} (hz : Zc cls d oe) (hf : ∃ vs, oe.data = .fields vs) : CallR (X.suite a ((a, oe) :: pn)) (.builtin "isinstance") (rIsX X.K cls d a) := by
  intro pins s σ H xs us Q I r h
  obtain ⟨D, c, cv, b, rfl, C, hd, rfl, hcv, e, q⟩ := h
  cases r with
  | cons rx rr =>
    cases rr with
    | cons rt rr =>
      cases rr
      cases rx
      have ec := hcv _ rt
      subst ec
      obtain ⟨hget, _⟩ := I.pin (a, oe) (List.mem_append.mpr (.inl List.mem_cons_self))
      obtain ⟨vs, hv⟩ := hf
      have J : ∃ od, InstAt s.heap a oe D od := by
        obtain ⟨oc, od, oda, osl⟩ := oe
        obtain ⟨h1, h2⟩ := hz
        dsimp only at h1 h2 hv
        subst h1 h2 hv
        rcases hd with rfl | ⟨dd, fs, rfl, hH⟩
        · exact ⟨none, hget, rfl, rfl, trivial⟩
        · obtain ⟨mA, hns, _⟩ := (show ObjOk X.prog X.w H s.heap dd (.xd fs) from I.hok dd _ hH)
          obtain ⟨o, ho, _⟩ := lookIn_ns hns
          exact ⟨some o, hget, rfl, rfl, ho⟩
      exact PySem.W.kia_one (kitx_exc C) I.kIn J e (fun z => nomatch z) fun tk => ⟨.bl b, H, I.kept (t' := tk) fun _ _ z => z, rfl, q⟩
/-- isinstance(e, c): what is told of e's class -/
def isXR (K : Frag) (cls : Value) (a : Addr) : List D → Gp → DQ → Prop := fun ds G Q => ∃ (D0 : Addr) (c : DL.D) (cv : Value) (b : Bool), cls = .ref D0 ∧ ExcC K D0 ∧ ds = [.ref a, c] ∧ ((∃ C, c = .ref C ∧ cv = .ref C) ∨ ∃ T, c = .ty T ∧ cv = .type T) ∧ kitOne K (.ref D0) cv = some b ∧ Q (.bl b) G
end DL
set_option Elab.async false
set_option linter.all false
set_option maxRecDepth 100000
set_option maxHeartbeats 4000000
/-! told(lambda: ..): what is told, or how it is refused -/
namespace DL
open PySem PySem.Spec L2 PyProof.Rows
open PySem.W (kitOne)
section
variable {X : Cx} {B : Bx} {a : Addr} {cls : Value} {d : Option Addr} {oe : Obj} {pn : List (Addr × Obj)}
theorem dc_isX (hz : Zc cls d oe) (hf : ∃ vs, oe.data = .fields vs) (hx : ∃ x, RelX B.H0 x d) : DCall (X.suite a ((a, oe) :: pn)) B (.builtin "isinstance") (isXR X.K cls a) := by
  refine ⟨_, call_isX hz hf, fun H G xs ds Q P r R q hp => ?_⟩
  obtain ⟨D0, c, cv, b, hc, C, rfl, hcv, e, q⟩ := q
  obtain ⟨x1, r1, rfl, h1, h2⟩ := r
  obtain ⟨x2, rfl, h3⟩ := rel1 h2
  have e1 : x1 = .ref a := h1
  subst e1
  refine ⟨D0, x2, cv, b, hc, C, ?_, rfl, fun u ru => ?_, e, hp _ (.bl _) H G (.refl H) rfl R q⟩
  · obtain ⟨x, hx⟩ := hx
    cases d with
    | none => exact .inl rfl
    | some dd =>
      cases x with
      | none => exact hx.elim
      | some y =>
        obtain ⟨v, hv, _⟩ := hx
        exact .inr ⟨dd, _, rfl, R.k0.xd _ _ hv⟩
  · rcases hcv with ⟨C0, rfl, rfl⟩ | ⟨T, rfl, rfl⟩
    · have : x2 = .ref C0 := h3
      subst this
      exact ru
    · have : x2 = .ty T := h3
      subst this
      exact ru
/-- e.f, e the caught error, C the one class that has such a field -/
def dXf (a : Addr) (cls : Value) (C : Addr) (x : Option (Str × D)) (f : Str) (te : DTE) : DTE := fun sd G Q => te sd G fun dv G1 => dv = .ref a ∧ cls = .ref C ∧ ∃ v, x = some (f, v) ∧ Q v G1
theorem de_xf {C : Addr} {n : Str} {x : Option (Str × D)} {e : Expr} {te : DTE} {pos : Pos} (T : XfC X.K C) (hno : PySem.W.findIn X.K (.ref C) n = some none) (hz : Zc cls d oe) (hf : ∃ vs, oe.data = .fields vs) (hx : RelX B.H0 x d)
    (he : DE (X.suite a ((a, oe) :: pn)) B e te) (hb : attributeBase e n X.env (eval e X.env) = eval e X.env := by rfl) : DE (X.suite a ((a, oe) :: pn)) B (.Attribute e n pos) (dXf a cls C x n te) := by
  obtain ⟨te', p, w⟩ := he.ex
  refine ⟨_, pe_xf T hno hz hf p hb, fun σ H sd G Q P hS R t hp => ?_⟩
  refine w σ H sd G _ _ hS R t fun v d1 H1 G1 k1 r1 R1 ⟨e1, ec, v1, ex, q⟩ => ?_
  subst e1
  have ev : v = .ref a := r1
  subst ex
  cases d with
  | none => exact (show False from hx).elim
  | some dd =>
    obtain ⟨u, hu, ru⟩ := hx
    refine ⟨ev, ec, dd, [(n, u)], u, rfl, R1.k0.xd _ _ hu, by simp [List.lookup], hp u v1 H1 G1 k1 (ru.mono R1.k0) R1 q⟩
end
/-! ### what told makes of a refusal -/
def toldX (L : List (Addr × Str)) (C : Addr) (x : Option (Str × D)) (r : D) : Prop := ∃ w, (C, w) ∈ L ∧ ((w ≠ "BadLog" ∧ w ≠ "BadText" ∧ r = .tup [.str w, .int 0]) ∨ ∃ f n, x = some (f, .int n) ∧ ((w = "BadLog" ∧ f = "number") ∨ (w = "BadText" ∧ f = "line")) ∧ r = .tup [.str w, .int n])
def toldE (L : List (Addr × Str)) (Q : DQ) : DXK := fun C x G => ∃ r, toldX L C x r ∧ ∀ G', Ext G G' → Q r G'
def dTold (L : List (Addr × Str)) (t : DXK → DTE) : DTE := fun sd G Q => t (toldE L Q) sd G Q
/-- the same below -/
def TTd (K : PySem.W.Frag) (L : List (Addr × Str)) : (XK → Hp → VK → Prop) → Hp → VK → Prop := fun tl H Q => ∃ QD : DQ, PostE K ⟨H⟩ H QD Q ∧ ∀ (E : XK) (Qv : VK),
  (∀ C x d H' G', Kp H H' → Rep K ⟨H⟩ H' G' → RelX H' x d → toldE L QD C x G' → E (.ref C) d H') → PostE K ⟨H⟩ H QD Qv → tl E H Qv
section
variable {X : Cx}
/-- the suite's context -/
abbrev tCx (X : Cx) (N : List Str) (x : Str) (sg : Scope) (g : Addr) (cdg : Value) (s : Shared) (H : Hp) : Cx := (cxOf C8.CX0 X.prog X.w X.K X.mg X.base N x sg g cdg X.A X.stack s H C8.E0).nox
theorem told_givesX {N : List Str} {x pa e n q : Str} {sg : Scope} {g CS : Addr} {cdg : Value} {i : Nat} {p1 p2 p3 p4 p7 p8 : Pos} {b₀ : Stmt} {suite : List Stmt} {L : List (Addr × Str)} {tS : Addr → Value → Option (Str × D) → DTS}
    (hN : N.Nodup) (hi : N[i]? = some n) (hi0 : i ≠ 0) (hln : sg.names.lookup n = some .local) (hge : sg.names.lookup e = some .globalImplicit) (hme : X.mg e = some (.ref CS)) (hde : (e == ("__debug__" : Str)) = false)
    (h0 : ∀ f : Addr, (L2.start N [V.ref f])[0]? = some (some (V.ref f)))
    (hexm : ∀ C w, (C, w) ∈ L → PySem.W.exmOne X.K (.ref C) (.ref CS) = some true)
    (hsu : ∀ (s : Shared) (H : Hp) (H' : Hp) (a : Addr) (oe : Obj) (cls : Value) (d : Option Addr) (x' : Option (Str × D)) (pn : List (Addr × Obj)), Zc cls d oe → (∃ vs, oe.data = .fields vs) → RelX H' x' d → DSs ((tCx X N x sg g cdg s H).suite a ((a, oe) :: pn)) ⟨H'⟩ (b₀ :: suite) (tS a cls x'))
    (hpure : ∀ (a C : Addr) (x' : Option (Str × D)) (G : Gp) (QD : DQ), toldE L QD C x' G → tS a (.ref C) x' { nx := fun _ _ => False, rt := QD } ((List.replicate N.length none).set i (some (.ref a))) G) :
    LamX.GivesTo X N x sg g cdg [.Try [.Return (some (.Call (.Name pa p1) [] [] p2)) p3] [.ExceptHandler (some (.Name e p4)) (some n) (b₀ :: suite) p7] [] [] p8] pa q (TTd X.K L) := by
  intro f c' s H Q tl act hc ⟨QD, hq, run⟩
  have hgl : Gl (tCx X N x sg g cdg s H) e := hge
  refine ⟨_, pss_one (ps_try_as (X := tCx X N x sg g cdg s H) (c := .ref CS) (i := i)
    (tb := fun W D σ H2 => ∃ Ech : XK, (∀ cls d σ' H', Ech cls d H' → W cls d σ' H') ∧ σ[0]? = some (some (.ref f)) ∧ H2 c' = some (LamX.CodeO c' q) ∧ tl Ech H2 D.rt)
    (ts := fun a cls d D σ H2 => σ.length = N.length → ∀ (oe : Obj) (pn : List (Addr × Obj)), Zc cls d oe → (∃ vs, oe.data = .fields vs) → ∃ t, PSs ((tCx X N x sg g cdg s H).suite a ((a, oe) :: pn)) (b₀ :: suite) t ∧ t D σ H2)
    rfl rfl hN hi hln ⟨hgl, hde, .inl hme⟩ LamX.takes0 (fun W pn xe tk _ => ?_) (fun a oe cls d pn hz hf => ?_)), ?_⟩
  · refine ⟨fun pins s' σ H' D I h => ?_⟩
    obtain ⟨Ech, hW, g1, g2, g3⟩ := h
    have hp := act W pn xe Ech p1 p2 tk hW
    exact (pss_one (ps_ret (pos := p3) hp)).run pins s' σ H' D I ⟨g1, g2, g3⟩
  · refine ⟨fun pins s' σ H' D I h => ?_⟩
    obtain ⟨t, p, w⟩ := h I.len oe pn hz hf
    exact p.run pins s' σ H' D I w
  · refine ⟨fun cls d H' => ∃ C x' G', cls = .ref C ∧ Kp H H' ∧ Rep X.K ⟨H⟩ H' G' ∧ RelX H' x' d ∧ toldE L QD C x' G', fun cls d σ' H' ⟨C, x', G', hc, k, R', rx, te⟩ => ?_, h0 f, hc, run _ _ (fun C x' d H' G' k R' rx te => ⟨C, x', G', rfl, k, R', rx, te⟩) hq⟩
    subst hc
    obtain ⟨r, ⟨w, hm, hr⟩, _⟩ := id te
    refine ⟨true, hexm C w hm, fun _ a na hlen oe pn hz hf => ?_, nofun⟩
    obtain ⟨ts, p, w'⟩ := (hsu s H H' a oe (.ref C) d x' pn hz hf rx).ex
    have hln : σ'.length = N.length := by simpa using hlen
    refine ⟨ts, p, w' _ H' _ G' _ _ ⟨?_, fun j u hj => ?_⟩ (R'.rebase (.refl _)) (hpure a C x' G' QD te) ⟨fun _ _ _ _ _ _ _ z => z.elim, fun v d' H2 G2 k2 r2 R2 q2 => hq v d' H2 G2 (k.trans k2) r2 (R2.rebase (k.trans k2)) q2, fun _ _ _ _ _ _ _ z => z.elim, fun _ _ _ _ _ _ _ z => z.elim⟩⟩
    · simp [hln]
    · by_cases hji : i = j
      · subst hji
        have hil : i < N.length := by
          have := (List.getElem?_eq_some_iff.mp hi).1
          exact this
        rw [List.getElem?_set_self (by simpa using hil)] at hj
        cases hj
        exact ⟨.ref a, by rw [List.getElem?_set_self (by rw [hln]; exact hil)], rfl⟩
      · rw [List.getElem?_set_ne hji, List.getElem?_replicate] at hj
        split at hj <;> cases hj
end
/-- a def that tells what its lambda tells, or how it was refused -/
structure ToldIn (X : Cx) (x : Str) (L : List (Addr × Str)) : Prop where
  ex : ∃ (g : Addr) (pa : Str) (pg : Arguments) (bg : List Stmt) (sg : Scope) (N : List Str) (dV kV doc pm cdv ct oc : Value) (an od : Option Addr) (osl : Array (Option Value)), X.mg x = some (.ref g) ∧ PySem.W.keepIn X.K (.ref g) = true ∧
    X.K.lookup g = some ⟨oc, od, .func (PySem.W.fnOf x x pg bg sg dV kV doc pm an cdv ct), osl⟩ ∧ PySem.W.codeIn X.K cdv x = true ∧ L2.Binds X.K (PySem.W.fnOf x x pg bg sg dV kV doc pm an cdv ct) [pa] [] ∧ FnScope N [pa] sg ∧ N[0]? = some pa ∧ Vis sg pa ∧
    (pa == ("__debug__" : Str)) = false ∧ (pa == ("__classdict__" : Str)) = false ∧ ∀ q, LamX.GivesTo X N x sg g cdv bg pa q (TTd X.K L)
theorem de_told {X : Cx} {B : Bx} {L : List (Addr × Str)} {x : Str} {c P : Addr} {k : Nat} {params : Arguments} {body : Expr} {scope : Scope} {t : DXK → DTE} {p lpos pos : Pos} (T : ToldIn X x L) (LA : LamAt X c P) (hg : Gl X x) (hr : Room (k + 2) X.A) (Ls : LamX.LamS X.env.scope scope) (hdef : defaultsOf params X.env = ([], []))
    (hbind : ∀ (q : Str) (cl : List (Str × Addr)) (pm cv ctv : Value), bindArgs (PySem.W.kla_fn "<lambda>" q params body scope cl pm cv ctv) ⟨[], []⟩ = pure [])
    (hbody : ∀ (A : Around) (outer : List Env) (s : Shared) (H0 : Hp) (E : XK) (f c' : Addr) (B' : Bx) (ED : DXK), Room k (A.deeper (LamX.lamEnv X scope s.heap.objs.size f c')) → Wish (LamX.lamCx X A outer s H0 E scope f c') B' (fun C x _ G => ED C x G) → DE (LamX.lamCx X A outer s H0 E scope f c') B' body (t ED))
    (hdb : (x == ("__debug__" : Str)) = false := by decide) : DE X B (.Call (.Name x p) [.Lambda params body scope lpos] [] pos) (dTold L t) := by
  obtain ⟨g, pa, pg, bg, sg, N, dV, kV, doc, pm, cdv, ct, oc, an, od, osl, hm, hk, lk, hcg, hb, Sg, hN0, hva, hd, hcd, hG⟩ := T.ex
  refine ⟨_, LamX.pe_lamcall (t := fun E σ H Q => ∀ (A : Around) (outer : List Env) (s : Shared) (H0 : Hp) (f c' : Addr), Room k (A.deeper (LamX.lamEnv X scope s.heap.objs.size f c')) → ∃ te, PE (LamX.lamCx X A outer s H0 E scope f c') body te ∧ te σ H Q) hg hm hk lk hcg hb Sg hN0 hva (hG _) LA.tb LA.code LA.mem LA.uq hr Ls hdef hbind (fun A outer s H E f c' hr2 => ⟨fun pins s' σ H' Q I h => ?_⟩) hdb hd hcd, fun σ H sd G Q P' hS R tt hp => ⟨R.tb, fun H1 eN T1 => ?_⟩⟩
  · obtain ⟨te, p, w⟩ := h A outer s H f c' hr2
    exact p.run pins s' σ H' Q I w
  · have k1 : Kp H H1 := .ofN eN
    have R1 : Rep X.K B H1 G := R.lam eN T1
    refine ⟨Q, fun v d H' G' k' r R' q => hp v d H' G' (k1.trans k') r (R1.back R') q, fun E Qv hE hq A outer s H0 f c' hr2 => ?_⟩
    have wi : Wish (LamX.lamCx X A outer s H0 E scope f c') ⟨H1⟩ (fun C x _ G => toldE L Q C x G) := ⟨_, takes_of rfl rfl rfl rfl, fun C x d σ' H' sd' G' _ R' rx w => hE C x d H' G' R'.k0 R' rx w⟩
    obtain ⟨te, p, w⟩ := (hbody A outer s H0 E f c' ⟨H1⟩ (toldE L Q) hr2 wi).ex
    exact ⟨te, p, w σ H1 sd G Q Qv (hS.mono k1) (R1.rebase (.refl _)) tt hq⟩
end DL
set_option Elab.async false
set_option linter.all false
set_option maxRecDepth 100000
set_option maxHeartbeats 4000000
/-! the classes that told tells apart -/
namespace DL
open PySem PySem.Spec L2 PyProof.Rows
open PySem.W (kitOne)
def excB (K : PySem.W.Frag) (D : Addr) : Bool :=
  decide (PySem.W.findIn K (.ref D) "__getattribute__" = some (some (.builtin "BaseException.__getattribute__"))) && (decide (PySem.W.findIn K (.ref D) "__getattr__" = some none) && (decide (PySem.W.subIn K (.ref D) (.type "BaseException") = some true) && (decide (PySem.W.hasDictIn K D = true) &&
  (decide (PySem.W.findIn K (.ref D) "__class__" = some (some (.builtin "object.__class__"))) && (decide (PySem.W.specialIn K (.builtin "object.__class__") "__get__" = some (some (.builtin "getset_descriptor.__get__"))) && (decide (PySem.W.takesIn K (.builtin "object.__class__") = some true) && decide (PySem.W.mroIn K D (.type "object") = some true)))))))
theorem excB_ok {K : PySem.W.Frag} {D : Addr} (h : excB K D = true) : ExcC K D := by
  obtain ⟨h1, h⟩ := Bool.and_eq_true_iff.mp h
  obtain ⟨h2, h⟩ := Bool.and_eq_true_iff.mp h
  obtain ⟨h3, h⟩ := Bool.and_eq_true_iff.mp h
  obtain ⟨h4, h⟩ := Bool.and_eq_true_iff.mp h
  obtain ⟨h5, h⟩ := Bool.and_eq_true_iff.mp h
  obtain ⟨h6, h⟩ := Bool.and_eq_true_iff.mp h
  obtain ⟨h7, h8⟩ := Bool.and_eq_true_iff.mp h
  exact ⟨of_decide_eq_true h1, of_decide_eq_true h2, of_decide_eq_true h3, of_decide_eq_true h4, of_decide_eq_true h5, of_decide_eq_true h6, of_decide_eq_true h7, of_decide_eq_true h8⟩
structure ToldG (K : PySem.W.Frag) (CS : Addr) (L : List (Addr × Str)) : Prop where
  ex : ∀ p ∈ L, ExcC K p.1
  em : ∀ p ∈ L, PySem.W.exmOne K (.ref p.1) (.ref CS) = some true
  kt : ∀ p ∈ L, ∀ q ∈ L, kitOne K (.ref p.1) (.ref q.1) = some (decide (p.2 = q.2))
  ve : ∀ p ∈ L, kitOne K (.ref p.1) (.type "ValueError") = some true
def toldB (K : PySem.W.Frag) (CS : Addr) (L : List (Addr × Str)) : Bool := L.all fun p => excB K p.1 && (decide (PySem.W.exmOne K (.ref p.1) (.ref CS) = some true) && (decide (kitOne K (.ref p.1) (.type "ValueError") = some true) && L.all fun q => decide (kitOne K (.ref p.1) (.ref q.1) = some (decide (p.2 = q.2)))))
theorem toldB_ok {K : PySem.W.Frag} {CS : Addr} {L : List (Addr × Str)} (h : toldB K CS L = true) : ToldG K CS L := by
  have key := fun p hp => Bool.and_eq_true_iff.mp (List.all_eq_true.mp h p hp)
  refine ⟨fun p hp => excB_ok (key p hp).1, fun p hp => ?_, fun p hp q hq => ?_, fun p hp => ?_⟩
  · exact of_decide_eq_true (Bool.and_eq_true_iff.mp (key p hp).2).1
  · exact of_decide_eq_true (List.all_eq_true.mp (Bool.and_eq_true_iff.mp (Bool.and_eq_true_iff.mp (key p hp).2).2).2 q hq)
  · exact of_decide_eq_true (Bool.and_eq_true_iff.mp (Bool.and_eq_true_iff.mp (key p hp).2).2).1
def Ls (Γ : Cs) : List (Addr × Str) := [(Γ.cBadEnds, "BadEnds"), (Γ.cBadLog, "BadLog"), (Γ.cBadOffers, "BadOffers"), (Γ.cBadText, "BadText"), (Γ.cBadWish, "BadWish"), (Γ.cBusy, "Busy"), (Γ.cFallen, "Fallen"), (Γ.cHeld, "Held"), (Γ.cNoEnd, "NoEnd"), (Γ.cNoHand, "NoHand"), (Γ.cNoRoom, "NoRoom"), (Γ.cNoThing, "NoThing")]
theorem isx {K : PySem.W.Frag} {CS C C' a : Addr} {L : List (Addr × Str)} {w w' : Str} (T : ToldG K CS L) (h : (C, w) ∈ L) (h' : (C', w') ∈ L) {G : Gp} {Q : DQ} : isXR K (.ref C) a [.ref a, .ref C'] G Q = Q (.bl (decide (w = w'))) G := by
  refine propext ⟨fun ⟨D0, c, cv, b, h1, _, h2, h3, h4, q⟩ => ?_, fun q => ⟨C, .ref C', .ref C', _, rfl, T.ex _ h, rfl, .inl ⟨C', rfl, rfl⟩, T.kt _ h _ h', q⟩⟩
  cases h1
  cases h2
  rcases h3 with ⟨C0, e1, e2⟩ | ⟨_, e1, _⟩
  · cases e1
    subst e2
    rw [T.kt _ h _ h'] at h4
    cases h4
    exact q
  · cases e1
theorem isxV {K : PySem.W.Frag} {CS C a : Addr} {L : List (Addr × Str)} {w : Str} (T : ToldG K CS L) (h : (C, w) ∈ L) {G : Gp} {Q : DQ} : isXR K (.ref C) a [.ref a, .ty "ValueError"] G Q = Q (.bl true) G := by
  refine propext ⟨fun ⟨D0, c, cv, b, h1, _, h2, h3, h4, q⟩ => ?_, fun q => ⟨C, .ty "ValueError", .type "ValueError", _, rfl, T.ex _ h, rfl, .inr ⟨"ValueError", rfl, rfl⟩, T.ve _ h, q⟩⟩
  cases h1
  cases h2
  rcases h3 with ⟨_, e1, _⟩ | ⟨_, e1, e2⟩
  · cases e1
  · cases e1
    subst e2
    rw [T.ve _ h] at h4
    cases h4
    exact q
@[simp] theorem dXf_app {a C : Addr} {cls : Value} {x : Option (Str × D)} {f : Str} {te : DTE} {sd G Q} : dXf a cls C x f te sd G Q = te sd G fun dv G1 => dv = .ref a ∧ cls = .ref C ∧ ∃ v, x = some (f, v) ∧ Q v G1 := (rfl)
@[simp] theorem dTold_app {L : List (Addr × Str)} {t : DXK → DTE} {sd G Q} : dTold L t sd G Q = t (toldE L Q) sd G Q := (rfl)
theorem u64 {k : Nat} {A : Around} {env : Env} {v : Option Value} (hr : Room (k + 1) A) : ((A.deeper env).mark v).units + 64 < cLine := show (A.deeper env).units + 64 < cLine from r64 (hr.deeper env)
theorem u65 {k : Nat} {A : Around} {env : Env} {v : Option Value} (hr : Room (k + 1) A) : ((A.deeper env).mark v).units + 65 < cLine := show (A.deeper env).units + 65 < cLine from r65 (hr.deeper env)
theorem u1 {k : Nat} {A : Around} {env : Env} {v : Option Value} (hr : Room (k + 1) A) : ((A.deeper env).mark v).units + 1 < cLine := show (A.deeper env).units + 1 < cLine from r1 (hr.deeper env)
end DL
set_option Elab.async false
set_option linter.all false
set_option maxRecDepth 100000
set_option maxHeartbeats 4000000
/-! a if c else b, asked -/
namespace DL
open PySem PySem.Spec L2 PyProof.Rows
def tIfT (tc ta tb : TT) : TT := fun σ H Q => tc σ H fun c H1 => if c = true then ta σ H1 Q else tb σ H1 Q
section
variable {X : Cx} {B : Bx} {a b c : Expr} {pos : Pos}
theorem pt_ifT {tc ta tb : TT} (hc : PT X c tc) (ha : PT X a ta) (hb : PT X b tb) : PT X (.IfExp c a b pos) (tIfT tc ta tb) := by
  refine ⟨fun pins s σ H Q I h => ?_⟩
  refine isTrue_IfExp (wpAny_mono (hc.run pins s σ H _ I h) (fun k s1 hk => ?_) fun _ _ x => x)
  obtain ⟨H1, I1, q1⟩ := hk
  cases k with
  | true => exact ha.run pins s1 σ H1 Q I1 (by simpa using q1)
  | false => exact hb.run pins s1 σ H1 Q I1 (by simpa using q1)
def dIfT (tc ta tb : DTT) : DTT := fun sd G Q => tc sd G fun c G1 => if c = true then ta sd G1 Q else tb sd G1 Q
theorem dt_ifT {tc ta tb : DTT} (hc : DT X B c tc) (ha : DT X B a ta) (hb : DT X B b tb) : DT X B (.IfExp c a b pos) (dIfT tc ta tb) := by
  obtain ⟨tc', pc, hc⟩ := hc.ex
  obtain ⟨ta', pa, ha⟩ := ha.ex
  obtain ⟨tb', pb, hb⟩ := hb.ex
  refine ⟨_, pt_ifT pc pa pb, fun σ H sd G Q P hs R t hp => ?_⟩
  refine hc σ H sd G _ _ hs R t fun k H1 G1 k1 R1 q1 => ?_
  cases k with
  | true => exact ha σ H1 sd G1 Q P (hs.mono k1) R1 (by simpa using q1) fun b H2 G2 k2 R2 q2 => hp b H2 G2 (k1.trans k2) R2 q2
  | false => exact hb σ H1 sd G1 Q P (hs.mono k1) R1 (by simpa using q1) fun b H2 G2 k2 R2 q2 => hp b H2 G2 (k1.trans k2) R2 q2
end
@[simp ↓] theorem dIfT_app {tc ta tb : DTT} {sd G Q} : dIfT tc ta tb sd G Q = tc sd G fun c G1 => iteP c (ta sd G1 Q) (tb sd G1 Q) ⟨⟩ ⟨⟩ := (rfl)
end DL
set_option Elab.async false
set_option linter.all false
set_option maxRecDepth 100000
namespace DL
open PySem PySem.Spec PyProof.Rows L2
section
variable {K : PySem.W.Frag} {X : Cx} {B : Bx} {pos : Pos}
/-! ### try .. except X: .. except Y: -/
/-- L1: the classes that the first clause catches; L2: the second; L3: those that pass -/
def dTry2 (tb : DWX → DTS) (L1 L2 L3 : List Addr) (ts1 ts2 : DTS) (W : DWX) : DTS := fun DD sd G => tb (fun C x sd' G' => (C ∈ L1 ∧ ts1 DD sd' G') ∨ (C ∈ L2 ∧ ts2 DD sd' G') ∨ (C ∈ L3 ∧ W C x sd' G')) DD sd G
theorem ds_try2 {x1 x2 : Str} {c1 c2 : Value} {body suite1 suite2 : List Stmt} {b1 b2 : Stmt} {np1 np2 pos1 pos2 : Pos} {tb : DWX → DTS} {L1 L2 L3 : List Addr} {ts1 ts2 : DTS} {W : DWX} (hs : X.stack = X.env :: X.outer) (hf : X.env.frame = some X.env.locals) (hc1 : Names X x1 c1) (hc2 : Names X x2 c2) (tk : Wish X B W)
    (h1 : ∀ C ∈ L1, PySem.W.exmOne X.K (.ref C) c1 = some true) (h2 : ∀ C ∈ L2, PySem.W.exmOne X.K (.ref C) c1 = some false) (h2' : ∀ C ∈ L2, PySem.W.exmOne X.K (.ref C) c2 = some true) (h3 : ∀ C ∈ L3, PySem.W.exmOne X.K (.ref C) c1 = some false) (h3' : ∀ C ∈ L3, PySem.W.exmOne X.K (.ref C) c2 = some false)
    (hb : ∀ (B' : Bx) (W' : DWX) (pn : List (Addr × Obj)) (xe : Value → Shared → Prop), Wish (X.tr pn xe) B' W' → PassesOwn (model X.prog X.w) X.A X.env xe → DSs (X.tr pn xe) B' body (tb W'))
    (hsu1 : ∀ (a : Addr) (oe : Obj) (cls : Value) (d : Option Addr) (pn : List (Addr × Obj)), Zc cls d oe → (∃ vs, oe.data = .fields vs) → DSs (X.suite a ((a, oe) :: pn)) B (b1 :: suite1) ts1)
    (hsu2 : ∀ (a : Addr) (oe : Obj) (cls : Value) (d : Option Addr) (pn : List (Addr × Obj)), Zc cls d oe → (∃ vs, oe.data = .fields vs) → DSs (X.suite a ((a, oe) :: pn)) B (b2 :: suite2) ts2) :
    DS X B (.Try body [.ExceptHandler (some (.Name x1 np1)) none (b1 :: suite1) pos1, .ExceptHandler (some (.Name x2 np2)) none (b2 :: suite2) pos2] [] [] pos) (dTry2 tb L1 L2 L3 ts1 ts2 W) := by
  obtain ⟨Wv, tkv, hW⟩ := tk.ex
  refine ⟨_, ps_try_many (tb := fun W D σ H => ∀ (pn : List (Addr × Obj)) (xe : Value → Shared → Prop), Takes (X.tr pn xe) W → PassesOwn (model X.prog X.w) X.A X.env xe → ∃ t, PSs (X.tr pn xe) body t ∧ t D σ H)
    (l := [(c1, fun a cls d D σ H => ∀ (oe : Obj) (pn : List (Addr × Obj)), Zc cls d oe → (∃ vs, oe.data = .fields vs) → ∃ t, PSs (X.suite a ((a, oe) :: pn)) (b1 :: suite1) t ∧ t D σ H), (c2, fun a cls d D σ H => ∀ (oe : Obj) (pn : List (Addr × Obj)), Zc cls d oe → (∃ vs, oe.data = .fields vs) → ∃ t, PSs (X.suite a ((a, oe) :: pn)) (b2 :: suite2) t ∧ t D σ H)]) hs hf tkv (fun W pn xe tk po => ?_) (.cons hc1 (fun a oe cls d pn hz hv => ?_) (.cons hc2 (fun a oe cls d pn hz hv => ?_) .nil)), fun σ H sd G DD D hS R t hp => ?_⟩
  · refine ⟨fun pins s σ H D I h => ?_⟩
    obtain ⟨t, p, q⟩ := h pn xe tk po
    exact p.run pins s σ H D I q
  · refine ⟨fun pins s σ H D I h => ?_⟩
    obtain ⟨t, p, q⟩ := h oe pn hz hv
    exact p.run pins s σ H D I q
  · refine ⟨fun pins s σ H D I h => ?_⟩
    obtain ⟨t, p, q⟩ := h oe pn hz hv
    exact p.run pins s σ H D I q
  · intro pn xe tk' po'
    have hp' : PostS X.K ⟨H⟩ H DD D := ⟨fun σ' sd' H' G' k a b n => hp.nx σ' sd' H' G' k a (R.back b) n, fun v d H' G' k r b n => hp.rt v d H' G' k r (R.back b) n, fun σ' sd' H' G' k a b n => hp.bk σ' sd' H' G' k a (R.back b) n, fun σ' sd' H' G' k a b n => hp.ct σ' sd' H' G' k a (R.back b) n⟩
    have wi : Wish (X.tr pn xe) ⟨H⟩ (fun C x sd' G' => (C ∈ L1 ∧ ts1 DD sd' G') ∨ (C ∈ L2 ∧ ts2 DD sd' G') ∨ (C ∈ L3 ∧ W C x sd' G')) := ⟨_, tk', fun C x d σ' H' sd' G' hS' R' rx w => by
      have RB := R.back R'
      have kk : Kp H H' := R'.k0
      have su : ∀ {b₀ : Stmt} {suite : List Stmt} {ts : DTS}, (∀ (a : Addr) (oe : Obj) (cls : Value) (d : Option Addr) (pn : List (Addr × Obj)), Zc cls d oe → (∃ vs, oe.data = .fields vs) → DSs (X.suite a ((a, oe) :: pn)) B (b₀ :: suite) ts) → ts DD sd' G' → ∀ (a : Addr) (oe : Obj) (pn : List (Addr × Obj)), Zc (.ref C) d oe → (∃ vs, oe.data = .fields vs) → ∃ t, PSs (X.suite a ((a, oe) :: pn)) (b₀ :: suite) t ∧ t D σ' H' := fun hsu w a oe pn hz hv => by
        obtain ⟨tsv, ps, ws⟩ := (hsu a oe (.ref C) d pn hz hv).ex
        exact ⟨tsv, ps, ws σ' H' sd' G' DD D hS' RB w ⟨fun σ' sd' H' G' k a b n => hp.nx σ' sd' H' G' (kk.trans k) a b n, fun v d H' G' k r b n => hp.rt v d H' G' (kk.trans k) r b n, fun σ' sd' H' G' k a b n => hp.bk σ' sd' H' G' (kk.trans k) a b n, fun σ' sd' H' G' k a b n => hp.ct σ' sd' H' G' (kk.trans k) a b n⟩⟩
      rcases w with ⟨hm, w⟩ | ⟨hm, w⟩ | ⟨hm, w⟩
      · exact ⟨true, h1 C hm, fun _ a hn oe pn hz hv => su hsu1 w a oe pn hz hv, (fun z => nomatch z)⟩
      · exact ⟨false, h2 C hm, (fun z => nomatch z), fun _ => ⟨true, h2' C hm, fun _ a hn oe pn hz hv => su hsu2 w a oe pn hz hv, (fun z => nomatch z)⟩⟩
      · exact ⟨false, h3 C hm, (fun z => nomatch z), fun _ => ⟨false, h3' C hm, (fun z => nomatch z), fun _ => hW C x d σ' H' sd' G' hS' RB rx w⟩⟩⟩
    obtain ⟨tbv, p, w⟩ := (hb ⟨H⟩ _ pn xe wi po').ex
    exact ⟨tbv, p, w σ H sd G DD D hS (R.rebase (.refl H)) t hp'⟩
end
@[simp ↓] theorem dTry2_app {tb : DWX → DTS} {L1 L2 L3 : List Addr} {ts1 ts2 : DTS} {W : DWX} {n r b c sd G} : dTry2 tb L1 L2 L3 ts1 ts2 W ⟨n, r, b, c⟩ sd G = tb (fun C x sd' G' => (C ∈ L1 ∧ ts1 ⟨n, r, b, c⟩ sd' G') ∨ (C ∈ L2 ∧ ts2 ⟨n, r, b, c⟩ sd' G') ∨ (C ∈ L3 ∧ W C x sd' G')) ⟨n, r, b, c⟩ sd G := (rfl)
end DL
set_option Elab.async false
set_option linter.all false
set_option maxRecDepth 100000
set_option maxHeartbeats 4000000
namespace DL
open PySem PySem.Spec L2 PyProof.Rows
/-! ### dict(l): pairs with ids for keys -/
section
variable {X : Cx}
theorem pairsT_at {pins : List (Addr × Obj)} {σ : L2.St} {H : Hp} {s : Shared} (I : L2.Inv X pins σ H s) : ∀ {ps : List Addr} {kvs : List (List Key × V)}, Paired (fun p kv => ∃ b, SqT X.K H p [.ref b, kv.2] ∧ H b = some (.tup (kv.1.map kV))) ps kvs →
    ∃ (prs : List (List Key × Addr × Value)) (pvs : List (Value × Value)), KT H kvs prs ∧ prs.length = ps.length ∧ pvs.length = ps.length ∧ ∀ (j : Nat) (p : Addr), ps[j]? = some p → ∃ k b v, prs[j]? = some (k, b, v) ∧ pvs[j]? = some (.ref b, v) ∧ IsTup s.heap p #[.ref b, v]
  | _, _, .nil => ⟨[], [], .nil, rfl, rfl, fun j q e => by simp at e⟩
  | _, _, .cons (a := p) (b := kv) ⟨b, h, hb⟩ t => by
    obtain ⟨prs, pvs, r, hl, hl2, hp⟩ := pairsT_at I t
    obtain ⟨its, rv, ht, _⟩ := I.tuple h
    obtain ⟨u, y, ei, ru, ry⟩ := vals2 rv
    subst ei
    cases ru
    refine ⟨(kv.1, b, y) :: prs, (.ref b, y) :: pvs, .cons ⟨rfl, hb, ry⟩ r, by rw [List.length_cons, List.length_cons, hl], by rw [List.length_cons, List.length_cons, hl2], fun j c e => ?_⟩
    cases j with
    | zero =>
      have e' : p = c := Option.some.inj e
      subst e'
      exact ⟨kv.1, b, y, rfl, rfl, ht⟩
    | succ j =>
      obtain ⟨k, u', v, e1, e2, e3⟩ := hp j c (by simpa using e)
      exact ⟨k, u', v, by simpa using e1, by simpa using e2, e3⟩
theorem KT_keys {H : Hp} : ∀ {kvs : List (List Key × V)} {xs : List (List Key × Addr × Value)}, KT H kvs xs → kvs.map (·.1) = xs.map (·.1)
  | _, _, .nil => rfl
  | _, _, .cons h t => by rw [List.map_cons, List.map_cons, h.1, KT_keys t]
theorem KT_mem {H : Hp} : ∀ {kvs : List (List Key × V)} {xs : List (List Key × Addr × Value)}, KT H kvs xs → ∀ x ∈ xs, H x.2.1 = some (.tup (x.1.map kV))
  | _, _, .nil, x, hx => nomatch hx
  | _, _, .cons h t, x, hx => by
    rcases List.mem_cons.mp hx with rfl | hx
    · rw [← h.1]; exact h.2.1
    · exact KT_mem t x hx
theorem call_dictPT (hcalm : X.calm = true) (hu : X.A.units + 64 < cLine) : CallR X (.type "dict") (fun xs H Q => ∃ (a : Addr) (ps : List Addr) (kvs : List (List Key × V)), xs = [.ref a] ∧ SqL X.K H a (ps.map V.ref) ∧ Paired (fun p kv => ∃ b, SqT X.K H p [.ref b, kv.2] ∧ H b = some (.tup (kv.1.map kV))) ps kvs ∧ (kvs.map (·.1)).Nodup ∧
    ∀ p, H p = none → Q (.ref p) (upd H p (.dT kvs))) := by
  intro pins s σ H xs us Q I r q
  obtain ⟨a, ps, kvs, ex, hq, hp, nd, q⟩ := q
  subst ex
  obtain ⟨u, eu, rx⟩ := vals1 r
  subst eu
  cases rx
  obtain ⟨its, rv, pl, hz⟩ := I.list hq
  have ei := refs_at rv
  subst ei
  rw [List.length_map] at hz
  obtain ⟨prs, pvs, rel, hl, hl2, hpr⟩ := pairsT_at I hp
  have ndp : (prs.map (·.1)).Nodup := by rw [← KT_keys rel]; exact nd
  refine call_dict_pairsH (knd := tupleKind (mixKind X.prog X.w)) (ps := prs) (PairArg.list a (ps.map Value.ref).toArray (fun j => ps.getD j 0) pvs) (I.ok.hd hcalm) ?_ ⟨pl, by simp [hl2], fun j k v e => ?_⟩ ⟨by rw [hl, hl2], fun i key v e => ?_⟩ (fun h' kp x hx => ?_) (by rw [hl2]; exact hz) fun h' tk hd' k => ?_
  · show X.A.in1.in1.units < cLine
    have e1 : X.A.in1.in1.units ≤ X.A.units + 2 := by simp [Around.in1]
    omega
  · have hj : j < ps.length := by rw [← hl2]; exact (List.getElem?_eq_some_iff.mp e).1
    obtain ⟨k', b, v', e1, e2, e3⟩ := hpr j ps[j] (List.getElem?_eq_getElem hj)
    rw [e] at e2
    cases e2
    have eg : ps.getD j 0 = ps[j] := by simp [List.getD_eq_getElem?_getD, hj]
    refine ⟨by simp [hj], .inl ?_⟩
    show s.heap.IsTuple (ps.getD j 0) #[.ref b, v]
    rw [eg]
    exact e3
  · have hj : i < ps.length := by rw [← hl2]; exact (List.getElem?_eq_some_iff.mp e).1
    obtain ⟨k', b, v', e1, e2, e3⟩ := hpr i ps[i] (List.getElem?_eq_getElem hj)
    have e : pvs[i]? = some (key, v) := e
    rw [e] at e2
    cases e2
    exact ⟨k', b, e1, rfl⟩
  · obtain ⟨_, its', rv', o, h1, h2, n, h3⟩ := (show ObjOk X.prog X.w H s.heap x.2.1 (.tup (x.1.map kV)) from I.hok _ _ (KT_mem rel x hx))
    exact ⟨o, its'.toArray, n, kp _ _ (Nat.ne_of_lt (Heap.lt_size h1)) (by simp) h1, h2, h3, by simpa using items_are rv'⟩
  · have hm : (s.heap.objs.size == sysModules) = false := beq_eq_false_iff_ne.mpr (Nat.ne_of_gt I.big)
    rw [storedAllH_nil_of_nodup prs ndp] at hd'
    obtain ⟨o, es, ep, d1, d2, d3, d4, _, d6⟩ := hd'
    have n0 : H s.heap.objs.size = none := I.hok.fresh (Nat.le_refl _)
    have rel' : KT (upd H s.heap.objs.size (.dT kvs)) kvs prs := by
      refine Paired.mono (fun p q hq => ⟨hq.1, ?_, hq.2.2⟩) rel
      rw [upd_ne (ne_of_none hq.2.1 n0)]
      exact hq.2.1
    have hlen : kvs.length ≤ sizeLine := by
      have := Paired.length rel
      omega
    exact ⟨.ref s.heap.objs.size, upd H s.heap.objs.size (.dT kvs), I.laid (t' := tk) (fun b o e => k b o (by simp) e) (Nat.le_refl _) (show ObjOk X.prog X.w _ _ _ (.dT kvs) from ⟨hlen, hm, prs, rel', o, es, ep, d1, d2, d3, d4, d6⟩), rfl, q _ n0⟩
end
end DL
set_option Elab.async false
set_option linter.all false
set_option maxRecDepth 100000
set_option maxHeartbeats 4000000
namespace DL
open PySem PySem.Spec L2 PyProof.Rows
section
variable {X : Cx}
def prsT (kvs : List ((Int × Int) × D)) : List D := kvs.map fun q => .tup [.tup [.int q.1.1, .int q.1.2], q.2]
def dctT2 (kvs : List ((Int × Int) × D)) : List (D × D) := kvs.map fun q => (.tup [.int q.1.1, .int q.1.2], q.2)
def dictTR : List D → Gp → DQ → Prop := fun ds G Q => match ds with
  | [.ref a] => ∃ kvs, G a = some (.lst (prsT kvs)) ∧ (kvs.map (·.1)).Nodup ∧ ∀ p, Nw G p → Q (.ref p) (put G p (.dict true (dctT2 kvs)))
  | _ => False
def zipT (kvs : List ((Int × Int) × D)) (vs : List V) : List (List Key × V) := List.zipWith (fun (q : (Int × Int) × D) v => (([.inl q.1.1, .inl q.1.2] : List Key), v)) kvs vs
theorem prsT_rel {K : PySem.W.Frag} {H : Hp} : ∀ {kvs : List ((Int × Int) × D)} {xs : List V}, RelL H (prsT kvs) xs → ∃ (ps : List Addr) (vs : List V), xs = ps.map V.ref ∧ RelL H (kvs.map (·.2)) vs ∧ Paired (fun p (kv : List Key × V) => ∃ b, SqT K H p [.ref b, kv.2] ∧ H b = some (.tup (kv.1.map kV))) ps (zipT kvs vs)
  | [], xs, h => by cases (relL_nil.mp h); exact ⟨[], [], rfl, rfl, .nil⟩
  | q :: kvs, xs, h => by
    obtain ⟨x, r, rfl, ⟨p, ys, rfl, h1, ⟨k, r1, rfl, ⟨b, zs, rfl, hb, ⟨i1, r3, rfl, e1, ⟨i2, r4, rfl, e2, e3⟩⟩, _⟩, v, r2, rfl, hv, h2⟩, _⟩, h3⟩ := h
    cases (relL_nil.mp h2)
    cases (relL_nil.mp e3)
    cases e1
    cases e2
    obtain ⟨ps, vs, rfl, r4, r5⟩ := prsT_rel (K := K) (kvs := kvs) h3
    exact ⟨p :: ps, v :: vs, rfl, ⟨v, vs, rfl, hv, r4⟩, .cons ⟨b, h1.sq, hb⟩ r5⟩
theorem zipT_keys : ∀ {kvs : List ((Int × Int) × D)} {vs : List V}, kvs.length = vs.length → (zipT kvs vs).map (·.1) = kvs.map (fun q => ([.inl q.1.1, .inl q.1.2] : List Key)) ∧ (zipT kvs vs).map (·.2) = vs
  | [], [], _ => ⟨rfl, rfl⟩
  | q :: kvs, v :: vs, h => by
    obtain ⟨a, b⟩ := zipT_keys (kvs := kvs) (vs := vs) (by simpa using h)
    unfold zipT at a b ⊢
    rw [List.zipWith_cons_cons, List.map_cons, List.map_cons, List.map_cons, a, b]
    exact ⟨rfl, rfl⟩
  | [], _ :: _, h => by cases h
  | _ :: _, [], h => by cases h
theorem dc_dictT {B : Bx} (hc : X.calm = true) (hu : X.A.units + 64 < cLine) : DCall X B (.type "dict") dictTR := by
  refine ⟨_, call_dictPT hc hu, fun H G xs ds Q P r R q hp => ?_⟩
  match ds, q, r with
  | [.ref a], q, r =>
    obtain ⟨x, rfl, rx⟩ := rel1 r
    cases rx
    obtain ⟨kvs, g, nd, q⟩ := q
    obtain ⟨xs, h1, h2, hz⟩ := R.at_ a _ g
    obtain ⟨ps, ws, rfl, r4, r5⟩ := prsT_rel (K := X.K) h2
    have hl : kvs.length = ws.length := by simpa using r4.length
    obtain ⟨z1, z2⟩ := zipT_keys hl
    refine ⟨a, ps, _, rfl, .inl (.inl h1), r5, ?_, fun p hn => ?_⟩
    · rw [z1]
      rw [List.Nodup, List.pairwise_map] at nd ⊢
      refine List.Pairwise.imp (fun {x y} h z => h ?_) nd
      injection z with z1 z2
      injection z2 with z2 _
      exact Prod.ext (Sum.inl.inj z1) (Sum.inl.inj z2)
    · have kf : Kp H (upd H p (.dT (zipT kvs ws))) := .fresh hn
      have Rl : Rep X.K B (upd H p (.dT (zipT kvs ws))) (put G p (.dict true (dctT2 kvs))) := R.laid hn ⟨by simpa [dctT2, prsT] using hz, _, upd_same, by
        have e1 : (dctT2 kvs).map (·.1) = kvs.map fun q => D.tup [.int q.1.1, .int q.1.2] := by simp [dctT2]
        have e2 := congrArg (List.map fun k : List Key => D.tup (k.map kD)) z1
        rw [List.map_map, List.map_map] at e2
        rw [e1]
        exact e2.symm, by
        rw [z2]
        have e1 : (dctT2 kvs).map (·.2) = kvs.map (·.2) := by simp [dctT2]
        rw [e1]
        exact r4.mono kf⟩
      exact hp _ (.ref p) _ _ kf rfl Rl (q p (R.gnone hn))
  | [], q, _ => exact q.elim
  | a :: b :: c, q, _ => exact (by cases a <;> exact (show False from q).elim)
  | [.non], q, _ => exact q.elim
  | [.bl _], q, _ => exact q.elim
  | [.int _], q, _ => exact q.elim
  | [.str _], q, _ => exact q.elim
  | [.ty _], q, _ => exact q.elim
  | [.tup _], q, _ => exact q.elim
end
def dctTO (o : Option DO) (G : Gp) (Q : DQ) : Prop := ∃ kvs, o = some (.lst (prsT kvs)) ∧ (kvs.map (·.1)).Nodup ∧ ∀ p, Nw G p → Q (.ref p) (put G p (.dict true (dctT2 kvs)))
theorem dctTO_congr {o o' : Option DO} {G : Gp} {Q : DQ} (h0 : o = o') : dctTO o G Q = dctTO o' G Q := by rw [h0]
@[simp] theorem dictTR_ref {a G Q} : dictTR [.ref a] G Q = dctTO (G a) G Q := (rfl)
end DL
set_option Elab.async false
set_option linter.all false
set_option maxRecDepth 100000
set_option maxHeartbeats 4000000
namespace DL
open PySem PySem.Spec L2 PyProof.Rows
/-! ### a or b, where a is None or a tuple that isn't empty -/
def orN (d : D) (G : Gp) (Q : DQ) (P : Gp → Prop) : Prop := match d with
  | .non => P G
  | .tup (x :: xs) => Q (.tup (x :: xs)) G
  | _ => False
@[simp] theorem orN_non {G Q P} : orN .non G Q P = P G := (rfl)
@[simp] theorem orN_tup {x : D} {xs : List D} {G Q P} : orN (.tup (x :: xs)) G Q P = Q (.tup (x :: xs)) G := (rfl)
def dOrN (ta tb : DTE) : DTE := fun sd G Q => ta sd G fun d G1 => orN d G1 Q fun G2 => tb sd G2 Q
@[simp ↓] theorem dOrN_app {ta tb sd G Q} : dOrN ta tb sd G Q = ta sd G fun d G1 => orN d G1 Q fun G2 => tb sd G2 Q := (rfl)
section
variable {X : Cx} {B : Bx} {a b : Expr} {rest : List Expr} {pos : Pos} {ta tb : DTE}
theorem de_orN (ha : DE X B a ta) (hb : DE X B (.BoolOp .Or (b :: rest) pos) tb) : DE X B (.BoolOp .Or (a :: b :: rest) pos) (dOrN ta tb) := by
  obtain ⟨ta', pa, ha⟩ := ha.ex
  obtain ⟨tb', pb, hb⟩ := hb.ex
  refine ⟨_, pe_orT pa pb, fun σ H sd G Q P hs R t hp => ?_⟩
  refine ha σ H sd G _ _ hs R t fun v d H1 G1 k1 r1 R1 q1 => ?_
  match d, r1, q1 with
  | .non, r1, q1 =>
    cases r1
    exact ⟨false, rfl, hb σ H1 sd G1 Q P (hs.mono k1) R1 q1 (hp.mono k1)⟩
  | .tup (x :: xs), r1, q1 =>
    obtain ⟨p, vs, rfl, h1, h2, hz⟩ := r1
    have hl := h2.length
    refine ⟨true, .inr (.inl ⟨vs, h1.sq, ?_⟩), hp _ (.tup (x :: xs)) _ _ k1 ⟨p, vs, rfl, h1, h2, hz⟩ R1 q1⟩
    cases vs with
    | nil => simp at hl
    | cons y ys => rfl
  | .tup [], r1, q1 => exact (show False from q1).elim
  | .bl _, r1, q1 => exact (show False from q1).elim
  | .int _, r1, q1 => exact (show False from q1).elim
  | .str _, r1, q1 => exact (show False from q1).elim
  | .ty _, r1, q1 => exact (show False from q1).elim
  | .ref _, r1, q1 => exact (show False from q1).elim
/-! ### list(d): the keys of a dict whose keys are ids -/
def listKR : List D → Gp → DQ → Prop := fun ds G Q => match ds with
  | [.ref a] => ∃ kvs : List ((Int × Int) × D), G a = some (.dict true (dctT2 kvs)) ∧ ∀ p, Nw G p → Q (.ref p) (put G p (.lst (kvs.map fun q => .tup [.int q.1.1, .int q.1.2])))
  | _ => False
theorem keysT_rel {H : Hp} : ∀ {kvs : List ((Int × Int) × D)} {ks : List (List Key × V)} {bs : List Addr}, kvs.map (fun q => D.tup [.int q.1.1, .int q.1.2]) = ks.map (fun k => D.tup (k.1.map kD)) → IsKeys H ks bs → RelL H (kvs.map fun q => D.tup [.int q.1.1, .int q.1.2]) (bs.map V.ref)
  | [], [], _, _, .nil => rfl
  | [], _ :: _, _, h, _ => by simp at h
  | _ :: _, [], _, h, _ => by simp at h
  | q :: kvs, k :: ks, _, h, .cons (b := b) hb t => by
    rw [List.map_cons, List.map_cons] at h
    injection h with h1 h2
    refine ⟨_, _, rfl, ?_, keysT_rel h2 t⟩
    match k, h1, hb with
    | ([k1, k2], v), h1, hb =>
      simp only [List.map_cons, List.map_nil, D.tup.injEq, List.cons.injEq, and_true] at h1
      obtain ⟨e1, e2⟩ := h1
      have i1 : ∀ {k : Key} {i : Int}, D.int i = kD k → k = .inl i := fun {k i} e => by
        cases k with
        | inl j => cases e; rfl
        | inr s => cases e
      rw [i1 e1, i1 e2] at hb
      exact ⟨b, _, rfl, hb, ⟨_, _, rfl, rfl, ⟨_, _, rfl, rfl, rfl⟩⟩, by rw [sizeLine_eq]; simp⟩
    | ([], v), h1, hb => simp at h1
    | ([k1], v), h1, hb => simp at h1
    | (k1 :: k2 :: k3 :: k4, v), h1, hb => simp at h1
theorem dc_listK (hc : X.calm = true) : DCall X B (.type "list") listKR := by
  refine ⟨_, call_list_dT hc, fun H G xs ds Q P r R q hp => ?_⟩
  match ds, q, r with
  | [.ref a], q, r =>
    obtain ⟨x, rfl, rx⟩ := rel1 r
    cases rx
    obtain ⟨kvs, g, q⟩ := q
    obtain ⟨hz, ks, h1, h2, h3⟩ := R.at_ a _ g
    refine ⟨a, ks, rfl, .inl h1, fun p bs hn hk => ?_⟩
    have e : kvs.map (fun q => D.tup [.int q.1.1, .int q.1.2]) = ks.map (fun k => D.tup (k.1.map kD)) := by
      rw [← h2]
      simp [dctT2]
    have rl := keysT_rel (H := H) e hk
    obtain ⟨k, R'⟩ := lst_new hn rl (by simpa [dctT2] using hz) R
    exact hp _ (.ref p) _ _ k rfl R' (q p (R.gnone hn))
  | [], q, _ => exact q.elim
  | a :: b :: c, q, _ => exact (by cases a <;> exact (show False from q).elim)
  | [.non], q, _ => exact q.elim
  | [.bl _], q, _ => exact q.elim
  | [.int _], q, _ => exact q.elim
  | [.str _], q, _ => exact q.elim
  | [.ty _], q, _ => exact q.elim
  | [.tup _], q, _ => exact q.elim
end
def listKO (o : Option DO) (G : Gp) (Q : DQ) : Prop := ∃ kvs : List ((Int × Int) × D), o = some (.dict true (dctT2 kvs)) ∧ ∀ p, Nw G p → Q (.ref p) (put G p (.lst (kvs.map fun q => .tup [.int q.1.1, .int q.1.2])))
theorem listKO_congr {o o' : Option DO} {G : Gp} {Q : DQ} (h0 : o = o') : listKO o G Q = listKO o' G Q := by rw [h0]
@[simp] theorem listKR_ref {a G Q} : listKR [.ref a] G Q = listKO (G a) G Q := (rfl)
theorem r1m {k : Nat} {A : Around} {v : Option Value} (hr : Room k A) : (A.mark v).units + 1 < cLine := by
  show A.units + 1 < cLine
  exact r1 hr
theorem r64m {k : Nat} {A : Around} {v : Option Value} (hr : Room k A) : (A.mark v).units + 64 < cLine := by
  show A.units + 64 < cLine
  exact r64 hr
end DL
set_option Elab.async false
set_option linter.all false
set_option maxRecDepth 100000
set_option maxHeartbeats 4000000
namespace DL
open PySem PySem.Spec L2 PyProof.Rows
/-! ### raise X(e), where X's own __init__ hands a text on to its base and writes a field -/
section
variable {X : Cx} {o e : Expr} {es : List Expr} {ta : TA} {p1 p2 pos : Pos}
/-- B.__init__(self, ..), B an own class over ValueError with none of its own -/
theorem pe_ceinit {pl : Sem Bool} {x : Str} {C0 : Addr} {mc : Value} (hg : Gl X x) (hm : X.mg x = some (.ref C0)) (hk : PySem.W.keepIn X.K (.ref C0) = true) (hgt : PySem.W.specialIn X.K (.ref C0) "__getattribute__" = some (some (.builtin "type.__getattribute__")))
    (hmc : PySem.W.typeIn X.K (.ref C0) = some mc) (hrd : PySem.W.readsIn X.K C0 mc = true) (vV : PySem.W.findCls X.K (.ref C0) mc "__init__" = some (.val (.builtin "ValueError.__init__"))) (ha : PA X (e :: es) ta)
    (hdb : (x == ("__debug__" : Str)) = false := by decide)
    (hc : eval (.Call (.Attribute (.Name x p1) "__init__" p2) (e :: es) [] pos) X.env = (do
      let ov ← eval (.Name x p1) X.env
      standAt p2.atName
      let (f, first) ← holding [ov] (getMethod ov "__init__" pl)
      callWith pos f first (backTo pos (starEach (e :: es) X.env)) (backToKw pos (keywordEach [] X.env))) := by rfl)
    (he : starEach (e :: es) X.env = (false, eval e X.env) :: starEach es X.env := by rfl) (hpl : (backTo pos (starEach es X.env)).any (·.1) = false := by rfl) :
    PE X (.Call (.Attribute (.Name x p1) "__init__" p2) (e :: es) [] pos) (tVeI X.K ta) := by
  refine ⟨fun pins s σ H Q I h => ?_⟩
  refine PySem.W.methodCall_KW (ld_glob I hg hm ?_ hdb) hc
  obtain ⟨m, fr⟩ := I.fr
  refine PySem.W.method_of_cls fr I.ok.mod.kin hgt (PySem.W.cls_val fr I.ok.mod.kin hmc hrd vV (by decide +kernel) ?_)
  show wpAny _ _ (callWith pos (Value.builtin "ValueError.__init__") [] (backTo pos (starEach (e :: es) X.env)) []) _ _ _
  refine PyProof.Rows.callWith_method1 (thn (ha.run pos pins _ σ H _ (I.tok _) h) fun us s1 ⟨vs, H1, I1, r1, a, C, ws, ev, hl, T, ea, q⟩ => ?_) he hpl
  subst ev
  cases r1 with
  | @cons _ u0 _ ur ra rw' =>
    obtain rfl : u0 = Value.ref a := ra
    have hlen : ur.length ≤ sizeLine := by
      rw [← Paired.length rw', sizeLine_eq]
      omega
    exact oinit_ok T I1 ea hlen fun s' J => ⟨.non, H1, J, rfl, q⟩
/-! the class -/
def oexIn (K : PySem.W.Frag) (C : Addr) : Bool := match K.lookup C with
  | some ⟨.type "type", _, .cls cd, sl⟩ => (match cd.mro, sl.toList with
    | .ref C' :: bm, [_, _, _, _, some (.builtin n), _] => C' == C && n == "ValueError.__new__" && !cd.hasDel && cd.hasDict && PySem.HandSPX.refsVE bm
    | _, _ => false)
  | _ => false
theorem oexIn_of {K : PySem.W.Frag} {C : Addr} (q : oexIn K C = true) : ∃ nm q N bs bm sn sub ab col dd k0 k1 k2 k3 k5, K.lookup C = some (excClassObj nm q C N bs bm true sn sub ab col dd k0 k1 k2 k3 k5 "ValueError.__new__") ∧ PySem.HandSPX.refsVE bm = true := by
  unfold oexIn at q
  split at q
  · rename_i dd cd sl ho
    split at q
    · rename_i C' bm k0 k1 k2 k3 n k5 hm hs
      simp only [Bool.and_eq_true, beq_iff_eq, Bool.not_eq_true'] at q
      obtain ⟨⟨⟨⟨rfl, rfl⟩, hdel⟩, hdd⟩, ht⟩ := q
      obtain ⟨nm, bs, mro, ns, qn, hd, sn, sub, ab, col, del⟩ := cd
      dsimp only at hm hdel hdd
      subst hm hdel hdd
      have hsl : sl = #[k0, k1, k2, k3, some (.builtin "ValueError.__new__"), k5] := by
        obtain ⟨l⟩ := sl
        simp only at hs
        rw [hs]
      subst hsl
      exact ⟨nm, qn, ns, bs, bm, sn, sub, ab, col, dd, k0, k1, k2, k3, k5, ho, ht⟩
    · cases q
  · cases q
def oexB (K : PySem.W.Frag) (C C0 fI : Addr) (fld : Str) : Bool :=
  oexIn K C && (decide (PySem.W.findIn K (.ref C) "__setattr__" = some (some (.builtin "object.__setattr__"))) && (decide (PySem.W.subIn K (.ref C) (.type "BaseException") = some true) && (decide (PySem.W.typeIn K (.ref C) = some (.type "type")) && (PySem.W.keepIn K (.ref C) &&
  (decide (PySem.W.findIn K (.ref C) fld = some none) && (decide (PySem.W.findIn K (.ref C) "__init__" = some (some (.ref fI))) && (decide (PySem.W.typeIn K (.ref fI) = some (.type "function")) &&
  (PySem.W.keepIn K (.ref C0) && (decide (PySem.W.specialIn K (.ref C0) "__getattribute__" = some (some (.builtin "type.__getattribute__"))) && (decide (PySem.W.typeIn K (.ref C0) = some (.type "type")) && (PySem.W.readsIn K C0 (.type "type") &&
  (match PySem.W.findCls K (.ref C0) (.type "type") "__init__" with | some (.val (.builtin n)) => n == "ValueError.__init__" | _ => false))))))))))))
structure OexAll (K : PySem.W.Frag) (C C0 fI : Addr) (fld : Str) : Prop where
  T : OexC K C
  fd : PySem.W.findIn K (.ref C) fld = some none
  iC : PySem.W.findIn K (.ref C) "__init__" = some (some (.ref fI))
  tI : PySem.W.typeIn K (.ref fI) = some (.type "function")
  k0 : PySem.W.keepIn K (.ref C0) = true
  g0 : PySem.W.specialIn K (.ref C0) "__getattribute__" = some (some (.builtin "type.__getattribute__"))
  t0 : PySem.W.typeIn K (.ref C0) = some (.type "type")
  r0 : PySem.W.readsIn K C0 (.type "type") = true
  v0 : PySem.W.findCls K (.ref C0) (.type "type") "__init__" = some (.val (.builtin "ValueError.__init__"))
theorem oexB_ok {K : PySem.W.Frag} {C C0 fI : Addr} {fld : Str} (h : oexB K C C0 fI fld = true) : OexAll K C C0 fI fld := by
  unfold oexB at h
  simp only [Bool.and_eq_true, decide_eq_true_eq] at h
  obtain ⟨a1, a2, a3, a4, a5, a6, a7, a8, a9, b1, b2, b3, b4⟩ := h
  refine ⟨⟨oexIn_of a1, a2, a3, a4, a5⟩, a6, a7, a8, a9, b1, b2, b3, ?_⟩
  split at b4
  · rename_i n hn
    rw [hn, beq_iff_eq.mp b4]
  · cases b4
/-- what the __init__ keeps -/
def spX (C : Addr) (fld : Str) : Sp := fun vs H Q _ => ∃ (a : Addr) (v : V), vs = [.ref a, v] ∧ H a = some (exo a C none) ∧ ∀ dx, H dx = none → dx ≠ a → Q .non (upd (upd H dx (exd dx [(fld, v)])) a (exo a C (some dx)))
theorem xinit_ok {P : Program} {w : World} {K : PySem.W.Frag} {mg : Str → Option Value} {base : Heap} {k : Nat} {nm qual msg fld arg : Str} {params : Arguments} {scope : Scope} {f C C0 : Addr} {fd : FuncData} {j : Nat} {p1 p2 p3 p4 p5 p6 p7 p8 p9 p10 : Pos}
    (F : FunD K nm qual params [.Expr (.Call (.Attribute (.Name "CarryError" p1) "__init__" p2) [.Name "self" p3, .Constant (.str msg) j p4] [] p5) p6, .Assign [.Attribute (.Name "self" p7) fld p8] (.Name arg p9) p10] scope [] [] f fd)
    (S : FnScope ["self", arg] ["self", arg] scope) (A : OexAll K C C0 f fld) (hm : mg "CarryError" = some (.ref C0)) (hg : scope.names.lookup ("CarryError" : Str) = some .globalImplicit)
    (v1 : Vis scope "self") (v2 : Vis scope arg) (ha : (arg == ("__debug__" : Str)) = false) (ha2 : (arg == ("__classdict__" : Str)) = false) {pl : Env → Sem Bool}
    (hc : ∀ env : Env, eval (.Call (.Attribute (.Name "CarryError" p1) "__init__" p2) [.Name "self" p3, .Constant (.str msg) j p4] [] p5) env = (do
      let ov ← eval (.Name "CarryError" p1) env
      standAt p2.atName
      let (f, first) ← holding [ov] (getMethod ov "__init__" (pl env))
      callWith p5 f first (backTo p5 (starEach [.Name "self" p3, .Constant (.str msg) j p4] env)) (backToKw p5 (keywordEach [] env)))) : FnOk P w K mg base (L2.CX P w) (k + 1) f fd ["self", arg] (spX C fld) := by
  refine FunD.okC F S (fun vs H Q E h => ?_) (fun cdv A' outer s H vs Q E cd hr h => ?_)
  · obtain ⟨a, v, rfl, _⟩ := h
    rfl
  · obtain ⟨a, v, rfl, hH, q⟩ := h
    have hself := fun (p : Pos) => pe_var (X := cxOf (L2.CX P w) P w K mg base ["self", arg] qual scope f cdv A' outer s H E) (i := 0) (x := "self") (pos := p) rfl v1
    have harg := fun (p : Pos) => pe_var (X := cxOf (L2.CX P w) P w K mg base ["self", arg] qual scope f cdv A' outer s H E) (i := 1) (x := arg) (pos := p) rfl v2 ha ha2
    refine ⟨_, pss_cons (ps_expr (pe_ceinit (C0 := C0) hg hm A.k0 A.g0 A.t0 A.r0 A.v0 (pa_cons (hself _) (pa_cons pe_str pa_nil)) (by decide) (hc _))) (pss_one (ps_ost (hself _) (harg _))), ?_⟩
    exact ⟨.ref a, rfl, a, C, [.str msg], rfl, by simp, A.T, hH, v, rfl, .ref a, rfl, a, C, rfl, A.T, A.fd, .inl ⟨hH, q⟩⟩
/-! the statement -/
def dRaiseF (C : Addr) (fld : Str) (W : DWX) (te : DTE) : DTS := fun _ sd G => te sd G fun d G1 => W C (some (fld, d)) sd G1
@[simp ↓] theorem dRaiseF_app {C : Addr} {fld : Str} {W : DWX} {te : DTE} {DD sd G} : dRaiseF C fld W te DD sd G = te sd G fun d G1 => W C (some (fld, d)) sd G1 := (rfl)
variable {B : Bx} {W : DWX} {te : DTE} {x : Str} {p : Pos}
theorem ds_raiseF {CX : CXT} {C C0 fI : Addr} {fld : Str} {k : Nat} {fd : FuncData} {ps : List Str} (A : OexAll X.K C C0 fI fld) (F1 : FnOk X.prog X.w X.K X.mg X.base (L2.CX X.prog X.w) k fI fd ps (spX C fld)) (hr : Room (k + 1) X.A) (hb : Binds X.K fd ps []) (hc : X.calm = true) (tk : Wish X B W)
    (hg : Gl X x) (hm : X.mg x = some (.ref C)) (ha : DE X B e te) (hs : starEach [e] X.env = (false, eval e X.env) :: starEach [] X.env := by rfl) (hpl : (backTo pos (starEach [] X.env)).any (·.1) = false := by rfl) (hdb : (x == ("__debug__" : Str)) = false := by decide) :
    DS X B (.Raise (some (.Call (.Name x p) [e] [] pos)) none p1) (dRaiseF C fld W te) := by
  obtain ⟨Wv, tkv, hW⟩ := tk.ex
  obtain ⟨tv, pa, ha⟩ := ha.ex
  refine ⟨_, ps_raise hc tkv (pmk_oex (dvs := []) A.T A.iC A.tI F1 hr hb .nil (passes_call tkv (fun _ _ _ _ z => z.elim)) hg hm (pa_cons pa pa_nil hs) hdb hs hpl), fun σ H sd G DD D hS R t hp => ?_⟩
  refine ha σ H sd G _ _ hS R t fun v d H1 G1 k1 r1 R1 w => ?_
  refine ⟨by simp, fun a hn => ?_⟩
  refine ⟨a, v, rfl, upd_same, fun dx hdx hne => ⟨rfl, dx, [(fld, v)], upd_same, ?_, ?_, ?_⟩⟩
  · rw [upd_ne hne, upd_same]
  · rw [upd_ne hne] at hdx
    exact hdx
  · have hd1 : H1 dx = none := by rw [upd_ne hne] at hdx; exact hdx
    have e : upd (del (upd (upd (upd H1 a (exo a C none)) dx (exd dx [(fld, v)])) a (exo a C (some dx))) a) dx (.xd [(fld, v)]) = upd H1 dx (.xd [(fld, v)]) := by
      funext b
      by_cases hb1 : b = dx
      · rw [hb1, upd_same, upd_same]
      · rw [upd_ne hb1, upd_ne hb1]
        by_cases hb2 : b = a
        · rw [hb2, del_same, hn]
        · rw [del_ne hb2, upd_ne hb2, upd_ne hb1, upd_ne hb2]
    rw [e]
    have kf : Kp H1 (upd H1 dx (.xd [(fld, v)])) := .fresh hd1
    exact hW C (some (fld, d)) (some dx) σ _ sd G1 ((hS.mono k1).mono kf) (R1.fresh hd1) ⟨v, upd_same, r1.mono kf⟩ w
structure XIn (P : Program) (w : World) (K : PySem.W.Frag) (mg : Str → Option Value) (base : Heap) (C : Addr) (fld : Str) : Prop where
  ex : ∃ (C0 fI : Addr) (fd : FuncData) (ps : List Str), OexAll K C C0 fI fld ∧ FnOk P w K mg base (L2.CX P w) 1 fI fd ps (spX C fld) ∧ Binds K fd ps []
theorem ds_raiseX {C : Addr} {fld : Str} (Z : XIn X.prog X.w X.K X.mg X.base C fld) (hr : Room 2 X.A) (hc : X.calm = true) (tk : Wish X B W) (hg : Gl X x) (hm : X.mg x = some (.ref C)) (ha : DE X B e te) (hs : starEach [e] X.env = (false, eval e X.env) :: starEach [] X.env := by rfl) (hpl : (backTo pos (starEach [] X.env)).any (·.1) = false := by rfl) (hdb : (x == ("__debug__" : Str)) = false := by decide) :
    DS X B (.Raise (some (.Call (.Name x p) [e] [] pos)) none p1) (dRaiseF C fld W te) := by
  obtain ⟨C0, fI, fd, ps, A, F1, hb⟩ := Z.ex
  exact ds_raiseF (CX := L2.CX X.prog X.w) A F1 hr hb hc tk hg hm ha hs hpl hdb
end
end DL
set_option Elab.async false
set_option linter.all false
set_option maxRecDepth 100000
set_option maxHeartbeats 4000000
namespace DL
open PySem PySem.Spec L2 PyProof.Rows
/-! ### d.update(e) -/
section
variable {X : Cx} {B : Bx}
theorem mt_updK : MtR X "dict.update" (fun x xs H Q => ∃ (a b : Addr) (ks ms : List (Key × V)), x = .ref a ∧ xs = [.ref b] ∧ a ≠ b ∧ H a = some (.dK ks) ∧ H b = some (.dK ms) ∧ ks.length + ms.length ≤ sizeLine ∧ Q .non (upd H a (.dK (mergeK ks ms)))) := by
  rintro pins s σ H x xs v us Q I rx rxs ⟨a, b, ks, ms, rfl, rfl, hab, ha, hb, hl, q⟩
  cases rx
  obtain ⟨u1, rfl, r1⟩ := vals1 rxs
  cases r1
  obtain ⟨z, hd, vs, rel, dd⟩ := dk_of I.hok ha
  obtain ⟨z2, hd2, ws, rel2, dd2⟩ := dk_of I.hok hb
  refine call_meetsIn PySem.F.slot_dict_update dd.typeIs PySem.F.entry_dict_update (PySem.F.args_dict_update_2 _ _) (meets_dict_update (mixKind X.prog X.w) a b hab hd2)
    ⟨vs, ws, dd, dd2, by rw [← rel.length, ← rel2.length]; exact hl, fun h' d1 d2 hs => ?_⟩
  obtain ⟨o, es, ep, ho, hx, hdt, r⟩ := id d1
  have I2 : Inv X pins σ (upd H a (.dK (mergeK ks ms))) { s with heap := h' } :=
    d_write I (t' := s.toks) (by rw [ha]; exact True.intro) hs ⟨o, ho⟩ ⟨Nat.le_trans (length_mergeK ms ks) hl, hd, _, KV.merge rel2 rel, d1⟩
  exact ⟨.non, _, I2, rfl, q⟩
def mergeD (kvs ms : List (D × D)) : List (D × D) := ms.foldl (fun acc kv => putD acc kv.1 kv.2) kvs
def updR (d : D) (ds : List D) (G : Gp) (Q : DQ) : Prop := match d, ds with
  | .ref a, [.ref b] => a ≠ b ∧ ∃ kvs ms, G a = some (.dict false kvs) ∧ G b = some (.dict false ms) ∧ kvs.length + ms.length ≤ sizeLine ∧ Q .non (put G a (.dict false (mergeD kvs ms)))
  | _, _ => False
theorem merge_rel {H : Hp} : ∀ {ms : List (D × D)} {ns : List (Key × V)} {kvs : List (D × D)} {ks : List (Key × V)}, ms.map (·.1) = ns.map (fun q => kD q.1) → RelL H (ms.map (·.2)) (ns.map (·.2)) → kvs.map (·.1) = ks.map (fun q => kD q.1) → RelL H (kvs.map (·.2)) (ks.map (·.2)) →
    (mergeD kvs ms).map (·.1) = (mergeK ks ns).map (fun q => kD q.1) ∧ RelL H ((mergeD kvs ms).map (·.2)) ((mergeK ks ns).map (·.2))
  | [], [], kvs, ks, _, _, h, r => ⟨h, r⟩
  | m :: ms, [], _, _, h, _, _, _ => by simp at h
  | [], n :: ns, _, _, h, _, _, _ => by simp at h
  | m :: ms, n :: ns, kvs, ks, h, r, h2, r2 => by
    rw [List.map_cons, List.map_cons] at h r
    injection h with h0 h1
    obtain ⟨y, ys, e, ry, rys⟩ := r
    cases e
    obtain ⟨p1, p2⟩ := put_rel (f := kD) (fun _ _ => kD_inj) ry n.1 h2 r2
    have := merge_rel (ms := ms) (ns := ns) (kvs := putD kvs m.1 m.2) (ks := putK ks n.1 n.2) h1 rys (by rw [h0]; exact p1) (by rw [h0]; exact p2)
    exact this
theorem dm_update : DMt X B "dict.update" updR := by
  refine ⟨_, mt_updK, fun H G x d xs ds Q P r1 r2 R q hp => ?_⟩
  match d, ds, q, r1, r2 with
  | .ref a, [.ref b], q, r1, r2 =>
    cases r1
    obtain ⟨y, rfl, ry⟩ := rel1 r2
    cases ry
    obtain ⟨hab, kvs, ms, ga, gb, hl, q⟩ := q
    obtain ⟨z, ks, h1, h2, h3⟩ := R.at_ a _ ga
    obtain ⟨z', ns, h1', h2', h3'⟩ := R.at_ b _ gb
    have l1 : kvs.length = ks.length := by have := congrArg List.length h2; simpa using this
    have l2 : ms.length = ns.length := by have := congrArg List.length h2'; simpa using this
    obtain ⟨m1, m2⟩ := merge_rel h2' h3' h2 h3
    have kw : Kp H (upd H a (.dK (mergeK ks ns))) := .write h1 fun _ => nofun
    have hlen : (mergeD kvs ms).length ≤ sizeLine := by
      have := congrArg List.length m1
      simp only [List.length_map] at this
      rw [this]
      exact Nat.le_trans (length_mergeK ns ks) (by omega)
    exact ⟨a, b, ks, ns, rfl, rfl, hab, h1, h1', by omega, hp .non .non _ _ kw rfl (R.write (o := .dict false (mergeD kvs ms)) h1 (fun _ => nofun) ⟨hlen, _, upd_same, m1, m2.mono kw⟩) q⟩
end
def updO (o o' : Option DO) (a b : Addr) (G : Gp) (Q : DQ) : Prop := a ≠ b ∧ ∃ kvs ms, o = some (.dict false kvs) ∧ o' = some (.dict false ms) ∧ kvs.length + ms.length ≤ sizeLine ∧ Q .non (put G a (.dict false (mergeD kvs ms)))
@[simp] theorem updR_ref {a b G Q} : updR (.ref a) [.ref b] G Q = updO (G a) (G b) a b G Q := (rfl)
end DL
set_option Elab.async false
set_option linter.all false
set_option maxRecDepth 100000
set_option maxHeartbeats 4000000
namespace DL
open PySem PySem.Spec L2 PyProof.Rows
/-! ### texts: z[lo:hi], z[::-1] -/
def revS (z : Str) : Str := ⟨((Builtin.Str.strSliceIndices none none (-1) z.length).filterMap (z.cps[·]?)).toArray⟩
section
variable {X : Cx} {B : Bx}
theorem revS_len (z : Str) : (revS z).length ≤ z.length := by
  show (((Builtin.Str.strSliceIndices none none (-1) z.length).filterMap (z.cps[·]?)).toArray).size ≤ z.length
  rw [List.size_toArray]
  refine Nat.le_trans (List.length_filterMap_le _ _) ?_
  show (sliceRange ((z.length : Int) - 1) (-1) (-1)).length ≤ _
  rw [PySem.W.krv_sliceRange, List.length_map, List.length_range]
  exact Nat.le_refl _
theorem pe_revS {e : Expr} {te : TE} {k : Nat} {p1 p2 p3 pos : Pos} (he : PE X e te) : PE X (.Subscript e (.Slice none none (some (.UnaryOp .USub (.Constant (.int 1) k p1) p2)) p3) pos) (fun σ H Q => te σ H fun x H1 => ∃ z, x = .str z ∧ z.length ≤ sizeLine ∧ Q (.str (revS z)) H1) := by
  refine ⟨fun pins s σ H Q I h => ?_⟩
  refine Subscript_ (thn (he.run pins s σ H _ I h) fun v s1 ⟨x, H1, I1, r1, q1⟩ => ?_)
  obtain ⟨z, ex, hx, q⟩ := q1
  subst ex
  obtain ⟨t, rfl⟩ := r1
  have hst : PO X (some (.UnaryOp .USub (.Constant (.int 1) k p1) p2)) (tPart (tUn (rU fun i => .int (-i)) (tC (.int 1)))) := po_some (pe_un un_neg pe_int)
  refine wpAny_Slice (thn (po_none.run pins s1 σ H1 (fun o H2 => o = none ∧ H2 = H1) I1 ⟨rfl, rfl⟩) fun vl s2 ⟨l, H2, I2, pl, el, e2⟩ => ?_)
  subst el e2
  refine thn (po_none.run pins s2 σ H2 (fun o H3 => o = none ∧ H3 = H2) I2 ⟨rfl, rfl⟩) fun vu s3 ⟨u, H3, I3, pu, eu, e3⟩ => ?_
  subst eu e3
  refine thn (hst.run pins s3 σ H3 (fun o H4 => o = some (-1) ∧ H4 = H3) I3 ⟨1, rfl, -1, rfl, rfl, rfl⟩) fun vs s4 ⟨o, H4, I4, ps, eo, e4⟩ => ?_
  subst eo e4
  have I5 : Inv X pins σ H4 { s4 with heap := s4.heap.push { cls := .type "slice", data := .fields #[vl, vu, vs] } } := I4.kept (t' := s4.toks) fun b ob q => Heap.get?_push_of_some _ q
  obtain ⟨l, rfl, el⟩ := IsPart.raw pl
  obtain ⟨u, rfl, eu⟩ := IsPart.raw pu
  obtain ⟨st, rfl, es⟩ := IsPart.raw ps
  show wpAny (model X.prog X.w) X.A (subscriptTail e (.Slice none none (some (.UnaryOp .USub (.Constant (.int 1) k p1) p2)) p3) (.str z t) (.ref s4.heap.objs.size)) (EP X pins σ Q) X.xe { s4 with heap := s4.heap.push { cls := .type "slice", data := .fields #[_, _, _] } }
  refine tail_any (ops := [.str z t, .ref s4.heap.objs.size]) (typeIs_str _ _ _) (PySem.F.slot_str_getitem.lookup) ?_ (by with_unfolding_all rfl)
  have el : l = none := by cases l with
    | none => rfl
    | some q => cases el
  have eu : u = none := by cases u with
    | none => rfl
    | some q => cases eu
  obtain ⟨tk, rfl⟩ : ∃ tk, st = some (-1, tk) := by
    cases st with
    | none => cases es
    | some q => obtain ⟨a, b⟩ := q; cases es; exact ⟨b, rfl⟩
  subst el eu
  refine wpAny_getItem_str_slice (l := none) (u := none) (st := some (-1, tk)) ⟨_, Heap.get?_push_size _ rfl, rfl, rfl⟩ rfl ?_
  have hm : sliceMade z t none none (some (-1, tk)) = Made.str (revS z) := by
    unfold sliceMade
    rw [if_neg (by simp)]
    rfl
  rw [hm]
  exact ⟨Nat.le_trans (revS_len z) hx, .str (revS z), _, I5.tok _, ⟨_, rfl⟩, q⟩
/-- z[::-1] of a text -/
def revSR (d : D) (G1 : Gp) (Q : DQ) : Prop := match d with
  | .str z => z.length ≤ sizeLine ∧ Q (.str (revS z)) G1
  | _ => False
def dRevS (te : DTE) : DTE := fun sd G Q => te sd G fun d G1 => revSR d G1 Q
theorem okS_sub {y z : Str} (s : ∀ c ∈ y.cps.toList, c ∈ z.cps.toList) (h : OkS z) : OkS y := by
  unfold OkS PyData.strOk at *
  refine Array.all_eq_true_iff_forall_mem.mpr fun c hc => ?_
  exact Array.all_eq_true_iff_forall_mem.mp h c (by simpa using s c (by simpa using hc))
theorem revS_sub {z : Str} : ∀ c ∈ (revS z).cps.toList, c ∈ z.cps.toList := fun c hc => by
  unfold revS at hc
  simp only [List.mem_filterMap] at hc
  obtain ⟨i, _, hi⟩ := hc
  have := Array.mem_of_getElem? hi
  simpa using this
theorem cutS_sub {z : Str} {lo hi : Option Int} : ∀ c ∈ (cutS z lo hi).cps.toList, c ∈ z.cps.toList := fun c hc => List.mem_of_mem_drop (List.mem_of_mem_take hc)
theorem revS_ok {z : Str} (h : OkS z) : OkS (revS z) := okS_sub revS_sub h
theorem de_revS {e : Expr} {te : DTE} {k : Nat} {p1 p2 p3 pos : Pos} (he : DE X B e te) : DE X B (.Subscript e (.Slice none none (some (.UnaryOp .USub (.Constant (.int 1) k p1) p2)) p3) pos) (dRevS te) := by
  obtain ⟨te', pe, he⟩ := he.ex
  refine ⟨_, pe_revS pe, fun σ H sd G Q P hS R t hp => ?_⟩
  refine he σ H sd G _ _ hS R t fun v d H1 G1 k1 r1 R1 q1 => ?_
  cases d with
  | str z =>
    obtain ⟨rfl, ok⟩ := r1
    exact ⟨z, rfl, q1.1, hp _ (.str (revS z)) H1 G1 k1 ⟨rfl, revS_ok ok⟩ R1 q1.2⟩
  | _ => exact (show False from q1).elim
/-- z[lo:hi] of a text -/
def slSR (d : D) (lo hi : Option Int) (G : Gp) (Q : DQ) : Prop := match d with
  | .str z => z.length ≤ sizeLine ∧ Q (.str (cutS z lo hi)) G
  | _ => False
def dSlS (te : DTE) (tl th : DTO) : DTE := fun sd G Q => te sd G fun d G1 => tl sd G1 fun l G2 => th sd G2 fun u G3 => slSR d l u G3 Q
theorem cutS_ok {z : Str} {lo hi : Option Int} (h : OkS z) : OkS (cutS z lo hi) := okS_sub cutS_sub h
theorem de_sliceS {e : Expr} {te : DTE} {tl th : DTO} {lo hi : Option Expr} {pos p2 : Pos} (he : DE X B e te) (hl : DO' X B lo tl) (hh : DO' X B hi th) : DE X B (.Subscript e (.Slice lo hi none p2) pos) (dSlS te tl th) := by
  obtain ⟨te', pe, he⟩ := he.ex
  obtain ⟨tl', pl, hl⟩ := hl.ex
  obtain ⟨th', ph, hh⟩ := hh.ex
  refine ⟨_, pe_slice sl_str pe pl ph, fun σ H sd G Q P hS R t hp => ?_⟩
  refine he σ H sd G _ _ hS R t fun v d H1 G1 k1 r1 R1 q1 => ?_
  refine hl σ H1 sd G1 _ _ (hS.mono k1) R1 q1 fun l H2 G2 k2 R2 q2 => ?_
  refine hh σ H2 sd G2 _ _ (hS.mono (k1.trans k2)) R2 q2 fun u H3 G3 k3 R3 q3 => ?_
  have hp := hp.mono (k1.trans (k2.trans k3))
  cases d with
  | str z =>
    obtain ⟨rfl, ok⟩ := r1
    exact ⟨z, rfl, q3.1, hp _ (.str (cutS z l u)) H3 G3 (.refl _) ⟨rfl, cutS_ok ok⟩ R3 q3.2⟩
  | _ => exact (show False from q3).elim
end
@[simp ↓] theorem dRevS_app {te sd G Q} : dRevS te sd G Q = te sd G fun d G1 => revSR d G1 Q := (rfl)
@[simp] theorem revSR_str {z : Str} {G Q} : revSR (.str z) G Q = (z.length ≤ sizeLine ∧ Q (.str (revS z)) G) := (rfl)
@[simp ↓] theorem dSlS_app {te tl th sd G Q} : dSlS te tl th sd G Q = te sd G fun d G1 => tl sd G1 fun l G2 => th sd G2 fun u G3 => slSR d l u G3 Q := (rfl)
@[simp] theorem slSR_str {z : Str} {lo hi G Q} : slSR (.str z) lo hi G Q = (z.length ≤ sizeLine ∧ Q (.str (cutS z lo hi)) G) := (rfl)
end DL
set_option Elab.async false
set_option linter.all false
set_option maxRecDepth 100000
set_option maxHeartbeats 4000000
namespace DL
open PySem PySem.Spec L2
/-! ### the head's hook, with the model's own table of marks in K -/
def asS (g : Addr → Option Obj) (n : Nat) : List Addr := cStatics :: He.asD g n
def obsXSG (n : Nat) (fa : List He.Fa) (fn : List He.DefD) (ts : List He.Tab) (xb : PySem.W.Frag → Bool) (g : Addr → Option Obj) : AlX := obsX fa fn ts xb g (He.frT g (asS g n))
theorem saysZS_of {n : Nat} {fa : List He.Fa} {fn : List He.DefD} {ts : List He.Tab} {xb : PySem.W.Frag → Bool} {w : World} {h : Heap} (e : obsXSG n fa fn ts xb h.get? = (He.valT fn ts w, true)) : SaysZ fa fn ts xb w h (He.frT h.get? (asS h.get? n)) := by
  have e1 : He.SaysT fa fn ts w (He.frT h.get? (asS h.get? n)) := congrArg (fun z : AlX => z.1) e
  have e2 : (xb (He.frT h.get? (asS h.get? n)) && tbB h.get? (He.frT h.get? (asS h.get? n))) = true := congrArg (fun z : AlX => z.2) e
  generalize hK : He.frT h.get? (asS h.get? n) = K at e1 e2
  obtain ⟨h1, h2⟩ := Bool.and_eq_true_iff.mp e2
  have key : ∀ q ∈ csOf K, PySem.W.codeHdIn K q.1 q.2.1 = true ∧ (∃ o, h.get? q.2.1 = some o ∧ He.emptyTab o = true) ∧ ∀ r ∈ csOf K, r.2.1 = q.2.1 → r.2.2 = q.2.2 := fun q hq => by
    obtain ⟨h3, h4⟩ := Bool.and_eq_true_iff.mp (List.all_eq_true.mp h2 q hq)
    obtain ⟨h4, h5⟩ := Bool.and_eq_true_iff.mp h4
    refine ⟨h3, ?_, fun r hr er => ?_⟩
    · cases z : h.get? q.2.1 with
      | none => rw [z] at h4; cases h4
      | some o => rw [z] at h4; exact ⟨o, rfl, h4⟩
    · have := List.all_eq_true.mp h5 r hr
      rw [er] at this
      simpa using this
  refine ⟨e1, h1, ⟨fun q hq => (key q hq).1, fun q hq => (key q hq).2.2⟩, fun q hq => ?_, fun q hq => ?_⟩
  · obtain ⟨_, ⟨o, g, z⟩, _⟩ := key q hq
    rw [← hK]
    exact He.frT_none g z
  · obtain ⟨_, ⟨o, g, z⟩, _⟩ := key q hq
    rw [g, He.emptyTab_eq z]
def hookXS (n : Nat) (fa : List He.Fa) (fn : List He.DefD) (ts : List He.Tab) (xb : PySem.W.Frag → Bool) : PySem.W.Hook where
  α := AlX
  obs := fun s => obsXSG n fa fn ts xb s.heap.get?
  val := fun w => (He.valT fn ts w, true)
  says := fun w h => ∃ K : PySem.W.Frag, K.In h ∧ SaysZ fa fn ts xb w h K
  of := fun _ _ e => ⟨_, He.frT_in, saysZS_of e⟩
  keeps := fun _ _ _ ⟨K, hK, c⟩ k => ⟨K, PySem.W.Frag.In.keeps hK k, ⟨c.t, c.x, c.k, c.out, fun q hq => k _ _ (c.empty q hq)⟩⟩
theorem obsXSG_eq {n : Nat} {fa : List He.Fa} {fn : List He.DefD} {ts : List He.Tab} {xb : PySem.W.Frag → Bool} {g : Addr → Option Obj} {s : Shared} (h : ∀ a, g a = s.heap.get? a) : obsXSG n fa fn ts xb g = (hookXS n fa fn ts xb).obs s := by
  have e : g = s.heap.get? := funext h
  rw [e] <;> rfl
end DL
set_option Elab.async false
set_option linter.all false
set_option maxRecDepth 100000
set_option maxHeartbeats 4000000
namespace DL
open PySem PySem.Spec L2 PyProof.Rows
/-! ### lambdas as values: they are made -/
def cloOf (X : Cx) (params : Arguments) (body : Expr) (scope : Scope) (c' : Addr) (dv : Option Addr) : Clo := ⟨params, body, scope, X.env.qual ++ "<lambda>", cloFrom X.env.cells scope.names [], c', dv⟩
theorem fnO_ok {P : Program} {w : World} {H : Hp} {h : Heap} {c : Clo} {a : Addr} {doc pm ctv : Value} (e : h.get? a = some (PySem.W.kdv_obj "<lambda>" c.qual c.params (.expr c.body) c.scope c.cells (dvV c.dv) doc pm c.code ctv)) : ObjOk P w H h a (FnO c a) :=
  ⟨⟨doc, pm, ctv, e⟩, ⟨_, e⟩, fun _ _ ⟨d, p, t, e⟩ st => ⟨d, p, t, st _ e⟩⟩
section
variable {X : Cx} {pins : List (Addr × Obj)} {σ : L2.St} {H : Hp} {s : Shared}
theorem fn_tail {T : List (Addr × Str)} {c P : Addr} {params : Arguments} {body : Expr} {scope : Scope} {pos : Pos} {firstLine : Nat} {dv : Option Addr} {E : Value → Shared → Prop} {Q : Value → Shared → Prop} (I : Inv X pins σ H s) (TB : LamX.TabB X.base X.mg c P) (hcode : X.env.code = .ref c)
    (hm : (P, X.env.qual ++ "<lambda>") ∈ T) (hu : ∀ p ∈ T, p.1 = P → p.2 = X.env.qual ++ "<lambda>") (hT : LamX.Tabs T H) (hfree : ∀ y ∈ scope.names, y.2 = .free → ∃ c, X.env.cells.lookup y.1 = some c)
    (h : ∀ (f c' : Addr) (H1 : Hp) (s' : Shared), Inv X pins σ (upd H1 f (FnO (cloOf X params body scope c' dv) f)) s' → LamX.ExtN H H1 → LamX.Tabs T H1 → H1 f = none → H1 c' = some (LamX.CodeO c' (X.env.qual ++ "<lambda>")) → Q (.ref f) s') :
    wpAny (model X.prog X.w) X.A (makeTail "<lambda>" (X.env.qual ++ "<lambda>") params (.expr body) scope X.env (dvV dv) .none none pos firstLine) Q E s := by
  obtain ⟨ps, hP, ht, ha⟩ := hT _ hm
  have bP : s.heap.BuiltinsAt X.mg P := TB.bm.keeps I.bk
  have hP' : s.heap.get? P = some { cls := .none, data := .fields ps } := I.hok P _ hP
  cases hc : codeAmong pos ps.toList with
  | none =>
    refine PySem.W.kdv_makeTail (mg := X.mg) (c := c) (P := P) (ps := ps) (closure_ok hfree) I.ok.glob (I.mod.glob.keeps I.bk) hcode (TB.code.keeps I.bk) hP' ht hc TB.gP bP fun c' ctv doc h' tk hx hge hlt hrec htb => ?_
    obtain ⟨c2, oc, vs, t, e2, hoc, hd, hv⟩ := hrec
    cases e2
    have nC : H c' = none := I.hok.fresh hge
    have I1 := LamX.inv_table (t' := tk) (more := #[rawInt pos.line, rawInt pos.col, .ref c']) (h' := h') I hP (fun b o hb e => hx b o hb e) htb hge ⟨oc, vs, t, hoc, hd, hv⟩
    have hE : LamX.ExtN H (upd (upd H P (.tbl (ps ++ #[rawInt pos.line, rawInt pos.col, .ref c']))) c' (LamX.CodeO c' (X.env.qual ++ "<lambda>"))) := fun b o e n => by
      rw [upd_ne (ne_of_none e nC), upd_ne (fun z => n ps (Option.some.inj (e.symm.trans (by rw [z]; exact hP))))]
      exact e
    have eL : (ps ++ #[rawInt pos.line, rawInt pos.col, .ref c']).toList = ps.toList ++ [rawInt pos.line, rawInt pos.col, .ref c'] := by simp
    have hf := I1.hok.fresh (Nat.le_refl _)
    refine h h'.objs.size c' _ _ (I1.laid (a := h'.objs.size) (fun b u e => Heap.get?_push_of_some _ e) (Nat.le_refl _) (fnO_ok (Heap.get?_push_size _ rfl))) hE (fun p hp => ?_) hf upd_same
    by_cases hb : p.1 = P
    · rw [hu p hp hb, hb]
      refine ⟨_, by rw [upd_ne (ne_of_none hP nC), upd_same], by rw [eL]; exact PySem.TriplesOk_snoc _ _ _ _ ht, fun p' cv hcv => ?_⟩
      rw [eL] at hcv
      rcases LamX.among_app _ ht hcv with z | z
      · obtain ⟨c0, e1, e2⟩ := ha p' cv z
        exact ⟨c0, e1, hE _ _ e2 LamX.codeO_ne⟩
      · exact ⟨c', z, upd_same⟩
    · obtain ⟨ps', a1, a2, a3⟩ := hT p hp
      refine ⟨ps', by rw [upd_ne (ne_of_none a1 nC), upd_ne hb]; exact a1, a2, fun p' cv hcv => ?_⟩
      obtain ⟨c0, e1, e2⟩ := a3 p' cv hcv
      exact ⟨c0, e1, hE _ _ e2 LamX.codeO_ne⟩
  | some cv =>
    obtain ⟨c', e, hco⟩ := ha pos cv hc
    subst e
    refine PySem.W.kdv_makeTailHit (mg := X.mg) (c := c) (P := P) (ps := ps) (closure_ok hfree) I.ok.glob (I.mod.glob.keeps I.bk) hcode (TB.code.keeps I.bk) hP' ht hc bP fun ctv doc h' tk hx hsz => ?_
    have I1 : Inv X pins σ H { s with heap := h', toks := tk } := I.kept hx
    exact h h'.objs.size c' H _ (I1.laid (a := h'.objs.size) (fun b u e => Heap.get?_push_of_some _ e) (Nat.le_refl _) (fnO_ok (Heap.get?_push_size _ rfl))) (LamX.ExtN.refl H) hT (I.hok.fresh hsz) hco
/-- without a default -/
def tFn (X : Cx) (T : List (Addr × Str)) (params : Arguments) (body : Expr) (scope : Scope) : TE := fun _ H Q => LamX.Tabs T H ∧ ∀ (f c' : Addr) (H1 : Hp), LamX.ExtN H H1 → LamX.Tabs T H1 → H1 f = none → H1 c' = some (LamX.CodeO c' (X.env.qual ++ "<lambda>")) → Q (.ref f) (upd H1 f (FnO (cloOf X params body scope c' none) f))
theorem pe_fn0 {T : List (Addr × Str)} {c P : Addr} {params : Arguments} {body : Expr} {scope : Scope} {pos : Pos} (TB : LamX.TabB X.base X.mg c P) (hcode : X.env.code = .ref c)
    (hm : (P, X.env.qual ++ "<lambda>") ∈ T) (hu : ∀ p ∈ T, p.1 = P → p.2 = X.env.qual ++ "<lambda>") (L : ∀ (ok : X.Ok), ∀ y ∈ scope.names, y.2 = .free → ∃ c, X.env.cells.lookup y.1 = some c) (hdef : defaultsOf params X.env = ([], [])) : PE X (.Lambda params body scope pos) (tFn X T params body scope) := by
  refine ⟨fun pins s σ H Q I ⟨hT, h⟩ => PySem.W.kla_eval hdef ?_⟩
  rw [makeFunction_eq]
  simp only [List.zip_nil_right, List.filterMap_nil, List.isEmpty_nil, if_true, pure_bind]
  exact fn_tail (dv := none) I TB hcode hm hu hT (L I.ok) fun f c' H1 s' I1 e1 t1 n1 h1 => ⟨.ref f, _, I1, rfl, h f c' H1 e1 t1 n1 h1⟩
/-- with one default, 0 -/
def tFn1 (X : Cx) (T : List (Addr × Str)) (params : Arguments) (body : Expr) (scope : Scope) : TE := fun _ H Q => LamX.Tabs T H ∧ ∀ (D : Addr), H D = none → ∀ (f c' : Addr) (H1 : Hp), LamX.ExtN (upd H D (.tup [.int 0])) H1 → LamX.Tabs T H1 → H1 f = none → H1 c' = some (LamX.CodeO c' (X.env.qual ++ "<lambda>")) → Q (.ref f) (upd H1 f (FnO (cloOf X params body scope c' (some D)) f))
theorem pe_fn1 {T : List (Addr × Str)} {c P : Addr} {params : Arguments} {body : Expr} {scope : Scope} {pos p0 : Pos} {j : Nat} (TB : LamX.TabB X.base X.mg c P) (hcode : X.env.code = .ref c)
    (hm : (P, X.env.qual ++ "<lambda>") ∈ T) (hu : ∀ p ∈ T, p.1 = P → p.2 = X.env.qual ++ "<lambda>") (L : ∀ (ok : X.Ok), ∀ y ∈ scope.names, y.2 = .free → ∃ c, X.env.cells.lookup y.1 = some c) (hd : params.defaults = [.Constant (.int 0) j p0]) (hk : params.kw_defaults = []) : PE X (.Lambda params body scope pos) (tFn1 X T params body scope) := by
  refine ⟨fun pins s σ H Q I ⟨hT, h⟩ => PySem.W.kdv_lam (by rw [hd]; rfl) hk ?_⟩
  rw [hd]
  refine PySem.W.kdv_all1 (wpAny_Constant_int (PySem.W.kdv_all0 ?_))
  rw [makeFunction_eq]
  simp only [List.zip_nil_right, List.filterMap_nil, List.isEmpty_nil, List.isEmpty_cons, if_true, pure_bind, Bool.false_eq_true, if_false]
  refine wpAny_bind (wpAny_newTextTuple ?_)
  have I0 := I.tok (s.toks + 1)
  have hn : H s.heap.objs.size = none := I.hok.fresh (Nat.le_refl _)
  have I1 := I0.laid (a := s.heap.objs.size) (o := .tup [.int 0]) (t' := s.toks + 1) (h' := s.heap.push { cls := .type "tuple", data := .seq #[Value.int 0 s.toks] }) (fun b u e => Heap.get?_push_of_some _ e) (Nat.le_refl _) ⟨by decide, [Value.int 0 s.toks], .cons ⟨_, rfl⟩ .nil, _, Heap.get?_push_size _ rfl, rfl, _, rfl⟩
  exact fn_tail (dv := some s.heap.objs.size) I1 TB hcode hm hu (tabs_fresh hT hn) (L I.ok) fun f c' H1 s' I2 e1 t1 n1 h1 => ⟨.ref f, _, I2, rfl, h _ hn f c' H1 e1 t1 n1 h1⟩
end
/-- lambda number i of this frame; LM: which they are -/
def dLam (LM : Nat → Clo → Prop) (i : Nat) : DTE := fun _ G Q => ∀ (f : Addr) (c : Clo), LM i c → Nw G f → Q (.ref f) (put G f (.fn c))
section
variable {X : Cx} {B : Bx} {LM : Nat → Clo → Prop} {i : Nat} {c P : Addr} {params : Arguments} {body : Expr} {scope : Scope} {pos p0 : Pos} {j : Nat}
theorem de_fn0 (LA : LamAt X c P) (L : ∀ (ok : X.Ok), ∀ y ∈ scope.names, y.2 = .free → ∃ c, X.env.cells.lookup y.1 = some c) (hdef : defaultsOf params X.env = ([], [])) (hi : ∀ c', LM i (cloOf X params body scope c' none)) : DE X B (.Lambda params body scope pos) (dLam LM i) := by
  refine ⟨_, pe_fn0 LA.tb LA.code LA.mem LA.uq L hdef, fun σ H sd G Q P hS R t hp => ⟨R.tb, fun f c' H1 e1 t1 n1 h1 => ?_⟩⟩
  have R1 := R.lam e1 t1
  have hne : c' ≠ f := ne_of_none h1 n1
  refine hp _ (.ref f) _ _ ((Kp.ofN e1).trans (.fresh n1)) rfl (R1.laid (o := .fn (cloOf X params body scope c' none)) n1 ⟨upd_same, (upd_ne hne).trans h1, nofun⟩) (t f _ (hi c') (R1.gnone n1))
theorem de_fn1 (LA : LamAt X c P) (L : ∀ (ok : X.Ok), ∀ y ∈ scope.names, y.2 = .free → ∃ c, X.env.cells.lookup y.1 = some c) (hd : params.defaults = [.Constant (.int 0) j p0]) (hk : params.kw_defaults = []) (hi : ∀ c' D, LM i (cloOf X params body scope c' (some D))) : DE X B (.Lambda params body scope pos) (dLam LM i) := by
  refine ⟨_, pe_fn1 LA.tb LA.code LA.mem LA.uq L hd hk, fun σ H sd G Q P hS R t hp => ⟨R.tb, fun D nD f c' H1 e1 t1 n1 h1 => ?_⟩⟩
  have R0 : Rep X.K B (upd H D (.tup [.int 0])) G := R.fresh nD
  have R1 := R0.lam e1 t1
  have hne : c' ≠ f := ne_of_none h1 n1
  have hD : H1 D = some (.tup [.int 0]) := e1 D _ upd_same nofun
  have hnD : D ≠ f := ne_of_none hD n1
  refine hp _ (.ref f) _ _ (((Kp.fresh nD).trans (Kp.ofN e1)).trans (.fresh n1)) rfl (R1.laid (o := .fn (cloOf X params body scope c' (some D))) n1 ⟨upd_same, (upd_ne hne).trans h1, fun T hT => ?_⟩) (t f _ (hi c' D) (R1.gnone n1))
  cases hT
  rw [upd_ne hnD]
  exact hD
end
end DL
set_option Elab.async false
set_option linter.all false
set_option maxRecDepth 100000
set_option maxHeartbeats 4000000
namespace DL
open PySem PySem.Spec L2 PyProof.Rows
/-! ### a frame that waits: its cells stand in a base of its own -/
theorem Mod.to {K : PySem.W.Frag} {mg : Str → Option Value} {base base' : Heap} (M : L2.Mod K mg base) (k : ∀ b o, base.get? b = some o → base'.get? b = some o) : L2.Mod K mg base' :=
  ⟨M.kin.keeps k, M.glob.keeps k, let ⟨mb, h1, h2⟩ := M.blt; ⟨mb, h1.keeps k, h2⟩, M.nolimit.keeps k⟩
theorem TBs.to {K : PySem.W.Frag} {mg : Str → Option Value} {base base' : Heap} (T : TBs K mg base) (k : ∀ b o, base.get? b = some o → base'.get? b = some o) : TBs K mg base' := fun q hq => ⟨(T q hq).code.keeps k, (T q hq).bm.keeps k, (T q hq).gP⟩
theorem funFrames_to {h base base' : Heap} : ∀ {l : List Env}, h.FunFrames base l → (∀ b ∈ frs l, base'.get? b = none) → h.FunFrames base' l
  | [], _, _ => trivial
  | env :: r, ⟨hk, ⟨L, o, hf, hn, ho, hd⟩, hr⟩, n => ⟨hk, ⟨L, o, hf, n L (by unfold frs; rw [List.filterMap_cons, hf]; exact List.mem_cons_self), ho, hd⟩, funFrames_to hr fun b hb => n b (by unfold frs; rw [List.filterMap_cons, hf]; exact List.mem_cons_of_mem _ hb)⟩
def keepH (h : Heap) (H : Hp) (l : List Env) : Heap := PySem.W.hideAll h (trk h H ++ frs l)
theorem keepH_size {h : Heap} {H : Hp} {l : List Env} : (keepH h H l).objs.size = h.objs.size := PySem.W.hideAll_size _ _
theorem keepH_get {h : Heap} {H : Hp} {l : List Env} {b : Addr} {o : Obj} (e : h.get? b = some o) (n : H b = none) (m : b ∉ frs l) : (keepH h H l).get? b = some o := by
  refine PySem.W.hideAll_get _ e fun z => ?_
  rcases List.mem_append.mp z with z | z
  · have := (List.mem_filter.mp z).2
    rw [n] at this
    cases this
  · exact m z
theorem of_keepH {h : Heap} {H : Hp} {l : List Env} {b : Addr} {o : Obj} (e : (keepH h H l).get? b = some o) : h.get? b = some o ∧ H b = none := by
  have e1 : h.get? b = some o := PySem.W.of_hideAll _ e
  refine ⟨e1, ?_⟩
  cases q : H b with
  | none => rfl
  | some u =>
    have hm : b ∈ trk h H := List.mem_filter.mpr ⟨List.mem_range.mpr (Heap.lt_size e1), by rw [q]; rfl⟩
    have z := PySem.W.hideAll_none (trk h H ++ frs l) (h := h) (List.mem_append.mpr (.inl hm))
    have e' : (PySem.W.hideAll h (trk h H ++ frs l)).get? b = some o := e
    rw [z] at e'
    cases e'
theorem keepH_fr {h : Heap} {H : Hp} {l : List Env} : ∀ b ∈ frs l, (keepH h H l).get? b = none := fun b hb => PySem.W.hideAll_none _ (List.mem_append.mpr (.inr hb))
/-- the frame with these cells waits over base -/
structure Susp (base : Heap) (N : List Str) (cells : List (Str × Addr)) (sc : Scope) (σ : L2.St) : Prop where
  inj : ∀ x y c, cells.lookup x = some c → cells.lookup y = some c → x = y
  has : ∀ x, (sc.names.lookup x = some .cell ∨ sc.names.lookup x = some .free) → ∃ c, cells.lookup x = some c
  cell : ∀ x c, cells.lookup x = some c → ∃ v, base.IsCell c v
  val : ∀ (i : Nat) (y : Str) (v : V), N[i]? = some y → σ[i]? = some (some v) → (sc.names.lookup y = some .cell ∨ sc.names.lookup y = some .free) → ∃ u c, RelV v u ∧ cells.lookup y = some c ∧ base.IsCell c (some u)
  len : σ.length = N.length
section
variable {X : Cx} {pins : List (Addr × Obj)} {σ : L2.St} {H : Hp} {s : Shared}
theorem susp (I : Inv X pins σ H s) (hfn : ∀ x, X.fn x = true) : ∃ base' : Heap, (∀ b o, X.base.get? b = some o → base'.get? b = some o) ∧ Susp base' X.N X.env.cells X.env.scope σ ∧ Env0 X.prog X.w X.K X.mg base' X.A X.stack s H := by
  have nofr : ∀ b, b ∈ frs X.stack → b = X.env.locals ∨ b ∈ X.fs := fun b hb => List.mem_cons.mp (I.stkSub b hb)
  have cfr : ∀ x c, X.env.cells.lookup x = some c → c ∉ frs X.stack := fun x c e z => by
    rcases nofr c z with z | z
    · exact I.cne x c e z
    · obtain ⟨_, o, ho, _⟩ := I.ok.funs.mem z
      exact absurd (Nat.lt_of_lt_of_le (Heap.lt_size ho) (I.ok.cab x c (hfn x) e)) (Nat.lt_irrefl _)
  have sub : ∀ b o, X.base.get? b = some o → (keepH s.heap H X.stack).get? b = some o := fun b o e => by
    obtain ⟨e1, n1⟩ := I.bs b o e
    refine keepH_get e1 n1 fun z => ?_
    rcases nofr b z with z | z
    · rw [z] at e
      exact absurd (Nat.lt_of_lt_of_le (Heap.lt_size e) (Nat.le_trans I.ok.bsz I.ok.above)) (Nat.lt_irrefl _)
    · exact I.ok.nofr e z
  have ck : ∀ x c v, X.env.cells.lookup x = some c → s.heap.IsCell c v → (keepH s.heap H X.stack).IsCell c v := fun x c v e ⟨o, ho, hd⟩ => ⟨o, keepH_get ho (I.freeC x c e) (cfr x c e), hd⟩
  refine ⟨keepH s.heap H X.stack, sub, ⟨I.ok.inj, fun x h => I.ok.has x h, fun x c e => ?_, fun i y v e1 e2 e3 => ?_, I.len⟩, ⟨I.ok.frames, Mod.to I.ok.mod sub, fun b o e => of_keepH e, Nat.le_of_eq keepH_size, funFrames_to I.stack keepH_fr, I.stkFree, I.hok, I.bare⟩⟩
  · obtain ⟨v, hv⟩ := I.cell x c e
    exact ⟨v, ck x c v e hv⟩
  · obtain ⟨m, hn, hl⟩ := I.loc
    obtain ⟨u, r, q⟩ := hl i y v e1 e2 (.inr e3)
    rcases q with ⟨k, _⟩ | ⟨_, c, ec, z⟩
    · have k' : X.env.scope.names.lookup y = some .local := k
      rcases e3 with e3 | e3 <;> rw [k'] at e3 <;> cases e3
    · exact ⟨u, c, r, ec, ck y c _ ec z⟩
end
/-- a lambda's names: its parameters are none of the frame's, the rest captured or global -/
structure LamN (N : List Str) (sc scope : Scope) : Prop where
  kind : scope.kind = .function
  co : scope.isCoroutine = false
  gen : scope.isGenerator = false
  own : ∀ y ∈ scope.names, y.2 ≠ .cell ∧ (y.2 = .local → y.1 ∉ N)
  free : ∀ y ∈ scope.names, y.2 = .free → sc.names.lookup y.1 = some .cell ∨ sc.names.lookup y.1 = some .free
def lamNB (N : List Str) (sc scope : Scope) : Bool :=
  decide (scope.kind = .function) && !scope.isCoroutine && !scope.isGenerator && scope.names.all fun y => !decide (y.2 = .cell) && (!decide (y.2 = .local) || !decide (y.1 ∈ N)) && (!decide (y.2 = .free) || decide (sc.names.lookup y.1 = some .cell) || decide (sc.names.lookup y.1 = some .free))
theorem lamN_by {N : List Str} {sc scope : Scope} (h : lamNB N sc scope = true) : LamN N sc scope := by
  unfold lamNB at h
  simp only [Bool.and_eq_true, Bool.or_eq_true, Bool.not_eq_true', decide_eq_true_eq, decide_eq_false_iff_not, List.all_eq_true] at h
  obtain ⟨⟨⟨h1, h2⟩, h3⟩, h4⟩ := h
  refine ⟨h1, h2, h3, fun y hy => ⟨(h4 y hy).1.1, fun e => ?_⟩, fun y hy e => ?_⟩
  · rcases (h4 y hy).1.2 with z | z
    · exact absurd e z
    · exact z
  · rcases (h4 y hy).2 with (z | z) | z
    · exact absurd e z
    · exact .inl z
    · exact .inr z
theorem LamN.has {X : Cx} {N : List Str} {scope : Scope} (L : LamN N X.env.scope scope) (ok : X.Ok) : ∀ y ∈ scope.names, y.2 = .free → ∃ c, X.env.cells.lookup y.1 = some c := fun y hy e => by
  rcases L.free y hy e with k | k
  · exact ok.has _ (.inl k)
  · exact ok.has _ (.inr k)
abbrev fnEnv (c : Clo) (L f : Addr) : Env := PySem.W.envX c.qual c.scope L f (.ref c.code) c.cells
/-- the context of a lambda's body -/
def fnCx (P : Program) (w : World) (K : PySem.W.Frag) (mg : Str → Option Value) (base : Heap) (N : List Str) (c : Clo) (f : Addr) (A : Around) (outer : List Env) (s : Shared) (H : Hp) (E : XK) : Cx where
  prog := P
  w := w
  K := K
  mg := mg
  base := base
  A := A.deeper (fnEnv c s.heap.objs.size f)
  N := N
  s_0 := s
  H_0 := H
  env := fnEnv c s.heap.objs.size f
  outer := outer
  stack := fnEnv c s.heap.objs.size f :: outer
  ex := []
  fn := fun _ => false
  calm := true
  pn := []
  xe := fun e s' => wpAny (model P w) (A.deeper (fnEnv c s.heap.objs.size f)) (leaving (fnEnv c s.heap.objs.size f) e) (fun _ s'' => L2.CX P w outer H s E e s'') (fun e' s'' => L2.CX P w outer H s E e' s'') s'
section
variable {P : Program} {w : World} {K : PySem.W.Frag} {mg : Str → Option Value} {base : Heap} {N : List Str} {cells : List (Str × Addr)} {sc scope : Scope} {σ : L2.St} {A : Around} {outer : List Env} {s1 : Shared} {H1 : Hp} {E : XK} {f : Addr} {c : Clo}
theorem fn_start {binds : List (Str × Value)} {h₁ : Heap} {tk : Nat} (U : Susp base N cells sc σ) (L : LamN N sc c.scope) (hcl : c.cells = cloFrom cells c.scope.names []) (e0 : Env0 P w K mg base A outer s1 H1) (hd : A.handled = none)
    (hns : h₁.Ns s1.heap.objs.size fun y => binds.reverse.lookup y) (kp : ∀ b o, s1.heap.get? b = some o → h₁.get? b = some o) :
    Inv (fnCx P w K mg base N c f A outer s1 H1 E) [] σ H1 { s1 with heap := h₁, toks := tk } := by
  have hfree : ∀ y ∈ c.scope.names, y.2 = .free → ∃ d, cells.lookup y.1 = some d := fun y hy e => U.has _ (L.free y hy e)
  have cm : ∀ {y d}, c.cells.lookup y = some d → cells.lookup y = some d := fun {y d} e => by
    rw [hcl] at e
    rcases cloFrom_mem (PySem.mem_of_lookup e) with hm | ⟨h1, h2⟩
    · cases hm
    · obtain ⟨c1, hc⟩ := hfree _ h1 rfl
      have hc : cells.lookup y = some c1 := hc
      have e2 : d = c1 := by
        rw [h2, hc] <;> rfl
      rw [e2]
      exact hc
  have look : ∀ {y}, c.scope.names.lookup y = some .free → ∃ d, c.cells.lookup y = some d := fun {y} hl => by
    have hy : (y, NameKind.free) ∈ c.scope.names := PySem.mem_of_lookup hl
    rw [hcl]
    exact mem_lookup (cloFrom_has (cells := cells) (acc := []) hy)
  have cellK : ∀ {d : Addr} {v : Option Value}, base.IsCell d v → h₁.IsCell d v := fun {d v} ⟨o, ho, hd⟩ => ⟨o, kp _ _ (e0.bs _ _ ho).1, hd⟩
  have noA : ∀ b : Addr, b ∉ (fnCx P w K mg base N c f A outer s1 H1 E).ex := fun b z => absurd (show b ∈ ([] : List Addr) from z) (by simp)
  refine ⟨⟨e0.mod, L.kind, rfl, rfl, Nat.le_refl _, fun y z d e1 e2 => U.inj y z d (cm e1) (cm e2), fun y hy => ?_, fun y d z _ => ?_, fun _ => hd, Around.frames_deeper e0.frames, .inr ⟨rfl, rfl⟩, fun b z => absurd z (noA b), e0.bs, e0.bsz, fun b _ _ => noA b,
      fun b z => absurd z (noA b), e0.funs, e0.frf⟩,
    rfl, e0.bare, Un.kept kp, ⟨_, hns, fun i y v e1 e2 e3 => ?_⟩, fun y d e => ?_, e0.hok.fresh (Nat.le_refl _), fun y d e => ?_, fun q hq => absurd (show q ∈ ([] : List (Addr × Obj)) ++ [] from hq) (by simp), e0.hok.kept kp, U.len⟩
  · have hy : c.scope.names.lookup y = some .cell ∨ c.scope.names.lookup y = some .free := hy
    rcases hy with hy | hy
    · exact absurd rfl (L.own _ (PySem.mem_of_lookup hy)).1
    · exact look hy
  · have z : false = true := z
    cases z
  · have e1 : N[i]? = some y := e1
    have e3 : Vis c.scope y := e3
    rcases e3 with k | k | k
    · exact absurd (List.mem_of_getElem? e1) ((L.own _ (PySem.mem_of_lookup k)).2 rfl)
    · exact absurd rfl (L.own _ (PySem.mem_of_lookup k)).1
    · obtain ⟨u, d, r, e4, z⟩ := U.val i y v e1 e2 (L.free _ (PySem.mem_of_lookup k) rfl)
      obtain ⟨c2, h2⟩ := look k
      have c1 := cm h2
      rw [e4] at c1
      cases c1
      exact ⟨u, r, .inr ⟨.inr k, d, h2, cellK z⟩⟩
  · obtain ⟨w', z⟩ := U.cell y d (cm e)
    exact ⟨w', cellK z⟩
  · obtain ⟨v, o, ho, hd⟩ := U.cell y d (cm e)
    exact (e0.bs d o ho).2
/-- its parameters: none, or one with the default 0 -/
def LamBind (params : Arguments) (body : Expr) (scope : Scope) : Bool → Prop
  | false => ∀ (q : Str) (cl : List (Str × Addr)) (doc pm cv ctv : Value), bindArgs (PySem.W.kdv_fn "<lambda>" q params (.expr body) scope cl .none doc pm cv ctv) ⟨[], []⟩ = pure []
  | true => ∃ a : Str, scope.names.lookup a = some .local ∧ ∀ (q : Str) (cl : List (Str × Addr)) (T : Addr) (doc pm cv ctv : Value), ∃ k, bindArgs (PySem.W.kdv_fn "<lambda>" q params (.expr body) scope cl (.ref T) doc pm cv ctv) ⟨[], []⟩ = seqItems? (.ref T) >>= k ∧ ∀ v, k (some #[v]) = pure [(a, v)]
theorem fn_call {k : Nat} {Q : VK} (U : Susp base N cells sc σ) (L : LamN N sc c.scope) (hcl : c.cells = cloFrom cells c.scope.names []) (hb : LamBind c.params c.body c.scope c.dv.isSome) (e0 : Env0 P w K mg base A outer s1 H1) (hr : Room (k + 1) A)
    (hf : H1 f = some (FnO c f)) (hc : H1 c.code = some (LamX.CodeO c.code c.qual)) (hT : ∀ T, c.dv = some T → H1 T = some (.tup [.int 0]))
    (hbody : Room k (A.deeper (fnEnv c s1.heap.objs.size f)) → ∃ tb, PE (fnCx P w K mg base N c f A outer s1 H1 E) c.body tb ∧ tb σ H1 Q) :
    codeAny (model P w) A (.call (.ref f) ⟨[], []⟩) (CR (L2.CX P w) outer P w H1 s1 Q E) s1 := by
  obtain ⟨⟨doc, pm, ctv, of1⟩, _, _⟩ := e0.hok f _ hf
  obtain ⟨⟨oc, vs, t, hoc, hdc, hvc⟩, _, _⟩ := e0.hok c.code _ hc
  have lim : s1.heap.NoLimit := e0.mod.nolimit.keeps fun b o e => (e0.bs b o e).1
  refine PySem.W.kla_callFunE hr.depth of1 rfl L.co L.gen rfl ⟨c.code, oc, vs, t, rfl, hoc, hdc, hvc⟩ ?_
  have main : ∀ binds : List (Str × Value), (∀ y ∈ binds, c.scope.names.lookup y.1 = some .local) → wpAny (model P w) A.in1 (newFunctionEnv c.scope mainGlobals c.cells binds (c.qual ++ ".<locals>.") (some f) (.ref c.code) none builtinsNs)
        (fun env s₂ => s₂.heap.NoLimit ∧ codeAny (model P w) A (.expr c.body env) (CR (L2.CX P w) outer P w H1 s1 Q E) s₂) (fun e s' => CR (L2.CX P w) outer P w H1 s1 Q E (.error e) s') s1 := fun binds hl => by
    refine wpAny_newFunctionEnv (fun y hy => (L.own y hy).1) hl (fun h₁ hns hsb => ⟨lim.fresh _ hsb, ?_⟩) L.kind
    show codeAny _ _ (.expr c.body (fnEnv c s1.heap.objs.size f)) _ _
    have kp : ∀ b o, s1.heap.get? b = some o → h₁.get? b = some o := fun b o e => hsb.extBut b o (Nat.ne_of_lt (Heap.lt_size e)) (Heap.get?_push_of_some _ e)
    have J := fn_start (E := E) (f := f) (tk := s1.toks + binds.length) U L hcl e0 hr.hd hns kp
    obtain ⟨tb, hp, ht⟩ := hbody (hr.deeper _)
    refine PySem.W.kla_codeExpr (wpAny_mono (hp.run [] _ _ H1 Q J ht) (fun v s' hq => ?_) fun e s' hq => hq)
    obtain ⟨w', H', J', rv, q⟩ := hq
    exact ⟨w', H', J'.os, J'.bare, J'.base, J'.hok, rv, q⟩
  cases hdv : c.dv with
  | none =>
    rw [hdv] at hb
    have e := hb c.qual c.cells doc pm (.ref c.code) ctv
    show wpAny _ _ (bindArgs (PySem.W.kdv_fn "<lambda>" c.qual c.params (.expr c.body) c.scope c.cells .none doc pm (.ref c.code) ctv) ⟨[], []⟩) _ _ _
    rw [e]
    exact wpAny_pure (main [] fun y hy => absurd hy (by simp))
  | some T =>
    rw [hdv] at hb
    obtain ⟨a, ha, hk⟩ := hb
    obtain ⟨k', h1, h2⟩ := hk c.qual c.cells T doc pm (.ref c.code) ctv
    obtain ⟨_, its, r, ob, ho, _, n, hd⟩ := e0.hok T _ (hT T hdv)
    cases r with
    | @cons _ u0 _ ur ra rw' =>
      cases rw'
      have bt : BindsTo s1 (PySem.W.kdv_fn "<lambda>" c.qual c.params (.expr c.body) c.scope c.cells (.ref T) doc pm (.ref c.code) ctv) ⟨[], []⟩ [(a, u0)] := BindsTo.of_defaults (T := T) rfl ho hd h1 (h2 u0)
      exact bt _ _ _ _ (main _ fun y hy => by
        have : y = (a, u0) := by simpa using hy
        rw [this]
        exact ha)
end
end DL
set_option Elab.async false
set_option linter.all false
set_option maxRecDepth 100000
set_option maxHeartbeats 4000000
namespace DL
open PySem PySem.Spec L2 PyProof.Rows
/-! ### told(w), w a lambda of a frame that waits -/
abbrev Act := DXK → Gp → DQ → Prop
/-- what is known of a lambda that waits with its frame -/
structure FnIn (P : Program) (w : World) (K : PySem.W.Frag) (mg : Str → Option Value) (base : Heap) (N : List Str) (cells : List (Str × Addr)) (sc : Scope) (σ : L2.St) (Hs : Hp) (k : Nat) (c : Clo) (act : Act) : Prop where
  L : LamN N sc c.scope
  cl : c.cells = cloFrom cells c.scope.names []
  b : LamBind c.params c.body c.scope c.dv.isSome
  run : ∀ (f : Addr) (A : Around) (outer : List Env) (s0 : Shared) (H0 : Hp) (E : XK) (ED : DXK) (H : Hp) (G : Gp) (Q : DQ) (Qv : VK), Room k (A.deeper (fnEnv c s0.heap.objs.size f)) → Kp Hs H → Rep K ⟨H⟩ H G →
    Wish (fnCx P w K mg base N c f A outer s0 H0 E) ⟨H⟩ (fun C x _ G => ED C x G) → act ED G Q → PostE K ⟨H⟩ H Q Qv → ∃ te, PE (fnCx P w K mg base N c f A outer s0 H0 E) c.body te ∧ te σ H Qv
section
variable {N : List Str} {cells : List (Str × Addr)} {sc : Scope} {σ : L2.St} {Hs : Hp} {k : Nat} {c : Clo} {act : Act}
theorem fnIn_of {P : Program} {w : World} {K : PySem.W.Frag} {mg : Str → Option Value} {base : Heap} {sd : SD} {t : DXK → DTE} (hS : RelS Hs σ sd) (L : LamN N sc c.scope) (cl : c.cells = cloFrom cells c.scope.names []) (b : LamBind c.params c.body c.scope c.dv.isSome)
    (h : ∀ (f : Addr) (A : Around) (outer : List Env) (s0 : Shared) (H0 : Hp) (E : XK) (B' : Bx) (ED : DXK), Room k (A.deeper (fnEnv c s0.heap.objs.size f)) → Wish (fnCx P w K mg base N c f A outer s0 H0 E) B' (fun C x _ G => ED C x G) → DE (fnCx P w K mg base N c f A outer s0 H0 E) B' c.body (t ED)) :
    FnIn P w K mg base N cells sc σ Hs k c (fun ED G Q => t ED sd G Q) := ⟨L, cl, b, fun f A outer s0 H0 E ED H G Q Qv hr kp R wi ha hp => by
  obtain ⟨te, p, w'⟩ := (h f A outer s0 H0 E ⟨H⟩ ED hr wi).ex
  exact ⟨te, p, w' σ H sd G Q Qv (hS.mono kp) R ha hp⟩⟩
/-- a() where a's value is such a lambda -/
theorem pe_fcall {Z : Cx} {E : XK} {f : Addr} {i : Nat} {a : Str} {p1 p2 : Pos} (U : Susp Z.base N cells sc σ) (L : LamN N sc c.scope) (hcl : c.cells = cloFrom cells c.scope.names []) (hb : LamBind c.params c.body c.scope c.dv.isSome)
    (hx : Passes (L2.CX Z.prog Z.w) Z E) (hr : Room (k + 1) Z.A) (hN : Z.N[i]? = some a) (hv : Vis Z.env.scope a) (hd : (a == ("__debug__" : Str)) = false) (hcd : (a == ("__classdict__" : Str)) = false) :
    PE Z (.Call (.Name a p1) [] [] p2) (fun σZ HZ Q => σZ[i]? = some (some (.ref f)) ∧ HZ f = some (FnO c f) ∧ HZ c.code = some (LamX.CodeO c.code c.qual) ∧ (∀ T, c.dv = some T → HZ T = some (.tup [.int 0])) ∧
      ∀ s1 : Shared, Room k (Z.A.deeper (fnEnv c s1.heap.objs.size f)) → ∃ tb, PE (fnCx Z.prog Z.w Z.K Z.mg Z.base N c f Z.A Z.stack s1 HZ E) c.body tb ∧ tb σ HZ Q) := by
  refine ⟨fun pinsZ sZ σZ HZ Q IZ ⟨hs, hf, hc, hT, ht⟩ => ?_⟩
  refine wpAny_Call_Name_kw (thn ((pe_var (pos := p1) (i := i) hN hv hd hcd).run pinsZ sZ σZ HZ (fun v H1 => v = .ref f ∧ H1 = HZ) IZ ⟨.ref f, hs, rfl, rfl⟩) fun u s1 ⟨v, H1, I1, r1, q1⟩ => ?_)
  obtain ⟨ev, eH⟩ := q1
  subst ev
  rw [eH] at I1
  obtain rfl : u = Value.ref f := r1
  obtain ⟨⟨doc, pm, ctv, of1⟩, _, _⟩ := I1.hok f _ hf
  refine PySem.W.callWith_F0 ⟨_, _, _, _, of1⟩ ?_
  have rc := fn_call (E := E) (Q := Q) U L hcl hb I1.env0 hr hf hc hT (ht s1)
  refine wpAny_call (codeAny_mono rc fun r s' hq => ?_)
  cases r with
  | error e => exact hx pinsZ σZ HZ s1 e s' I1 hq
  | ok fl =>
    cases fl with
    | ret u => exact I1.after hq
    | next => exact False.elim hq
    | brk => exact False.elim hq
    | cont => exact False.elim hq
def toldV (LM : Nat → Clo → Prop) (L : List (Addr × Str)) (acts : Nat → Act) (d : D) (G : Gp) (Q : DQ) : Prop := match d with
  | .ref f => ∃ i c, G f = some (.fn c) ∧ LM i c ∧ acts i (toldE L Q) G Q
  | _ => False
def dToldV (LM : Nat → Clo → Prop) (L : List (Addr × Str)) (acts : Nat → Act) (te : DTE) : DTE := fun sd G Q => te sd G fun d G1 => toldV LM L acts d G1 Q
@[simp ↓] theorem dToldV_app {LM L acts te sd G Q} : dToldV LM L acts te sd G Q = te sd G fun d G1 => toldV LM L acts d G1 Q := (rfl)
def toldV1 (LM : Nat → Clo → Prop) (L : List (Addr × Str)) (acts : Nat → Act) (Q : DQ) : List D → Gp → Prop
  | [d], G => toldV LM L acts d G Q
  | _, _ => False
theorem de_toldV {X : Cx} {B : Bx} {L : List (Addr × Str)} {LM : Nat → Clo → Prop} {acts : Nat → Act} {x : Str} {e : Expr} {te : DTE} {p pos : Pos} (T : ToldIn X x L) (hg : Gl X x) (hr : Room (k + 2) X.A) (U : Susp X.base N cells sc σ)
    (Fs : ∀ i c, LM i c → FnIn X.prog X.w X.K X.mg X.base N cells sc σ Hs k c (acts i)) (hkp : Kp Hs B.H0) (he : DE X B e te) (hdb : (x == ("__debug__" : Str)) = false := by decide)
    (hse : starEach [e] X.env = (false, eval e X.env) :: starEach [] X.env := by rfl) (hpl : (backTo pos (starEach [] X.env)).any (·.1) = false := by rfl) : DE X B (.Call (.Name x p) [e] [] pos) (dToldV LM L acts te) := by
  obtain ⟨g, pa, pg, bg, sg, Ng, dV, kV, doc, pm, cdv, ct, oc, an, od, osl, hm, hk, lk, hcg, hb, Sg, hN0, hva, hd, hcd, hG⟩ := T.ex
  obtain ⟨t', pa', hE⟩ := (da_cons he da_nil hse).ex
  refine ⟨fun σX H Q => t' σX H fun vs H1 => ∃ (f : Addr) (c : Clo) (act : Act) (G : Gp) (Q0 : DQ), vs = [.ref f] ∧ H1 f = some (FnO c f) ∧ H1 c.code = some (LamX.CodeO c.code c.qual) ∧ (∀ T, c.dv = some T → H1 T = some (.tup [.int 0])) ∧
    FnIn X.prog X.w X.K X.mg X.base N cells sc σ Hs k c act ∧ Kp Hs H1 ∧ Rep X.K ⟨H1⟩ H1 G ∧ act (toldE L Q0) G Q0 ∧ PostE X.K ⟨H1⟩ H1 Q0 Q, ⟨fun pins s σX H Q I h => ?_⟩, fun σX H sd G Q P hS R t hp => ?_⟩
  · refine wpAny_Call_Name_kw (ld_glob I hg hm ?_ hdb)
    refine PySem.W.callWith_K (h₀ := X.base) I.ok.mod.kin hk (thn (pa'.run pos pins s σX H _ I h) fun us s1 ⟨vs, H1, I1, r, q⟩ => ⟨I1.kIn, ?_⟩) hse hpl
    obtain ⟨f, c, act, G, Q0, rfl, hf, hc, hT, F, kp, R1, ha, hp⟩ := q
    obtain rfl : us = [Value.ref f] := by
      cases r with
      | @cons _ u0 _ ur ra rw' =>
        cases rw'
        obtain rfl : u0 = Value.ref f := ra
        rfl
    have rc : codeAny (model X.prog X.w) X.A (.call (.ref g) ⟨[.ref f], []⟩) (CR C8.CX0 X.stack X.prog X.w H1 s1 Q C8.E0) s1 := by
      refine LamX.run_ofS (N := Ng) (ps := [pa]) (us := [.ref f]) (vs := [.ref f]) lk hcg Sg hr I1.env0 (hb s1 [.ref f] I1.kIn rfl) (.cons rfl .nil) rfl fun hr' => ?_
      obtain ⟨t', ht', hq'⟩ := hG c.qual f c.code s1 H1 Q (fun E HZ QZ => HZ f = some (FnO c f) ∧ (∀ T, c.dv = some T → HZ T = some (.tup [.int 0])) ∧ ∀ (A : Around) (outer : List Env) (s0 : Shared), Room k (A.deeper (fnEnv c s0.heap.objs.size f)) → ∃ tb, PE (fnCx X.prog X.w X.K X.mg X.base N c f A outer s0 HZ E) c.body tb ∧ tb σ HZ QZ)
        (fun W pn xe E p1 p2 tk hW => ⟨fun pinsZ sZ σZ HZ QZ IZ ⟨z1, z2, z3, z4, z5⟩ =>
          (pe_fcall (Z := (cxOf C8.CX0 X.prog X.w X.K X.mg X.base Ng x sg g cdv X.A X.stack s1 H1 C8.E0).tr pn xe) (i := 0) (a := pa) (f := f) (E := E) (p1 := p1) (p2 := p2) U F.L F.cl F.b (passes_call tk hW) hr' hN0 hva hd hcd).run pinsZ sZ σZ HZ QZ IZ ⟨z1, z3, z2, z4, fun s1 hr => z5 _ _ s1 hr⟩⟩) hc
        ⟨Q0, hp, fun E Qv hE hq => ⟨hf, hT, fun A outer s0 hr2 => by
          have wi : Wish (fnCx X.prog X.w X.K X.mg X.base N c f A outer s0 H1 E) ⟨H1⟩ (fun C x _ G => toldE L Q0 C x G) := ⟨_, takes_of rfl rfl rfl rfl, fun C x d σ' H' sd' G' _ R' rx w => hE C x d H' G' R'.k0 R' rx w⟩
          exact F.run f A outer s0 H1 E (toldE L Q0) H1 G Q0 Qv hr2 kp R1 wi ha hq⟩⟩
      exact ⟨t', ht'.nox, hq'⟩
    refine wpAny_call (codeAny_mono rc fun r s2 hq => ?_)
    cases r with
    | error e => exact (show False from hq).elim
    | ok fl =>
      cases fl with
      | ret u => exact I1.after hq
      | next => exact False.elim hq
      | brk => exact False.elim hq
      | cont => exact False.elim hq
  · have t : te sd G fun d G1 => toldV LM L acts d G1 Q := t
    refine hE σX H sd G (toldV1 LM L acts Q) _ hS R t fun vs ds H1 G1 hn k1 r1 R1 q1 => ?_
    obtain ⟨d, rfl⟩ : ∃ d, ds = [d] := List.length_eq_one_iff.mp hn
    obtain ⟨v, rfl, r2⟩ := rel1 r1
    have q1 : toldV LM L acts d G1 Q := q1
    cases d with
    | ref f =>
      obtain rfl : v = V.ref f := r2
      obtain ⟨i, c, hg, hlm, ha⟩ := q1
      obtain ⟨h1, h2, h3⟩ := R1.at_ f _ hg
      exact ⟨f, c, acts i, G1, Q, rfl, h1, h2, h3, Fs i c hlm, hkp.trans R1.k0, R1.rebase (.refl _), ha, fun v d H' G' k r R' q => hp v d H' G' (k1.trans k) r (R1.back R') q⟩
    | _ => exact q1.elim
end
/-! ### a def called while this frame waits -/
def dCallS (sp : SD → DSp) (W : DWX) (t : DTA) : DTE := fun sd G Q => t sd G fun ds G1 => sp sd ds G1 Q fun C x G2 => W C x sd G2
section
variable {X : Cx} {B : Bx} {k : Nat} {f : Addr} {fd : FuncData} {ps : List Str} {x : Str} {p pos : Pos} {e : Expr} {es : List Expr} {W : DWX} {tD : DTA}
theorem de_callS {sp : SD → DSp} (hfn : ∀ x, X.fn x = true) (hr : Room k X.A) (hg : Gl X x) (hm : X.mg x = some (.ref f)) (hk : PySem.W.keepIn X.K (.ref f) = true) (hb : Binds X.K fd ps [])
    (hF : ∀ (base' : Heap) (σ : L2.St) (sd : SD) (Hs : Hp), (∀ b o, X.base.get? b = some o → base'.get? b = some o) → Susp base' X.N X.env.cells X.env.scope σ → RelS Hs σ sd → FnOk X.prog X.w X.K X.mg base' (L2.CX X.prog X.w) k f fd ps (fun vs H Q E => Kp Hs H ∧ liftSp X.K (sp sd) vs H Q E))
    (tk : Wish X B W) (ha : DA X B (e :: es) tD) (hdb : (x == ("__debug__" : Str)) = false := by decide) (he : starEach (e :: es) X.env = (false, eval e X.env) :: starEach es X.env := by rfl) (hpl : (backTo pos (starEach es X.env)).any (·.1) = false := by rfl) :
    DE X B (.Call (.Name x p) (e :: es) [] pos) (dCallS sp W tD) := by
  obtain ⟨Wv, tk, hW⟩ := tk.ex
  obtain ⟨t', pa, ha⟩ := ha.ex
  refine ⟨fun σ H Q => t' σ H fun vs H1 => ∃ sd, RelS H1 σ sd ∧ liftSp X.K (sp sd) vs H1 Q (WE Wv σ), ⟨fun pins s σ H Q I h => ?_⟩, fun σ H sd G Q P hS R t hp => ?_⟩
  · refine wpAny_Call_Name_kw (ld_glob I hg hm ?_ hdb)
    refine PySem.W.callWith_K (h₀ := X.base) I.ok.mod.kin hk (thn (pa.run pos pins s σ H _ I h) fun us s1 ⟨vs, H1, I1, r, sd, hS, q⟩ => ⟨I1.kIn, ?_⟩) he hpl
    obtain ⟨base', sub, U, e0⟩ := susp I1 hfn
    have F := hF base' σ sd H1 sub U hS
    have hl : us.length = ps.length := by rw [← r.length]; exact F.len vs H1 Q (WE Wv σ) ⟨.refl _, q⟩
    have hbd := hb s1 us I1.kIn (by rw [List.append_nil]; exact hl)
    rw [List.append_nil] at hbd
    refine wpAny_call (codeAny_mono (F.run X.A X.stack s1 H1 ⟨us, []⟩ us vs Q (WE Wv σ) hr e0 hbd r ⟨.refl _, q⟩) fun r s' hq => ?_)
    cases r with
    | error e => exact passAt tk σ pins H1 s1 e s' I1 hq
    | ok fl =>
      cases fl with
      | ret u => exact I1.after hq
      | next => exact False.elim hq
      | brk => exact False.elim hq
      | cont => exact False.elim hq
  · exact ha σ H sd G _ _ hS R t fun vs ds H1 G1 _ k1 r1 R1 q1 => ⟨sd, hS.mono k1, lift_at (X := X) (H := H) (G := G) (hS.mono k1) hW r1 R1 q1 (hp.mono k1)⟩
/-- the promise of a def whose body's reading is t -/
def spT (N ps : List Str) (t : DXK → DTS) : DSp := fun ds G Q E => ds.length = ps.length ∧ t E { nx := fun _ G => Q .non G, rt := Q } (dstart N ds) G
end
section
variable {P : Program} {w : World} {K : PySem.W.Frag} {mg : Str → Option Value} {base : Heap} {x qual : Str} {params : Arguments} {body : List Stmt} {scope : Scope} {f : Addr} {fd : FuncData}
theorem dfn_okS {N ps : List Str} {k : Nat} {t : DXK → DTS} {Hs : Hp} (F : FunD K x qual params body scope [] [] f fd) (S : FnScope N ps scope)
    (hbody : ∀ (cdv : Value) (A : Around) (outer : List Env) (s : Shared) (H : Hp) (E : XK) (ED : DXK), Kp Hs H → Room k (A.deeper (PyProof.Rows.envOfC qual scope s.heap.objs.size f cdv)) → PassesOwn (model P w) (Bd P w K mg base N qual scope f cdv A outer s H E).A (Bd P w K mg base N qual scope f cdv A outer s H E).env (Bd P w K mg base N qual scope f cdv A outer s H E).xe →
      Wish (Bd P w K mg base N qual scope f cdv A outer s H E) ⟨H⟩ (fun C x _ G => ED C x G) → CdOk K f cdv → DSs (Bd P w K mg base N qual scope f cdv A outer s H E) ⟨H⟩ body (t ED)) :
    FnOk P w K mg base (L2.CX P w) (k + 1) f fd ps (fun vs H Q E => Kp Hs H ∧ liftSp K (spT N ps t) vs H Q E) := by
  refine FunD.okC F S (fun vs H Q E h => ?_) (fun cdv A outer s H vs Q E cd hr h => ?_)
  · obtain ⟨_, ds, G, QD, ED, r, R, q, _⟩ := h
    rw [← r.length]
    exact q.1
  · obtain ⟨kp, ds, G, QD, ED, r, R, q, hq, hx⟩ := h
    have tk : Takes (Bd P w K mg base N qual scope f cdv A outer s H E) (fun cls d _ H => E cls d H) := takes_of rfl rfl rfl rfl
    have wi : Wish (Bd P w K mg base N qual scope f cdv A outer s H E) ⟨H⟩ (fun C x _ G => ED C x G) := ⟨_, tk, fun C x d σ H' sd G' _ R' rx w => hx C x d H' G' R'.k0 R' rx w⟩
    obtain ⟨ts, p, w'⟩ := (hbody cdv A outer s H E ED kp hr (passes_of (X := Bd P w K mg base N qual scope f cdv A outer s H E) rfl) wi cd).ex
    refine ⟨ts, p, w' _ H _ G _ _ (relS_start r) R q.2 ⟨fun σ' sd' H' G' k _ R' q' => hq .non .non H' G' k rfl R' q', hq, ?_, ?_⟩⟩
    · intro σ' sd' H' G' _ _ _ z
      exact z.elim
    · intro σ' sd' H' G' _ _ _ z
      exact z.elim
end
end DL
set_option Elab.async false
set_option linter.all false
set_option maxRecDepth 100000
set_option maxHeartbeats 4000000
namespace DL
open PySem PySem.Spec L2 PyProof.Rows
/-! ### a power of written numbers -/
theorem de_powC {X : Cx} {B : Bx} {i j n : Int} {k1 k2 : Nat} {p1 p2 p3 : Pos} (h : CPow i j) (e : i ^ j.toNat = n) : DE X B (.BinOp (.Constant (.int i) k1 p1) .Pow (.Constant (.int j) k2 p2) p3) (dC (.int n)) := by
  obtain ⟨te, p, w⟩ := (de_op (B := B) op_pow (de_int (X := X) (B := B) (i := i) (j := k1) (pos := p1)) (de_int (i := j) (j := k2) (pos := p2)) (pos := p3)).ex
  refine ⟨te, p, fun σ H sd G Q P hS R t hp => w σ H sd G Q P hS R ?_ hp⟩
  show CPow i j ∧ Q (.int (i ^ j.toNat)) G
  rw [e]
  exact ⟨h, t⟩
/-! ### the lambdas of a frame, in the order of their writing -/
structure LamQ where
  params : Arguments
  body : Expr
  scope : Scope
  one : Bool
def lamsE : Nat → Expr → List LamQ
  | 0, _ => []
  | _ + 1, .Lambda params body scope _ => [⟨params, body, scope, !params.defaults.isEmpty⟩]
  | n + 1, .List es _ => es.flatMap (lamsE n)
  | n + 1, .Tuple es _ _ => es.flatMap (lamsE n)
  | n + 1, .BinOp a _ b _ => lamsE n a ++ lamsE n b
  | n + 1, .BoolOp _ vs _ => vs.flatMap (lamsE n)
  | n + 1, .UnaryOp _ a _ => lamsE n a
  | n + 1, .Compare a _ bs _ => lamsE n a ++ bs.flatMap (lamsE n)
  | n + 1, .Call _ args _ _ => args.flatMap (lamsE n)
  | _, _ => []
def lamsS : Nat → Stmt → List LamQ
  | 0, _ => []
  | _ + 1, .Assign _ v _ => lamsE 30 v
  | n + 1, .If t b o _ => lamsE 30 t ++ (b.flatMap (lamsS n) ++ o.flatMap (lamsS n))
  | n + 1, .For _ i b o _ => lamsE 30 i ++ (b.flatMap (lamsS n) ++ o.flatMap (lamsS n))
  | _ + 1, .Expr v _ => lamsE 30 v
  | _ + 1, .Return (some v) _ => lamsE 30 v
  | _, _ => []
def lamNth (b : List Stmt) (d : LamQ) (i : Nat) : LamQ := (b.flatMap (lamsS 10)).getD i d
def IsLam (X : Cx) (q : LamQ) (c : Clo) : Prop := ∃ c' dv, c = cloOf X q.params q.body q.scope c' dv ∧ dv.isSome = q.one
def LMs (X : Cx) (qs : List LamQ) : Nat → Clo → Prop := fun i c => ∃ q, qs[i]? = some q ∧ IsLam X q c
def actsOf (ts : List (DXK → DTE)) (sd : SD) : Nat → Act := fun i ED G Q => match ts[i]? with
  | some t => t ED sd G Q
  | none => False
structure LamOk (X : Cx) (base' : Heap) (k : Nat) (q : LamQ) (t : DXK → DTE) : Prop where
  L : LamN X.N X.env.scope q.scope
  b : LamBind q.params q.body q.scope q.one
  run : ∀ (c' : Addr) (dv : Option Addr) (f : Addr) (A : Around) (outer : List Env) (s0 : Shared) (H0 : Hp) (E : XK) (B' : Bx) (ED : DXK), Room k (A.deeper (fnEnv (cloOf X q.params q.body q.scope c' dv) s0.heap.objs.size f)) →
    Wish (fnCx X.prog X.w X.K X.mg base' X.N (cloOf X q.params q.body q.scope c' dv) f A outer s0 H0 E) B' (fun C x _ G => ED C x G) → DE (fnCx X.prog X.w X.K X.mg base' X.N (cloOf X q.params q.body q.scope c' dv) f A outer s0 H0 E) B' q.body (t ED)
inductive LamsOk (X : Cx) (base' : Heap) (k : Nat) : List LamQ → List (DXK → DTE) → Prop
  | nil : LamsOk X base' k [] []
  | cons {q : LamQ} {t : DXK → DTE} {qs : List LamQ} {ts : List (DXK → DTE)} : LamOk X base' k q t → LamsOk X base' k qs ts → LamsOk X base' k (q :: qs) (t :: ts)
theorem lms_in {X : Cx} {base' : Heap} {k : Nat} {qs : List LamQ} {ts : List (DXK → DTE)} {σ : L2.St} {sd : SD} {Hs : Hp} (h : LamsOk X base' k qs ts) (hS : RelS Hs σ sd) : ∀ i c, LMs X qs i c → FnIn X.prog X.w X.K X.mg base' X.N X.env.cells X.env.scope σ Hs k c (actsOf ts sd i) := by
  induction h with
  | nil => rintro i c ⟨q, hq, _⟩; cases hq
  | @cons q0 t0 qs ts h1 _ ih =>
    rintro i c ⟨q, hq, hi⟩
    cases i with
    | zero =>
      cases hq
      obtain ⟨c', dv, rfl, hd⟩ := hi
      exact fnIn_of (c := cloOf X q0.params q0.body q0.scope c' dv) (t := t0) hS h1.L rfl (by show LamBind q0.params q0.body q0.scope dv.isSome; rw [hd]; exact h1.b) (fun f A outer s0 H0 E B' ED hr wi => h1.run c' dv f A outer s0 H0 E B' ED hr wi)
    | succ i => exact ih i c ⟨q, hq, hi⟩
@[simp] theorem actsOf_zero {t ts sd ED G Q} : actsOf (t :: ts) sd 0 ED G Q = t ED sd G Q := (rfl)
@[simp] theorem actsOf_succ {t ts sd i ED G Q} : actsOf (t :: ts) sd (i + 1) ED G Q = actsOf ts sd i ED G Q := (rfl)
theorem actsOf_at {ts : List (DXK → DTE)} {sd : SD} {i : Nat} {t : DXK → DTE} {ED : DXK} {G : Gp} {Q : DQ} (h : ts[i]? = some t) (q : t ED sd G Q) : actsOf ts sd i ED G Q := by
  unfold actsOf
  rw [h]
  exact q
/-- whatever the frame's lambdas are -/
def dAllLM (t : (Nat → Clo → Prop) → DTS) : DTS := fun DD sd G => ∀ LM, t LM DD sd G
theorem dss_lm {X : Cx} {B : Bx} {st : List Stmt} {t : (Nat → Clo → Prop) → DTS} (LM : Nat → Clo → Prop) (h : DSs X B st (t LM)) : DSs X B st (dAllLM t) := by
  obtain ⟨ts, p, w⟩ := h.ex
  exact ⟨ts, p, fun σ H sd G DD D hS R t hp => w σ H sd G DD D hS R (t LM) hp⟩
end DL
set_option Elab.async false
set_option linter.all false
set_option maxRecDepth 100000
set_option maxHeartbeats 4000000
namespace DL
open PySem PySem.Spec L2
/-! ### == of things with lists in them -/
/-- what d holds, all the way down -/
def Pd : Nat → Gp → D → PyData → Prop
  | 0, _, _, _ => False
  | n + 1, G, d, p => match d, p with
    | .non, .none => True
    | .bl b, .bool c => b = c
    | .int i, .int j => i = j
    | .str s, .str t => s = t
    | .tup ds, .tuple ps => ds.length = ps.length ∧ ∀ (i : Nat) (d : D) (p : PyData), ds[i]? = some d → ps[i]? = some p → Pd n G d p
    | .ref a, .list ps => ∃ ds, IsLst G a ds ∧ ds.length = ps.length ∧ ∀ (i : Nat) (d : D) (p : PyData), ds[i]? = some d → ps[i]? = some p → Pd n G d p
    | _, _ => False
theorem pd_all {K : PySem.W.Frag} {B : Bx} {H : Hp} {G : Gp} {n : Nat} (ih : ∀ (d : D) (p : PyData) (v : V), Pd n G d p → Rel H d v → Dp K H v p ∧ p.canLay0 = true ∧ p.depth ≤ n) :
    ∀ {ds : List D} {ps : List PyData} {xs : List V}, ds.length = ps.length → (∀ (i : Nat) (d : D) (p : PyData), ds[i]? = some d → ps[i]? = some p → Pd n G d p) → RelL H ds xs → DpAll K H xs ps ∧ (∀ p ∈ ps, p.canLay0 = true) ∧ ∀ p ∈ ps, p.depth ≤ n
  | [], [], xs, _, _, r => by cases (relL_nil.mp r); exact ⟨.nil, by simp, by simp⟩
  | d :: ds, p :: ps, xs, hl, h, r => by
    obtain ⟨x, r, rfl, r1, r2⟩ := r
    obtain ⟨a1, a2, a3⟩ := ih d p x (h 0 d p rfl rfl) r1
    obtain ⟨b1, b2, b3⟩ := pd_all (B := B) ih (ds := ds) (ps := ps) (by simpa using hl) (fun i d p e1 e2 => h (i + 1) d p e1 e2) r2
    exact ⟨.cons a1 b1, fun q hq => (List.mem_cons.mp hq).elim (fun e => e ▸ a2) (b2 q), fun q hq => (List.mem_cons.mp hq).elim (fun e => e ▸ a3) (b3 q)⟩
  | [], _ :: _, _, hl, _, _ => by cases hl
  | _ :: _, [], _, hl, _, _ => by cases hl
theorem pd_dp {K : PySem.W.Frag} {B : Bx} {H : Hp} {G : Gp} (R : Rep K B H G) : ∀ (n : Nat) (d : D) (p : PyData) (v : V), Pd n G d p → Rel H d v → Dp K H v p ∧ p.canLay0 = true ∧ p.depth ≤ n
  | 0, _, _, _, h, _ => h.elim
  | n + 1, d, p, v, h, r => by
    cases d with
    | non => cases p <;> first | exact (show False from h).elim | (cases r; exact ⟨.non, by simp [PyData.canLay0], by simp [PyData.depth]⟩)
    | bl b => cases p <;> first | exact (show False from h).elim | (cases r; obtain rfl := (show b = _ from h); exact ⟨.bl b, by simp [PyData.canLay0], by simp [PyData.depth]⟩)
    | int b => cases p <;> first | exact (show False from h).elim | (cases r; obtain rfl := (show b = _ from h); exact ⟨.int b, by simp [PyData.canLay0], by simp [PyData.depth]⟩)
    | str b => cases p <;> first | exact (show False from h).elim | (obtain ⟨rfl, o⟩ := r; obtain rfl := (show b = _ from h); exact ⟨.str b, by simpa [PyData.canLay0] using o, by simp [PyData.depth]⟩)
    | ty b => cases p <;> exact (show False from h).elim
    | tup ds =>
      cases p with
      | tuple ps =>
        obtain ⟨hl, h⟩ := h
        obtain ⟨a, xs, rfl, h1, h2, _⟩ := r
        obtain ⟨q1, q2, q3⟩ := pd_all (B := B) (pd_dp R n) hl h h2
        refine ⟨.tup h1.sq q1, ?_, ?_⟩
        · simp only [PyData.canLay0]
          exact (canLayAll0_iff _).mpr q2
        · have := depthAll_le _ n q3
          simp only [PyData.depth]
          omega
      | _ => exact (show False from h).elim
    | ref a =>
      cases p with
      | list ps =>
        obtain ⟨ds, il, hl, h⟩ := h
        cases r
        obtain ⟨xs, h1, h2, _⟩ := lstRd R il
        obtain ⟨q1, q2, q3⟩ := pd_all (B := B) (pd_dp R n) hl h h2
        refine ⟨.lst (.inl h1) q1, ?_, ?_⟩
        · simp only [PyData.canLay0]
          exact (canLayAll0_iff _).mpr q2
        · have := depthAll_le _ n q3
          simp only [PyData.depth]
          omega
      | _ => exact (show False from h).elim
def eqGV (neg : Bool) : DR2 := fun d e G Q => ∃ pd pe, Pd 20 G d pd ∧ Pd 20 G e pe ∧ Q (.bl (PyData.eqv pd pe != neg)) G
abbrev eqG : DR2 := eqGV false
abbrev neG : DR2 := eqGV true
section
variable {X : Cx} {B : Bx}
theorem eqG_data {K : PySem.W.Frag} {B : Bx} {H : Hp} {G : Gp} {d e : D} {x y : V} {neg : Bool} {Q : DQ} (r1 : Rel H d x) (r2 : Rel H e y) (R : Rep K B H G) (q : eqGV neg d e G Q) :
    ∃ pd pe, Dp K H x pd ∧ Dp K H y pe ∧ SeqAt.shaped pd = true ∧ SeqAt.shaped pe = true ∧ Q (.bl (PyData.eqv pd pe != neg)) G := by
  obtain ⟨pd, pe, h1, h2, q⟩ := q
  obtain ⟨a1, a2, a3⟩ := pd_dp R 20 d pd x h1 r1
  obtain ⟨b1, b2, b3⟩ := pd_dp R 20 e pe y h2 r2
  exact ⟨pd, pe, a1, b1, shaped_of a2 (by omega), shaped_of b2 (by omega), q⟩
theorem op_eqG (hu : X.A.units + 64 < cLine) : DOp X B (compareOp .Eq) eqG := by
  refine ⟨_, op_eqD hu, fun H G x y d e Q P r1 r2 R q hp => ?_⟩
  obtain ⟨pd, pe, a1, a2, a3, a4, q⟩ := eqG_data r1 r2 R q
  exact ⟨pd, pe, a1, a2, a3, a4, hp _ (.bl _) H G (.refl H) rfl R (by simpa using q)⟩
theorem op_neG (hu : X.A.units + 64 < cLine) : DOp X B (compareOp .NotEq) neG := by
  refine ⟨_, op_neD hu, fun H G x y d e Q P r1 r2 R q hp => ?_⟩
  obtain ⟨pd, pe, a1, a2, a3, a4, q⟩ := eqG_data r1 r2 R q
  exact ⟨pd, pe, a1, a2, a3, a4, hp _ (.bl _) H G (.refl H) rfl R (by simpa using q)⟩
end
end DL
set_option Elab.async false
set_option linter.all false
set_option maxRecDepth 100000
set_option maxHeartbeats 4000000
namespace DL
open PySem PySem.Spec L2
/-! ### the engine over lambdas -/
@[simp ↓] theorem dLam_app {LM : Nat → Clo → Prop} {i : Nat} {sd G Q} : dLam LM i sd G Q = ∀ (f : Addr) (c : Clo), LM i c → Nw G f → Q (.ref f) (put G f (.fn c)) := (rfl)
/-- a call while this frame waits -/
def callS (sp : DSp) (ds : List D) (G : Gp) (Q : DQ) (E : DXK) (ts : Tg sp) (tq : Tg Q) (te : Tg E) : Prop := sp ds G Q E
@[simp ↓] theorem dCallS_app {sp : SD → DSp} {W : DWX} {t : DTA} {sd G Q} : dCallS sp W t sd G Q = t sd G fun ds G1 => callS (sp sd) ds G1 Q (fun C x G2 => W C x sd G2) ⟨⟩ ⟨⟩ ⟨⟩ := (rfl)
/-- a refusal told -/
theorem toldE_no {Γ : Cs} {Q : DQ} {C : Addr} {w : Str} {x : Option (Str × D)} {G : Gp} (h : (C, w) ∈ Ls Γ) (h1 : w ≠ "BadLog") (h2 : w ≠ "BadText") (q : ∀ G', Ext G G' → Q (.tup [.str w, .int 0]) G') : toldE (Ls Γ) Q C x G :=
  ⟨_, ⟨w, h, .inl ⟨h1, h2, rfl⟩⟩, q⟩
theorem toldE_log {Γ : Cs} {Q : DQ} {n : Int} {G : Gp} (q : ∀ G', Ext G G' → Q (.tup [.str "BadLog", .int n]) G') : toldE (Ls Γ) Q Γ.cBadLog (some ("number", .int n)) G :=
  ⟨_, ⟨"BadLog", by simp [Ls], .inr ⟨"number", n, rfl, .inl ⟨rfl, rfl⟩, rfl⟩⟩, q⟩
end DL
set_option Elab.async false
set_option linter.all false
set_option maxRecDepth 100000
set_option maxHeartbeats 0
namespace DL
open PySem PySem.Spec L2
def top (i : Nat) : Stmt := PySem.Challenge.pw_carrydrop_k12_logs_refused.main.body.getD i (.Pass ⟨0, 0, 0, 0⟩)
abbrev W0x : DXK := fun _ _ _ => False
def d_law_begun : He.DefD := ⟨("_law_begun", none), "_law_begun", "_law_begun", defArgs (top 29), defBody (top 29), defScope (top 29), [], []⟩
def d_law_told : He.DefD := ⟨("_law_told", none), "_law_told", "_law_told", defArgs (top 32), defBody (top 32), defScope (top 32), [], []⟩
def d_BadLog_xinit : He.DefD := ⟨("BadLog", some "__init__"), "__init__", "BadLog.__init__", defArgs (inClass (top 12) 0), defBody (inClass (top 12) 0), defScope (inClass (top 12) 0), [], []⟩
def d_Record_init__ : He.DefD := ⟨("Record", some "__init__"), "__init__", "Record.__init__", defArgs (inClass (top 25) 0), defBody (inClass (top 25) 0), defScope (inClass (top 25) 0), [], []⟩
def d_Record_is_here : He.DefD := ⟨("Record", some "is_here"), "is_here", "Record.is_here", defArgs (inClass (top 25) 1), defBody (inClass (top 25) 1), defScope (inClass (top 25) 1), [], []⟩
def d_Record_new : He.DefD := ⟨("Record", some "new"), "new", "Record.new", defArgs (inClass (top 25) 2), defBody (inClass (top 25) 2), defScope (inClass (top 25) 2), [], []⟩
def d_Record_go : He.DefD := ⟨("Record", some "go"), "go", "Record.go", defArgs (inClass (top 25) 3), defBody (inClass (top 25) 3), defScope (inClass (top 25) 3), [], []⟩
def d_is_number : He.DefD := ⟨("is_number", none), "is_number", "is_number", defArgs (top 18), defBody (top 18), defScope (top 18), [], []⟩
def d_is_id : He.DefD := ⟨("is_id", none), "is_id", "is_id", defArgs (top 19), defBody (top 19), defScope (top 19), [], []⟩
def d_is_part : He.DefD := ⟨("is_part", none), "is_part", "is_part", defArgs (top 23), defBody (top 23), defScope (top 23), [], []⟩
def d_need_log : He.DefD := ⟨("need_log", none), "need_log", "need_log", defArgs (top 24), defBody (top 24), defScope (top 24), [], []⟩
def d_judged : He.DefD := ⟨("judged", none), "judged", "judged", defArgs (top 26), defBody (top 26), defScope (top 26), [], []⟩
def d_standing : He.DefD := ⟨("standing", none), "standing", "standing", defArgs (top 27), defBody (top 27), defScope (top 27), [], []⟩
def d_law_alike : He.DefD := ⟨("_law_alike", none), "_law_alike", "_law_alike", defArgs (top 31), defBody (top 31), defScope (top 31), [], []⟩
def d_law_all : He.DefD := ⟨("_law_all", none), "_law_all", "_law_all", defArgs (top 33), defBody (top 33), defScope (top 33), [], []⟩
def d_law_take : He.DefD := ⟨("_law_take", none), "_law_take", "_law_take", defArgs (top 30), defBody (top 30), defScope (top 30), [], []⟩
def d_law_log : He.DefD := ⟨("_law_log", none), "_law_log", "_law_log", defArgs (top 34), defBody (top 34), defScope (top 34), [], []⟩
def d_law_odd : He.DefD := ⟨("_law_odd", none), "_law_odd", "_law_odd", defArgs (top 35), defBody (top 35), defScope (top 35), [], []⟩
def d_law : He.DefD := ⟨("law", none), "law", "law", defArgs (top 36), defBody (top 36), defScope (top 36), [], []⟩
def fn : List He.DefD := [d_law_begun, d_law_told, d_BadLog_xinit, d_Record_init__, d_Record_is_here, d_Record_new, d_Record_go, d_is_number, d_is_id, d_is_part, d_need_log, d_judged, d_standing, d_law_alike, d_law_all, d_law_take, d_law_log, d_law_odd, d_law]
def fa : List He.Fa := [.free "range", .free "len", .free "enumerate", .cls "Record", .noat "Record" "where", .noat "Record" "was", .int "MOST_ROWS" 200, .free "tuple", .free "isinstance", .free "str", .glo "BadLog", .glo "SHAPES", .int "MOST_ENDS" 6, .int "MOST_NUMBER" 9999, .int "MOST_COUNT" 1000000, .free "int", .free "bool", .free "sorted", .free "list", .glo "_law_begun", .glo "BadEnds", .glo "BadOffers", .glo "BadText", .glo "BadWish", .glo "Busy", .glo "Fallen", .glo "Held", .glo "NoEnd", .glo "NoHand", .glo "NoRoom", .glo "NoThing", .free "ValueError", .glo "CarryError", .glo "_law_told", .mkr "Record", .glo "Record", .meth "Record" "is_here", .meth "Record" "new", .meth "Record" "go", .glo "is_number", .glo "is_id", .glo "is_part", .glo "need_log", .glo "judged", .glo "standing", .glo "_law_alike", .glo "_law_all", .glo "_law_take", .glo "_law_log", .glo "_law_odd", .glo "law"]
def tb : List He.Tab := [(fun K => He.ga K "SHAPES", ["made", "changed", "thrown", "moved", "copied"])]
def xb (K : PySem.W.Frag) : Bool := [tblB K (He.ga K "SHAPES") [("made", some "etn"), ("changed", some "etn"), ("thrown", some "et"), ("moved", some "etet"), ("copied", some "etetn"), ("Made", none)], xfB K (He.ga K "BadLog"), decide (PySem.W.findIn K (.ref (He.ga K "BadLog")) "number" = some none), xfB K (He.ga K "BadText"), decide (PySem.W.findIn K (.ref (He.ga K "BadText")) "line" = some none), toldB K (He.ga K "CarryError") (Ls (cs K)), oexB K (He.ga K "BadLog") (He.ga K "CarryError") (He.fAd K d_BadLog_xinit.at_) "number", lamB K (He.fAd K d_law.at_) d_law.qual].all id
theorem xp0 {K : PySem.W.Frag} (h : xb K = true) : (tblB K (He.ga K "SHAPES") [("made", some "etn"), ("changed", some "etn"), ("thrown", some "et"), ("moved", some "etet"), ("copied", some "etetn"), ("Made", none)]) = true := List.all_eq_true.mp h _ (List.mem_of_getElem? (i := 0) rfl)
theorem xp1 {K : PySem.W.Frag} (h : xb K = true) : (xfB K (He.ga K "BadLog")) = true := List.all_eq_true.mp h _ (List.mem_of_getElem? (i := 1) rfl)
theorem xp2 {K : PySem.W.Frag} (h : xb K = true) : (decide (PySem.W.findIn K (.ref (He.ga K "BadLog")) "number" = some none)) = true := List.all_eq_true.mp h _ (List.mem_of_getElem? (i := 2) rfl)
theorem xp3 {K : PySem.W.Frag} (h : xb K = true) : (xfB K (He.ga K "BadText")) = true := List.all_eq_true.mp h _ (List.mem_of_getElem? (i := 3) rfl)
theorem xp4 {K : PySem.W.Frag} (h : xb K = true) : (decide (PySem.W.findIn K (.ref (He.ga K "BadText")) "line" = some none)) = true := List.all_eq_true.mp h _ (List.mem_of_getElem? (i := 4) rfl)
theorem xp5 {K : PySem.W.Frag} (h : xb K = true) : (toldB K (He.ga K "CarryError") (Ls (cs K))) = true := List.all_eq_true.mp h _ (List.mem_of_getElem? (i := 5) rfl)
theorem xp6 {K : PySem.W.Frag} (h : xb K = true) : (oexB K (He.ga K "BadLog") (He.ga K "CarryError") (He.fAd K d_BadLog_xinit.at_) "number") = true := List.all_eq_true.mp h _ (List.mem_of_getElem? (i := 6) rfl)
theorem xp7 {K : PySem.W.Frag} (h : xb K = true) : (lamB K (He.fAd K d_law.at_) d_law.qual) = true := List.all_eq_true.mp h _ (List.mem_of_getElem? (i := 7) rfl)
def loose : List Str := (["CarryError", "BadOffers", "BadEnds", "NoThing", "Held", "NoRoom", "Fallen", "NoHand", "NoEnd", "BadWish", "Busy", "BadLog", "BadText", "Record", "is_number", "is_id", "is_part", "need_log", "judged", "standing", "_law_begun", "_law_take", "_law_alike", "_law_told", "_law_all", "_law_log", "_law_odd", "MOST_NUMBER", "MOST_ENDS", "MOST_COUNT"] : List Str) ++ (["SHAPES", "MOST_ROWS", "__name__"] : List Str)
abbrev R : PySem.W.OpenRow := PySem.W.OpenLaw.row PySem.Challenge.rw_carrydrop_k12_logs_refused
abbrev hk : PySem.W.Hook := hookXS 4 fa fn tb xb
def ob (s : PySem.W.SharedT) : AlX := obsXSG 4 fa fn tb xb (HandSHeadRun.getT s)
theorem ob_eq (s : PySem.W.SharedT) : ob s = hk.obs s.abs := obsXSG_eq (HandSHeadRun.getT_eq s)
theorem runF (w : World) : HandSHeadRun.RunEq R (PySem.W.view R.prog [36]) hk ob 6000 loose (w.withFollow "special-get-raises" false) := by
  intro os
  kernel_rfl
theorem runT (w : World) : HandSHeadRun.RunEq R (PySem.W.view R.prog [36]) hk ob 6000 loose (w.withFollow "special-get-raises" true) := by
  intro os
  kernel_rfl
theorem run (w : World) : HandSHeadRun.RunEq R (PySem.W.view R.prog [36]) hk ob 6000 loose w := PySem.W.byRow2 "special-get-raises" runF runT w
end DL
set_option Elab.async false
set_option linter.all false
set_option maxRecDepth 100000
set_option maxHeartbeats 400000
namespace DL
open PySem PySem.Spec L2
abbrev N_law_told : List Str := ["_law_work", "e", "_law_kinds", "_law_words", "_law_word"]
def t_law_told (K : PySem.W.Frag) (Γ : Cs) (a : Addr) (cls : Value) (x : Option (Str × D)) : DTS := dSeq (dAsg (dLst (daCons (dCB (isXR K cls a) (daCons (dVar 1) (daCons (dC (.ref Γ.cBadEnds)) daNil))) (daCons (dCB (isXR K cls a) (daCons (dVar 1) (daCons (dC (.ref Γ.cBadLog)) daNil))) (daCons (dCB (isXR K cls a) (daCons (dVar 1) (daCons (dC (.ref Γ.cBadOffers)) daNil))) (daCons (dCB (isXR K cls a) (daCons (dVar 1) (daCons (dC (.ref Γ.cBadText)) daNil))) (daNil)))))) (dgName 2)) (dSeq (dAsg (dOp addR (dVar 2) (dLst (daCons (dCB (isXR K cls a) (daCons (dVar 1) (daCons (dC (.ref Γ.cBadWish)) daNil))) (daCons (dCB (isXR K cls a) (daCons (dVar 1) (daCons (dC (.ref Γ.cBusy)) daNil))) (daCons (dCB (isXR K cls a) (daCons (dVar 1) (daCons (dC (.ref Γ.cFallen)) daNil))) (daCons (dCB (isXR K cls a) (daCons (dVar 1) (daCons (dC (.ref Γ.cHeld)) daNil))) (daNil))))))) (dgName 2)) (dSeq (dAsg (dOp addR (dVar 2) (dLst (daCons (dCB (isXR K cls a) (daCons (dVar 1) (daCons (dC (.ref Γ.cNoEnd)) daNil))) (daCons (dCB (isXR K cls a) (daCons (dVar 1) (daCons (dC (.ref Γ.cNoHand)) daNil))) (daCons (dCB (isXR K cls a) (daCons (dVar 1) (daCons (dC (.ref Γ.cNoRoom)) daNil))) (daCons (dCB (isXR K cls a) (daCons (dVar 1) (daCons (dC (.ref Γ.cNoThing)) daNil))) (daNil))))))) (dgName 2)) (dSeq (dIf (dOr (dTest (dOp neR (dBM "list" countR (dVar 2) (daCons (dC (.bl true)) (daNil))) (dC (.int 1)))) (dNot (dTest (dCB (isXR K cls a) (daCons (dVar 1) (daCons (dC (.ty "ValueError")) daNil)))))) (dRet (dTup (daCons (dC (.str "other")) (daCons (dC (.int 0)) (daNil))))) (dNext)) (dSeq (dAsg (dLst (daCons (dC (.str "BadEnds")) (daCons (dC (.str "BadLog")) (daCons (dC (.str "BadOffers")) (daCons (dC (.str "BadText")) (daCons (dC (.str "BadWish")) (daCons (dC (.str "Busy")) (daCons (dC (.str "Fallen")) (daCons (dC (.str "Held")) (daCons (dC (.str "NoEnd")) (daCons (dC (.str "NoHand")) (daNil)))))))))))) (dgName 3)) (dSeq (dAsg (dOp ixR (dOp addR (dVar 3) (dLst (daCons (dC (.str "NoRoom")) (daCons (dC (.str "NoThing")) (daNil))))) (dBM "list" indexR (dVar 2) (daCons (dC (.bl true)) (daNil)))) (dgName 4)) (dRet (dTup (daCons (dVar 4) (daCons (dIfE (dTest (dOp eqR (dVar 4) (dC (.str "BadLog")))) (dXf a cls Γ.cBadLog x "number" (dVar 1)) (dIfE (dTest (dOp eqR (dVar 4) (dC (.str "BadText")))) (dXf a cls Γ.cBadText x "line" (dVar 1)) (dC (.int 0)))) (daNil))))))))))
def told12 : List Str := ["BadEnds", "BadLog", "BadOffers", "BadText", "BadWish", "Busy", "Fallen", "Held", "NoEnd", "NoHand", "NoRoom", "NoThing"]
theorem told_run {Γ : Cs} {K : PySem.W.Frag} {a C : Addr} {w : Str} {x : Option (Str × D)} {G : Gp} {QD : DQ} {v : Int} {b1 b2 b3 b4 b5 b6 b7 b8 b9 b10 b11 b12 : Bool}
    (i1 : ∀ G Q, isXR K (.ref C) a [.ref a, .ref Γ.cBadEnds] G Q = Q (.bl b1) G)
    (i2 : ∀ G Q, isXR K (.ref C) a [.ref a, .ref Γ.cBadLog] G Q = Q (.bl b2) G)
    (i3 : ∀ G Q, isXR K (.ref C) a [.ref a, .ref Γ.cBadOffers] G Q = Q (.bl b3) G)
    (i4 : ∀ G Q, isXR K (.ref C) a [.ref a, .ref Γ.cBadText] G Q = Q (.bl b4) G)
    (i5 : ∀ G Q, isXR K (.ref C) a [.ref a, .ref Γ.cBadWish] G Q = Q (.bl b5) G)
    (i6 : ∀ G Q, isXR K (.ref C) a [.ref a, .ref Γ.cBusy] G Q = Q (.bl b6) G)
    (i7 : ∀ G Q, isXR K (.ref C) a [.ref a, .ref Γ.cFallen] G Q = Q (.bl b7) G)
    (i8 : ∀ G Q, isXR K (.ref C) a [.ref a, .ref Γ.cHeld] G Q = Q (.bl b8) G)
    (i9 : ∀ G Q, isXR K (.ref C) a [.ref a, .ref Γ.cNoEnd] G Q = Q (.bl b9) G)
    (i10 : ∀ G Q, isXR K (.ref C) a [.ref a, .ref Γ.cNoHand] G Q = Q (.bl b10) G)
    (i11 : ∀ G Q, isXR K (.ref C) a [.ref a, .ref Γ.cNoRoom] G Q = Q (.bl b11) G)
    (i12 : ∀ G Q, isXR K (.ref C) a [.ref a, .ref Γ.cNoThing] G Q = Q (.bl b12) G)
    (iv : ∀ G Q, isXR K (.ref C) a [.ref a, .ty "ValueError"] G Q = Q (.bl true) G) (hc : [b1, b2, b3, b4, b5, b6, b7, b8, b9, b10, b11, b12].count true = 1) {j : Nat} (hj : [b1, b2, b3, b4, b5, b6, b7, b8, b9, b10, b11, b12][j]? = some true) (hno : ∀ m, m < j → [b1, b2, b3, b4, b5, b6, b7, b8, b9, b10, b11, b12][m]? ≠ some true) (hw : told12[j]? = some w)
    (hv : (w ≠ "BadLog" ∧ w ≠ "BadText" ∧ v = 0) ∨ (w = "BadLog" ∧ C = Γ.cBadLog ∧ x = some (("number" : Str), D.int v)) ∨ (w = "BadText" ∧ C = Γ.cBadText ∧ x = some (("line" : Str), D.int v))) (q : ∀ G', Ext G G' → QD (.tup [.str w, .int v]) G') :
    t_law_told K Γ a (.ref C) x { nx := fun _ _ => False, rt := QD } [none, some (.ref a), none, none, none] G := by
  simp [t_law_told, i1, i2, i3, i4]
  intro p hp
  have e1 := Ext.put (o := .lst [D.bl b1, D.bl b2, D.bl b3, D.bl b4]) hp
  have g1 : put G p (.lst [D.bl b1, D.bl b2, D.bl b3, D.bl b4]) p = some (.lst [D.bl b1, D.bl b2, D.bl b3, D.bl b4]) := put_same
  generalize put G p (.lst [D.bl b1, D.bl b2, D.bl b3, D.bl b4]) = G1 at e1 g1 ⊢
  simp [i5, i6, i7, i8]
  intro p2 hp2
  have e2 := Ext.put (o := .lst [D.bl b5, D.bl b6, D.bl b7, D.bl b8]) hp2
  have g2 : put G1 p2 (.lst [D.bl b5, D.bl b6, D.bl b7, D.bl b8]) p2 = some (.lst [D.bl b5, D.bl b6, D.bl b7, D.bl b8]) := put_same
  have g12 := e2 _ _ g1
  generalize put G1 p2 (.lst [D.bl b5, D.bl b6, D.bl b7, D.bl b8]) = G2 at e2 g2 g12 ⊢
  simp [g2, g12]
  refine ⟨by rw [sizeLine_eq]; decide, fun p3 hp3 => ?_⟩
  have e3 := Ext.put (o := .lst [D.bl b1, D.bl b2, D.bl b3, D.bl b4, D.bl b5, D.bl b6, D.bl b7, D.bl b8]) hp3
  have g3 : put G2 p3 (.lst [D.bl b1, D.bl b2, D.bl b3, D.bl b4, D.bl b5, D.bl b6, D.bl b7, D.bl b8]) p3 = some (.lst [D.bl b1, D.bl b2, D.bl b3, D.bl b4, D.bl b5, D.bl b6, D.bl b7, D.bl b8]) := put_same
  generalize put G2 p3 (.lst [D.bl b1, D.bl b2, D.bl b3, D.bl b4, D.bl b5, D.bl b6, D.bl b7, D.bl b8]) = G3 at e3 g3 ⊢
  simp [i9, i10, i11, i12]
  intro p4 hp4
  have e4 := Ext.put (o := .lst [D.bl b9, D.bl b10, D.bl b11, D.bl b12]) hp4
  have g4 : put G3 p4 (.lst [D.bl b9, D.bl b10, D.bl b11, D.bl b12]) p4 = some (.lst [D.bl b9, D.bl b10, D.bl b11, D.bl b12]) := put_same
  have g34 := e4 _ _ g3
  generalize put G3 p4 (.lst [D.bl b9, D.bl b10, D.bl b11, D.bl b12]) = G4 at e4 g4 g34 ⊢
  simp [g4, g34]
  refine ⟨by rw [sizeLine_eq]; decide, fun p5 hp5 => ?_⟩
  have e5 := Ext.put (o := .lst [D.bl b1, D.bl b2, D.bl b3, D.bl b4, D.bl b5, D.bl b6, D.bl b7, D.bl b8, D.bl b9, D.bl b10, D.bl b11, D.bl b12]) hp5
  have g5 : put G4 p5 (.lst [D.bl b1, D.bl b2, D.bl b3, D.bl b4, D.bl b5, D.bl b6, D.bl b7, D.bl b8, D.bl b9, D.bl b10, D.bl b11, D.bl b12]) p5 = some (.lst [D.bl b1, D.bl b2, D.bl b3, D.bl b4, D.bl b5, D.bl b6, D.bl b7, D.bl b8, D.bl b9, D.bl b10, D.bl b11, D.bl b12]) := put_same
  generalize put G4 p5 (.lst [D.bl b1, D.bl b2, D.bl b3, D.bl b4, D.bl b5, D.bl b6, D.bl b7, D.bl b8, D.bl b9, D.bl b10, D.bl b11, D.bl b12]) = G5 at e5 g5 ⊢
  simp [g5]
  show ∃ bs : List Bool, G5 p5 = some (.lst (bs.map D.bl)) ∧ _
  refine ⟨[b1, b2, b3, b4, b5, b6, b7, b8, b9, b10, b11, b12], by rw [g5]; rfl, ?_⟩
  rw [hc]
  simp [iv]
  intro p6 hp6
  have e6 := Ext.put (o := .lst [D.str "BadEnds", D.str "BadLog", D.str "BadOffers", D.str "BadText", D.str "BadWish", D.str "Busy", D.str "Fallen", D.str "Held", D.str "NoEnd", D.str "NoHand"]) hp6
  have g6 : put G5 p6 (.lst [D.str "BadEnds", D.str "BadLog", D.str "BadOffers", D.str "BadText", D.str "BadWish", D.str "Busy", D.str "Fallen", D.str "Held", D.str "NoEnd", D.str "NoHand"]) p6 = some (.lst [D.str "BadEnds", D.str "BadLog", D.str "BadOffers", D.str "BadText", D.str "BadWish", D.str "Busy", D.str "Fallen", D.str "Held", D.str "NoEnd", D.str "NoHand"]) := put_same
  generalize put G5 p6 (.lst [D.str "BadEnds", D.str "BadLog", D.str "BadOffers", D.str "BadText", D.str "BadWish", D.str "Busy", D.str "Fallen", D.str "Held", D.str "NoEnd", D.str "NoHand"]) = G6 at e6 g6 ⊢
  intro p7 hp7
  have e7 := Ext.put (o := .lst [D.str "NoRoom", D.str "NoThing"]) hp7
  have g7 : put G6 p7 (.lst [D.str "NoRoom", D.str "NoThing"]) p7 = some (.lst [D.str "NoRoom", D.str "NoThing"]) := put_same
  have g67 := e7 _ _ g6
  generalize put G6 p7 (.lst [D.str "NoRoom", D.str "NoThing"]) = G7 at e7 g7 g67 ⊢
  simp [g7, g67]
  refine ⟨by rw [sizeLine_eq]; decide, fun p8 hp8 => ?_⟩
  have e8 := Ext.put (o := .lst [D.str "BadEnds", D.str "BadLog", D.str "BadOffers", D.str "BadText", D.str "BadWish", D.str "Busy", D.str "Fallen", D.str "Held", D.str "NoEnd", D.str "NoHand", D.str "NoRoom", D.str "NoThing"]) hp8
  have g8 : put G7 p8 (.lst [D.str "BadEnds", D.str "BadLog", D.str "BadOffers", D.str "BadText", D.str "BadWish", D.str "Busy", D.str "Fallen", D.str "Held", D.str "NoEnd", D.str "NoHand", D.str "NoRoom", D.str "NoThing"]) p8 = some (.lst [D.str "BadEnds", D.str "BadLog", D.str "BadOffers", D.str "BadText", D.str "BadWish", D.str "Busy", D.str "Fallen", D.str "Held", D.str "NoEnd", D.str "NoHand", D.str "NoRoom", D.str "NoThing"]) := put_same
  generalize put G7 p8 (.lst [D.str "BadEnds", D.str "BadLog", D.str "BadOffers", D.str "BadText", D.str "BadWish", D.str "Busy", D.str "Fallen", D.str "Held", D.str "NoEnd", D.str "NoHand", D.str "NoRoom", D.str "NoThing"]) = G8 at e8 g8 ⊢
  have g58 : G8 p5 = some (.lst [D.bl b1, D.bl b2, D.bl b3, D.bl b4, D.bl b5, D.bl b6, D.bl b7, D.bl b8, D.bl b9, D.bl b10, D.bl b11, D.bl b12]) := (e6.trans (e7.trans e8)) _ _ g5
  have ee : Ext G G8 := (e1.trans (e2.trans (e3.trans (e4.trans e5)))).trans (e6.trans (e7.trans e8))
  simp [g58]
  show ∃ (bs : List Bool) (j : Nat), G8 p5 = some (.lst (bs.map D.bl)) ∧ bs[j]? = some true ∧ (∀ m, m < j → bs[m]? ≠ some true) ∧ _
  refine ⟨_, j, by rw [g58]; rfl, hj, hno, ?_⟩
  have hat : atI (told12.map D.str) (j : Int) = some (.str w) := by
    have hl : (told12.map D.str)[j]? = some (.str w) := by rw [List.getElem?_map, hw]; rfl
    rw [atI_nat (List.getElem?_eq_some_iff.mp hl).1]
    rw [List.getElem?_eq_getElem (List.getElem?_eq_some_iff.mp hl).1] at hl
    exact hl
  have hat : atI [D.str "BadEnds", D.str "BadLog", D.str "BadOffers", D.str "BadText", D.str "BadWish", D.str "Busy", D.str "Fallen", D.str "Held", D.str "NoEnd", D.str "NoHand", D.str "NoRoom", D.str "NoThing"] (j : Int) = some (.str w) := hat
  simp [g8, hat]
  rcases hv with ⟨n1, n2, rfl⟩ | ⟨rfl, rfl, rfl⟩ | ⟨rfl, rfl, rfl⟩
  · simp [n1, n2]
    exact q G8 ee
  · simp
    exact q G8 ee
  · simp
    exact q G8 ee
theorem pure_law_told {Γ : Cs} {K : PySem.W.Frag} {CS : Addr} (T : ToldG K CS (Ls Γ)) (a C : Addr) (x : Option (Str × D)) (G : Gp) (QD : DQ) (h : toldE (Ls Γ) QD C x G) :
    t_law_told K Γ a (.ref C) x { nx := fun _ _ => False, rt := QD } [none, some (.ref a), none, none, none] G := by
  obtain ⟨r, ⟨w, hm, hr⟩, q⟩ := h
  have key : ∀ (v : Int) (j : Nat), r = .tup [.str w, .int v] → told12[j]? = some w → [decide (w = "BadEnds"), decide (w = "BadLog"), decide (w = "BadOffers"), decide (w = "BadText"), decide (w = "BadWish"), decide (w = "Busy"), decide (w = "Fallen"), decide (w = "Held"), decide (w = "NoEnd"), decide (w = "NoHand"), decide (w = "NoRoom"), decide (w = "NoThing")].count true = 1 →
      [decide (w = "BadEnds"), decide (w = "BadLog"), decide (w = "BadOffers"), decide (w = "BadText"), decide (w = "BadWish"), decide (w = "Busy"), decide (w = "Fallen"), decide (w = "Held"), decide (w = "NoEnd"), decide (w = "NoHand"), decide (w = "NoRoom"), decide (w = "NoThing")][j]? = some true →
      (∀ m, m < j → [decide (w = "BadEnds"), decide (w = "BadLog"), decide (w = "BadOffers"), decide (w = "BadText"), decide (w = "BadWish"), decide (w = "Busy"), decide (w = "Fallen"), decide (w = "Held"), decide (w = "NoEnd"), decide (w = "NoHand"), decide (w = "NoRoom"), decide (w = "NoThing")][m]? ≠ some true) →
      ((w ≠ "BadLog" ∧ w ≠ "BadText" ∧ v = 0) ∨ (w = "BadLog" ∧ C = Γ.cBadLog ∧ x = some (("number" : Str), D.int v)) ∨ (w = "BadText" ∧ C = Γ.cBadText ∧ x = some (("line" : Str), D.int v))) → t_law_told K Γ a (.ref C) x { nx := fun _ _ => False, rt := QD } [none, some (.ref a), none, none, none] G := fun v j er hw hc hj hno hv =>
    told_run (fun G Q => isx T hm (by simp [Ls])) (fun G Q => isx T hm (by simp [Ls])) (fun G Q => isx T hm (by simp [Ls])) (fun G Q => isx T hm (by simp [Ls])) (fun G Q => isx T hm (by simp [Ls])) (fun G Q => isx T hm (by simp [Ls])) (fun G Q => isx T hm (by simp [Ls])) (fun G Q => isx T hm (by simp [Ls])) (fun G Q => isx T hm (by simp [Ls])) (fun G Q => isx T hm (by simp [Ls])) (fun G Q => isx T hm (by simp [Ls])) (fun G Q => isx T hm (by simp [Ls])) (fun G Q => isxV T hm) hc hj hno hw hv (fun G' e => by rw [← er]; exact q G' e)
  have hv : (w ≠ "BadLog" ∧ w ≠ "BadText" ∧ r = .tup [.str w, .int 0]) ∨ (∃ v, w = "BadLog" ∧ x = some (("number" : Str), D.int v) ∧ r = .tup [.str w, .int v]) ∨ (∃ v, w = "BadText" ∧ x = some (("line" : Str), D.int v) ∧ r = .tup [.str w, .int v]) := by
    rcases hr with h | ⟨f, n, hx, (⟨rfl, rfl⟩ | ⟨rfl, rfl⟩), hr⟩
    · exact .inl h
    · exact .inr (.inl ⟨n, rfl, hx, hr⟩)
    · exact .inr (.inr ⟨n, rfl, hx, hr⟩)
  simp only [Ls, List.mem_cons, Prod.mk.injEq, List.not_mem_nil, or_false] at hm
  rcases hm with ⟨hC, rfl⟩ | ⟨hC, rfl⟩ | ⟨hC, rfl⟩ | ⟨hC, rfl⟩ | ⟨hC, rfl⟩ | ⟨hC, rfl⟩ | ⟨hC, rfl⟩ | ⟨hC, rfl⟩ | ⟨hC, rfl⟩ | ⟨hC, rfl⟩ | ⟨hC, rfl⟩ | ⟨hC, rfl⟩
  · rcases hv with ⟨n1, n2, e⟩ | ⟨v, z, hx, e⟩ | ⟨v, z, hx, e⟩
    · exact key 0 0 e (by decide) (by decide) (by decide) (by decide) (.inl ⟨n1, n2, rfl⟩)
    · exact absurd z (by decide)
    · exact absurd z (by decide)
  · rcases hv with ⟨n1, n2, e⟩ | ⟨v, z, hx, e⟩ | ⟨v, z, hx, e⟩
    · exact absurd rfl n1
    · exact key v 1 e (by decide) (by decide) (by decide) (by decide) (.inr (.inl ⟨rfl, hC, hx⟩))
    · exact absurd z (by decide)
  · rcases hv with ⟨n1, n2, e⟩ | ⟨v, z, hx, e⟩ | ⟨v, z, hx, e⟩
    · exact key 0 2 e (by decide) (by decide) (by decide) (by decide) (.inl ⟨n1, n2, rfl⟩)
    · exact absurd z (by decide)
    · exact absurd z (by decide)
  · rcases hv with ⟨n1, n2, e⟩ | ⟨v, z, hx, e⟩ | ⟨v, z, hx, e⟩
    · exact absurd rfl n2
    · exact absurd z (by decide)
    · exact key v 3 e (by decide) (by decide) (by decide) (by decide) (.inr (.inr ⟨rfl, hC, hx⟩))
  · rcases hv with ⟨n1, n2, e⟩ | ⟨v, z, hx, e⟩ | ⟨v, z, hx, e⟩
    · exact key 0 4 e (by decide) (by decide) (by decide) (by decide) (.inl ⟨n1, n2, rfl⟩)
    · exact absurd z (by decide)
    · exact absurd z (by decide)
  · rcases hv with ⟨n1, n2, e⟩ | ⟨v, z, hx, e⟩ | ⟨v, z, hx, e⟩
    · exact key 0 5 e (by decide) (by decide) (by decide) (by decide) (.inl ⟨n1, n2, rfl⟩)
    · exact absurd z (by decide)
    · exact absurd z (by decide)
  · rcases hv with ⟨n1, n2, e⟩ | ⟨v, z, hx, e⟩ | ⟨v, z, hx, e⟩
    · exact key 0 6 e (by decide) (by decide) (by decide) (by decide) (.inl ⟨n1, n2, rfl⟩)
    · exact absurd z (by decide)
    · exact absurd z (by decide)
  · rcases hv with ⟨n1, n2, e⟩ | ⟨v, z, hx, e⟩ | ⟨v, z, hx, e⟩
    · exact key 0 7 e (by decide) (by decide) (by decide) (by decide) (.inl ⟨n1, n2, rfl⟩)
    · exact absurd z (by decide)
    · exact absurd z (by decide)
  · rcases hv with ⟨n1, n2, e⟩ | ⟨v, z, hx, e⟩ | ⟨v, z, hx, e⟩
    · exact key 0 8 e (by decide) (by decide) (by decide) (by decide) (.inl ⟨n1, n2, rfl⟩)
    · exact absurd z (by decide)
    · exact absurd z (by decide)
  · rcases hv with ⟨n1, n2, e⟩ | ⟨v, z, hx, e⟩ | ⟨v, z, hx, e⟩
    · exact key 0 9 e (by decide) (by decide) (by decide) (by decide) (.inl ⟨n1, n2, rfl⟩)
    · exact absurd z (by decide)
    · exact absurd z (by decide)
  · rcases hv with ⟨n1, n2, e⟩ | ⟨v, z, hx, e⟩ | ⟨v, z, hx, e⟩
    · exact key 0 10 e (by decide) (by decide) (by decide) (by decide) (.inl ⟨n1, n2, rfl⟩)
    · exact absurd z (by decide)
    · exact absurd z (by decide)
  · rcases hv with ⟨n1, n2, e⟩ | ⟨v, z, hx, e⟩ | ⟨v, z, hx, e⟩
    · exact key 0 11 e (by decide) (by decide) (by decide) (by decide) (.inl ⟨n1, n2, rfl⟩)
    · exact absurd z (by decide)
    · exact absurd z (by decide)
end DL
set_option Elab.async false
set_option linter.all false
set_option maxRecDepth 100000
set_option maxHeartbeats 4000000
namespace DL
open PySem PySem.Spec L2
/-! ### offers -/
def isNum (i j : Int) : D → Bool
  | .int k => decide (i ≤ k) && decide (k ≤ j)
  | _ => false
def sp_is_number (Γ : Cs) : DSp := sp3 fun d lo hi G Q _ => ∃ i j : Int, lo = .int i ∧ hi = .int j ∧ (tyN G d).isSome ∧ Q (.bl (isNum i j d)) G
abbrev N_is_number : List Str := ["part", "low", "high"]
def t_is_number (Γ : Cs) (ED : DXK) : DTS := dRet (dAndV (dCB isiR (daCons (dVar 0) (daCons (dC (.ty "int")) (daNil)))) (dAndV (dNotV (dCB isiR (daCons (dVar 0) (daCons (dC (.ty "bool")) (daNil))))) (dChain leR leR (dVar 1) (dVar 0) (dVar 2))))
theorem pure_is_number (Γ : Cs) : ∀ ds G Q E, sp_is_number Γ ds G Q E → t_is_number Γ E { nx := fun _ G => Q .non G, rt := Q } (dstart N_is_number ds) G := by
  rintro ds G Q E ⟨d, lo, hi, rfl, i, j, rfl, rfl, h, q⟩
  obtain ⟨a, ha⟩ := Option.isSome_iff_exists.mp h
  cases d
  case ref p => 
    rcases tyN_ref ha with rfl | rfl <;> simp [t_is_number, isNum, ha] at * <;> exact q
  case int k => 
    simp [t_is_number, isNum] at *
    by_cases h : i ≤ k <;> simp [h] at * <;> exact q
  case ty => simp at h
  all_goals (simp [t_is_number, isNum] at * <;> exact q)
def isOffer : D → Bool
  | .tup [a, b] => isNum 0 7 a && isNum 0 9999 b
  | _ => false
def sp_is_offer (Γ : Cs) : DSp := sp1 fun d G Q _ => (tyN G d).isSome ∧ (∀ ds x, d = .tup ds → x ∈ ds → (tyN G x).isSome) ∧ Q (.bl (isOffer d)) G
abbrev N_is_offer : List Str := ["offer"]
def t_is_offer (Γ : Cs) (ED : DXK) : DTS := dSeq (dIf (dOr (dNot (dTest (dCB isiR (daCons (dVar 0) (daCons (dC (.ty "tuple")) (daNil)))))) (dTest (dOp neR (dCB lenR (daCons (dVar 0) (daNil))) (dC (.int 2))))) (dRet (dC (.bl false))) (dNext)) (dRet (dAndV (dCall (sp_is_number Γ) (wx ED) (daCons (dOp ixR (dVar 0) (dC (.int 0))) (daCons (dC (.int 0)) (daCons (dC (.int 7)) (daNil))))) (dCall (sp_is_number Γ) (wx ED) (daCons (dOp ixR (dVar 0) (dC (.int 1))) (daCons (dC (.int 0)) (daCons (dC (.int 9999)) (daNil)))))))
theorem pure_is_offer (Γ : Cs) : ∀ ds G Q E, sp_is_offer Γ ds G Q E → t_is_offer Γ E { nx := fun _ G => Q .non G, rt := Q } (dstart N_is_offer ds) G := by
  rintro ds G Q E ⟨d, rfl, h, h2, q⟩
  obtain ⟨a, ha⟩ := Option.isSome_iff_exists.mp h
  cases d
  case ref p => 
    rcases tyN_ref ha with rfl | rfl <;> simp [t_is_offer, isOffer, ha] at * <;> exact q
  case tup ds =>
    match ds, h2, q with
    | [x, y], h2, q =>
      have hx := h2 _ x rfl (by simp)
      have hy := h2 _ y rfl (by simp)
      simp [t_is_offer]
      refine call3 ⟨_, _, rfl, rfl, hx, ?_⟩
      simp
      refine iteP_of (fun h => ?_) fun h => ?_
      · simp
        refine call3 ⟨_, _, rfl, rfl, hy, ?_⟩
        simpa [isOffer, h] using q
      · simpa [isOffer, h] using q
    | [], h2, q => simp [t_is_offer]; exact q
    | [x], h2, q => simp [t_is_offer]; exact q
    | x :: y :: z :: r, h2, q => 
      have : ¬ ((r.length : Int) + 1 + 1 + 1 = 2) := by omega
      simp [t_is_offer, this]; exact q
  case ty => simp at h
  all_goals (simp [t_is_offer, isOffer] at * <;> exact q)
/-- what may be told as offers: with types, tuples within too -/
def tyd (G : Gp) (d : D) : Prop := (tyN G d).isSome ∧ (∀ ds x, d = .tup ds → x ∈ ds → (tyN G x).isSome)
theorem tyd_ext {G G' : Gp} {d : D} (e : Ext G G') (h : tyd G d) : tyd G' d := by
  refine ⟨?_, fun ds x hd hx => ?_⟩
  · obtain ⟨a, ha⟩ := Option.isSome_iff_exists.mp h.1
    rw [tyN_ext e ha]; rfl
  · obtain ⟨a, ha⟩ := Option.isSome_iff_exists.mp (h.2 ds x hd hx)
    rw [tyN_ext e ha]; rfl
def fstD : D → Option Int
  | .tup [.int k, _] => some k
  | _ => none
/-- offers that can be -/
def okOffers : D → Bool
  | .tup ds => ds.all isOffer && decide (ds ≠ []) && decide ((ds.filterMap fstD).Nodup)
  | _ => false
theorem isOffer_is {d : D} (h : isOffer d = true) : ∃ k n : Int, d = .tup [.int k, .int n] ∧ 0 ≤ k ∧ k ≤ 7 ∧ 0 ≤ n ∧ n ≤ 9999 := by
  unfold isOffer at h
  split at h
  · rename_i a b
    cases a <;> cases b <;> simp [isNum] at h
    rename_i k n
    exact ⟨k, n, rfl, by omega⟩
  · cases h
def sp_need_offers (Γ : Cs) : DSp := sp1 fun d G Q E => (tyN G d).isSome ∧ (∀ ds x, d = .tup ds → x ∈ ds → tyd G x ∧ dat 20 x = true) ∧ (∀ ds, d = .tup ds → ds.length ≤ 4000) ∧
  ∀ G', Ext G G' → if okOffers d = true then Q .non G' else E Γ.cBadOffers none G'
abbrev N_need_offers : List Str := ["offers", "kinds", "offer", "kind", "number"]
def t_need_offers_C1 (Γ : Cs) (ED : DXK) : DTE := dComp (diSeq (dVar 0)) (dgName 2) (dNot (dTest (dCall (sp_is_offer Γ) W0 (daCons (dVar 2) (daNil))))) (dVar 2) [2]
def t_need_offers_C2 (Γ : Cs) (ED : DXK) : DTE := dComp (diSeq (dVar 0)) (dgTup 2 (dgCons (dgName 3) (dgCons (dgName 4) (dgNil)))) dYes (dVar 3) [3, 4]
def t_need_offers (Γ : Cs) (ED : DXK) : DTS := dSeq (dIf (dOr (dNot (dTest (dCB isiR (daCons (dVar 0) (daCons (dC (.ty "tuple")) (daNil)))))) (dTest (dOp neR (dN (t_need_offers_C1 Γ ED)) (dLst (daNil))))) (dRaise Γ.cBadOffers (wx ED)) (dNext)) (dSeq (dAsg (dN (t_need_offers_C2 Γ ED)) (dgName 1)) (dIf (dOr (dTest (dOp eqR (dVar 1) (dLst (daNil)))) (dTest (dOp neR (dLenSet (dVar 1)) (dCB lenR (daCons (dVar 1) (daNil)))))) (dRaise Γ.cBadOffers (wx ED)) (dNext)))
theorem need_offers_C1 {Γ : Cs} {E : DXK} {G : Gp} {Q : DQ} {ds : List D} {a b c d : Option D} (h : ∀ x ∈ ds, tyd G x) (q : ∀ p, Nw G p → Q (.ref p) (put G p (.lst (ds.filter fun x => !isOffer x)))) : t_need_offers_C1 Γ E [some (.tup ds), a, b, c, d] G Q := by
  refine dComp_pure (items := ds) (stay := fun _ => True) (fun x => if isOffer x then none else some x) (fun R h => by simpa using h) trivial (fun _ _ _ => trivial) (fun p ys x hp hx Qs Qn hQ => ?_) (fun p hp => ?_)
  · have hx := tyd_ext (Ext.put (o := .lst ys) hp) (h x hx)
    simp
    refine call1 ⟨hx.1, hx.2, ?_⟩
    by_cases ho : isOffer x = true
    · simp [ho] at hQ ⊢; exact hQ
    · simp [ho] at hQ ⊢; exact hQ
  · have : ds.filterMap (fun x => if isOffer x then none else some x) = ds.filter fun x => !isOffer x := by
      clear q h
      induction ds with
      | nil => rfl
      | cons y ys ih => by_cases hy : isOffer y <;> simp [hy, ih]
    rw [this]
    exact q p hp
theorem need_offers_C2 {Γ : Cs} {E : DXK} {G : Gp} {Q : DQ} {ds : List D} {a b c d : Option D} (h : ∀ x ∈ ds, isOffer x = true) (q : ∀ p, Nw G p → Q (.ref p) (put G p (.lst ((ds.filterMap fstD).map .int)))) : t_need_offers_C2 Γ E [some (.tup ds), a, b, c, d] G Q := by
  refine dComp_pure (items := ds) (stay := fun _ => True) (fun x => (fstD x).map .int) (fun R h => by simpa using h) trivial (fun _ _ _ => trivial) (fun p ys x hp hx Qs Qn hQ => ?_) (fun p hp => ?_)
  · obtain ⟨k, n, rfl, _⟩ := isOffer_is (h x hx)
    simpa [fstD] using hQ
  · have : ds.filterMap (fun x => (fstD x).map D.int) = (ds.filterMap fstD).map D.int := by
      rw [List.map_filterMap]
    rw [this]
    exact q p hp
theorem pure_need_offers (Γ : Cs) : ∀ ds G Q E, sp_need_offers Γ ds G Q E → t_need_offers Γ E { nx := fun _ G => Q .non G, rt := Q } (dstart N_need_offers ds) G := by
  rintro ds G Q E ⟨d, rfl, h, h2, h3, q⟩
  obtain ⟨a, ha⟩ := Option.isSome_iff_exists.mp h
  by_cases ht : ∃ ds, d = .tup ds
  · obtain ⟨ds, rfl⟩ := ht
    simp [t_need_offers]
    refine need_offers_C1 (fun x hx => (h2 ds x rfl hx).1) fun p hp => ?_
    refine eq_new put_same (by simp [List.all_eq_true]; exact fun x hx => .inr (h2 ds x rfl hx).2) fun p2 hp2 => ?_
    have e1 : Ext G (put (put G p (.lst (ds.filter fun x => !isOffer x))) p2 (.lst [])) := (Ext.put hp).of_put hp2
    by_cases hall : ∀ x ∈ ds, isOffer x = true
    · have hf : ds.filter (fun x => !isOffer x) = [] := by simp [List.filter_eq_nil_iff]; exact hall
      rw [hf]
      rw [hf] at e1
      simp
      refine need_offers_C2 hall fun p3 hp3 => ?_
      refine eq_new put_same (all_ints _) fun p4 hp4 => ?_
      have e2 := (e1.of_put hp3).of_put (o := .lst []) hp4
      obtain ⟨n1, n2, hp4'⟩ := put_none hp4
      by_cases hk : ds.filterMap fstD = []
      · have this' : okOffers (.tup ds) = false := by
          have : ds = [] := by
            cases ds with
            | nil => rfl
            | cons y ys =>
              obtain ⟨k, n, rfl, _⟩ := isOffer_is (hall y (by simp))
              simp [fstD] at hk
          simp [okOffers, this]
        have := q _ e2
        rw [this'] at this
        simp [hk] at this ⊢
        exact this
      · have hne : (ds.filterMap fstD).isEmpty = false := by simpa using hk
        have hds : ds ≠ [] := fun z => by rw [z] at hk; exact hk rfl
        simp [hne, put_ne n2, put_same]
        refine ⟨Nat.le_trans (List.length_filterMap_le _ _) (h3 ds rfl), ?_⟩
        have := q _ e2
        by_cases hn : (dd (ds.filterMap fstD)).length = (ds.filterMap fstD).length
        · have hn' : ((dd (ds.filterMap fstD)).length : Int) = ((ds.filterMap fstD).length : Int) := by omega
          simp [hn']
          have ok : okOffers (.tup ds) = true := by simp [okOffers, hds, nodup_of_dd hn]; exact hall
          rw [ok] at this
          exact this
        · have hn' : ¬ ((dd (ds.filterMap fstD)).length : Int) = ((ds.filterMap fstD).length : Int) := by omega
          simp [hn']
          have ok : okOffers (.tup ds) = false := by
            have : ¬ (ds.filterMap fstD).Nodup := fun z => hn (dd_of_nodup z)
            simp [okOffers, this]
          rw [ok] at this
          exact this
    · have hf : ds.filter (fun x => !isOffer x) ≠ [] := by simp [List.filter_eq_nil_iff] at hall ⊢; exact hall
      have ok : okOffers (.tup ds) = false := by
        have : ds.all isOffer = false := by simpa using hall
        simp [okOffers, this]
      have := q _ e1
      rw [ok] at this
      have hf' : (ds.filter fun x => !isOffer x).isEmpty = false := by simpa using hf
      simp [hf']
      exact this
  · have : a ≠ "tuple" := fun z => by
      subst z
      cases d
      case tup ds => exact ht ⟨_, rfl⟩
      case ref p => rcases tyN_ref ha with h | h <;> simp at h
      all_goals simp at ha
    have ok : okOffers d = false := by
      cases d
      case tup ds => exact (ht ⟨_, rfl⟩).elim
      all_goals rfl
    simp [t_need_offers, ha]
    have h0 := q _ (Ext.refl G)
    rw [ok] at h0
    have hb : (a == "tuple") = false := by simpa using this
    simp [hb]
    exact h0

theorem isNum_is {i j : Int} {d : D} (h : isNum i j d = true) : ∃ k : Int, d = .int k ∧ i ≤ k ∧ k ≤ j := by
  cases d <;> simp [isNum] at h
  exact ⟨_, rfl, h⟩
def okKnows : D → Bool
  | .tup ds => ds.all (isNum 0 7) && decide ds.Nodup
  | _ => false
def sp_need_knows (Γ : Cs) : DSp := sp1 fun d G Q E => (tyN G d).isSome ∧ (∀ ds x, d = .tup ds → x ∈ ds → (tyN G x).isSome ∧ dat 20 x = true) ∧ (∀ ds, d = .tup ds → ds.length ≤ 4000) ∧
  ∀ G', Ext G G' → if okKnows d = true then Q .non G' else E Γ.cBadOffers none G'
abbrev N_need_knows : List Str := ["knows", "kind"]
def t_need_knows_C1 (Γ : Cs) (ED : DXK) : DTE := dComp (diSeq (dVar 0)) (dgName 1) (dNot (dTest (dCall (sp_is_number Γ) W0 (daCons (dVar 1) (daCons (dC (.int 0)) (daCons (dC (.int 7)) (daNil))))))) (dVar 1) [1]
def t_need_knows (Γ : Cs) (ED : DXK) : DTS := dSeq (dIf (dOr (dNot (dTest (dCB isiR (daCons (dVar 0) (daCons (dC (.ty "tuple")) (daNil)))))) (dTest (dOp neR (dN (t_need_knows_C1 Γ ED)) (dLst (daNil))))) (dRaise Γ.cBadOffers (wx ED)) (dNext)) (dIf (dTest (dOp neR (dLenSet (dVar 0)) (dCB lenR (daCons (dVar 0) (daNil))))) (dRaise Γ.cBadOffers (wx ED)) (dNext))
theorem tyN_some_ext {G G' : Gp} {d : D} (e : Ext G G') (h : (tyN G d).isSome) : (tyN G' d).isSome := by
  obtain ⟨a, ha⟩ := Option.isSome_iff_exists.mp h
  rw [tyN_ext e ha]; rfl
theorem filter_fm {f : D → Bool} (ds : List D) : ds.filterMap (fun x => if f x then none else some x) = ds.filter fun x => !f x := by
  induction ds with
  | nil => rfl
  | cons y ys ih => by_cases hy : f y <;> simp [hy, ih]
theorem need_knows_C1 {Γ : Cs} {E : DXK} {G : Gp} {Q : DQ} {ds : List D} {a : Option D} (h : ∀ x ∈ ds, (tyN G x).isSome) (q : ∀ p, Nw G p → Q (.ref p) (put G p (.lst (ds.filter fun x => !isNum 0 7 x)))) : t_need_knows_C1 Γ E [some (.tup ds), a] G Q := by
  refine dComp_pure (items := ds) (stay := fun _ => True) (fun x => if isNum 0 7 x then none else some x) (fun R h => by simpa using h) trivial (fun _ _ _ => trivial) (fun p ys x hp hx Qs Qn hQ => ?_) (fun p hp => ?_)
  · have hx := tyN_some_ext (Ext.put (o := .lst ys) hp) (h x hx)
    simp
    refine call3 ⟨_, _, rfl, rfl, hx, ?_⟩
    by_cases ho : isNum 0 7 x = true
    · simp [ho] at hQ ⊢; exact hQ
    · simp [ho] at hQ ⊢; exact hQ
  · rw [filter_fm]
    exact q p hp
theorem ints_of {ds : List D} {i j : Int} (h : ∀ x ∈ ds, isNum i j x = true) : ∃ ns : List Int, ds = ns.map D.int := by
  induction ds with
  | nil => exact ⟨[], rfl⟩
  | cons y ys ih =>
    obtain ⟨ns, e⟩ := ih fun x hx => h x (by simp [hx])
    obtain ⟨k, rfl, _⟩ := isNum_is (h y (by simp))
    exact ⟨k :: ns, by rw [e]; rfl⟩
theorem nodup_ints {ns : List Int} : (ns.map D.int).Nodup ↔ ns.Nodup := by simp [List.Nodup, List.pairwise_map]
theorem not_tup {G : Gp} {d : D} {a : String} (ha : tyN G d = some a) (ht : ¬ ∃ ds, d = .tup ds) : a ≠ "tuple" := fun z => by
  subst z
  cases d
  case tup ds => exact ht ⟨_, rfl⟩
  case ref p => rcases tyN_ref ha with h | h <;> simp at h
  all_goals simp at ha
theorem pure_need_knows (Γ : Cs) : ∀ ds G Q E, sp_need_knows Γ ds G Q E → t_need_knows Γ E { nx := fun _ G => Q .non G, rt := Q } (dstart N_need_knows ds) G := by
  rintro ds G Q E ⟨d, rfl, h, h2, h3, q⟩
  obtain ⟨a, ha⟩ := Option.isSome_iff_exists.mp h
  by_cases ht : ∃ ds, d = .tup ds
  · obtain ⟨ds, rfl⟩ := ht
    simp [t_need_knows]
    refine need_knows_C1 (fun x hx => (h2 ds x rfl hx).1) fun p hp => ?_
    refine eq_new put_same (by simp [List.all_eq_true]; exact fun x hx => .inr (h2 ds x rfl hx).2) fun p2 hp2 => ?_
    have e1 : Ext G (put (put G p (.lst (ds.filter fun x => !isNum 0 7 x))) p2 (.lst [])) := (Ext.put hp).of_put hp2
    have := q _ e1
    by_cases hall : ∀ x ∈ ds, isNum 0 7 x = true
    · have hf : ds.filter (fun x => !isNum 0 7 x) = [] := by simp [List.filter_eq_nil_iff]; exact hall
      rw [hf] at this ⊢
      obtain ⟨ns, rfl⟩ := ints_of hall
      have ha : (ns.map D.int).all (isNum 0 7) = true := List.all_eq_true.mpr hall
      simp
      refine ⟨by simpa using h3 _ rfl, ?_⟩
      by_cases hn : (dd ns).length = ns.length
      · have hn' : ((dd ns).length : Int) = (ns.length : Int) := by omega
        simp [okKnows, ha, nodup_ints, nodup_of_dd hn] at this
        simp [hn']
        exact this
      · have hn' : ¬ ((dd ns).length : Int) = (ns.length : Int) := by omega
        simp [hn']
        have z : ¬ ns.Nodup := fun z => hn (dd_of_nodup z)
        simp [okKnows, nodup_ints, z] at this
        exact this
    · have hf : ds.filter (fun x => !isNum 0 7 x) ≠ [] := by simp [List.filter_eq_nil_iff] at hall ⊢; exact hall
      have ok : okKnows (.tup ds) = false := by
        have : ds.all (isNum 0 7) = false := by simpa using hall
        simp [okKnows, this]
      rw [ok] at this
      have hf' : (ds.filter fun x => !isNum 0 7 x).isEmpty = false := by simpa using hf
      simp [hf']
      exact this
  · have ok : okKnows d = false := by
      cases d
      case tup ds => exact (ht ⟨_, rfl⟩).elim
      all_goals rfl
    have hh := not_tup ha ht
    simp [t_need_knows, ha]
    have h0 := q _ (Ext.refl G)
    rw [ok] at h0
    have hb : (a == "tuple") = false := by simpa using hh
    simp [hb]
    exact h0
/-- the first known kind that is offered -/
def bestK (ks ns : List Int) : D := match ns.find? fun n => decide (n ∈ ks) with
  | some k => .int k
  | none => .non
def IntSeq (G : Gp) (d : D) (ks : List Int) : Prop := d = .tup (ks.map .int) ∨ ∃ p, d = .ref p ∧ G p = some (.lst (ks.map .int))
theorem IntSeq.ext {G G' : Gp} {d : D} {ks : List Int} (h : IntSeq G d ks) (e : Ext G G') : IntSeq G' d ks := by
  rcases h with h | ⟨p, h, g⟩
  · exact .inl h
  · exact .inr ⟨p, h, e _ _ g⟩
theorem any_ints (ks : List Int) (k : Int) : ((ks.map D.int).any fun z => peq z (.int k)) = decide (k ∈ ks) := by
  induction ks with
  | nil => rfl
  | cons j ks ih => 
    rw [List.map_cons, List.any_cons, ih, peq_int]
    by_cases h : j = k
    · simp [h]
    · have : ¬ k = j := fun z => h z.symm
      simp [h, this]
theorem in_ints {G : Gp} {d : D} {ks : List Int} {k : Int} {neg : Bool} {Q : DQ} (h : IntSeq G d ks) (q : Q (.bl (decide (k ∈ ks) != neg)) G) : inR neg (.int k) d G Q := by
  rcases h with rfl | ⟨p, rfl, g⟩
  · refine ⟨by rw [all_ints]; exact dat_int, ?_⟩
    rw [any_ints]
    exact q
  · refine ⟨_, g, ?_⟩
    show _ ∧ _
    refine ⟨by rw [all_ints]; exact dat_int, ?_⟩
    rw [any_ints]
    exact q
def sp_best_kind (Γ : Cs) : DSp := sp2 fun a b G Q _ => ∃ ks ns : List Int, IntSeq G a ks ∧ b = .tup (ns.map .int) ∧ ∀ G', Ext G G' → Q (bestK ks ns) G'
abbrev N_best_kind : List Str := ["kinds", "knows", "some", "kind"]
def t_best_kind_C1 (Γ : Cs) (ED : DXK) : DTE := dComp (diSeq (dVar 1)) (dgName 3) (dTest (dOp (inR false) (dVar 3) (dVar 0))) (dVar 3) [3]
def t_best_kind (Γ : Cs) (ED : DXK) : DTS := dSeq (dAsg (dN (t_best_kind_C1 Γ ED)) (dgName 2)) (dRet (dIfE (dTest (dOp neR (dVar 2) (dLst (daNil)))) (dOp ixR (dVar 2) (dC (.int 0))) (dC .non)))
theorem fm_filter {α β : Type} (f : α → Bool) (g : α → β) (ns : List α) : ns.filterMap (fun n => if f n = true then some (g n) else none) = (ns.filter f).map g := by
  induction ns with
  | nil => rfl
  | cons n ns ih =>
    rw [List.filterMap_cons, List.filter_cons]
    by_cases h : f n = true
    · rw [if_pos h, if_pos h, List.map_cons, ← ih]
    · rw [if_neg h, if_neg h, ← ih]
theorem best_kind_C1 {Γ : Cs} {E : DXK} {G : Gp} {Q : DQ} {d : D} {ks ns : List Int} {a b : Option D} (h : IntSeq G d ks) (q : ∀ p, Nw G p → Q (.ref p) (put G p (.lst ((ns.filter fun n => decide (n ∈ ks)).map .int)))) : t_best_kind_C1 Γ E [some d, some (.tup (ns.map .int)), a, b] G Q := by
  refine dComp_pure (items := ns.map .int) (stay := fun _ => True) (fun x => match x with | .int k => if k ∈ ks then some x else none | _ => none) (fun R h => by simpa using h) trivial (fun _ _ _ => trivial) (fun p ys x hp hx Qs Qn hQ => ?_) (fun p hp => ?_)
  · obtain ⟨k, _, rfl⟩ := List.mem_map.mp hx
    simp
    refine in_ints (h.ext (Ext.put hp)) ?_
    by_cases hk : k ∈ ks
    · simp [hk] at hQ ⊢
      exact hQ
    · simp [hk] at hQ ⊢
      exact hQ
  · have : (ns.map D.int).filterMap (fun x => match x with | .int k => if k ∈ ks then some x else none | _ => none) = ((ns.filter fun n => decide (n ∈ ks)).map .int) := by
      rw [List.filterMap_map, ← fm_filter]
      congr 1
      funext n
      simp
    rw [this]
    exact q p hp
theorem find_filter {α : Type} (f : α → Bool) (ns : List α) : ns.find? f = (ns.filter f).head? := List.head?_filter.symm
theorem pure_best_kind (Γ : Cs) : ∀ ds G Q E, sp_best_kind Γ ds G Q E → t_best_kind Γ E { nx := fun _ G => Q .non G, rt := Q } (dstart N_best_kind ds) G := by
  rintro ds G Q E ⟨d, d2, rfl, ks, ns, h, rfl, q⟩
  simp [t_best_kind]
  refine best_kind_C1 h fun p hp => ?_
  refine eq_new put_same (all_ints _) fun p2 hp2 => ?_
  have e1 : Ext G (put (put G p (.lst ((ns.filter fun n => decide (n ∈ ks)).map .int))) p2 (.lst [])) := (Ext.put hp).of_put hp2
  have := q _ e1
  unfold bestK at this
  rw [find_filter] at this
  obtain ⟨n1, n2, _⟩ := put_none hp2
  cases e : ns.filter (fun n => decide (n ∈ ks)) with
  | nil =>
    rw [e] at this
    simpa using this
  | cons k r =>
    rw [e] at this
    simp [put_ne n2, put_same, anyO]
    simpa using this
def sp_best (Γ : Cs) : DSp := sp2 fun a b G Q E => ∃ ds, a = .tup ds ∧ okOffers a = true ∧ ds.length ≤ 4000 ∧ ∃ ns : List Int, b = .tup (ns.map .int) ∧ okKnows b = true ∧ ns.length ≤ 4000 ∧ ∀ G', Ext G G' → Q (bestK (ds.filterMap fstD) ns) G'
abbrev N_best : List Str := ["offers", "knows", "kind", "number"]
def t_best_C1 (Γ : Cs) (ED : DXK) : DTE := dComp (diSeq (dVar 0)) (dgTup 2 (dgCons (dgName 2) (dgCons (dgName 3) (dgNil)))) dYes (dVar 2) [2, 3]
def t_best (Γ : Cs) (ED : DXK) : DTS := dSeq (dDrop (dCall (sp_need_offers Γ) (wx ED) (daCons (dVar 0) (daNil)))) (dSeq (dDrop (dCall (sp_need_knows Γ) (wx ED) (daCons (dVar 1) (daNil)))) (dRet (dCall (sp_best_kind Γ) (wx ED) (daCons (dN (t_best_C1 Γ ED)) (daCons (dVar 1) (daNil))))))
theorem offer_tyd {G : Gp} {x : D} (h : isOffer x = true) : tyd G x ∧ dat 20 x = true := by
  obtain ⟨k, n, rfl, _⟩ := isOffer_is h
  refine ⟨⟨rfl, fun ds x e hx => ?_⟩, by simp [dat]⟩
  cases e
  simp at hx
  rcases hx with rfl | rfl <;> rfl
theorem okOffers_all {ds : List D} (h : okOffers (.tup ds) = true) : ∀ x ∈ ds, isOffer x = true := by
  unfold okOffers at h
  simp at h
  exact h.1.1
theorem best_C1 {Γ : Cs} {E : DXK} {G : Gp} {Q : DQ} {ds : List D} {a b c : Option D} (h : ∀ x ∈ ds, isOffer x = true) (q : ∀ p, Nw G p → Q (.ref p) (put G p (.lst ((ds.filterMap fstD).map .int)))) : t_best_C1 Γ E [some (.tup ds), a, b, c] G Q := by
  refine dComp_pure (items := ds) (stay := fun _ => True) (fun x => (fstD x).map .int) (fun R h => by simpa using h) trivial (fun _ _ _ => trivial) (fun p ys x hp hx Qs Qn hQ => ?_) (fun p hp => ?_)
  · obtain ⟨k, n, rfl, _⟩ := isOffer_is (h x hx)
    simpa [fstD] using hQ
  · have : ds.filterMap (fun x => (fstD x).map D.int) = (ds.filterMap fstD).map D.int := by
      rw [List.map_filterMap]
    rw [this]
    exact q p hp
theorem pure_best (Γ : Cs) : ∀ ds G Q E, sp_best Γ ds G Q E → t_best Γ E { nx := fun _ G => Q .non G, rt := Q } (dstart N_best ds) G := by
  rintro ds G Q E ⟨a, b, rfl, ds, rfl, h1, h2, ns, rfl, h3, h4, q⟩
  have hall := okOffers_all h1
  simp [t_best]
  refine call1 ⟨rfl, fun ds' x e hx => offer_tyd (hall x (by cases e; exact hx)), fun ds' e => by cases e; exact h2, fun G1 e1 => ?_⟩
  rw [if_pos h1]
  simp
  refine call1 ⟨rfl, fun ds' x e hx => ?_, fun ds' e => by cases e; simpa using h4, fun G2 e2 => ?_⟩
  · cases e
    obtain ⟨k, _, rfl⟩ := List.mem_map.mp hx
    exact ⟨rfl, dat_int⟩
  rw [if_pos h3]
  simp
  refine best_C1 hall fun p hp => ?_
  simp
  refine call2 ⟨ds.filterMap fstD, ns, .inr ⟨_, rfl, put_same⟩, rfl, fun G3 e3 => ?_⟩
  exact q _ ((e1.trans e2).trans ((Ext.put hp).trans e3))
end DL
set_option Elab.async false
set_option linter.all false
set_option maxRecDepth 100000
set_option maxHeartbeats 4000000
namespace DL
open PySem PySem.Spec L2
/-! ### draws -/
/-- all stays but at b and l -/
def Exc (b l : Addr) (G G' : Gp) : Prop := ∀ a o, a ≠ b → a ≠ l → G a = some o → G' a = some o
theorem Exc.refl (b l : Addr) (G : Gp) : Exc b l G G := fun _ _ _ _ h => h
theorem Exc.trans {b l : Addr} {G G1 G2 : Gp} (a : Exc b l G G1) (c : Exc b l G1 G2) : Exc b l G G2 := fun x o h1 h2 h => c x o h1 h2 (a x o h1 h2 h)
theorem Exc.of_ext {b l : Addr} {G G' : Gp} (h : Ext G G') : Exc b l G G' := fun a o _ _ e => h a o e
theorem Exc.putb {b l : Addr} {G : Gp} {o : DO} : Exc b l G (put G b o) := fun a u h1 _ e => by rw [put_ne h1]; exact e
theorem Exc.putl {b l : Addr} {G : Gp} {o : DO} : Exc b l G (put G l o) := fun a u _ h1 e => by rw [put_ne h1]; exact e
theorem Exc.fresh {b l p : Addr} {G G' : Gp} {o : DO} (h : Exc b l G G') (hp : G p = none) : Exc b l G (put G' p o) := fun a u h1 h2 e => by
  rw [put_ne (ne_fr e hp)]
  exact h a u h1 h2 e
theorem Box.ext {G G' : Gp} {b l : Addr} (h : Box G b l) (e : Ext G G') : Box G' b l := by
  obtain ⟨h1, ns, s, h2, h3, h4⟩ := h
  exact ⟨h1, ns, s, e _ _ h2, e _ _ h3, h4⟩
theorem Box.ne {G : Gp} {b l p : Addr} (h : Box G b l) (hp : G p = none) : p ≠ b ∧ p ≠ l := by
  obtain ⟨_, ns, s, h2, h3, _⟩ := h
  exact ⟨(ne_fr h2 hp).symm, (ne_fr h3 hp).symm⟩
theorem Box.put {G : Gp} {b l p : Addr} {o : DO} (h : Box G b l) (h1 : p ≠ b) (h2 : p ≠ l) : Box (DL.put G p o) b l := by
  obtain ⟨h0, ns, s, h3, h4, h5⟩ := h
  exact ⟨h0, ns, s, by rw [put_ne h1.symm]; exact h3, by rw [put_ne h2.symm]; exact h4, h5⟩
def sp_law_take (Γ : Cs) : DSp := sp2 fun x m G Q _ => ∃ (b l : Addr) (k : Int), x = .ref b ∧ m = .int k ∧ 0 < k ∧ k < 18446744073709551616 ∧ Box G b l ∧ ∀ r G', 0 ≤ r → r < k → Box G' b l → Exc b l G G' → Q (.int r) G'
abbrev N_law_take : List Str := ["_law_box", "_law_many", "_law_number"]
def t_law_take (Γ : Cs) (ED : DXK) : DTS := dSeq (dIf (dTest (dOp eqR (dOp ixR (dVar 0) (dC (.int 0))) (dLst (daNil)))) (dSeq (dAsg (dOp modR (dOp mulR (dOp ixR (dVar 0) (dC (.int 1))) (dC (.int 48271))) (dC (.int 2147483647))) (dgSub (dVar 0) (dC (.int 1)))) (dRet (dOp modR (dOp divR (dOp ixR (dVar 0) (dC (.int 1))) (dC (.int 7))) (dVar 1)))) (dNext)) (dSeq (dAsg (dOp ixR (dOp ixR (dVar 0) (dC (.int 0))) (dC (.int 0))) (dgName 2)) (dSeq (dAsg (dOp divR (dVar 2) (dVar 1)) (dgSub (dOp ixR (dVar 0) (dC (.int 0))) (dC (.int 0)))) (dSeq (dIf (dOr (dTest (dOp eqR (dOp ixR (dOp ixR (dVar 0) (dC (.int 0))) (dC (.int 0))) (dC (.int 0)))) (dTest (dOp eqR (dOp ixR (dOp ixR (dVar 0) (dC (.int 0))) (dC (.int 0))) (dC (.int (-1)))))) (dDrop (dBM "list" popR (dOp ixR (dVar 0) (dC (.int 0))) (daCons (dC (.int 0)) (daNil)))) (dNext)) (dRet (dOp modR (dVar 2) (dVar 1))))))
theorem pure_law_take (Γ : Cs) : ∀ ds G Q E, sp_law_take Γ ds G Q E → t_law_take Γ E { nx := fun _ G => Q .non G, rt := Q } (dstart N_law_take ds) G := by
  rintro ds G Q E ⟨x, m, rfl, b, l, k, rfl, rfl, h0, h1, ⟨hbl, ns, s, hb, hl, hs0, hs1⟩, q⟩
  have hlb := Ne.symm hbl
  simp [t_law_take, hb]
  refine eq_new hl (all_ints _) fun p hp => ?_
  have nb := ne_fr hb hp
  have nl := ne_fr hl hp
  cases ns with
  | nil =>
    simp [put_at, hb, hl, nb, nl]
    refine ⟨.inr ⟨by decide, by decide⟩, ⟨by decide, by decide⟩, h0, ?_⟩
    refine q _ _ (Int.emod_nonneg _ (by omega)) (Int.emod_lt_of_pos _ h0) ⟨hbl, [], _, put_same, by rw [put_ne hbl, put_ne nl]; exact hl, Int.emod_nonneg _ (by decide), Int.emod_lt_of_pos _ (by decide)⟩ ?_
    exact (Exc.of_ext (Ext.put hp)).trans Exc.putb
  | cons n ns =>
    simp [put_at, hb, hl, nb, nl, hbl, hlb]
    refine ⟨⟨h0, h1⟩, ?_⟩
    have fin : ∀ ms : List Int, Q (.int (n % k)) (put (put G p (.lst [])) l (.lst (ms.map D.int))) := fun ms =>
      q _ _ (Int.emod_nonneg _ (by omega)) (Int.emod_lt_of_pos _ h0) ⟨hbl, ms, s, by rw [put_ne hlb, put_ne nb]; exact hb, put_same, hs0, hs1⟩ ((Exc.of_ext (Ext.put hp)).trans Exc.putl)
    refine iteP_of (fun _ => ?_) fun _ => ?_
    · simp [put_at, hb, hl, nb, nl, hbl, hlb]
      rw [put_put]
      exact ⟨h0, fin ns⟩
    · simp [put_at, hb, hl, nb, nl, hbl, hlb]
      refine iteP_of (fun _ => ?_) fun _ => ?_
      · simp [put_at, hb, hl, nb, nl, hbl, hlb]
        rw [put_put]
        exact ⟨h0, fin ns⟩
      · simp [put_at, hb, hl, nb, nl, hbl, hlb]
        exact ⟨h0, fin (n / k :: ns)⟩

/-- the same, all the way down -/
def same : Nat → Gp → D → D → Prop
  | 0, _, _, _ => False
  | n + 1, G, a, b => match a, b with
    | .non, .non => True
    | .bl x, .bl y => x = y
    | .int x, .int y => x = y
    | .str x, .str y => x = y
    | .tup xs, .tup ys => xs.length = ys.length ∧ xs.length ≤ 1000000 ∧ ∀ (i : Nat) (x y : D), xs[i]? = some x → ys[i]? = some y → same n G x y
    | .ref p, .ref q => ∃ xs ys, G p = some (.lst xs) ∧ G q = some (.lst ys) ∧ xs.length = ys.length ∧ xs.length ≤ 1000000 ∧ ∀ (i : Nat) (x y : D), xs[i]? = some x → ys[i]? = some y → same n G x y
    | _, _ => False
def sp_law_alike (n : Nat) (Γ : Cs) : DSp := sp2 fun a b G Q _ => same n G a b ∧ Q (.bl true) G
theorem nil_law_alike (Γ : Cs) : ∀ ds G Q E, sp_law_alike 0 Γ ds G Q E → False := by
  rintro ds G Q E ⟨a, b, rfl, h, _⟩
  exact h
abbrev N_law_alike : List Str := ["_law_found", "_law_due", "_law_k"]
def t_law_alike_L1 (spr : DSp) (Γ : Cs) (ED : DXK) : DTS := dIf (dNot (dTest (dCall spr (wx ED) (daCons (dOp ixR (dVar 0) (dVar 2)) (daCons (dOp ixR (dVar 1) (dVar 2)) (daNil)))))) (dRet (dC (.bl false))) (dNext)
def t_law_alike (spr : DSp) (Γ : Cs) (ED : DXK) : DTS := dSeq (dIf (dTest (dOp (isNR false) (dVar 1) (dC .non))) (dRet (dOp (isNR false) (dVar 0) (dC .non))) (dNext)) (dSeq (dIf (dTest (dCB isiR (daCons (dVar 1) (daCons (dC (.ty "bool")) (daNil))))) (dRet (dAndV (dCB isiR (daCons (dVar 0) (daCons (dC (.ty "bool")) (daNil)))) (dOp eqR (dVar 0) (dVar 1)))) (dNext)) (dSeq (dIf (dTest (dCB isiR (daCons (dVar 1) (daCons (dC (.ty "int")) (daNil))))) (dRet (dAndV (dCB isiR (daCons (dVar 0) (daCons (dC (.ty "int")) (daNil)))) (dAndV (dNotV (dCB isiR (daCons (dVar 0) (daCons (dC (.ty "bool")) (daNil))))) (dOp eqR (dVar 0) (dVar 1))))) (dNext)) (dSeq (dIf (dTest (dCB isiR (daCons (dVar 1) (daCons (dC (.ty "str")) (daNil))))) (dRet (dAndV (dCB isiR (daCons (dVar 0) (daCons (dC (.ty "str")) (daNil)))) (dOp eqR (dVar 0) (dVar 1)))) (dNext)) (dSeq (dIf (dOr (dTest (dOp neR (dCB isiR (daCons (dVar 1) (daCons (dC (.ty "tuple")) (daNil)))) (dCB isiR (daCons (dVar 0) (daCons (dC (.ty "tuple")) (daNil)))))) (dTest (dOp neR (dCB isiR (daCons (dVar 1) (daCons (dC (.ty "list")) (daNil)))) (dCB isiR (daCons (dVar 0) (daCons (dC (.ty "list")) (daNil))))))) (dRet (dC (.bl false))) (dNext)) (dSeq (dIf (dTest (dOp neR (dCB lenR (daCons (dVar 0) (daNil))) (dCB lenR (daCons (dVar 1) (daNil))))) (dRet (dC (.bl false))) (dNext)) (dSeq (dFor (diRng (daCons (dCB lenR (daCons (dVar 1) (daNil))) (daNil))) (dgName 2) (t_law_alike_L1 spr Γ ED)) (dRet (dC (.bl true)))))))))
theorem atI_i {α : Type} {xs : List α} {i : Nat} {x : α} (h : xs[i]? = some x) : atI xs (i : Int) = some x := by
  have hi : i < xs.length := (List.getElem?_eq_some_iff.mp h).1
  rw [atI_nat hi]
  rw [List.getElem?_eq_getElem hi] at h
  exact h
theorem rngD_at {n i : Nat} {x : D} (h : (rngD 0 n)[i]? = some x) : i < n ∧ x = .int (i : Nat) := by
  unfold rngD at h
  rw [List.getElem?_map] at h
  cases e : (List.range n)[i]? with
  | none => rw [e] at h; cases h
  | some j =>
    rw [e] at h
    have hj : i < (List.range n).length := (List.getElem?_eq_some_iff.mp e).1
    rw [List.getElem?_eq_getElem hj] at e
    simp at e
    simp at hj
    subst e
    simp at h
    exact ⟨hj, h.symm⟩
theorem rngD_len {lo : Int} {n : Nat} : (rngD lo n).length = n := by simp [rngD]
theorem pure_law_alike (n : Nat) (Γ : Cs) : ∀ ds G Q E, sp_law_alike (n + 1) Γ ds G Q E → t_law_alike (sp_law_alike n Γ) Γ E { nx := fun _ G => Q .non G, rt := Q } (dstart N_law_alike ds) G := by
  rintro ds G Q E ⟨a, b, rfl, h, q⟩
  cases a <;> cases b <;> simp only [same] at h
  case non.non => simp [t_law_alike]; exact q
  case bl.bl => subst h; simp [t_law_alike]; exact q
  case int.int => subst h; simp [t_law_alike]; exact q
  case str.str => subst h; simp [t_law_alike]; exact q
  case tup.tup xs ys =>
    obtain ⟨h1, h2, h3⟩ := h
    simp [t_law_alike, h1]
    refine ⟨by omega, ?_⟩
    refine loop_ind (fun i sd G' => G' = G ∧ ∃ z, sd = [some (.tup xs), some (.tup ys), z]) (fun _ _ _ _ => trivial) ?_ ?_ ⟨rfl, _, rfl⟩
    · rintro i x sd G' K hx ⟨rfl, z, rfl⟩ hK
      obtain ⟨hi, rfl⟩ := rngD_at hx
      obtain ⟨u, hu⟩ : ∃ u, xs[i]? = some u := ⟨xs[i], by simp [h1, hi]⟩
      obtain ⟨v, hv⟩ : ∃ u, ys[i]? = some u := ⟨ys[i], by simp⟩
      simp [t_law_alike_L1, atI_i hu, atI_i hv]
      refine call2 ⟨h3 i u v hu hv, ?_⟩
      simp
      exact hK _ _ ⟨rfl, _, rfl⟩
    · rintro sd G' ⟨rfl, z, rfl⟩
      simp
      exact q
  case ref.ref p p' =>
    obtain ⟨xs, ys, g1, g2, h1, h2, h3⟩ := h
    simp [t_law_alike, g1, g2, h1, tyN]
    refine ⟨by omega, ?_⟩
    refine loop_ind (fun i sd G' => G' = G ∧ ∃ z, sd = [some (.ref p), some (.ref p'), z]) (fun _ _ _ _ => trivial) ?_ ?_ ⟨rfl, _, rfl⟩
    · rintro i x sd G' K hx ⟨rfl, z, rfl⟩ hK
      obtain ⟨hi, rfl⟩ := rngD_at hx
      obtain ⟨u, hu⟩ : ∃ u, xs[i]? = some u := ⟨xs[i], by simp [h1, hi]⟩
      obtain ⟨v, hv⟩ : ∃ u, ys[i]? = some u := ⟨ys[i], by simp⟩
      simp [t_law_alike_L1, g1, g2, atI_i hu, atI_i hv]
      refine call2 ⟨h3 i u v hu hv, ?_⟩
      simp [g1, g2]
      exact hK _ _ ⟨rfl, _, rfl⟩
    · rintro sd G' ⟨rfl, z, rfl⟩
      simp
      exact q
end DL
set_option Elab.async false
set_option linter.all false
set_option maxRecDepth 100000
set_option maxHeartbeats 4000000
namespace DL
open PySem PySem.Spec L2
/-! ### ids, parts -/
def isId : D → Bool
  | .tup [a, b] => isNum 0 5 a && isNum 0 1000000 b
  | _ => false
def sp_is_id (Γ : Cs) : DSp := sp1 fun d G Q _ => (tyN G d).isSome ∧ (∀ ds x, d = .tup ds → x ∈ ds → (tyN G x).isSome) ∧ Q (.bl (isId d)) G
abbrev N_is_id : List Str := ["thing"]
def t_is_id (Γ : Cs) (ED : DXK) : DTS := dSeq (dIf (dOr (dNot (dTest (dCB isiR (daCons (dVar 0) (daCons (dC (.ty "tuple")) (daNil)))))) (dTest (dOp neR (dCB lenR (daCons (dVar 0) (daNil))) (dC (.int 2))))) (dRet (dC (.bl false))) (dNext)) (dRet (dAndV (dCall (sp_is_number Γ) (wx ED) (daCons (dOp ixR (dVar 0) (dC (.int 0))) (daCons (dC (.int 0)) (daCons (dOp subR (dC (.int 6)) (dC (.int 1))) (daNil))))) (dCall (sp_is_number Γ) (wx ED) (daCons (dOp ixR (dVar 0) (dC (.int 1))) (daCons (dC (.int 0)) (daCons (dC (.int 1000000)) (daNil)))))))
theorem pure_is_id (Γ : Cs) : ∀ ds G Q E, sp_is_id Γ ds G Q E → t_is_id Γ E { nx := fun _ G => Q .non G, rt := Q } (dstart N_is_id ds) G := by
  rintro ds G Q E ⟨d, rfl, h, h2, q⟩
  obtain ⟨a, ha⟩ := Option.isSome_iff_exists.mp h
  cases d
  case ref p => 
    rcases tyN_ref ha with rfl | rfl <;> simp [t_is_id, isId, ha] at * <;> exact q
  case tup ds =>
    match ds, h2, q with
    | [x, y], h2, q =>
      have hx := h2 _ x rfl (by simp)
      have hy := h2 _ y rfl (by simp)
      simp [t_is_id]
      refine call3 ⟨_, _, rfl, rfl, hx, ?_⟩
      simp
      refine iteP_of (fun h => ?_) fun h => ?_
      · simp
        refine call3 ⟨_, _, rfl, rfl, hy, ?_⟩
        simpa [isId, h] using q
      · simpa [isId, h] using q
    | [], h2, q => simp [t_is_id]; exact q
    | [x], h2, q => simp [t_is_id]; exact q
    | x :: y :: z :: r, h2, q => 
      have : ¬ ((r.length : Int) + 1 + 1 + 1 = 2) := by omega
      simp [t_is_id, this]; exact q
  case ty => simp at h
  all_goals (simp [t_is_id, isId] at * <;> exact q)
end DL
set_option Elab.async false
set_option linter.all false
set_option maxRecDepth 100000
set_option maxHeartbeats 4000000
namespace DL
open PySem PySem.Spec L2
/-- a part of the sort that a letter tells -/
def isPart (c : Str) (d : D) : Bool := if c = "t" then isId d else if c = "e" then isNum 0 5 d else isNum 0 9999 d
def sp_is_part (Γ : Cs) : DSp := sp2 fun s d G Q _ => ∃ c, s = .str c ∧ tyd G d ∧ Q (.bl (isPart c d)) G
abbrev N_is_part : List Str := ["sort", "part"]
def t_is_part (Γ : Cs) (ED : DXK) : DTS := dSeq (dIf (dTest (dOp eqR (dVar 0) (dC (.str "t")))) (dRet (dCall (sp_is_id Γ) (wx ED) (daCons (dVar 1) (daNil)))) (dNext)) (dRet (dCall (sp_is_number Γ) (wx ED) (daCons (dVar 1) (daCons (dC (.int 0)) (daCons (dIfE (dTest (dOp eqR (dVar 0) (dC (.str "e")))) (dOp subR (dC (.int 6)) (dC (.int 1))) (dC (.int 9999))) (daNil))))))
theorem pure_is_part (Γ : Cs) : ∀ ds G Q E, sp_is_part Γ ds G Q E → t_is_part Γ E { nx := fun _ G => Q .non G, rt := Q } (dstart N_is_part ds) G := by
  rintro ds G Q E ⟨s, d, rfl, c, rfl, ⟨h1, h2⟩, q⟩
  unfold isPart at q
  by_cases ht : c = "t"
  · rw [if_pos ht] at q
    subst ht
    simp [t_is_part]
    exact call1 ⟨h1, h2, q⟩
  · rw [if_neg ht] at q
    by_cases he : c = "e"
    · rw [if_pos he] at q
      subst he
      simp [t_is_part, ht]
      exact call3 ⟨_, _, rfl, rfl, h1, q⟩
    · rw [if_neg he] at q
      simp [t_is_part, ht, he]
      exact call3 ⟨_, _, rfl, rfl, h1, q⟩
/-! ### rows of a log -/
inductive Row where
  | made (e : Int) (t : Int × Int) (n : Int)
  | changed (e : Int) (t : Int × Int) (n : Int)
  | thrown (e : Int) (t : Int × Int)
  | moved (e : Int) (t : Int × Int) (g : Int) (u : Int × Int)
  | copied (e : Int) (t : Int × Int) (g : Int) (u : Int × Int) (n : Int)
def tD (t : Int × Int) : D := .tup [.int t.1, .int t.2]
def rowD : Row → D
  | .made e t n => .tup [.str "made", .int e, tD t, .int n]
  | .changed e t n => .tup [.str "changed", .int e, tD t, .int n]
  | .thrown e t => .tup [.str "thrown", .int e, tD t]
  | .moved e t g u => .tup [.str "moved", .int e, tD t, .int g, tD u]
  | .copied e t g u n => .tup [.str "copied", .int e, tD t, .int g, tD u, .int n]
def okE (e : Int) : Bool := decide (0 ≤ e) && decide (e ≤ 5)
def okLt (t : Int × Int) : Bool := okE t.1 && (decide (0 ≤ t.2) && decide (t.2 ≤ 1000000))
def okLn (n : Int) : Bool := decide (0 ≤ n) && decide (n ≤ 9999)
def okLg : Row → Bool
  | .made e t n => okE e && (okLt t && okLn n)
  | .changed e t n => okE e && (okLt t && okLn n)
  | .thrown e t => okE e && okLt t
  | .moved e t g u => okE e && (okLt t && (okE g && okLt u))
  | .copied e t g u n => okE e && (okLt t && (okE g && (okLt u && okLn n)))
theorem tD_tyd {G : Gp} {t : Int × Int} : tyd G (tD t) := by
  refine ⟨rfl, fun ds x e hx => ?_⟩
  cases e
  simp at hx
  rcases hx with rfl | rfl <;> rfl
theorem int_tyd {G : Gp} {t : Int} : tyd G (.int t) := ⟨rfl, fun ds x e hx => nomatch e⟩
theorem okLt_id {t : Int × Int} : isId (tD t) = okLt t := rfl

theorem isPart_e {d : D} : isPart ⟨#[101]⟩ d = isNum 0 5 d := by
  unfold isPart
  rw [if_neg (by decide), if_pos (by decide)]
theorem isPart_t {d : D} : isPart ⟨#[116]⟩ d = isId d := by
  unfold isPart
  rw [if_pos (by decide)]
theorem isPart_n {d : D} : isPart ⟨#[110]⟩ d = isNum 0 9999 d := by
  unfold isPart
  rw [if_neg (by decide), if_neg (by decide)]
/-- what a row's parts are to be -/
def PartsOk (s : Str) (ds : List D) : Prop := ∀ (i : Nat) (ch : Nat), s.cps.toList[i]? = some ch → ∃ d, ds[i + 1]? = some d ∧ (∀ G, tyd G d) ∧ isPart ⟨#[ch]⟩ d = true
def shapeOf : Row → Str
  | .made .. => "etn"
  | .changed .. => "etn"
  | .thrown .. => "et"
  | .moved .. => "etet"
  | .copied .. => "etetn"
def partsOf : Row → List D
  | .made e t n => [.str "made", .int e, tD t, .int n]
  | .changed e t n => [.str "changed", .int e, tD t, .int n]
  | .thrown e t => [.str "thrown", .int e, tD t]
  | .moved e t g u => [.str "moved", .int e, tD t, .int g, tD u]
  | .copied e t g u n => [.str "copied", .int e, tD t, .int g, tD u, .int n]
theorem rowD_eq (r : Row) : rowD r = .tup (partsOf r) := by cases r <;> rfl
theorem c_etn : ("etn" : Str).cps.toList = [101, 116, 110] := by decide +kernel
theorem c_et : ("et" : Str).cps.toList = [101, 116] := by decide +kernel
theorem c_etet : ("etet" : Str).cps.toList = [101, 116, 101, 116] := by decide +kernel
theorem c_etetn : ("etetn" : Str).cps.toList = [101, 116, 101, 116, 110] := by decide +kernel
theorem lk_made : List.lookup ("made" : Str) ([("made", some "etn"), ("changed", some "etn"), ("thrown", some "et"), ("moved", some "etet"), ("copied", some "etetn")] : List (Str × Option Str)) = some (some ("etn" : Str)) := by decide +kernel
theorem lk_changed : List.lookup ("changed" : Str) ([("made", some "etn"), ("changed", some "etn"), ("thrown", some "et"), ("moved", some "etet"), ("copied", some "etetn")] : List (Str × Option Str)) = some (some ("etn" : Str)) := by decide +kernel
theorem lk_thrown : List.lookup ("thrown" : Str) ([("made", some "etn"), ("changed", some "etn"), ("thrown", some "et"), ("moved", some "etet"), ("copied", some "etetn")] : List (Str × Option Str)) = some (some ("et" : Str)) := by decide +kernel
theorem lk_moved : List.lookup ("moved" : Str) ([("made", some "etn"), ("changed", some "etn"), ("thrown", some "et"), ("moved", some "etet"), ("copied", some "etetn")] : List (Str × Option Str)) = some (some ("etet" : Str)) := by decide +kernel
theorem lk_copied : List.lookup ("copied" : Str) ([("made", some "etn"), ("changed", some "etn"), ("thrown", some "et"), ("moved", some "etet"), ("copied", some "etetn")] : List (Str × Option Str)) = some (some ("etetn" : Str)) := by decide +kernel
theorem shape_len {r : Row} : (shapeOf r).length ≤ 10 := by
  cases r
  · exact (by decide +kernel : ("etn" : Str).length ≤ 10)
  · exact (by decide +kernel : ("etn" : Str).length ≤ 10)
  · exact (by decide +kernel : ("et" : Str).length ≤ 10)
  · exact (by decide +kernel : ("etet" : Str).length ≤ 10)
  · exact (by decide +kernel : ("etetn" : Str).length ≤ 10)
theorem okE_num {e : Int} (h : okE e = true) : isNum 0 5 (.int e) = true := h
theorem parts_ok {r : Row} (h : okLg r = true) : PartsOk (shapeOf r) (partsOf r) := by
  have pe : ∀ {e : Int}, okE e = true → (∀ G, tyd G (.int e)) ∧ isPart ⟨#[101]⟩ (.int e) = true := fun h => ⟨fun G => int_tyd, by rw [isPart_e]; exact h⟩
  have pt : ∀ {t : Int × Int}, okLt t = true → (∀ G, tyd G (tD t)) ∧ isPart ⟨#[116]⟩ (tD t) = true := fun h => ⟨fun G => tD_tyd, by rw [isPart_t]; exact h⟩
  have pn : ∀ {e : Int}, okLn e = true → (∀ G, tyd G (.int e)) ∧ isPart ⟨#[110]⟩ (.int e) = true := fun h => ⟨fun G => int_tyd, by rw [isPart_n]; exact h⟩
  intro i ch hi
  cases r <;> simp only [okLg, Bool.and_eq_true] at h <;> simp only [shapeOf, c_etn, c_et, c_etet, c_etetn] at hi
  case made e t n =>
    rcases i with _ | _ | _ | i <;> simp at hi
    · subst hi; exact ⟨_, rfl, pe h.1⟩
    · subst hi; exact ⟨_, rfl, pt h.2.1⟩
    · subst hi; exact ⟨_, rfl, pn h.2.2⟩
  case changed e t n =>
    rcases i with _ | _ | _ | i <;> simp at hi
    · subst hi; exact ⟨_, rfl, pe h.1⟩
    · subst hi; exact ⟨_, rfl, pt h.2.1⟩
    · subst hi; exact ⟨_, rfl, pn h.2.2⟩
  case thrown e t =>
    rcases i with _ | _ | i <;> simp at hi
    · subst hi; exact ⟨_, rfl, pe h.1⟩
    · subst hi; exact ⟨_, rfl, pt h.2⟩
  case moved e t g u =>
    rcases i with _ | _ | _ | _ | i <;> simp at hi
    · subst hi; exact ⟨_, rfl, pe h.1⟩
    · subst hi; exact ⟨_, rfl, pt h.2.1⟩
    · subst hi; exact ⟨_, rfl, pe h.2.2.1⟩
    · subst hi; exact ⟨_, rfl, pt h.2.2.2⟩
  case copied e t g u n =>
    rcases i with _ | _ | _ | _ | _ | i <;> simp at hi
    · subst hi; exact ⟨_, rfl, pe h.1⟩
    · subst hi; exact ⟨_, rfl, pt h.2.1⟩
    · subst hi; exact ⟨_, rfl, pe h.2.2.1⟩
    · subst hi; exact ⟨_, rfl, pt h.2.2.2.1⟩
    · subst hi; exact ⟨_, rfl, pn h.2.2.2.2⟩
theorem enumD_get {xs : List D} {i : Nat} {x : D} (h : (enumD xs)[i]? = some x) : ∃ d, xs[i]? = some d ∧ x = .tup [.int (i : Nat), d] := by
  unfold enumD at h
  rw [List.getElem?_mapIdx] at h
  cases e : xs[i]? with
  | none => rw [e] at h; cases h
  | some d => rw [e] at h; cases h; exact ⟨d, rfl, rfl⟩
theorem enumD_len {xs : List D} : (enumD xs).length = xs.length := by simp [enumD]
theorem dat_tD {n : Nat} {t : Int × Int} : dat (n + 1) (tD t) = true := by simp [tD, dat, dat_int]
theorem dat_row {n : Nat} {r : Row} : dat (n + 2) (rowD r) = true := by
  cases r <;> simp [rowD, dat, dat_int, dat_str, tD]
end DL
set_option Elab.async false
set_option linter.all false
set_option maxRecDepth 100000
set_option maxHeartbeats 4000000
namespace DL
open PySem PySem.Spec L2
/-! ### a record of what is where -/
abbrev Id := Int × Int
abbrev Wh := List (Id × Id)
theorem tD_inj {a b : Id} (h : tD a = tD b) : a = b := by
  obtain ⟨a1, a2⟩ := a
  obtain ⟨b1, b2⟩ := b
  simp [tD] at h
  simp [h]
def whD (W : Wh) : List (D × D) := W.map fun q => (tD q.1, tD q.2)
def waD (S : List Id) : List (D × D) := S.map fun t => (tD t, .bl true)
def getW (W : Wh) (t : Id) : Option Id := (W.find? fun q => decide (q.1 = t)).map (·.2)
def putW (W : Wh) (t v : Id) : Wh := if (W.any fun q => decide (q.1 = t)) = true then W.map (fun q => if q.1 = t then (q.1, v) else q) else W ++ [(t, v)]
def dropW (W : Wh) (t : Id) : Wh := W.filter fun q => decide (q.1 ≠ t)
theorem dec_tD {a b : Id} : decide (tD a = tD b) = decide (a = b) := by
  by_cases h : a = b
  · subst h; simp
  · rw [decide_eq_false h, decide_eq_false fun z => h (tD_inj z)]
theorem valD_wh (W : Wh) (t : Id) : valD (whD W) (tD t) = (getW W t).map tD := by
  unfold valD getW whD
  induction W with
  | nil => rfl
  | cons q W ih =>
    simp only [List.map_cons, List.find?_cons, dec_tD]
    by_cases h : q.1 = t
    · simp [h]
    · simp [h]
      simpa using ih
theorem putD_wh (W : Wh) (t v : Id) : putD (whD W) (tD t) (tD v) = whD (putW W t v) := by
  unfold putD putW
  have e : ((whD W).any fun kv => decide (kv.1 = tD t)) = W.any fun q => decide (q.1 = t) := by
    unfold whD
    rw [List.any_map]
    congr 1
    funext q
    exact dec_tD
  rw [e]
  split
  · unfold whD
    rw [List.map_map, List.map_map]
    congr 1
    funext q
    by_cases h : q.1 = t
    · simp [h]
    · have : ¬ tD q.1 = tD t := fun z => h (tD_inj z)
      simp [h, this]
  · simp [whD]
theorem dropD_wh (W : Wh) (t : Id) : dropD (whD W) (tD t) = whD (dropW W t) := by
  unfold dropD dropW whD
  rw [List.filter_map]
  congr 2
  funext q
  show decide (tD q.1 ≠ tD t) = decide (q.1 ≠ t)
  by_cases h : q.1 = t
  · simp [h]
  · have : ¬ tD q.1 = tD t := fun z => h (tD_inj z)
    simp [h, this]
theorem valD_wa (S : List Id) (t : Id) : (valD (waD S) (tD t)).isSome = decide (t ∈ S) := by
  unfold valD waD
  induction S with
  | nil => rfl
  | cons q S ih =>
    simp only [List.map_cons, List.find?_cons, dec_tD]
    by_cases h : q = t
    · simp [h]
    · have h' : ¬ t = q := fun z => h z.symm
      simp [h, h']
      simpa using ih
theorem putD_wa {S : List Id} {t : Id} (h : t ∉ S) : putD (waD S) (tD t) (.bl true) = waD (S ++ [t]) := by
  unfold putD
  have e : ((waD S).any fun kv => decide (kv.1 = tD t)) = false := by
    unfold waD
    rw [List.any_map, List.any_eq_false]
    intro q hq
    show ¬ decide (tD q = tD t) = true
    rw [dec_tD]
    intro z
    have := of_decide_eq_true z
    subst this
    exact h hq
  rw [e]
  simp [waD]
theorem putW_len (W : Wh) (t v : Id) : (putW W t v).length ≤ W.length + 1 := by
  unfold putW
  split <;> simp
theorem dropW_len (W : Wh) (t : Id) : (dropW W t).length ≤ W.length := List.length_filter_le _ _
@[simp] theorem keyOk_tD {t : Id} : keyOk true (tD t) = true := rfl
structure RecAt (Γ : Cs) (G : Gp) (r a b : Addr) (W : Wh) (S : List Id) : Prop where
  hr : G r = some (.ins Γ.cRecord nRecord [.ref a, .ref b])
  ha : G a = some (.dict true (whD W))
  hb : G b = some (.dict true (waD S))
  ab : a ≠ b
  wl : W.length < 1000000
  sl : S.length < 1000000
theorem RecAt.ra {Γ : Cs} {G : Gp} {r a b : Addr} {W : Wh} {S : List Id} (h : RecAt Γ G r a b W S) : r ≠ a := fun z => by
  have := h.hr; rw [z, h.ha] at this; cases this
theorem RecAt.rb {Γ : Cs} {G : Gp} {r a b : Addr} {W : Wh} {S : List Id} (h : RecAt Γ G r a b W S) : r ≠ b := fun z => by
  have := h.hr; rw [z, h.hb] at this; cases this
def sp_Record_init__ (Γ : Cs) : DSp := sp1 fun s G Q _ => ∃ r, s = .ref r ∧ G r = some (.ins Γ.cRecord nRecord []) ∧ ∀ a b G', G a = none → G b = none → RecAt Γ G' r a b [] [] → (∀ x o, x ≠ r → G x = some o → G' x = some o) → Q .non G'
abbrev N_Record_init__ : List Str := ["self"]
def t_Record_init__ (Γ : Cs) (ED : DXK) : DTS := dSeq (dsFld Γ.cRecord nRecord 0 (dVar 0) (dNewD true)) (dsFld Γ.cRecord nRecord 1 (dVar 0) (dNewD true))
theorem pure_Record_init__ (Γ : Cs) : ∀ ds G Q E, sp_Record_init__ Γ ds G Q E → t_Record_init__ Γ E { nx := fun _ G => Q .non G, rt := Q } (dstart N_Record_init__ ds) G := by
  rintro ds G Q E ⟨s, rfl, r, rfl, g, q⟩
  simp [t_Record_init__]
  intro p hp
  have n1 := Nw.ne g hp
  simp [put_at, n1, g, storeF]
  intro p2 hp2
  simp only [nw_put] at hp2
  obtain ⟨e1, e1', e2, e2', hp2⟩ := hp2
  simp [put_at, n1, g, storeF, e1, e1', e2, e2']
  refine q p p2 _ hp hp2 ⟨by simp [put_at, e1'], by simp [put_at, n1, e2', whD], by simp [put_at, e1, waD], e2', by simp, by simp⟩ fun x o hx ho => ?_
  have x1 := ne_fr ho hp
  have x2 := ne_fr ho hp2
  simp [put_at, hx, x1, x2, ho]
def hereW (W : Wh) (e : Int) (t : Id) : Bool := match getW W t with
  | some v => decide (v.1 = e)
  | none => false
def sp_Record_is_here (Γ : Cs) : DSp := sp3 fun s e t G Q _ => ∃ r a b W S e0 t0, s = .ref r ∧ e = .int e0 ∧ t = tD t0 ∧ RecAt Γ G r a b W S ∧ Q (.bl (hereW W e0 t0)) G
abbrev N_Record_is_here : List Str := ["self", "end", "thing"]
def t_Record_is_here (Γ : Cs) (ED : DXK) : DTS := dRet (dOp eqR (dOp ixR (dBM "dict" getR (dFld Γ.cRecord nRecord 0 (dVar 0)) (daCons (dVar 2) (daCons (dTup (daCons (dC .non) (daCons (dC .non) (daNil)))) (daNil)))) (dC (.int 0))) (dVar 1))
theorem pure_Record_is_here (Γ : Cs) : ∀ ds G Q E, sp_Record_is_here Γ ds G Q E → t_Record_is_here Γ E { nx := fun _ G => Q .non G, rt := Q } (dstart N_Record_is_here ds) G := by
  rintro ds G Q E ⟨s, e, t, rfl, r, a, b, W, S, e0, t0, rfl, rfl, rfl, R, q⟩
  simp [t_Record_is_here, R.hr, R.ha, valD_wh]
  unfold hereW at q
  cases h : getW W t0 with
  | none => rw [h] at q; simpa using q
  | some v => rw [h] at q; simpa [tD] using q
def newM (W : Wh) (S : List Id) (e : Int) (t : Id) (n : Int) : Option (Wh × List Id) := if t ∈ S ∨ t.1 ≠ e then none else some (putW W t (e, n), S ++ [t])
def sp_Record_new (Γ : Cs) : DSp := sp4 fun s e t n G Q _ => ∃ r a b W S e0 t0 n0, s = .ref r ∧ e = .int e0 ∧ t = tD t0 ∧ n = .int n0 ∧ RecAt Γ G r a b W S ∧ W.length + 2 < 1000000 ∧ S.length + 2 < 1000000 ∧
  match newM W S e0 t0 n0 with
  | none => Q (.bl false) G
  | some (W', S') => ∀ G', RecAt Γ G' r a b W' S' → Exc a b G G' → Q (.bl true) G'
abbrev N_Record_new : List Str := ["self", "end", "thing", "number"]
def t_Record_new (Γ : Cs) (ED : DXK) : DTS := dSeq (dIf (dOr (dTest (dOp (inR false) (dVar 2) (dFld Γ.cRecord nRecord 1 (dVar 0)))) (dTest (dOp neR (dOp ixR (dVar 2) (dC (.int 0))) (dVar 1)))) (dRet (dC (.bl false))) (dNext)) (dSeq (dAsg (dC (.bl true)) (dgSub (dFld Γ.cRecord nRecord 1 (dVar 0)) (dVar 2))) (dSeq (dAsg (dTup (daCons (dVar 1) (daCons (dVar 3) (daNil)))) (dgSub (dFld Γ.cRecord nRecord 0 (dVar 0)) (dVar 2))) (dRet (dC (.bl true)))))
theorem pure_Record_new (Γ : Cs) : ∀ ds G Q E, sp_Record_new Γ ds G Q E → t_Record_new Γ E { nx := fun _ G => Q .non G, rt := Q } (dstart N_Record_new ds) G := by
  rintro ds G Q E ⟨s, e, t, n, rfl, r, a, b, W, S, e0, t0, n0, rfl, rfl, rfl, rfl, R, wl, sl, q⟩
  have v : (valD (waD S) (tD t0)).isSome = decide (t0 ∈ S) := valD_wa S t0
  simp [t_Record_new, R.hr, R.hb, v]
  unfold newM at q
  by_cases h1 : t0 ∈ S
  · simp [h1] at q ⊢
    exact q
  · by_cases h2 : t0.1 = e0
    · have ab := R.ab
      have ba := Ne.symm ab
      have ra := R.ra
      have rb := R.rb
      have z1 : (waD S).length < sizeLine := by rw [sizeLine_eq]; simp [waD]; omega
      have z2 : (whD W).length < sizeLine := by rw [sizeLine_eq]; simp [whD]; omega
      have pw := putD_wh W t0 (e0, n0)
      have pa := putD_wa h1
      simp [h1, h2] at q
      obtain ⟨t1, t2⟩ := t0
      have h2' : t1 = e0 := h2
      subst h2'
      simp only [tD] at pw pa
      simp [h1, tD, put_at, R.hr, R.ha, R.hb, ab, ba, ra, rb, pw, pa]
      refine ⟨z1, z2, q _ ⟨by simp [put_at, R.hr, ra, rb], by simp [put_at], by simp [put_at, ba], ab, ?_, by simp; omega⟩ fun x o hx1 hx2 ho => by simp [put_at, hx1, hx2, ho]⟩
      have := putW_len W (t1, t2) (t1, n0)
      omega
    · simp [h1, h2] at q
      simp [h1, tD, h2]
      exact q
end DL
set_option Elab.async false
set_option linter.all false
set_option maxRecDepth 100000
set_option maxHeartbeats 4000000
namespace DL
open PySem PySem.Spec L2
/-! ### one row -/
def stepW (W : Wh) (S : List Id) : Row → Option (Wh × List Id)
  | .made e t n => newM W S e t n
  | .changed e t n => if hereW W e t = true then some (putW W t (e, n), S) else none
  | .thrown e t => if hereW W e t = true then some (dropW W t, S) else none
  | .moved e t g u => match getW W t with
    | some v => if v.1 = e ∧ g ≠ e then newM (dropW W t) S g u v.2 else none
    | none => none
  | .copied e t g u n => match getW W t with
    | some v => if v.1 = e ∧ g ≠ e ∧ n = v.2 then newM W S g u v.2 else none
    | none => none
theorem cut_3 {x y z : D} {r : List D} : cutD (x :: y :: z :: r) none (some 3) = [x, y, z] := by
  simp [cutD, HT.sIx]
def sp_Record_go (Γ : Cs) : DSp := sp2 fun s row G Q _ => ∃ r a b W S x, s = .ref r ∧ row = rowD x ∧ RecAt Γ G r a b W S ∧ W.length + 3 < 1000000 ∧ S.length + 3 < 1000000 ∧
  match stepW W S x with
  | none => ∀ G', Exc a b G G' → Q (.bl false) G'
  | some (W', S') => ∀ G', RecAt Γ G' r a b W' S' → Exc a b G G' → Q (.bl true) G'
abbrev N_Record_go : List Str := ["self", "row", "word", "end", "thing", "number"]
def t_Record_go (Γ : Cs) (ED : DXK) : DTS := dSeq (dAsg (dSl (dVar 1) (doNone) (doSome (dC (.int 3)))) (dgTup 3 (dgCons (dgName 2) (dgCons (dgName 3) (dgCons (dgName 4) (dgNil)))))) (dSeq (dIf (dTest (dOp eqR (dVar 2) (dC (.str "made")))) (dRet (dMeth Γ.cRecord nRecord (sp_Record_new Γ) (wx ED) (dVar 0) (daCons (dVar 3) (daCons (dVar 4) (daCons (dOp ixR (dVar 1) (dC (.int 3))) (daNil)))))) (dNext)) (dSeq (dIf (dNot (dTest (dMeth Γ.cRecord nRecord (sp_Record_is_here Γ) (wx ED) (dVar 0) (daCons (dVar 3) (daCons (dVar 4) (daNil)))))) (dRet (dC (.bl false))) (dNext)) (dSeq (dAsg (dOp ixR (dOp ixR (dFld Γ.cRecord nRecord 0 (dVar 0)) (dVar 4)) (dC (.int 1))) (dgName 5)) (dSeq (dIf (dTest (dOp eqR (dVar 2) (dC (.str "changed")))) (dSeq (dAsg (dTup (daCons (dVar 3) (daCons (dOp ixR (dVar 1) (dC (.int 3))) (daNil)))) (dgSub (dFld Γ.cRecord nRecord 0 (dVar 0)) (dVar 4))) (dRet (dC (.bl true)))) (dNext)) (dSeq (dIf (dTest (dOp (inR false) (dVar 2) (dTup (daCons (dC (.str "thrown")) (daCons (dC (.str "moved")) (daNil)))))) (dSeq (dIf (dAnd (dTest (dOp eqR (dVar 2) (dC (.str "moved")))) (dTest (dOp eqR (dOp ixR (dVar 1) (dC (.int 3))) (dVar 3)))) (dRet (dC (.bl false))) (dNext)) (dSeq (dDrop (dBM "dict" dpopR (dFld Γ.cRecord nRecord 0 (dVar 0)) (daCons (dVar 4) (daNil)))) (dRet (dOrV (dOp eqR (dVar 2) (dC (.str "thrown"))) (dMeth Γ.cRecord nRecord (sp_Record_new Γ) (wx ED) (dVar 0) (daCons (dOp ixR (dVar 1) (dC (.int 3))) (daCons (dOp ixR (dVar 1) (dC (.int 4))) (daCons (dVar 5) (daNil))))))))) (dNext)) (dRet (dAndV (dOp neR (dOp ixR (dVar 1) (dC (.int 3))) (dVar 3)) (dAndV (dOp eqR (dOp ixR (dVar 1) (dC (.int 5))) (dVar 5)) (dMeth Γ.cRecord nRecord (sp_Record_new Γ) (wx ED) (dVar 0) (daCons (dOp ixR (dVar 1) (dC (.int 3))) (daCons (dOp ixR (dVar 1) (dC (.int 4))) (daCons (dVar 5) (daNil)))))))))))))
/-- the call of new -/
theorem new_at {Γ : Cs} {G0 G : Gp} {r a b : Addr} {W : Wh} {S : List Id} {e : Int} {t : Id} {n : Int} {Q : DQ} {E : DXK} {ts tq te} (R : RecAt Γ G r a b W S) (wl : W.length + 2 < 1000000) (sl : S.length + 2 < 1000000) (x : Exc a b G0 G)
    (q : match newM W S e t n with | none => ∀ G', Exc a b G0 G' → Q (.bl false) G' | some (W', S') => ∀ G', RecAt Γ G' r a b W' S' → Exc a b G0 G' → Q (.bl true) G') :
    callP (sp_Record_new Γ) [.ref r, .int e, tD t, .int n] G Q E ts tq te := by
  refine call4 ⟨r, a, b, W, S, e, t, n, rfl, rfl, rfl, rfl, R, wl, sl, ?_⟩
  cases h : newM W S e t n with
  | none =>
    rw [h] at q
    exact q G x
  | some p =>
    rw [h] at q
    exact fun G' R' x' => q G' R' (x.trans x')
theorem pure_Record_go (Γ : Cs) : ∀ ds G Q E, sp_Record_go Γ ds G Q E → t_Record_go Γ E { nx := fun _ G => Q .non G, rt := Q } (dstart N_Record_go ds) G := by
  rintro ds G Q E ⟨s, row, rfl, r, a, b, W, S, x, rfl, rfl, R, wl, sl, q⟩
  have m1 : methO Γ.cRecord nRecord (G r) := by rw [R.hr]; simp
  have ra := R.ra
  have rb := R.rb
  have ab := R.ab
  have ba := Ne.symm ab
  cases x with
  | made e t n =>
    simp only [stepW] at q
    simp [t_Record_go, rowD, cut_3, m1]
    exact new_at R (by omega) (by omega) (.refl _ _ _) q
  | changed e t n =>
    simp only [stepW] at q
    simp [t_Record_go, rowD, cut_3, m1]
    refine call3 ⟨r, a, b, W, S, e, t, rfl, rfl, rfl, R, ?_⟩
    cases h : hereW W e t with
    | false =>
      simp [h] at q ⊢
      exact q _ (.refl _ _ _)
    | true =>
      simp [h] at q
      obtain ⟨v, hv, he⟩ : ∃ v, getW W t = some v ∧ v.1 = e := by
        unfold hereW at h
        cases g : getW W t with
        | none => rw [g] at h; cases h
        | some v => rw [g] at h; exact ⟨v, rfl, by simpa using h⟩
      obtain ⟨v1, v2⟩ := v
      have vv := valD_wh W t
      rw [hv] at vv
      have z2 : (whD W).length < sizeLine := by rw [sizeLine_eq]; simp [whD]; omega
      have pw := putD_wh W t (e, n)
      simp only [tD] at pw vv
      simp [R.hr, R.ha, vv, tD, z2, pw]
      exact q _ ⟨by simp [put_at, R.hr, ra], by simp [put_at], by simp [put_at, ba, R.hb], ab, by have := putW_len W t (e, n); omega, R.sl⟩ .putb
  | thrown e t =>
    simp only [stepW] at q
    simp [t_Record_go, rowD, cut_3, m1]
    refine call3 ⟨r, a, b, W, S, e, t, rfl, rfl, rfl, R, ?_⟩
    cases h : hereW W e t with
    | false =>
      simp [h] at q ⊢
      exact q _ (.refl _ _ _)
    | true =>
      simp [h] at q
      obtain ⟨v, hv, he⟩ : ∃ v, getW W t = some v ∧ v.1 = e := by
        unfold hereW at h
        cases g : getW W t with
        | none => rw [g] at h; cases h
        | some v => rw [g] at h; exact ⟨v, rfl, by simpa using h⟩
      obtain ⟨v1, v2⟩ := v
      have vv := valD_wh W t
      rw [hv] at vv
      have pw := dropD_wh W t
      simp only [tD] at pw vv
      simp [R.hr, R.ha, vv, tD, pw, dat, dat_str, peq_str]
      exact q _ ⟨by simp [put_at, R.hr, ra], by simp [put_at], by simp [put_at, ba, R.hb], ab, by have := dropW_len W t; omega, R.sl⟩ .putb
  | moved e t g u =>
    simp only [stepW] at q
    simp [t_Record_go, rowD, cut_3, m1]
    refine call3 ⟨r, a, b, W, S, e, t, rfl, rfl, rfl, R, ?_⟩
    cases h : hereW W e t with
    | false =>
      have qf : ∀ G', Exc a b G G' → Q (.bl false) G' := by
        unfold hereW at h
        cases g' : getW W t with
        | none => rw [g'] at q; exact q
        | some v =>
          rw [g'] at q h
          have : ¬ v.1 = e := by simpa using h
          simpa [this] using q
      simp [h]
      exact qf _ (.refl _ _ _)
    | true =>
      obtain ⟨v, hv, he⟩ : ∃ v, getW W t = some v ∧ v.1 = e := by
        unfold hereW at h
        cases g : getW W t with
        | none => rw [g] at h; cases h
        | some v => rw [g] at h; exact ⟨v, rfl, by simpa using h⟩
      obtain ⟨v1, v2⟩ := v
      have vv := valD_wh W t
      rw [hv] at vv
      rw [hv] at q
      have he' : v1 = e := he
      have pw := dropD_wh W t
      simp only [tD] at pw vv
      by_cases hg : g = e
      · simp [he', hg] at q
        simp [R.hr, R.ha, vv, tD, pw, dat, dat_str, peq_str, hg]
        exact q _ (.refl _ _ _)
      · simp [he', hg] at q
        have R' : RecAt Γ (put G a (.dict true (whD (dropW W t)))) r a b (dropW W t) S := ⟨by simp [put_at, R.hr, ra], by simp [put_at], by simp [put_at, ba, R.hb], ab, by have := dropW_len W t; omega, R.sl⟩
        have m2 : methO Γ.cRecord nRecord (put G a (.dict true (whD (dropW W t))) r) := by rw [R'.hr]; simp
        simp [R.hr, R.ha, vv, tD, pw, dat, dat_str, peq_str, hg, m2]
        exact new_at R' (by have := dropW_len W t; omega) (by omega) .putb q
  | copied e t g u n =>
    simp only [stepW] at q
    simp [t_Record_go, rowD, cut_3, m1]
    refine call3 ⟨r, a, b, W, S, e, t, rfl, rfl, rfl, R, ?_⟩
    cases h : hereW W e t with
    | false =>
      have qf : ∀ G', Exc a b G G' → Q (.bl false) G' := by
        unfold hereW at h
        cases g' : getW W t with
        | none => rw [g'] at q; exact q
        | some v =>
          rw [g'] at q h
          have : ¬ v.1 = e := by simpa using h
          simpa [this] using q
      simp [h]
      exact qf _ (.refl _ _ _)
    | true =>
      obtain ⟨v, hv, he⟩ : ∃ v, getW W t = some v ∧ v.1 = e := by
        unfold hereW at h
        cases g : getW W t with
        | none => rw [g] at h; cases h
        | some v => rw [g] at h; exact ⟨v, rfl, by simpa using h⟩
      obtain ⟨v1, v2⟩ := v
      have vv := valD_wh W t
      rw [hv] at vv
      rw [hv] at q
      have he' : v1 = e := he
      simp only [tD] at vv
      by_cases hg : g = e
      · simp [he', hg] at q
        simp [R.hr, R.ha, vv, tD, dat, dat_str, peq_str, hg]
        exact q _ (.refl _ _ _)
      · by_cases hn : n = v2
        · simp [he', hg, hn] at q
          simp [R.hr, R.ha, vv, tD, dat, dat_str, peq_str, hg, hn, m1]
          exact new_at R (by omega) (by omega) (.refl _ _ _) q
        · simp [he', hg, hn] at q
          simp [R.hr, R.ha, vv, tD, dat, dat_str, peq_str, hg, hn]
          exact q _ (.refl _ _ _)
end DL
set_option Elab.async false
set_option linter.all false
set_option maxRecDepth 100000
set_option maxHeartbeats 4000000
namespace DL
open PySem PySem.Spec L2
/-! ### a log run -/
/-- the rows from the k-th on: the first that can't be, or what stands behind all -/
def runW : List Row → Nat → Wh → List Id → Sum Nat (Wh × List Id)
  | [], _, W, S => .inr (W, S)
  | x :: xs, k, W, S => match stepW W S x with
    | none => .inl k
    | some (W', S') => runW xs (k + 1) W' S'
theorem step_len {W W' : Wh} {S S' : List Id} {x : Row} (h : stepW W S x = some (W', S')) : W'.length ≤ W.length + 1 ∧ S'.length ≤ S.length + 1 := by
  have nw : ∀ {W W' : Wh} {S S' : List Id} {e : Int} {t : Id} {n : Int}, newM W S e t n = some (W', S') → W'.length ≤ W.length + 1 ∧ S'.length ≤ S.length + 1 := by
    intro W W' S S' e t n h
    unfold newM at h
    split at h
    · cases h
    · cases h
      exact ⟨putW_len _ _ _, by simp⟩
  cases x <;> simp only [stepW] at h
  · exact nw h
  · split at h
    · cases h; exact ⟨putW_len _ _ _, by omega⟩
    · cases h
  · split at h
    · cases h; exact ⟨Nat.le_trans (dropW_len _ _) (by omega), by omega⟩
    · cases h
  · split at h
    · split at h
      · have h1 := nw h
        exact ⟨Nat.le_trans h1.1 (Nat.succ_le_succ (dropW_len _ _)), h1.2⟩
      · cases h
    · cases h
  · split at h
    · split at h
      · exact nw h
      · cases h
    · cases h
theorem runW_at {rs : List Row} {i : Nat} {x : Row} {k : Nat} {W : Wh} {S : List Id} (h : rs[i]? = some x) : runW (rs.drop i) k W S = match stepW W S x with
    | none => .inl k
    | some (W', S') => runW (rs.drop (i + 1)) (k + 1) W' S' := by
  rw [drop_at h]
  rfl
def outJ : Sum Nat (Wh × List Id) → D
  | .inl k => .int (k : Nat)
  | .inr _ => .non
/-- new facts stay when only the record changes -/
theorem Ext.exc {G G1 G2 : Gp} {a b : Addr} (e : Ext G G1) (x : Exc a b G1 G2) (ha : G a = none) (hb : G b = none) : Ext G G2 := fun c o h => x c o (ne_fr h ha) (ne_fr h hb) (e c o h)
end DL
set_option Elab.async false
set_option linter.all false
set_option maxRecDepth 100000
set_option maxHeartbeats 4000000
namespace DL
open PySem PySem.Spec L2
/-! ### logs with a row that is none -/
theorem pd_len {n : Nat} {G : Gp} : ∀ {ds : List D}, (∀ d ∈ ds, Pd n G d (toPD d)) → Pd (n + 1) G (.tup ds) (.tuple (ds.map toPD)) := fun {ds} h => by
  refine ⟨by simp, fun i d p e1 e2 => ?_⟩
  rw [List.getElem?_map, e1] at e2
  cases e2
  exact h d (List.mem_of_getElem? e1)
theorem pd_dat {G : Gp} : ∀ (n : Nat) (d : D), dat n d = true → Pd (n + 1) G d (toPD d)
  | n, .non, _ => True.intro
  | n, .bl _, _ => rfl
  | n, .int _, _ => rfl
  | n, .str _, _ => rfl
  | 0, .tup _, h => by cases h
  | n + 1, .tup ds, h => by
    have h1 : ∀ d ∈ ds, dat n d = true := by simpa [dat, List.all_eq_true] using h
    show Pd (n + 2) G (.tup ds) (.tuple (toPDs ds))
    rw [toPDs_map]
    exact pd_len fun d hd => pd_dat n d (h1 d hd)
  | n, .ty _, h => by cases n <;> cases h
  | n, .ref _, h => by cases n <;> cases h
theorem row_some {G : Gp} {Q : DQ} {d : D} {ds : List D} {p : PyData} (h : Pd 20 G (.tup (d :: ds)) p) (q : Q (.bl false) G) : eqGV false (.tup (d :: ds)) (.tup []) G Q := by
  cases p with
  | tuple ps =>
    cases ps with
    | nil => cases h.1
    | cons p ps => exact ⟨_, .tuple [], h, ⟨rfl, fun i d p e => by cases e⟩, by simpa [PyData.eqv, PyData.eqvAll] using q⟩
  | _ => exact (show False from h).elim
theorem row_none {G : Gp} {Q : DQ} (q : Q (.bl true) G) : eqGV false (.tup []) (.tup []) G Q :=
  ⟨.tuple [], .tuple [], ⟨rfl, fun i d p e => by cases e⟩, ⟨rfl, fun i d p e => by cases e⟩, by simpa [PyData.eqv, PyData.eqvAll] using q⟩
abbrev tblM : List (Str × Option Str) := [("made", some "etn"), ("changed", some "etn"), ("thrown", some "et"), ("moved", some "etet"), ("copied", some "etetn"), ("Made", none)]
/-- a row's parts are none of this shape's -/
def BadAs (G : Gp) (ds : List D) : Option Str → Prop
  | none => True
  | some s => s.length ≤ 10 ∧ (ds.length ≠ s.length ∨ (ds.length = s.length ∧ (∀ d ∈ ds, tyd G d) ∧ ∃ (i : Nat) (ch : Nat) (d : D), s.cps.toList[i]? = some ch ∧ ds[i]? = some d ∧ isPart ⟨#[ch]⟩ d = false))
theorem BadAs.ext {G G' : Gp} (e : Ext G G') {ds : List D} : ∀ {s : Option Str}, BadAs G ds s → BadAs G' ds s
  | none, _ => True.intro
  | some _, ⟨z, .inl h⟩ => ⟨z, .inl h⟩
  | some _, ⟨z, .inr ⟨h1, h2, h3⟩⟩ => ⟨z, .inr ⟨h1, fun d hd => tyd_ext e (h2 d hd), h3⟩⟩
/-- what is no row -/
inductive Odd (G : Gp) : D → Prop
  | non : Odd G .non
  | int (n : Int) : Odd G (.int n)
  | lst {p : Addr} {ds : List D} : G p = some (.lst ds) → Odd G (.ref p)
  | nil : Odd G (.tup [])
  | row {w : Str} {s : Option Str} {ds : List D} : tblM.lookup w = some s → ds.length ≤ 10 → (∀ G', Ext G G' → ∃ p, Pd 20 G' (.tup (.str w :: ds)) p) → BadAs G ds s → Odd G (.tup (.str w :: ds))
theorem Odd.ext {G G' : Gp} (e : Ext G G') {d : D} (h : Odd G d) : Odd G' d := by
  cases h with
  | non => exact .non
  | int n => exact .int n
  | lst h => exact .lst (e _ _ h)
  | nil => exact .nil
  | row h1 hz h2 h3 => exact .row h1 hz (fun G'' e' => h2 G'' (e.trans e')) (h3.ext e)
structure LogOk (G : Gp) (a : Addr) (rs : List Row) : Prop where
  g : G a = some (.lst (rs.map rowD))
  ok : ∀ r ∈ rs, okLg r = true
  z : rs.length ≤ 200
structure LogBad (G : Gp) (a : Addr) (k : Nat) : Prop where
  ex : ∃ (rs : List Row) (bad : D) (rest : List D), G a = some (.lst (rs.map rowD ++ bad :: rest)) ∧ (∀ r ∈ rs, okLg r = true) ∧ rs.length = k ∧ (rs.map rowD ++ bad :: rest).length ≤ 1000 ∧ k ≤ 200 ∧ (k = 200 ∨ Odd G bad)
theorem LogBad.ext {G G' : Gp} (e : Ext G G') {a : Addr} {k : Nat} (h : LogBad G a k) : LogBad G' a k := by
  obtain ⟨rs, bad, rest, g, h1, h2, h3, h4, h5⟩ := h.ex
  exact ⟨rs, bad, rest, e _ _ g, h1, h2, h3, h4, h5.imp id (Odd.ext e)⟩
def sp_need_log (Γ : Cs) : DSp := sp1 fun d G Q E => ∃ a : Addr, d = .ref a ∧ ((∃ rs, LogOk G a rs ∧ ∀ G', Ext G G' → Q .non G') ∨ (∃ k : Nat, LogBad G a k ∧ ∀ G', Ext G G' → E Γ.cBadLog (some ("number", .int (k : Nat))) G'))
abbrev N_need_log : List Str := ["log", "number", "row", "shape", "k"]
def t_need_log_C1 (Γ : Cs) (ED : DXK) : DTE := dComp (diRng (daCons (dCB lenR (daCons (dVar 3) (daNil))) (daNil))) (dgName 4) (dNot (dTest (dCall (sp_is_part Γ) W0 (daCons (dOp ixR (dVar 3) (dVar 4)) (daCons (dOp ixR (dVar 2) (dOp addR (dVar 4) (dC (.int 1)))) (daNil)))))) (dVar 4) [4]
def t_need_log_L1 (Γ : Cs) (ED : DXK) : DTS := dSeq (dIf (dOr (dTest (dOp geR (dVar 1) (dC (.int 200)))) (dOr (dNot (dTest (dCB isiR (daCons (dVar 2) (daCons (dC (.ty "tuple")) (daNil)))))) (dOr (dTest (dOp eqG (dVar 2) (dTup (daNil)))) (dNot (dTest (dCB isiR (daCons (dOp ixR (dVar 2) (dC (.int 0))) (daCons (dC (.ty "str")) (daNil))))))))) (dRaiseF Γ.cBadLog "number" (wx ED) (dVar 1)) (dNext)) (dSeq (dAsg (dGetK [("made", some "etn"), ("changed", some "etn"), ("thrown", some "et"), ("moved", some "etet"), ("copied", some "etetn"), ("Made", none)] (dOp ixR (dVar 2) (dC (.int 0))) (dC .non)) (dgName 3)) (dSeq (dIf (dOr (dTest (dOp (isNR false) (dVar 3) (dC .non))) (dTest (dOp neR (dCB lenR (daCons (dVar 2) (daNil))) (dOp addR (dCB lenR (daCons (dVar 3) (daNil))) (dC (.int 1)))))) (dRaiseF Γ.cBadLog "number" (wx ED) (dVar 1)) (dNext)) (dIf (dTest (dOp neR (dN (t_need_log_C1 Γ ED)) (dLst (daNil)))) (dRaiseF Γ.cBadLog "number" (wx ED) (dVar 1)) (dNext))))
def t_need_log (Γ : Cs) (ED : DXK) : DTS := dFor (diEnum (daCons (dVar 0) (daNil))) (dgTup 2 (dgCons (dgName 1) (dgCons (dgName 2) (dgNil)))) (t_need_log_L1 Γ ED)
/-- the comprehension: the parts that are none -/
theorem need_log_C1 {Γ : Cs} {E : DXK} {G : Gp} {Q : DQ} {s : Str} {ds : List D} {a b c : Option D} (hz : s.length ≤ 10) (h : ∀ (i : Nat) (ch : Nat), s.cps.toList[i]? = some ch → ∃ d, ds[i + 1]? = some d ∧ tyd G d)
    (q : ∀ (ks : List Int) p, Nw G p → ((∀ (i : Nat) (ch : Nat) (d : D), s.cps.toList[i]? = some ch → ds[i + 1]? = some d → isPart ⟨#[ch]⟩ d = true) → ks = []) → ((∃ (i : Nat) (ch : Nat) (d : D), s.cps.toList[i]? = some ch ∧ ds[i + 1]? = some d ∧ isPart ⟨#[ch]⟩ d = false) → ks ≠ []) → Q (.ref p) (put G p (.lst (ks.map D.int)))) :
    t_need_log_C1 Γ E [a, b, some (.tup ds), some (.str s), c] G Q := by
  have hl : s.length ≤ sizeLine := Nat.le_trans hz (by decide)
  let f : D → Option D := fun x => match x with
    | .int i => (match s.cps.toList[i.toNat]?, ds[i.toNat + 1]? with
      | some ch, some d => if isPart ⟨#[ch]⟩ d = true then none else some (.int i)
      | _, _ => none)
    | _ => none
  refine dComp_pure (items := rngD 0 s.length) (stay := fun _ => True) f (fun R h => by simp [hl]; exact ⟨by omega, h⟩) trivial (fun _ _ _ => trivial) (fun p ys x hp hx Qs Qn hQ => ?_) (fun p hp => ?_)
  · obtain ⟨i, hi⟩ := List.mem_iff_getElem?.mp hx
    obtain ⟨hi2, rfl⟩ := rngD_at hi
    have hi' : i < s.cps.toList.length := by simpa using (show i < s.cps.size from hi2)
    have ec : s.cps.toList[i]? = some s.cps.toList[i] := List.getElem?_eq_getElem hi'
    obtain ⟨d, e1, e2⟩ := h i s.cps.toList[i] ec
    have e4 : atI ds ((i : Int) + 1) = some d := by
      have := atI_i e1
      simpa using this
    have ef : f (.int (i : Nat)) = if isPart ⟨#[s.cps.toList[i]]⟩ d = true then none else some (.int (i : Nat)) := by
      show (match s.cps.toList[((i : Nat) : Int).toNat]?, ds[((i : Nat) : Int).toNat + 1]? with
        | some ch, some d => if isPart ⟨#[ch]⟩ d = true then none else some (D.int (i : Nat))
        | _, _ => none) = _
      rw [Int.toNat_natCast, ec, e1]
    simp [hl, atI_nat hi', e4]
    refine call2 ⟨_, rfl, tyd_ext (Ext.put hp) e2, ?_⟩
    cases hb : isPart ⟨#[s.cps.toList[i]]⟩ d with
    | true =>
      rw [hb] at ef
      rw [Array.getElem_toList] at hb
      rw [hb]
      rw [ef] at hQ
      exact hQ
    | false =>
      rw [hb] at ef
      rw [Array.getElem_toList] at hb
      rw [hb]
      rw [ef] at hQ
      simpa using hQ
  · have key : ∀ l : List D, (∀ x ∈ l, ∃ i : Nat, x = .int (i : Nat)) → ∃ ks : List Int, l.filterMap f = ks.map D.int := fun l => by
      induction l with
      | nil => exact fun _ => ⟨[], rfl⟩
      | cons x l ih =>
        intro hx
        obtain ⟨ks, hk⟩ := ih fun y hy => hx y (by simp [hy])
        obtain ⟨i, rfl⟩ := hx x (by simp)
        rw [List.filterMap_cons, hk]
        have ef : f (.int (i : Nat)) = none ∨ f (.int (i : Nat)) = some (.int (i : Nat)) := by
          have e0 : f (.int (i : Nat)) = (match s.cps.toList[i]?, ds[i + 1]? with
            | some ch, some d => if isPart ⟨#[ch]⟩ d = true then none else some (D.int (i : Nat))
            | _, _ => none) := by
            show (match s.cps.toList[((i : Nat) : Int).toNat]?, ds[((i : Nat) : Int).toNat + 1]? with
              | some ch, some d => if isPart ⟨#[ch]⟩ d = true then none else some (D.int (i : Nat))
              | _, _ => none) = _
            rw [Int.toNat_natCast]
          rw [e0]
          cases s.cps.toList[i]? with
          | none => exact .inl rfl
          | some ch =>
            cases ds[i + 1]? with
            | none => exact .inl rfl
            | some d =>
              by_cases h : isPart ⟨#[ch]⟩ d = true
              · exact .inl (if_pos h)
              · exact .inr (if_neg h)
        rcases ef with e | e
        · exact ⟨ks, by rw [e]⟩
        · exact ⟨(i : Nat) :: ks, by rw [e]; rfl⟩
    have hr : ∀ x ∈ rngD 0 s.length, ∃ i : Nat, i < s.length ∧ x = .int (i : Nat) := fun x hx => by
      obtain ⟨i, hi⟩ := List.mem_iff_getElem?.mp hx
      obtain ⟨hi2, rfl⟩ := rngD_at hi
      exact ⟨i, hi2, rfl⟩
    obtain ⟨ks, hk⟩ := key _ fun x hx => let ⟨i, _, e⟩ := hr x hx; ⟨i, e⟩
    rw [hk]
    refine q ks p hp (fun hall => ?_) fun ⟨i, ch, d, e1, e2, e3⟩ e0 => ?_
    · have : (rngD 0 s.length).filterMap f = [] := by
        refine List.filterMap_eq_nil_iff.mpr fun x hx => ?_
        obtain ⟨i, hi, rfl⟩ := hr x hx
        have hi' : i < s.cps.toList.length := by simpa using (show i < s.cps.size from hi)
        have ec : s.cps.toList[i]? = some s.cps.toList[i] := List.getElem?_eq_getElem hi'
        obtain ⟨d, e1, e2⟩ := h i _ ec
        show (match s.cps.toList[((i : Nat) : Int).toNat]?, ds[((i : Nat) : Int).toNat + 1]? with
          | some ch, some d => if isPart ⟨#[ch]⟩ d = true then none else some (D.int (i : Nat))
          | _, _ => none) = none
        rw [Int.toNat_natCast, ec, e1]
        simp only
        rw [if_pos (hall i _ d ec e1)]
      rw [this] at hk
      exact List.map_eq_nil_iff.mp hk.symm
    · rw [e0] at hk
      have hi : i < s.length := by
        have := (List.getElem?_eq_some_iff.mp e1).1
        have h2 : i < s.cps.size := by simpa using this
        exact h2
      have hm : D.int (i : Nat) ∈ rngD 0 s.length := by unfold rngD; exact List.mem_map.mpr ⟨i, List.mem_range.mpr hi, by simp⟩
      have : f (.int (i : Nat)) = none := List.filterMap_eq_nil_iff.mp hk _ hm
      have e5 : f (.int (i : Nat)) = some (.int (i : Nat)) := by
        show (match s.cps.toList[((i : Nat) : Int).toNat]?, ds[((i : Nat) : Int).toNat + 1]? with
          | some ch, some d => if isPart ⟨#[ch]⟩ d = true then none else some (D.int (i : Nat))
          | _, _ => none) = _
        rw [Int.toNat_natCast, e1, e2]
        simp [e3]
      rw [e5] at this
      cases this
theorem need_part {i : Nat} {ds : List D} {s : Str} {G : Gp} (h : ds.length = s.length) (ht : ∀ d ∈ ds, tyd G d) {w : D} : ∀ (i : Nat) (ch : Nat), s.cps.toList[i]? = some ch → ∃ d, (w :: ds)[i + 1]? = some d ∧ tyd G d := fun i ch e => by
  have hi : i < ds.length := by
    have h1 := (List.getElem?_eq_some_iff.mp e).1
    rw [h]
    have h2 : i < s.cps.size := by simpa using h1
    exact h2
  exact ⟨ds[i], by simp [hi], ht _ (List.getElem_mem hi)⟩
theorem lkM {w s : Str} : List.lookup w tblM = some (some s) → tblM.lookup w = some (some s) := id
theorem parts_cons (r : Row) : ∃ w ds, partsOf r = .str w :: ds ∧ tblM.lookup w = some (some (shapeOf r)) ∧ ds.length = (shapeOf r).length := by
  cases r
  · exact ⟨_, _, rfl, (by decide +kernel : tblM.lookup ("made" : Str) = some (some ("etn" : Str))), (by decide +kernel : 3 = ("etn" : Str).length)⟩
  · exact ⟨_, _, rfl, (by decide +kernel : tblM.lookup ("changed" : Str) = some (some ("etn" : Str))), (by decide +kernel : 3 = ("etn" : Str).length)⟩
  · exact ⟨_, _, rfl, (by decide +kernel : tblM.lookup ("thrown" : Str) = some (some ("et" : Str))), (by decide +kernel : 2 = ("et" : Str).length)⟩
  · exact ⟨_, _, rfl, (by decide +kernel : tblM.lookup ("moved" : Str) = some (some ("etet" : Str))), (by decide +kernel : 4 = ("etet" : Str).length)⟩
  · exact ⟨_, _, rfl, (by decide +kernel : tblM.lookup ("copied" : Str) = some (some ("etetn" : Str))), (by decide +kernel : 5 = ("etetn" : Str).length)⟩
abbrev St5 (a : Addr) (sd : SD) : Prop := ∃ x y z w, sd = [some (.ref a), x, y, z, w]
/-- a row that is one -/
theorem good_row {Γ : Cs} {E : DXK} {K Bk Ct : SD → Gp → Prop} {R : DQ} {G : Gp} {a : Addr} {i : Nat} {r : Row} {x3 x4 : Option D} (hi : i < 200) (ok : okLg r = true) (h : ∀ G' sd, Ext G G' → St5 a sd → K sd G') :
    t_need_log_L1 Γ E ⟨K, R, Bk, Ct⟩ [some (.ref a), some (.int (i : Nat)), some (rowD r), x3, x4] G := by
  obtain ⟨w, ds, ep, hlk, hl⟩ := parts_cons r
  have n1 : ¬ (200 : Int) ≤ (i : Nat) := by omega
  have po := parts_ok ok
  have dr : dat 18 (rowD r) = true := dat_row
  have pd := pd_dat (G := G) 19 (rowD r) dat_row
  rw [rowD_eq] at pd ⊢
  rw [ep] at pd po ⊢
  have hz := shape_len (r := r)
  have hn : ((ds.length : Int) + 1 = (shapeOf r).length + 1) := by omega
  simp [t_need_log_L1, n1]
  refine row_some pd ?_
  simp [tblP_some hlk]
  have hz2 : (shapeOf r).length ≤ sizeLine := Nat.le_trans hz (by decide)
  simp [hl, hz2]
  refine need_log_C1 hz (fun i ch hi => let ⟨d, h1, h2, _⟩ := po i ch hi; ⟨d, h1, h2 G⟩) fun ks p hp h1 h2 => ?_
  obtain rfl := h1 fun i ch d e1 e2 => by
    obtain ⟨d', h3, _, h4⟩ := po i ch e1
    rw [h3] at e2
    cases e2
    exact h4
  refine eq_new put_same rfl fun p2 hp2 => ?_
  simp
  exact h _ _ ((Ext.put hp).of_put hp2) ⟨_, _, _, _, rfl⟩
/-- a row that is none, or too many -/
theorem bad_row {Γ : Cs} {E : DXK} {K Bk Ct : SD → Gp → Prop} {R : DQ} {G : Gp} {a : Addr} {i : Nat} {d : D} {x3 x4 : Option D} (hi : i ≤ 200) (ok : i = 200 ∨ Odd G d) (h : ∀ G', Ext G G' → E Γ.cBadLog (some ("number", .int (i : Nat))) G') :
    t_need_log_L1 Γ E ⟨K, R, Bk, Ct⟩ [some (.ref a), some (.int (i : Nat)), some d, x3, x4] G := by
  by_cases hi2 : i = 200
  · subst hi2
    simp [t_need_log_L1]
    exact h G (.refl G)
  · have n1 : ¬ (200 : Int) ≤ (i : Nat) := by omega
    have od := ok.resolve_left hi2
    cases od with
    | non => simp [t_need_log_L1, n1]; exact h G (.refl G)
    | int n => simp [t_need_log_L1, n1]; exact h G (.refl G)
    | @lst p ds g =>
      have ty : tyN G (.ref p) = some "list" := by simp [tyN, g]
      simp [t_need_log_L1, n1, ty]
      exact h G (.refl G)
    | nil =>
      simp [t_need_log_L1, n1]
      refine row_none ?_
      simp
      exact h G (.refl G)
    | @row w s ds hlk hz pd bad =>
      obtain ⟨p, pd⟩ := pd G (.refl G)
      simp [t_need_log_L1, n1]
      refine row_some pd ?_
      cases s with
      | none =>
        simp [tblP_none hlk]
        exact h G (.refl G)
      | some s =>
        obtain ⟨hs, bad⟩ := bad
        have hs2 : s.length ≤ sizeLine := Nat.le_trans hs (by decide)
        have hd2 : ds.length + 1 ≤ sizeLine := Nat.le_trans (Nat.succ_le_succ hz) (by decide)
        simp [tblP_some hlk, hs2]
        rcases bad with bad | ⟨hl, ht, bad⟩
        · have n2 : ¬ ((ds.length : Int) = s.length) := by omega
          simp [n2]
          exact h G (.refl G)
        · simp [hl]
          refine need_log_C1 hs (need_part (i := 0) hl ht) fun ks p hp h1 h2 => ?_
          have hk := h2 (by
            obtain ⟨i, ch, d, e1, e2, e3⟩ := bad
            exact ⟨i, ch, d, e1, e2, e3⟩)
          refine eq_new put_same (all_ints _) fun p2 hp2 => ?_
          cases ks with
          | nil => exact (hk rfl).elim
          | cons k ks =>
            simp
            exact h _ ((Ext.put hp).of_put hp2)
theorem pure_need_log (Γ : Cs) : ∀ ds G Q E, sp_need_log Γ ds G Q E → t_need_log Γ E { nx := fun _ G => Q .non G, rt := Q } (dstart N_need_log ds) G := by
  rintro ds G Q E ⟨d, rfl, a, rfl, h⟩
  rcases h with ⟨rs, L, q⟩ | ⟨k, L, q⟩
  · have g := L.g
    simp [t_need_log, g]
    refine loop_ind (fun i sd G' => Ext G G' ∧ St5 a sd) (fun i sd G' h => h.1 _ _ g) ?_ ?_ ⟨.refl G, _, _, _, _, rfl⟩
    · rintro i x sd G' K hx ⟨e, x1, x2, x3, x4, rfl⟩ hK
      obtain ⟨d, hd, rfl⟩ := enumD_get hx
      rw [List.getElem?_map] at hd
      cases hr : rs[i]? with
      | none => rw [hr] at hd; cases hd
      | some r =>
        rw [hr] at hd
        cases hd
        have hi : i < 200 := by have := (List.getElem?_eq_some_iff.mp hr).1; have := L.z; omega
        simp
        exact good_row hi (L.ok r (List.mem_of_getElem? hr)) fun G'' sd e2 hs => ⟨(e.trans e2) _ _ g, hK _ _ ⟨e.trans e2, hs⟩⟩
    · rintro sd G' ⟨e, x1, x2, x3, x4, rfl⟩
      exact q _ e
  · obtain ⟨rs, bad, rest, g, hok, hl, hz, hk, hb⟩ := L.ex
    simp [t_need_log, g]
    refine loop_ind (fun i sd G' => Ext G G' ∧ St5 a sd ∧ i ≤ k) (fun i sd G' h => h.1 _ _ g) ?_ ?_ ⟨.refl G, ⟨_, _, _, _, rfl⟩, Nat.zero_le _⟩
    · rintro i x sd G' K hx ⟨e, ⟨x1, x2, x3, x4, rfl⟩, hik⟩ hK
      obtain ⟨d, hd, rfl⟩ := enumD_get hx
      simp
      by_cases hi : i < rs.length
      · rw [List.getElem?_append_left (by simpa using hi), List.getElem?_map, List.getElem?_eq_getElem hi] at hd
        cases hd
        exact good_row (by omega) (hok _ (List.getElem_mem hi)) fun G'' sd e2 hs => ⟨(e.trans e2) _ _ g, hK _ _ ⟨e.trans e2, hs, by omega⟩⟩
      · have ei : i = k := by omega
        subst ei
        rw [List.getElem?_append_right (by simpa using Nat.le_of_not_lt hi)] at hd
        have : i - (rs.map rowD).length = 0 := by simp [hl]
        rw [this] at hd
        cases hd
        exact bad_row hk (hb.imp id (Odd.ext e)) fun G'' e2 => q _ (e.trans e2)
    · rintro sd G' ⟨e, _, hik⟩
      rw [enumD_len] at hik
      simp at hik
      omega
end DL
set_option Elab.async false
set_option linter.all false
set_option maxRecDepth 100000
set_option maxHeartbeats 4000000
namespace DL
open PySem PySem.Spec L2
def sp_judged (Γ : Cs) : DSp := sp1 fun d G Q E => ∃ a : Addr, d = .ref a ∧ ((∃ rs, LogOk G a rs ∧ ∀ G', Ext G G' → Q (outJ (runW rs 0 [] [])) G') ∨ (∃ k : Nat, LogBad G a k ∧ ∀ G', Ext G G' → E Γ.cBadLog (some ("number", .int (k : Nat))) G'))
abbrev N_judged : List Str := ["log", "record", "number", "row"]
def t_judged_L1 (Γ : Cs) (ED : DXK) : DTS := dIf (dNot (dTest (dMeth Γ.cRecord nRecord (sp_Record_go Γ) (wx ED) (dVar 1) (daCons (dVar 3) (daNil))))) (dRet (dVar 2)) (dNext)
def t_judged (Γ : Cs) (ED : DXK) : DTS := dSeq (dDrop (dCall (sp_need_log Γ) (wx ED) (daCons (dVar 0) (daNil)))) (dSeq (dAsg (dMake Γ.cRecord nRecord (sp_Record_init__ Γ) (wx ED) daNil) (dgName 1)) (dSeq (dFor (diEnum (daCons (dVar 0) (daNil))) (dgTup 2 (dgCons (dgName 2) (dgCons (dgName 3) (dgNil)))) (t_judged_L1 Γ ED)) (dRet (dC .non))))
theorem pure_judged (Γ : Cs) : ∀ ds G Q E, sp_judged Γ ds G Q E → t_judged Γ E { nx := fun _ G => Q .non G, rt := Q } (dstart N_judged ds) G := by
  rintro ds G Q E ⟨d, rfl, l, rfl, ⟨rs, L, q⟩ | ⟨k, L, q⟩⟩
  case inr =>
    simp [t_judged]
    exact call1 ⟨l, rfl, .inr ⟨k, L, q⟩⟩
  have g := L.g
  have hlen := L.z
  simp [t_judged]
  refine call1 ⟨l, rfl, .inl ⟨rs, L, fun G1 e1 => ?_⟩⟩
  simp
  intro r hr
  refine call1 ⟨r, rfl, put_same, fun a b G2 ha hb R x2 => ⟨rfl, ?_⟩⟩
  have hra := put_none ha
  have hrb := put_none hb
  have g1 := e1 _ _ g
  have e2 : Ext G1 G2 := fun c o h => x2 c o (ne_fr h hr) (by rw [put_ne (ne_fr h hr)]; exact h)
  have g2 := e2 _ _ g1
  simp [g2]
  have ga : G a = none := by
    cases h : G a with
    | none => rfl
    | some o => rw [e1 a o h] at hra; cases hra.2.2
  have gb : G b = none := by
    cases h : G b with
    | none => rfl
    | some o => rw [e1 b o h] at hrb; cases hrb.2.2
  refine loop_ind (fun i sd G' => Ext G G' ∧ ∃ W S x y, sd = [some (.ref l), some (.ref r), x, y] ∧ RecAt Γ G' r a b W S ∧ W.length ≤ i ∧ S.length ≤ i ∧ runW rs 0 [] [] = runW (rs.drop i) i W S) (fun i sd G' h => h.1 _ _ g) ?_ ?_
    ⟨e1.trans e2, [], [], _, _, rfl, R, Nat.le_refl _, Nat.le_refl _, rfl⟩
  · rintro i x sd G' K hx ⟨e, W, S, x1, x2, rfl, R', wl, sl, hrun⟩ hK
    obtain ⟨d, hd, rfl⟩ := enumD_get hx
    rw [List.getElem?_map] at hd
    cases hr : rs[i]? with
    | none => rw [hr] at hd; cases hd
    | some row =>
      rw [hr] at hd
      cases hd
      have hi : i < 200 := by have := (List.getElem?_eq_some_iff.mp hr).1; omega
      rw [runW_at hr] at hrun
      have m1 : methO Γ.cRecord nRecord (G' r) := by rw [R'.hr]; simp
      simp [t_judged_L1, m1]
      refine call2 ⟨r, a, b, W, S, row, rfl, rfl, R', by omega, by omega, ?_⟩
      cases hs : stepW W S row with
      | none =>
        rw [hs] at hrun
        intro G3 x3
        simp
        have := q G3 (e.exc x3 ga gb)
        rw [hrun] at this
        exact this
      | some p =>
        obtain ⟨W', S'⟩ := p
        rw [hs] at hrun
        have hl := step_len hs
        intro G3 R3 x3
        have e3 := e.exc x3 ga gb
        simp
        exact ⟨e3 _ _ g, hK _ _ ⟨e3, W', S', _, _, rfl, R3, by omega, by omega, hrun⟩⟩
  · rintro sd G' ⟨e, W, S, x1, x2, rfl, R', wl, sl, hrun⟩
    rw [enumD_len, List.length_map, List.drop_length] at hrun
    simp
    have := q G' e
    rw [hrun] at this
    exact this
end DL
set_option Elab.async false
set_option linter.all false
set_option maxRecDepth 100000
set_option maxHeartbeats 4000000
namespace DL
open PySem PySem.Spec L2
/-! ### sorted lists -/
theorem mem_sortD {xs : List D} {d : D} : d ∈ sortD xs ↔ d ∈ xs := List.mem_mergeSort
theorem len_sortD {xs : List D} : (sortD xs).length = xs.length := List.length_mergeSort _
/-- the same data on both sides -/
def sdat : Nat → D → Bool
  | _, .non => true
  | _, .bl _ => true
  | _, .int _ => true
  | _, .str _ => true
  | n + 1, .tup ds => decide (ds.length ≤ 1000000) && ds.all (sdat n)
  | _, _ => false
theorem same_dat {G : Gp} : ∀ (n : Nat) (d : D), sdat n d = true → same (n + 1) G d d
  | n, .non, _ => trivial
  | n, .bl _, _ => rfl
  | n, .int _, _ => rfl
  | n, .str _, _ => rfl
  | n, .ty _, h => by cases n <;> cases h
  | n, .ref _, h => by cases n <;> cases h
  | 0, .tup ds, h => by cases h
  | n + 1, .tup ds, h => by
    simp only [sdat, Bool.and_eq_true, decide_eq_true_eq, List.all_eq_true] at h
    refine ⟨rfl, h.1, fun i x y hx hy => ?_⟩
    rw [hx] at hy
    cases hy
    exact same_dat n x (h.2 x (List.mem_of_getElem? hx))
theorem sameD_lst {G : Gp} {n : Nat} {p q : Addr} {xs : List D} (hp : G p = some (.lst xs)) (hq : G q = some (.lst xs)) (hl : xs.length ≤ 1000000) (h : ∀ x ∈ xs, sdat n x = true) : same (n + 2) G (.ref p) (.ref q) :=
  ⟨xs, xs, hp, hq, rfl, hl, fun i x y hx hy => by
    rw [hx] at hy
    cases hy
    exact same_dat n x (h x (List.mem_of_getElem? hx))⟩
/-- (end, id, number) -/
def triD (q : Id × Id) : D := .tup [.int q.2.1, tD q.1, .int q.2.2]
theorem dat_triD {q : Id × Id} {n : Nat} : dat (n + 2) (triD q) = true := by simp [triD, dat, dat_int, tD]
theorem sdat_triD {q : Id × Id} {n : Nat} : sdat (n + 2) (triD q) = true := by cases n <;> simp [triD, sdat, tD]
theorem srt_tri (W : Wh) : srtOk (W.map triD) := by
  refine ⟨?_, ?_, ?_⟩
  · rw [List.all_map, List.all_eq_true]
    exact fun q _ => dat_triD
  · rw [List.map_map]
    exact PySem.W.AllAlike.of fun a b => rfl
  · rw [List.map_map]
    exact PySem.W.Sortable.tuples fun b => ⟨_, _, rfl⟩
theorem srt_idsL {α : Type} (f : α → Id) (W : List α) : srtOk (W.map fun q => tD (f q)) := by
  refine ⟨?_, ?_, ?_⟩
  · rw [List.all_map, List.all_eq_true]
    exact fun q _ => dat_tD
  · rw [List.map_map]
    exact PySem.W.AllAlike.of fun a b => rfl
  · rw [List.map_map]
    exact PySem.W.Sortable.tuples fun b => ⟨_, _, rfl⟩
theorem whD_keys (W : Wh) : (whD W).map (·.1) = W.map fun q => tD q.1 := by simp [whD]
theorem whD_intKey (W : Wh) : ((whD W).all fun kv => intKey kv.1) = true := by
  unfold whD
  rw [List.all_map, List.all_eq_true]
  intro q _
  simp [tD, intKey]
theorem getW_mem {W : Wh} {t v : Id} (h : getW W t = some v) : (t, v) ∈ W := by
  unfold getW at h
  cases e : W.find? fun q => decide (q.1 = t) with
  | none => rw [e] at h; cases h
  | some q =>
    rw [e] at h
    cases h
    have h1 := List.find?_some e
    have h2 := List.mem_of_find?_eq_some e
    have : q.1 = t := by simpa using h1
    subst this
    exact h2
theorem getW_of_mem {W : Wh} {q : Id × Id} (h : q ∈ W) : ∃ v, getW W q.1 = some v := by
  unfold getW
  cases e : W.find? fun z => decide (z.1 = q.1) with
  | none =>
    have := List.find?_eq_none.mp e q h
    simp at this
  | some z => exact ⟨_, rfl⟩
theorem mem_putW {W : Wh} {t v : Id} {q : Id × Id} (h : q ∈ putW W t v) : q = (t, v) ∨ q ∈ W := by
  unfold putW at h
  split at h
  · obtain ⟨z, hz, rfl⟩ := List.mem_map.mp h
    by_cases e : z.1 = t
    · rw [if_pos e]; exact .inl (by rw [← e])
    · rw [if_neg e]; exact .inr hz
  · rcases List.mem_append.mp h with h | h
    · exact .inr h
    · simp at h; exact .inl h
theorem mem_putW_key {W : Wh} {t v : Id} {q : Id × Id} (h : q ∈ W) : ∃ v', (q.1, v') ∈ putW W t v := by
  unfold putW
  split
  · by_cases e : q.1 = t
    · exact ⟨v, List.mem_map.mpr ⟨q, h, by rw [if_pos e]⟩⟩
    · exact ⟨q.2, List.mem_map.mpr ⟨q, h, by rw [if_neg e]⟩⟩
  · exact ⟨q.2, List.mem_append_left _ h⟩
theorem mem_dropW {W : Wh} {t : Id} {q : Id × Id} (h : q ∈ dropW W t) : q ∈ W := (List.mem_filter.mp h).1
theorem getW_put {W : Wh} {t v : Id} : getW (putW W t v) t = some v := by
  unfold getW putW
  split
  · rename_i h
    induction W with
    | nil => simp at h
    | cons q W ih =>
      rw [List.map_cons, List.find?_cons]
      by_cases e : q.1 = t
      · simp [e]
      · simp only [if_neg e, decide_eq_false e]
        refine ih ?_
        rw [List.any_cons, decide_eq_false e] at h
        simpa using h
  · rename_i h
    rw [List.find?_append]
    have : W.find? (fun q => decide (q.1 = t)) = none := by
      rw [List.find?_eq_none]
      intro q hq hz
      exact h (List.any_eq_true.mpr ⟨q, hq, hz⟩)
    rw [this]
    simp
/-- rows with small numbers in their ids -/
def okLtm (m : Int) (t : Id) : Bool := okE t.1 && (decide (0 ≤ t.2) && decide (t.2 ≤ m))
def okLgM (m : Int) : Row → Bool
  | .made e t n => okE e && (okLtm m t && okLn n)
  | .changed e t n => okE e && (okLtm m t && okLn n)
  | .thrown e t => okE e && okLtm m t
  | .moved e t g u => okE e && (okLtm m t && (okE g && okLtm m u))
  | .copied e t g u n => okE e && (okLtm m t && (okE g && (okLtm m u && okLn n)))
theorem okTm_mono {m m' : Int} {t : Id} (h : okLtm m t = true) (hm : m ≤ m') : okLtm m' t = true := by
  simp [okLtm] at *
  exact ⟨h.1, h.2.1, by omega⟩
theorem okLgM_mono {m m' : Int} {r : Row} (h : okLgM m r = true) (hm : m ≤ m') : okLgM m' r = true := by
  cases r <;> simp [okLgM] at *
  · exact ⟨h.1, okTm_mono h.2.1 hm, h.2.2⟩
  · exact ⟨h.1, okTm_mono h.2.1 hm, h.2.2⟩
  · exact ⟨h.1, okTm_mono h.2 hm⟩
  · exact ⟨h.1, okTm_mono h.2.1 hm, h.2.2.1, okTm_mono h.2.2.2 hm⟩
  · exact ⟨h.1, okTm_mono h.2.1 hm, h.2.2.1, okTm_mono h.2.2.2.1 hm, h.2.2.2.2⟩
theorem okLgM_ok {r : Row} (h : okLgM 1000000 r = true) : okLg r = true := by
  have e : okLtm 1000000 = okLt := by funext t; rfl
  cases r <;> simpa [okLgM, okLg, e] using h
/-! slices -/
theorem cut_to {xs : List D} {i : Int} (h : 0 ≤ i) : cutD xs none (some i) = xs.take i.toNat := by
  have hn : ¬ i < 0 := by omega
  simp [cutD, HT.sIx, hn]
theorem drop_min {xs : List D} {k : Nat} : xs.drop (min k xs.length) = xs.drop k := by
  rcases Nat.le_total k xs.length with h | h
  · rw [Nat.min_eq_left h]
  · rw [Nat.min_eq_right h, List.drop_length, List.drop_eq_nil_of_le h]
theorem cut_from {xs : List D} {i : Int} (h : 0 ≤ i) : cutD xs (some i) none = xs.drop i.toNat := by
  have hn : ¬ i < 0 := by omega
  simp only [cutD, HT.sIx, if_neg hn]
  rw [drop_min]
  apply List.take_of_length_le
  rw [List.length_drop]
  omega
theorem cut_mid {xs : List D} {i j : Int} (h : 0 ≤ i) (h2 : 0 ≤ j) : cutD xs (some i) (some j) = (xs.drop i.toNat).take (j.toNat - i.toNat) := by
  have hn : ¬ i < 0 := by omega
  have hn2 : ¬ j < 0 := by omega
  simp only [cutD, HT.sIx, if_neg hn, if_neg hn2]
  rw [drop_min, List.take_eq_take_iff, List.length_drop]
  omega
theorem cut_t {xs : List D} {i : Nat} : cutD xs none (some (i : Int)) = xs.take i := cut_to (by omega)
theorem cut_t1 {xs : List D} {i : Nat} : cutD xs none (some ((i : Int) + 1)) = xs.take (i + 1) := cut_to (by omega)
theorem cut_f {xs : List D} {i : Nat} : cutD xs (some (i : Int)) none = xs.drop i := cut_from (by omega)
theorem cut_f1 {xs : List D} {i : Nat} : cutD xs (some ((i : Int) + 1)) none = xs.drop (i + 1) := cut_from (by omega)
theorem cut_f2 {xs : List D} {i : Nat} : cutD xs (some ((i : Int) + 2)) none = xs.drop (i + 2) := cut_from (by omega)
theorem cut_m2 {xs : List D} {i : Nat} : cutD xs (some (i : Int)) (some ((i : Int) + 2)) = (xs.drop i).take 2 := by
  rw [cut_mid (by omega) (by omega)]
  congr 1
  omega
/-- all keys apart -/
def KeysNd (W : Wh) : Prop := (W.map (·.1)).Nodup
theorem putW_nd {W : Wh} {t v : Id} (h : KeysNd W) : KeysNd (putW W t v) := by
  unfold putW KeysNd at *
  split
  · have : (W.map fun q => if q.1 = t then (q.1, v) else q).map (·.1) = W.map (·.1) := by
      rw [List.map_map]
      congr 1
      funext q
      by_cases e : q.1 = t <;> simp [e]
    rw [this]
    exact h
  · rename_i hn
    rw [List.map_append, List.nodup_append]
    refine ⟨h, by simp, fun a ha b hb => ?_⟩
    simp at hb
    subst hb
    intro z
    subst z
    obtain ⟨q, hq, rfl⟩ := List.mem_map.mp ha
    exact hn (List.any_eq_true.mpr ⟨q, hq, by simp⟩)
theorem dropW_nd {W : Wh} {t : Id} (h : KeysNd W) : KeysNd (dropW W t) := by
  unfold dropW KeysNd at *
  exact h.sublist (List.Sublist.map _ List.filter_sublist)
theorem getW_at {W : Wh} {q : Id × Id} (h : KeysNd W) (m : q ∈ W) : getW W q.1 = some q.2 := by
  obtain ⟨v, hv⟩ := getW_of_mem m
  have m2 := getW_mem hv
  have : (q.1, v) = q := by
    unfold KeysNd at h
    obtain ⟨i, hi, e1⟩ := List.mem_iff_getElem.mp m
    obtain ⟨j, hj, e2⟩ := List.mem_iff_getElem.mp m2
    have e3 : (W.map (·.1))[i]'(by simpa using hi) = (W.map (·.1))[j]'(by simpa using hj) := by
      rw [List.getElem_map, List.getElem_map, e1, e2]
    have := (List.getElem_inj h).mp e3
    subst this
    exact e2.symm.trans e1
  rw [hv]
  rw [← this]
theorem Exc.keep {b l : Addr} {G G' : Gp} (x : Exc b l G G') {a : Addr} {o : DO} (h : G a = some o) (hb : a ≠ b) (hl : a ≠ l) : G' a = some o := x a o hb hl h
theorem iteP_or {A B : Bool} {X Y : Prop} (h1 : A = true ∨ B = true → X) (h2 : A = false → B = false → Y) : iteP A (iteP true X Y ⟨⟩ ⟨⟩) (iteP B X Y ⟨⟩ ⟨⟩) ⟨⟩ ⟨⟩ := by
  cases A <;> cases B <;> simp at *
  · exact h2
  · exact h1
  · exact h1
  · exact h1
theorem iteP_and {A B : Bool} {X Y : Prop} (h1 : A = true → B = true → X) (h2 : A = false ∨ B = false → Y) : iteP A (iteP B X Y ⟨⟩ ⟨⟩) (iteP false X Y ⟨⟩ ⟨⟩) ⟨⟩ ⟨⟩ := by
  cases A <;> cases B <;> simp at *
  · exact h2
  · exact h2
  · exact h2
  · exact h1
/-- drawing -/
theorem take_call {Γ : Cs} {b l : Addr} {k : Int} {G : Gp} {Q : DQ} {E : DXK} {ts tq te} (h0 : 0 < k) (h1 : k < 18446744073709551616) (B : Box G b l) (q : ∀ r G', 0 ≤ r → r < k → Box G' b l → Exc b l G G' → Q (.int r) G') :
    callP (sp_law_take Γ) [.ref b, .int k] G Q E ts tq te := call2 ⟨b, l, k, rfl, rfl, h0, h1, B, q⟩
end DL
set_option Elab.async false
set_option linter.all false
set_option maxRecDepth 100000
set_option maxHeartbeats 4000000
namespace DL
open PySem PySem.Spec L2
/-! ### what stands behind a log -/
def outSt (rs : List Row) (G : Gp) (Q : DQ) : Prop := match runW rs 0 [] [] with
  | .inl _ => ∀ G', Ext G G' → Q .non G'
  | .inr (W, _) => ∀ p G', G p = none → G' p = some (.lst (sortD (W.map triD))) → Ext G G' → Q (.ref p) G'
def sp_standing (Γ : Cs) : DSp := sp1 fun d G Q E => ∃ a : Addr, d = .ref a ∧ ((∃ rs, LogOk G a rs ∧ outSt rs G Q) ∨ (∃ k : Nat, LogBad G a k ∧ ∀ G', Ext G G' → E Γ.cBadLog (some ("number", .int (k : Nat))) G'))
abbrev N_standing : List Str := ["log", "record", "row", "thing"]
def t_standing_L1 (Γ : Cs) (ED : DXK) : DTS := dIf (dNot (dTest (dMeth Γ.cRecord nRecord (sp_Record_go Γ) (wx ED) (dVar 1) (daCons (dVar 2) (daNil))))) (dRet (dC .non)) (dNext)
def t_standing_C1 (Γ : Cs) (ED : DXK) : DTE := dComp (diKeys (dFld Γ.cRecord nRecord 0 (dVar 1))) (dgName 3) dYes (dOp addR (dOp addR (dSl (dOp ixR (dFld Γ.cRecord nRecord 0 (dVar 1)) (dVar 3)) (doNone) (doSome (dC (.int 1)))) (dTup (daCons (dVar 3) (daNil)))) (dSl (dOp ixR (dFld Γ.cRecord nRecord 0 (dVar 1)) (dVar 3)) (doSome (dC (.int 1))) (doNone))) [3]
def t_standing (Γ : Cs) (ED : DXK) : DTS := dSeq (dDrop (dCall (sp_need_log Γ) (wx ED) (daCons (dVar 0) (daNil)))) (dSeq (dAsg (dMake Γ.cRecord nRecord (sp_Record_init__ Γ) (wx ED) daNil) (dgName 1)) (dSeq (dFor (diSeq (dVar 0)) (dgName 2) (t_standing_L1 Γ ED)) (dRet (dCB sortedR (daCons (dLockE (dN (t_standing_C1 Γ ED))) (daNil))))))
theorem cut_01 {x y : D} : cutD [x, y] none (some 1) = [x] := by simp [cutD, HT.sIx]
theorem cut_1e {x y : D} : cutD [x, y] (some 1) none = [y] := by simp [cutD, HT.sIx]
theorem ext_none {G G' : Gp} {p : Addr} (e : Ext G G') (h : G' p = none) : G p = none := by
  cases g : G p with
  | none => rfl
  | some o => rw [e p o g] at h; cases h
theorem fm_map {α β : Type} {f : α → Option β} {g : α → β} : ∀ {xs : List α}, (∀ x ∈ xs, f x = some (g x)) → xs.filterMap f = xs.map g
  | [], _ => rfl
  | x :: xs, h => by rw [List.filterMap_cons, h x (by simp), List.map_cons, fm_map fun y hy => h y (by simp [hy])]
theorem standing_C1 {Γ : Cs} {E : DXK} {G : Gp} {Q : DQ} {r a b : Addr} {W : Wh} {z0 z2 z3 : Option D} (hr : G r = some (.ins Γ.cRecord nRecord [.ref a, .ref b])) (ha : G a = some (.ldict true (whD W))) (nd : KeysNd W)
    (q : ∀ p, Nw G p → Q (.ref p) (put G p (.lst (W.map triD)))) : t_standing_C1 Γ E [z0, some (.ref r), z2, z3] G Q := by
  refine dComp_pure (items := W.map fun q => tD q.1) (stay := fun G => G a = some (.ldict true (whD W))) (fun x => (W.find? fun q => decide (tD q.1 = x)).map triD) (fun R h => by
    simp [hr, ha, whD_keys]
    exact ⟨fun a b hm => List.all_eq_true.mp (whD_intKey W) (a, b) hm, h⟩) ha (fun p ys hp => by rw [put_ne (ne_fr ha hp)]; exact ha) (fun p ys x hp hx Qs Qn hQ => ?_) (fun p hp => ?_)
  · obtain ⟨z, hz, rfl⟩ := List.mem_map.mp hx
    have v : valD (whD W) (tD z.1) = some (tD z.2) := by rw [valD_wh, getW_at nd hz]; rfl
    have n1 := ne_fr ha hp
    have n2 := ne_fr hr hp
    have f : W.find? (fun q => decide (tD q.1 = tD z.1)) = some z := by
      have := getW_at nd hz
      unfold getW at this
      have e : (fun q : Id × Id => decide (tD q.1 = tD z.1)) = fun q => decide (q.1 = z.1) := by funext q; exact dec_tD
      rw [e]
      cases h : W.find? (fun q => decide (q.1 = z.1)) with
      | none => rw [h] at this; cases this
      | some y =>
        rw [h] at this
        have h1 := List.find?_some h
        have h1 : y.1 = z.1 := by simpa using h1
        have h2 : y.2 = z.2 := by simpa using this
        rw [Prod.ext h1 h2]
    rw [f] at hQ
    obtain ⟨⟨z1, z2⟩, z3, z4⟩ := z
    simp only [tD] at v
    simp [put_at, n1, n2, hr, ha, v, tD, cut_01, cut_1e, sizeLine_eq]
    simpa [triD, tD] using hQ
  · have : (W.map fun q => tD q.1).filterMap (fun x => (W.find? fun q => decide (tD q.1 = x)).map triD) = W.map triD := by
      rw [List.filterMap_map]
      refine fm_map fun z hz => ?_
      have e : (fun q : Id × Id => decide (tD q.1 = tD z.1)) = fun q => decide (q.1 = z.1) := by funext q; exact dec_tD
      have := getW_at nd hz
      unfold getW at this
      simp only [Function.comp]
      rw [e]
      cases h : W.find? (fun q => decide (q.1 = z.1)) with
      | none => rw [h] at this; cases this
      | some y =>
        rw [h] at this
        have h1 := List.find?_some h
        have h1 : y.1 = z.1 := by simpa using h1
        have h2 : y.2 = z.2 := by simpa using this
        rw [Prod.ext h1 h2]
        rfl
    rw [this]
    exact q p hp
theorem newM_nd {W W' : Wh} {S S' : List Id} {e : Int} {t : Id} {n : Int} (h : newM W S e t n = some (W', S')) (nd : KeysNd W) : KeysNd W' := by
  unfold newM at h
  split at h
  · cases h
  · cases h; exact putW_nd nd
theorem step_nd {W W' : Wh} {S S' : List Id} {x : Row} (h : stepW W S x = some (W', S')) (nd : KeysNd W) : KeysNd W' := by
  cases x <;> simp only [stepW] at h
  · exact newM_nd h nd
  · split at h
    · cases h; exact putW_nd nd
    · cases h
  · split at h
    · cases h; exact dropW_nd nd
    · cases h
  · split at h
    · split at h
      · exact newM_nd h (dropW_nd nd)
      · cases h
    · cases h
  · split at h
    · split at h
      · exact newM_nd h nd
      · cases h
    · cases h
theorem pure_standing (Γ : Cs) : ∀ ds G Q E, sp_standing Γ ds G Q E → t_standing Γ E { nx := fun _ G => Q .non G, rt := Q } (dstart N_standing ds) G := by
  rintro ds G Q E ⟨d, rfl, l, rfl, ⟨rs, L, q⟩ | ⟨k, L, q⟩⟩
  case inr =>
    simp [t_standing]
    exact call1 ⟨l, rfl, .inr ⟨k, L, q⟩⟩
  have g := L.g
  have hlen := L.z
  unfold outSt at q
  simp [t_standing]
  refine call1 ⟨l, rfl, .inl ⟨rs, L, fun G1 e1 => ?_⟩⟩
  simp
  intro r hr
  refine call1 ⟨r, rfl, put_same, fun a b G2 ha hb R x2 => ⟨rfl, ?_⟩⟩
  have hra := put_none ha
  have hrb := put_none hb
  have g1 := e1 _ _ g
  have e2 : Ext G1 G2 := fun c o h => x2 c o (ne_fr h hr) (by rw [put_ne (ne_fr h hr)]; exact h)
  have g2 := e2 _ _ g1
  simp [g2]
  have ga : G a = none := ext_none e1 hra.2.2
  have gb : G b = none := ext_none e1 hrb.2.2
  refine loop_ind (fun i sd G' => Ext G G' ∧ ∃ W S x y, sd = [some (.ref l), some (.ref r), x, y] ∧ RecAt Γ G' r a b W S ∧ KeysNd W ∧ W.length ≤ i ∧ S.length ≤ i ∧ runW rs 0 [] [] = runW (rs.drop i) i W S) (fun i sd G' h => h.1 _ _ g) ?_ ?_
    ⟨e1.trans e2, [], [], _, _, rfl, R, List.nodup_nil, Nat.le_refl _, Nat.le_refl _, rfl⟩
  · rintro i x sd G' K hx ⟨e, W, S, x1, x2, rfl, R', nd, wl, sl, hrun⟩ hK
    rw [List.getElem?_map] at hx
    cases hr : rs[i]? with
    | none => rw [hr] at hx; cases hx
    | some row =>
      rw [hr] at hx
      cases hx
      have hi : i < 200 := by have := (List.getElem?_eq_some_iff.mp hr).1; omega
      rw [runW_at hr] at hrun
      have m1 : methO Γ.cRecord nRecord (G' r) := by rw [R'.hr]; simp
      simp [t_standing_L1, m1]
      refine call2 ⟨r, a, b, W, S, row, rfl, rfl, R', by omega, by omega, ?_⟩
      cases hs : stepW W S row with
      | none =>
        rw [hs] at hrun
        intro G3 x3
        simp
        rw [hrun] at q
        exact q G3 (e.exc x3 ga gb)
      | some p =>
        obtain ⟨W', S'⟩ := p
        rw [hs] at hrun
        have hl := step_len hs
        intro G3 R3 x3
        have e3 := e.exc x3 ga gb
        simp
        exact ⟨e3 _ _ g, hK _ _ ⟨e3, W', S', _, _, rfl, R3, step_nd hs nd, by omega, by omega, hrun⟩⟩
  · rintro sd G' ⟨e, W, S, x1, x2, rfl, R', nd, wl, sl, hrun⟩
    rw [List.length_map, List.drop_length] at hrun
    rw [hrun] at q
    have ra := R'.ra
    have rb := R'.rb
    refine dLockE_of R'.ha ?_
    refine standing_C1 (W := W) (by rw [put_ne ra]; exact R'.hr) put_same nd fun p hp => ?_
    simp only [nw_put] at hp
    simp [put_at, hp]
    refine ⟨srt_tri W, fun p2 hp2 => ?_⟩
    simp only [nw_put] at hp2
    refine q p2 _ (ext_none e hp2.2.2.2.2.2.2) put_same fun c o h => ?_
    have := e _ _ h
    simp [put_at, ne_fr h ga, Nw.ne this hp.2.2, Nw.ne this hp2.2.2.2.2.2.2, this]
end DL
set_option Elab.async false
set_option linter.all false
set_option maxRecDepth 100000
set_option maxHeartbeats 400000
namespace DL
open PySem PySem.Spec L2
/-! ### drawn offers, drawn knows -/
def tDo (t : Int × Int) : D := .tup [.int t.1, .int t.2]
theorem takes {Γ : Cs} {b l : Addr} {k : Int} {G : Gp} {Q : DQ} {E : DXK} {ts tq te} (h0 : 0 < k) (h1 : k < 18446744073709551616) (B : Box G b l) (q : ∀ r G', 0 ≤ r → r < k → Box G' b l → Exc b l G G' → Q (.int r) G') :
    callP (sp_law_take Γ) [.ref b, .int k] G Q E ts tq te := call2 ⟨b, l, k, rfl, rfl, h0, h1, B, q⟩
theorem er_map {α β : Type} (f : α → β) : ∀ (l : List α) (i : Nat), (l.map f).eraseIdx i = (l.eraseIdx i).map f
  | [], _ => rfl
  | _ :: _, 0 => rfl
  | a :: l, i + 1 => by simp [er_map f l i]
theorem er_perm {α : Type} : ∀ (l : List α) (i : Nat) (h : i < l.length), (l[i] :: l.eraseIdx i).Perm l
  | a :: l, 0, _ => .refl _
  | a :: l, i + 1, h => by
    have ih := er_perm l i (by simpa using h)
    exact (List.Perm.swap _ _ _).trans (ih.cons a)
/-- one taken out of the rest -/
theorem taken {ns : List Int} {r : Int} (r0 : 0 ≤ r) (r1 : r < ns.length) : ∃ k, ns[r.toNat]? = some k ∧ k ∈ ns ∧ (ns.map D.int)[r.toNat]? = some (.int k) ∧ (ns.map D.int).eraseIdx r.toNat = (ns.eraseIdx r.toNat).map D.int ∧ (ns.eraseIdx r.toNat).length + 1 = ns.length ∧ (k :: ns.eraseIdx r.toNat).Perm ns := by
  have hr : r.toNat < ns.length := by omega
  refine ⟨ns[r.toNat], by simp [hr], List.getElem_mem hr, by simp [hr], er_map _ _ _, ?_, er_perm _ _ hr⟩
  rw [List.length_eraseIdx_of_lt hr]
  omega
def sp_law_offers (Γ : Cs) : DSp := sp1 fun x G Q _ => ∃ b l, x = .ref b ∧ Box G b l ∧ ∀ (ps : List (Int × Int)) G', ps ≠ [] → (ps.map (·.1)).Nodup → (∀ p ∈ ps, 0 ≤ p.1 ∧ p.1 ≤ 7 ∧ 0 ≤ p.2 ∧ p.2 ≤ 9999) → ps.length ≤ 8 → Box G' b l → Exc b l G G' → Q (.tup (ps.map tDo)) G'
abbrev N_law_offers : List Str := ["_law_box", "_law_left", "_law_found", "_law_turn"]
def t_law_offers_L1 (Γ : Cs) (ED : DXK) : DTS := dDrop (dBM "list" appR (dVar 2) (daCons (dTup (daCons (dBM "list" popR (dVar 1) (daCons (dCall (sp_law_take Γ) (wx ED) (daCons (dVar 0) (daCons (dCB lenR (daCons (dVar 1) (daNil))) (daNil)))) (daNil))) (daCons (dCall (sp_law_take Γ) (wx ED) (daCons (dVar 0) (daCons (dC (.int 10000)) (daNil)))) (daNil)))) (daNil)))
def t_law_offers (Γ : Cs) (ED : DXK) : DTS := dSeq (dPar 1 2 (daCons (dListRng (dC (.int 8))) (daCons (dLst (daNil)) (daNil)))) (dSeq (dFor (diRng (daCons (dOp addR (dC (.int 1)) (dCall (sp_law_take Γ) (wx ED) (daCons (dVar 0) (daCons (dOp ixR (dLst (daCons (dC (.int 2)) (daCons (dC (.int 4)) (daCons (dC (.int 8)) (daNil))))) (dCall (sp_law_take Γ) (wx ED) (daCons (dVar 0) (daCons (dC (.int 3)) (daNil))))) (daNil))))) (daNil))) (dgName 3) (t_law_offers_L1 Γ ED)) (dRet (dCB tupleR (daCons (dVar 2) (daNil)))))
theorem pure_law_offers (Γ : Cs) : ∀ ds G Q E, sp_law_offers Γ ds G Q E → t_law_offers Γ E { nx := fun _ G => Q .non G, rt := Q } (dstart N_law_offers ds) G := by
  rintro ds G Q E ⟨x, rfl, b, l, rfl, B, q⟩
  simp [t_law_offers]
  intro p hp p2 hp2 p3 hp3
  have n1 := B.ne hp
  have B1 := B.ext (Ext.put (o := .lst (rngD 0 8)) hp)
  have n2 := B1.ne hp2
  have B2 := B1.ext (Ext.put (o := .lst []) hp2)
  have n3 := B2.ne hp3
  have B3 := B2.ext (Ext.put (o := .lst [.int 2, .int 4, .int 8]) hp3)
  have e3 := (Ext.put (o := .lst (rngD 0 8)) hp).trans ((Ext.put (o := .lst []) hp2).trans (Ext.put (o := .lst [.int 2, .int 4, .int 8]) hp3))
  simp only [nw_put] at hp2 hp3
  obtain ⟨m1, m2, hp2⟩ := hp2
  obtain ⟨m3, m4, m5, m6, hp3⟩ := hp3
  refine takes (by decide) (by decide) B3 fun r G1 r0 r1 B4 x1 => ?_
  have hm : ∃ m, atI [D.int 2, .int 4, .int 8] r = some (.int m) ∧ 0 < m ∧ m ≤ 8 := by
    have : r = 0 ∨ r = 1 ∨ r = 2 := by omega
    rcases this with rfl | rfl | rfl
    · exact ⟨2, by simp, by decide, by decide⟩
    · exact ⟨4, by simp, by decide, by decide⟩
    · exact ⟨8, by simp, by decide, by decide⟩
  obtain ⟨m, hm, m0, m8⟩ := hm
  simp [x1 p3 _ n3.1 n3.2 put_same, hm]
  refine takes m0 (by omega) B4 fun r' G2 r0' r1' B5 x2 => ?_
  simp
  have x12 := x1.trans x2
  have gp : G2 p = some (.lst (rngD 0 8)) := x12 p _ n1.1 n1.2 (by simp [put_at, m1, m2, m3, m4, m5, m6])
  have gp2 : G2 p2 = some (.lst []) := x12 p2 _ n2.1 n2.2 (by simp [put_at, m1, m2, m3, m4, m5, m6])
  have x0 : Exc b l G G2 := (Exc.of_ext e3).trans x12
  refine ⟨by omega, by omega, ?_⟩
  refine loop_ind (fun i sd G' => Box G' b l ∧ Exc b l G G' ∧ ∃ (z : Option D) (ps : List (Int × Int)) (ns : List Int), sd = [some (.ref b), some (.ref p), some (.ref p2), z] ∧ G' p = some (.lst (ns.map .int)) ∧ G' p2 = some (.lst (ps.map tDo)) ∧
    ps.length = i ∧ ns.length + i = 8 ∧ (ps.map (·.1) ++ ns).Nodup ∧ (∀ n ∈ ns, 0 ≤ n ∧ n ≤ 7) ∧ (∀ p ∈ ps, 0 ≤ p.1 ∧ p.1 ≤ 7 ∧ 0 ≤ p.2 ∧ p.2 ≤ 9999)) (fun _ _ _ _ => trivial) ?_ ?_ ⟨B5, x0, none, [], [0, 1, 2, 3, 4, 5, 6, 7], rfl, by rw [gp]; rfl, gp2, rfl, rfl, by decide, by decide, by simp⟩
  · rintro i x sd G' K hx ⟨B', x', z, ps, ns, rfl, h1, h2, h3, h4, h5, h6, h7⟩ hK
    obtain ⟨hi, rfl⟩ := rngD_at hx
    simp [t_law_offers_L1, h1, h2]
    refine takes (by omega) (by omega) B' fun r G3 r0 r1 B6 x6 => ?_
    obtain ⟨k, e1, e2, e3, e4, e5, e6⟩ := taken r0 r1
    have g3 := x6 p _ n1.1 n1.2 h1
    have g32 := x6 p2 _ n2.1 n2.2 h2
    simp [g3, e3, e4, r0]
    have B7 := B6.put (o := .lst ((ns.eraseIdx r.toNat).map D.int)) n1.1 n1.2
    refine takes (by decide) (by decide) B7 fun r2 G5 r20 r21 B8 x8 => ?_
    have g5 := x8 p2 _ n2.1 n2.2 (by rw [put_ne (by first | exact m1 | exact m2)]; exact g32)
    have hps : ps.length < sizeLine := by rw [sizeLine_eq]; omega
    simp [g5, hps]
    refine hK _ _ ⟨B8.put n2.1 n2.2, ((((x'.trans x6).fresh hp).trans x8).fresh hp2), _, ps ++ [(k, r2)], ns.eraseIdx r.toNat, rfl, ?_, ?_, by simp [h3], by omega, ?_, fun n hn => h6 n (List.mem_of_mem_eraseIdx hn), fun q hq => ?_⟩
    · rw [put_ne (by first | exact m1 | exact m2)]
      exact x8 p _ n1.1 n1.2 put_same
    · rw [put_same]
      simp [tDo]
    · have : (ps.map (·.1) ++ (k :: ns.eraseIdx r.toNat)).Perm (ps.map (·.1) ++ ns) := List.Perm.append_left _ e6
      simpa using this.nodup_iff.mpr h5
    · rcases List.mem_append.mp hq with hq | hq
      · exact h7 q hq
      · have : q = (k, r2) := by simpa using hq
        subst this
        have := h6 k e2
        exact ⟨this.1, this.2, r20, by show r2 ≤ 9999; omega⟩
  · rintro sd G' ⟨B', x', z, ps, ns, rfl, h1, h2, h3, h4, h5, h6, h7⟩
    rw [rngD_len] at h3
    simp [h2]
    refine q ps G' ?_ (List.nodup_append.mp h5).1 h7 (by omega) B' x'
    intro e
    subst e
    simp at h3
    omega
end DL
set_option Elab.async false
set_option linter.all false
set_option maxRecDepth 100000
set_option maxHeartbeats 4000000
namespace DL
open PySem PySem.Spec L2
/-! ### odd rows -/
def sp_law_odd (Γ : Cs) : DSp := sp1 fun x G Q _ => ∃ b l, x = .ref b ∧ Box G b l ∧ ∀ d G', (∀ G'', Exc b l G' G'' → Odd G'' d) → Box G' b l → Exc b l G G' → Q d G'
abbrev N_law_odd : List Str := ["_law_box", "_law_far", "_law_some"]
def t_law_odd (Γ : Cs) (ED : DXK) : DTS := dSeq (dAsg (dOp ixR (dLst (daCons (dC (.int 0)) (daCons (dC (.int 1)) (daCons (dCall (sp_law_take Γ) (wx ED) (daCons (dVar 0) (daCons (dC (.int 1000000000000000000)) (daNil)))) (daNil))))) (dCall (sp_law_take Γ) (wx ED) (daCons (dVar 0) (daCons (dC (.int 3)) (daNil))))) (dgName 1)) (dSeq (dAsg (dLst (daCons (dTup (daNil)) (daCons (dTup (daCons (dC (.str "made")) (daNil))) (daCons (dTup (daCons (dC (.str "made")) (daCons (dC (.int 0)) (daCons (dTup (daCons (dC (.int 0)) (daCons (dC (.int 0)) (daNil)))) (daNil))))) (daCons (dTup (daCons (dC (.str "made")) (daCons (dOp addR (dC (.int 6)) (dVar 1)) (daCons (dTup (daCons (dC (.int 0)) (daCons (dC (.int 0)) (daNil)))) (daCons (dC (.int 0)) (daNil)))))) (daCons (dTup (daCons (dC (.str "made")) (daCons (dC (.int 0)) (daCons (dTup (daCons (dOp addR (dC (.int 6)) (dVar 1)) (daCons (dC (.int 0)) (daNil)))) (daCons (dC (.int 0)) (daNil)))))) (daNil))))))) (dgName 2)) (dSeq (dDrop (dBM "list" appR (dVar 2) (daCons (dTup (daCons (dC (.str "Made")) (daCons (dC (.int 0)) (daCons (dTup (daCons (dC (.int 0)) (daCons (dC (.int 0)) (daNil)))) (daCons (dC (.int 0)) (daNil)))))) (daNil)))) (dSeq (dAsg (dOp addR (dVar 2) (dLst (daCons (dTup (daCons (dC (.str "made")) (daCons (dC (.int 0)) (daCons (dTup (daCons (dC (.int 0)) (daCons (dOp addR (dOp addR (dC (.int 1000000)) (dC (.int 1))) (dVar 1)) (daNil)))) (daCons (dC (.int 0)) (daNil)))))) (daCons (dTup (daCons (dC (.str "made")) (daCons (dC (.int 0)) (daCons (dTup (daCons (dC (.int 0)) (daCons (dC (.int 0)) (daNil)))) (daCons (dOp addR (dC (.int 10000)) (dVar 1)) (daNil)))))) (daNil))))) (dgName 2)) (dSeq (dDrop (dBM "list" appR (dVar 2) (daCons (dTup (daCons (dC (.str "made")) (daCons (dOp subR (dC (.int (-1))) (dVar 1)) (daCons (dTup (daCons (dC (.int 0)) (daCons (dC (.int 0)) (daNil)))) (daCons (dC (.int 0)) (daNil)))))) (daNil)))) (dSeq (dAsg (dOp addR (dVar 2) (dLst (daCons (dTup (daCons (dC (.str "thrown")) (daCons (dC (.int 0)) (daCons (dC (.int 0)) (daNil))))) (daCons (dTup (daCons (dC (.str "thrown")) (daCons (dC (.int 0)) (daCons (dLst (daCons (dC (.int 0)) (daCons (dC (.int 0)) (daNil)))) (daNil))))) (daCons (dTup (daCons (dC (.str "moved")) (daCons (dC (.int 0)) (daCons (dTup (daCons (dC (.int 0)) (daCons (dC (.int 0)) (daNil)))) (daCons (dC (.int 1)) (daNil)))))) (daCons (dTup (daCons (dC (.str "moved")) (daCons (dC (.int 0)) (daCons (dTup (daCons (dC (.int 0)) (daCons (dC (.int 0)) (daNil)))) (daCons (dC (.int 1)) (daCons (dTup (daCons (dC (.int 1)) (daCons (dC (.int 0)) (daNil)))) (daCons (dC (.int 5)) (daNil)))))))) (daNil))))))) (dgName 2)) (dSeq (dAsg (dOp addR (dVar 2) (dLst (daCons (dTup (daCons (dC (.str "copied")) (daCons (dC (.int 0)) (daCons (dTup (daCons (dC (.int 0)) (daCons (dC (.int 0)) (daNil)))) (daCons (dC (.int 1)) (daCons (dTup (daCons (dC (.int 1)) (daCons (dC (.int 0)) (daNil)))) (daNil))))))) (daCons (dTup (daCons (dC (.str "changed")) (daCons (dC (.int 0)) (daCons (dTup (daCons (dC (.int 0)) (daCons (dC (.int 0)) (daNil)))) (daCons (dC .non) (daNil)))))) (daCons (dTup (daCons (dC (.str "made")) (daCons (dC (.bl true)) (daCons (dTup (daCons (dC (.int 0)) (daCons (dC (.int 0)) (daNil)))) (daCons (dC (.int 0)) (daNil)))))) (daNil)))))) (dgName 2)) (dSeq (dAsg (dOp addR (dVar 2) (dLst (daCons (dC (.int 5)) (daCons (dC .non) (daCons (dLst (daCons (dC (.str "made")) (daNil))) (daNil)))))) (dgName 2)) (dRet (dOp ixR (dVar 2) (dCall (sp_law_take Γ) (wx ED) (daCons (dVar 0) (daCons (dC (.int 19)) (daNil)))))))))))))
def oddL (f : Int) (p q : Addr) : List D := [.tup [], .tup [.str "made"], .tup [.str "made", .int 0, .tup [.int 0, .int 0]], .tup [.str "made", .int (6 + f), .tup [.int 0, .int 0], .int 0], .tup [.str "made", .int 0, .tup [.int (6 + f), .int 0], .int 0],
  .tup [.str "Made", .int 0, .tup [.int 0, .int 0], .int 0], .tup [.str "made", .int 0, .tup [.int 0, .int (1000001 + f)], .int 0], .tup [.str "made", .int 0, .tup [.int 0, .int 0], .int (10000 + f)], .tup [.str "made", .int (-1 - f), .tup [.int 0, .int 0], .int 0],
  .tup [.str "thrown", .int 0, .int 0], .tup [.str "thrown", .int 0, .ref p], .tup [.str "moved", .int 0, .tup [.int 0, .int 0], .int 1], .tup [.str "moved", .int 0, .tup [.int 0, .int 0], .int 1, .tup [.int 1, .int 0], .int 5],
  .tup [.str "copied", .int 0, .tup [.int 0, .int 0], .int 1, .tup [.int 1, .int 0]], .tup [.str "changed", .int 0, .tup [.int 0, .int 0], .non], .tup [.str "made", .bl true, .tup [.int 0, .int 0], .int 0], .int 5, .non, .ref q]
theorem tyd_plain {G : Gp} {d : D} (h : dat 1 d = true) : tyd G d := by
  cases d with
  | tup ds =>
    refine ⟨rfl, fun es x e hx => ?_⟩
    cases e
    have h1 : ∀ d ∈ ds, dat 0 d = true := by simpa [dat, List.all_eq_true] using h
    have h2 := h1 x hx
    cases x <;> first | rfl | cases h2
  | ref p => cases h
  | ty n => cases h
  | _ => exact ⟨rfl, fun es x e hx => by cases e⟩
theorem odd_plain {G : Gp} {w : Str} {s : Option Str} {ds : List D} (h1 : tblM.lookup w = some s) (hz : ds.length ≤ 10) (hd : ∀ d ∈ ds, dat 1 d = true) (hb : match s with
    | none => True
    | some s => s.length ≤ 10 ∧ (ds.length ≠ s.length ∨ (ds.length = s.length ∧ ∃ (i : Nat) (ch : Nat) (d : D), s.cps.toList[i]? = some ch ∧ ds[i]? = some d ∧ isPart ⟨#[ch]⟩ d = false))) : Odd G (.tup (.str w :: ds)) := by
  refine .row h1 hz (fun G' _ => ⟨_, pd_dat 19 _ ?_⟩) ?_
  · simp only [dat, List.all_cons, List.all_eq_true, Bool.and_eq_true, true_and]
    intro d hd'
    have := hd d hd'
    cases d with
    | tup es =>
      have h1 : ∀ d ∈ es, dat 0 d = true := by simpa [dat, List.all_eq_true] using this
      simp only [dat, List.all_eq_true]
      intro x hx
      have h2 := h1 x hx
      cases x <;> first | rfl | cases h2
    | ref p => cases this
    | ty n => cases this
    | _ => rfl
  · cases s with
    | none => trivial
    | some s =>
      obtain ⟨hs, h | ⟨h2, h3⟩⟩ := hb
      · exact ⟨hs, .inl h⟩
      · exact ⟨hs, .inr ⟨h2, fun d hd' => tyd_plain (hd d hd'), h3⟩⟩
theorem odd_all {G : Gp} {f : Int} {p q : Addr} (hf : 0 ≤ f) (hp : G p = some (.lst [.int 0, .int 0])) (hq : G q = some (.lst [.str "made"])) : ∀ d ∈ oddL f p q, Odd G d := by
  have L3 : ("etn" : Str).length = 3 := by decide +kernel
  have L2 : ("et" : Str).length = 2 := by decide +kernel
  have L4 : ("etet" : Str).length = 4 := by decide +kernel
  have L5 : ("etetn" : Str).length = 5 := by decide +kernel
  have km : tblM.lookup ("made" : Str) = some (some ("etn" : Str)) := by decide +kernel
  have kc : tblM.lookup ("changed" : Str) = some (some ("etn" : Str)) := by decide +kernel
  have kt : tblM.lookup ("thrown" : Str) = some (some ("et" : Str)) := by decide +kernel
  have kv : tblM.lookup ("moved" : Str) = some (some ("etet" : Str)) := by decide +kernel
  have kk : tblM.lookup ("copied" : Str) = some (some ("etetn" : Str)) := by decide +kernel
  have kM : tblM.lookup ("Made" : Str) = some none := by decide +kernel
  intro d hd
  simp only [oddL, List.mem_cons, List.not_mem_nil, or_false] at hd
  have part : ∀ {w s : Str} {ds : List D}, tblM.lookup w = some (some s) → ds.length ≤ 10 → (∀ d ∈ ds, dat 1 d = true) → s.length = ds.length → (∃ (i : Nat) (ch : Nat) (d : D), s.cps.toList[i]? = some ch ∧ ds[i]? = some d ∧ isPart ⟨#[ch]⟩ d = false) → Odd G (.tup (.str w :: ds)) :=
    fun h1 hz hd hl h => odd_plain h1 hz hd ⟨by omega, .inr ⟨hl.symm, h⟩⟩
  have len : ∀ {w s : Str} {ds : List D}, tblM.lookup w = some (some s) → ds.length ≤ 10 → (∀ d ∈ ds, dat 1 d = true) → s.length ≤ 10 → ds.length ≠ s.length → Odd G (.tup (.str w :: ds)) :=
    fun h1 hz hd hl h => odd_plain h1 hz hd ⟨hl, .inl h⟩
  rcases hd with rfl | rfl | rfl | rfl | rfl | rfl | rfl | rfl | rfl | rfl | rfl | rfl | rfl | rfl | rfl | rfl | rfl | rfl | rfl
  · exact .nil
  · exact len km (by simp) (by simp) (by omega) (by simp [L3])
  · exact len km (by simp) (by simp [dat]) (by omega) (by simp [L3])
  · exact part km (by simp) (by simp [dat]) (by simp [L3]) ⟨0, 101, _, by simp [c_etn], rfl, by rw [isPart_e]; simp [isNum]; omega⟩
  · exact part km (by simp) (by simp [dat]) (by simp [L3]) ⟨1, 116, _, by simp [c_etn], rfl, by rw [isPart_t]; simp [isId, isNum]; omega⟩
  · exact odd_plain kM (by simp) (by simp [dat]) trivial
  · exact part km (by simp) (by simp [dat]) (by simp [L3]) ⟨1, 116, _, by simp [c_etn], rfl, by rw [isPart_t]; simp [isId, isNum]; omega⟩
  · exact part km (by simp) (by simp [dat]) (by simp [L3]) ⟨2, 110, _, by simp [c_etn], rfl, by rw [isPart_n]; simp [isNum]; omega⟩
  · exact part km (by simp) (by simp [dat]) (by simp [L3]) ⟨0, 101, _, by simp [c_etn], rfl, by rw [isPart_e]; simp [isNum]; omega⟩
  · exact part kt (by simp) (by simp [dat]) (by simp [L2]) ⟨1, 116, _, by simp [c_et], rfl, by rw [isPart_t]; rfl⟩
  · refine .row kt (by simp) (fun G' e => ⟨.tuple [.str "thrown", .int 0, .list [.int 0, .int 0]], ?_⟩) ⟨by omega, .inr ⟨by simp [L2], fun d hd => ?_, 1, 116, _, by simp [c_et], rfl, by rw [isPart_t]; rfl⟩⟩
    · have g := e _ _ hp
      refine ⟨rfl, fun i d p e1 e2 => ?_⟩
      rcases i with _ | _ | _ | i
      · cases e1; cases e2; rfl
      · cases e1; cases e2; rfl
      · cases e1
        cases e2
        refine ⟨[.int 0, .int 0], by simp [IsLst, g], rfl, fun i d p e1 e2 => ?_⟩
        rcases i with _ | _ | i
        · cases e1; cases e2; rfl
        · cases e1; cases e2; rfl
        · cases e1
      · cases e1
    · simp at hd
      rcases hd with rfl | rfl
      · exact tyd_plain rfl
      · exact ⟨by simp [tyN, hp], fun es x e hx => by cases e⟩
  · exact len kv (by simp) (by simp [dat]) (by omega) (by simp [L4])
  · exact len kv (by simp) (by simp [dat]) (by omega) (by simp [L4])
  · exact len kk (by simp) (by simp [dat]) (by omega) (by simp [L5])
  · exact part kc (by simp) (by simp [dat]) (by simp [L3]) ⟨2, 110, _, by simp [c_etn], rfl, by rw [isPart_n]; rfl⟩
  · exact part km (by simp) (by simp [dat]) (by simp [L3]) ⟨0, 101, _, by simp [c_etn], rfl, by rw [isPart_e]; rfl⟩
  · exact .int 5
  · exact .non
  · exact .lst hq
theorem pure_law_odd (Γ : Cs) : ∀ ds G Q E, sp_law_odd Γ ds G Q E → t_law_odd Γ E { nx := fun _ G => Q .non G, rt := Q } (dstart N_law_odd ds) G := by
  rintro ds G Q E ⟨x, rfl, b, l, rfl, B, q⟩
  simp [t_law_odd]
  refine takes (by decide) (by decide) B fun r G1 r0 r1 B1 x1 => ?_
  simp
  intro p hp
  refine takes (by decide) (by decide) (B1.ext (Ext.put hp)) fun r2 G2 r20 r21 B2 x2 => ?_
  obtain ⟨f, hf, ef⟩ : ∃ f, 0 ≤ f ∧ atI [D.int 0, .int 1, .int r] r2 = some (.int f) := by
    have : r2 = 0 ∨ r2 = 1 ∨ r2 = 2 := by omega
    rcases this with rfl | rfl | rfl
    · exact ⟨0, by decide, by simp⟩
    · exact ⟨1, by decide, by simp⟩
    · exact ⟨r, r0, by simp⟩
  have np := B1.ne hp
  have gp : G2 p = some (.lst [D.int 0, .int 1, .int r]) := x2 p _ np.1 np.2 put_same
  simp [gp, ef]
  intro a1 n1
  simp [put_put, put_same, sizeLine_eq]
  generalize hG : put G2 a1 _ = H1
  have g1 : H1 a1 = some (.lst ((oddL f 0 0).take 6)) := by rw [← hG]; exact put_same
  have e1 : Ext G2 H1 := by rw [← hG]; exact Ext.put n1
  clear hG
  intro a2 n2
  have k2 := Nw.ne g1 n2
  simp [put_at, k2.1, k2.2, g1, oddL, sizeLine_eq]
  intro a3 n3
  simp [put_put, put_same, sizeLine_eq]
  generalize hG : put (put H1 a2 _) a3 _ = H2
  have g2 : H2 a3 = some (.lst ((oddL f 0 0).take 9)) := by rw [← hG]; exact put_same
  have e2 : Ext H1 H2 := by rw [← hG]; exact (Ext.put n2).trans (Ext.put n3)
  clear hG
  intro a4 n4 a5 n5
  have k4 := Nw.ne g2 n4
  have k5 := Nw.ne (G := put H2 a4 _) (by rw [put_ne k4.1]; exact g2) n5
  simp [put_at, k4.1, k4.2, k5.1, k5.2, g2, oddL, sizeLine_eq]
  intro a6 n6
  have k6 := Nw.ne (G := put (put H2 a4 _) a5 _) (by rw [put_ne (by simp only [nw_put] at n5; exact n5.2.1)]; exact put_same) n6
  have k45 : ¬ a4 = a5 := by simp only [nw_put] at n5; exact n5.2.1
  generalize hG : put (put (put H2 a4 _) a5 _) a6 _ = H3
  have g3 : H3 a6 = some (.lst ((oddL f a4 0).take 13)) := by rw [← hG]; exact put_same
  have g4 : H3 a4 = some (.lst [.int 0, .int 0]) := by rw [← hG, put_ne k6.1, put_ne k45]; exact put_same
  have e3 : Ext H2 H3 := by rw [← hG]; exact ((Ext.put n4).trans (Ext.put n5)).trans (Ext.put n6)
  clear hG
  intro a7 n7
  have k7 := Nw.ne g3 n7
  simp [put_at, k7.1, k7.2, g3, oddL, sizeLine_eq]
  intro a8 n8
  generalize hG : put (put H3 a7 _) a8 _ = H4
  have g5 : H4 a8 = some (.lst ((oddL f a4 0).take 16)) := by rw [← hG]; exact put_same
  have e4 : Ext H3 H4 := by rw [← hG]; exact (Ext.put n7).trans (Ext.put n8)
  clear hG
  intro a9 n9 a10 n10
  have k9 := Nw.ne g5 n9
  have k10 := Nw.ne (G := put H4 a9 _) (by rw [put_ne k9.1]; exact g5) n10
  simp [put_at, k9.1, k9.2, k10.1, k10.2, g5, oddL, sizeLine_eq]
  intro a11 n11
  have k910 : ¬ a9 = a10 := by simp only [nw_put] at n10; exact n10.2.1
  have k11 := Nw.ne (G := put (put H4 a9 _) a10 _) (by rw [put_ne k910]; exact put_same) n11
  generalize hG : put (put (put H4 a9 _) a10 _) a11 _ = H5
  have g6 : H5 a11 = some (.lst (oddL f a4 a9)) := by rw [← hG]; exact put_same
  have g7 : H5 a9 = some (.lst [.str "made"]) := by rw [← hG, put_ne k11.1, put_ne k910]; exact put_same
  have e5 : Ext H4 H5 := by rw [← hG]; exact ((Ext.put n9).trans (Ext.put n10)).trans (Ext.put n11)
  clear hG
  have g8 := e5 _ _ (e4 _ _ g4)
  have e25 : Ext G2 H5 := (((e1.trans e2).trans e3).trans e4).trans e5
  have B5 := B2.ext e25
  have q4 := (B2.ext (e1.trans e2)).ne n4
  have q9 := (B2.ext (((e1.trans e2).trans e3).trans e4)).ne n9
  have n11' : Nw H4 a11 := by simp only [nw_put] at n11; exact n11.2.2.2.2
  have q11 := (B2.ext (((e1.trans e2).trans e3).trans e4)).ne n11'
  refine takes (by decide) (by decide) B5 fun r3 G3 r30 r31 B3 x3 => ?_
  have g9 : G3 a11 = some (.lst (oddL f a4 a9)) := x3 _ _ q11.1 q11.2 g6
  have hr : r3.toNat < (oddL f a4 a9).length := by simp [oddL]; omega
  have hat : atI (oddL f a4 a9) r3 = some (oddL f a4 a9)[r3.toNat] := by
    have := atI_nat (xs := oddL f a4 a9) hr
    rwa [Int.toNat_of_nonneg r30] at this
  rw [ixR_ref]
  simp [g9, hat]
  refine q _ _ (fun G'' x4 => odd_all hf (x4 _ _ q4.1 q4.2 (x3 _ _ q4.1 q4.2 g8)) (x4 _ _ q9.1 q9.2 (x3 _ _ q9.1 q9.2 g7)) _ (List.getElem_mem hr)) B3 ?_
  exact ((((x1.trans (Exc.of_ext (Ext.put hp))).trans x2).trans (Exc.of_ext e25)).trans x3)
end DL
set_option Elab.async false
set_option linter.all false
set_option maxRecDepth 100000
set_option maxHeartbeats 4000000
namespace DL
open PySem PySem.Spec L2
/-! ### all works tell the same -/
abbrev N_law_all : List Str := ["_law_works", "_law_due", "_law_work"]
def t_law_all_C1 (LM : Nat → Clo → Prop) (acts : Nat → Act) (Γ : Cs) (ED : DXK) : DTE := dComp (diSeq (dVar 0)) (dgName 2) (dNot (dTest (dCall (sp_law_alike 6 Γ) W0 (daCons (dToldV LM (Ls Γ) acts (dVar 2)) (daCons (dVar 1) (daNil)))))) (dVar 2) [2]
def t_law_all (LM : Nat → Clo → Prop) (acts : Nat → Act) (Γ : Cs) (ED : DXK) : DTS := dRet (dOp eqR (dN (t_law_all_C1 LM acts Γ ED)) (dLst (daNil)))
theorem same_pair {n : Nat} {G : Gp} {w : Str} {k : Int} : same (n + 2) G (.tup [.str w, .int k]) (.tup [.str w, .int k]) := by
  refine ⟨rfl, by simp, fun i x y e1 e2 => ?_⟩
  rw [e1] at e2
  cases e2
  rcases i with _ | _ | i
  · cases e1; rfl
  · cases e1; rfl
  · cases e1
theorem all_run {LM : Nat → Clo → Prop} {acts : Nat → Act} {Γ : Cs} {E : DXK} {G : Gp} {a : Addr} {fs : List Addr} {due : D} {Q : DQ} (ha : G a = some (.lst (fs.map .ref)))
    (step : ∀ f ∈ fs, ∀ G', Ext G G' → ∃ i c, G' f = some (.fn c) ∧ LM i c ∧ ∀ Q, (∀ r G'', Ext G' G'' → same 6 G'' r due → Q r G'') → acts i (toldE (Ls Γ) Q) G' Q)
    (q : ∀ G', Ext G G' → Q (.bl true) G') : spT N_law_all ["_law_works", "_law_due"] (t_law_all LM acts Γ) [.ref a, due] G Q E := by
  refine ⟨rfl, ?_⟩
  simp [t_law_all]
  unfold compP
  simp [t_law_all_C1, ha]
  refine compB_ind (fun p i acc G' => Ext G G' ∧ G' p = some (.lst []) ∧ acc = []) ha (fun p hp => ⟨.put hp, put_same, rfl⟩) (fun p i acc G' _ h => h.1 _ _ ha) ?_ ?_
  · rintro p i x acc G' K hp hx ⟨e, gp, rfl⟩ hK
    rw [List.getElem?_map] at hx
    cases hf : fs[i]? with
    | none => rw [hf] at hx; cases hx
    | some f =>
      rw [hf] at hx
      cases hx
      simp
      obtain ⟨j, c, g1, g2, g3⟩ := step f (List.mem_of_getElem? hf) G' e
      refine ⟨j, c, g1, g2, g3 _ fun r G'' e2 hs => ?_⟩
      exact ⟨r, due, rfl, hs, (e.trans e2) _ _ ha, hK _ _ ⟨e.trans e2, e2 _ _ gp, rfl⟩⟩
  · rintro p acc G' hp ⟨e, gp, rfl⟩
    refine eq_new gp rfl fun p2 hp2 => ?_
    simp
    exact q _ (e.trans (.put hp2))
theorem all_call {LM : Nat → Clo → Prop} {acts : Nat → Act} {Γ : Cs} {E : DXK} {G : Gp} {a : Addr} {fs : List Addr} {due : D} {Q : DQ} {ts tq te} (ha : G a = some (.lst (fs.map .ref)))
    (step : ∀ f ∈ fs, ∀ G', Ext G G' → ∃ i c, G' f = some (.fn c) ∧ LM i c ∧ ∀ Q, (∀ r G'', Ext G' G'' → same 6 G'' r due → Q r G'') → acts i (toldE (Ls Γ) Q) G' Q)
    (q : ∀ G', Ext G G' → Q (.bl true) G') : callS (spT N_law_all ["_law_works", "_law_due"] (t_law_all LM acts Γ)) [.ref a, due] G Q E ts tq te := all_run ha step q
end DL
set_option Elab.async false
set_option linter.all false
set_option maxRecDepth 100000
set_option maxHeartbeats 4000000
namespace DL
open PySem PySem.Spec L2
/-! ### a log that can be, drawn -/
def sp_law_log (Γ : Cs) : DSp := sp1 fun x G Q _ => ∃ b l, x = .ref b ∧ Box G b l ∧ ∀ (rs : List Row) p G', (∀ r ∈ rs, okLgM 100 r = true) → rs.length ≤ 40 → G p = none → G' p = some (.lst (rs.map rowD)) → Box G' b l → Exc b l G G' → Q (.ref p) G'
abbrev N_law_log : List Str := ["_law_box", "_law_log_here", "_law_there", "_law_made", "_law_turn", "_law_way", "_law_end", "_law_worth", "_law_thing", "_law_goal", "_law_new"]
def t_law_log_L1 (Γ : Cs) (ED : DXK) : DTS := dSeq (dAsg (dCall (sp_law_take Γ) (wx ED) (daCons (dVar 0) (daCons (dC (.int 8)) (daNil)))) (dgName 5)) (dIf (dOr (dTest (dEqNil (dVar 2))) (dTest (dOp ltR (dVar 5) (dC (.int 2))))) (dSeq (dPar 6 7 (daCons (dCall (sp_law_take Γ) (wx ED) (daCons (dVar 0) (daCons (dC (.int 6)) (daNil)))) (daCons (dCall (sp_law_take Γ) (wx ED) (daCons (dVar 0) (daCons (dC (.int 10000)) (daNil)))) (daNil)))) (dSeq (dAsg (dTup (daCons (dVar 6) (daCons (dVar 7) (daNil)))) (dgSub (dVar 2) (dTup (daCons (dVar 6) (daCons (dOp ixR (dVar 3) (dVar 6)) (daNil)))))) (dSeq (dDrop (dBM "list" appR (dVar 1) (daCons (dTup (daCons (dC (.str "made")) (daCons (dVar 6) (daCons (dTup (daCons (dVar 6) (daCons (dOp ixR (dVar 3) (dVar 6)) (daNil)))) (daCons (dVar 7) (daNil)))))) (daNil)))) (dAsg (dOp addR (dOp addR (dOp ixR (dVar 3) (dVar 6)) (dC (.int 1))) (dCall (sp_law_take Γ) (wx ED) (daCons (dVar 0) (daCons (dC (.int 2)) (daNil))))) (dgSub (dVar 3) (dVar 6)))))) (dSeq (dAsg (dOp ixR (dCB sortedR (daCons (dVar 2) (daNil))) (dCall (sp_law_take Γ) (wx ED) (daCons (dVar 0) (daCons (dCB lenR (daCons (dVar 2) (daNil))) (daNil))))) (dgName 8)) (dSeq (dAsg (dOp ixR (dVar 2) (dVar 8)) (dgTup 2 (dgCons (dgName 6) (dgCons (dgName 7) (dgNil))))) (dSeq (dAsg (dOp modR (dOp addR (dOp addR (dVar 6) (dC (.int 1))) (dCall (sp_law_take Γ) (wx ED) (daCons (dVar 0) (daCons (dC (.int 5)) (daNil))))) (dC (.int 6))) (dgName 9)) (dSeq (dAsg (dTup (daCons (dVar 9) (daCons (dOp ixR (dVar 3) (dVar 9)) (daNil)))) (dgName 10)) (dIf (dTest (dOp eqR (dVar 5) (dC (.int 2)))) (dSeq (dAsg (dTup (daCons (dVar 6) (daCons (dCall (sp_law_take Γ) (wx ED) (daCons (dVar 0) (daCons (dC (.int 10000)) (daNil)))) (daNil)))) (dgSub (dVar 2) (dVar 8))) (dDrop (dBM "list" appR (dVar 1) (daCons (dTup (daCons (dC (.str "changed")) (daCons (dVar 6) (daCons (dVar 8) (daCons (dOp ixR (dOp ixR (dVar 2) (dVar 8)) (dC (.int 1))) (daNil)))))) (daNil))))) (dIf (dTest (dOp eqR (dVar 5) (dC (.int 3)))) (dSeq (dDrop (dBM "dict" dpopR (dVar 2) (daCons (dVar 8) (daNil)))) (dDrop (dBM "list" appR (dVar 1) (daCons (dTup (daCons (dC (.str "thrown")) (daCons (dVar 6) (daCons (dVar 8) (daNil))))) (daNil))))) (dSeq (dAsg (dOp addR (dOp ixR (dVar 3) (dVar 9)) (dC (.int 1))) (dgSub (dVar 3) (dVar 9))) (dSeq (dAsg (dTup (daCons (dVar 9) (daCons (dVar 7) (daNil)))) (dgSub (dVar 2) (dVar 10))) (dSeq (dIf (dTest (dOp ltR (dVar 5) (dC (.int 6)))) (dDrop (dBM "dict" dpopR (dVar 2) (daCons (dVar 8) (daNil)))) (dNext)) (dDrop (dBM "list" appR (dVar 1) (daCons (dIfE (dTest (dOp ltR (dVar 5) (dC (.int 6)))) (dTup (daCons (dC (.str "moved")) (daCons (dVar 6) (daCons (dVar 8) (daCons (dVar 9) (daCons (dVar 10) (daNil))))))) (dTup (daCons (dC (.str "copied")) (daCons (dVar 6) (daCons (dVar 8) (daCons (dVar 9) (daCons (dVar 10) (daCons (dVar 7) (daNil))))))))) (daNil))))))))))))))
def t_law_log (Γ : Cs) (ED : DXK) : DTS := dSeq (dPar3 1 2 3 (daCons (dLst (daNil)) (daCons (dNewD true) (daCons (dOp mulR (dLst (daCons (dC (.int 0)) (daNil))) (dC (.int 6))) (daNil))))) (dSeq (dFor (diRng (daCons (dCall (sp_law_take Γ) (wx ED) (daCons (dVar 0) (daCons (dOp ixR (dLst (daCons (dC (.int 8)) (daCons (dC (.int 41)) (daNil)))) (dCall (sp_law_take Γ) (wx ED) (daCons (dVar 0) (daCons (dC (.int 2)) (daNil))))) (daNil)))) (daNil))) (dgName 4) (t_law_log_L1 Γ ED)) (dRet (dVar 1)))
structure LogI (G : Gp) (b l h t m : Addr) (rs : List Row) (W : Wh) (M : List Int) (i : Nat) : Prop where
  bx : Box G b l
  hh : G h = some (.lst (rs.map rowD))
  ht : G t = some (.dict true (whD W))
  hm : G m = some (.lst (M.map .int))
  hm' : h ≠ m
  hb : h ≠ b
  hl : h ≠ l
  tb : t ≠ b
  tl : t ≠ l
  mb : m ≠ b
  ml : m ≠ l
  ok : ∀ r ∈ rs, okLgM 100 r = true
  rl : rs.length = i
  wl : W.length ≤ i
  wk : ∀ q ∈ W, okLtm 100 q.1 = true ∧ okE q.2.1 = true ∧ okLn q.2.2 = true
  Ml : M.length = 6
  Mk : ∀ x ∈ M, 0 ≤ x ∧ x ≤ 2 * i
theorem LogI.exc {G G' : Gp} {b l h t m : Addr} {rs : List Row} {W : Wh} {M : List Int} {i : Nat} (L : LogI G b l h t m rs W M i) (B : Box G' b l) (x : Exc b l G G') : LogI G' b l h t m rs W M i :=
  ⟨B, x.keep L.hh L.hb L.hl, x.keep L.ht L.tb L.tl, x.keep L.hm L.mb L.ml, L.hm', L.hb, L.hl, L.tb, L.tl, L.mb, L.ml, L.ok, L.rl, L.wl, L.wk, L.Ml, L.Mk⟩
theorem LogI.ext {G G' : Gp} {b l h t m : Addr} {rs : List Row} {W : Wh} {M : List Int} {i : Nat} (L : LogI G b l h t m rs W M i) (x : Ext G G') : LogI G' b l h t m rs W M i :=
  L.exc (L.bx.ext x) (.of_ext x)
theorem LogI.ths {G : Gp} {b l h t m : Addr} {rs : List Row} {W : Wh} {M : List Int} {i : Nat} (L : LogI G b l h t m rs W M i) : h ≠ t := fun z => by have := L.hh; rw [z, L.ht] at this; cases this
theorem LogI.tms {G : Gp} {b l h t m : Addr} {rs : List Row} {W : Wh} {M : List Int} {i : Nat} (L : LogI G b l h t m rs W M i) : t ≠ m := fun z => by have := L.ht; rw [z, L.hm] at this; cases this
theorem LogI.at_ {G : Gp} {b l h t m : Addr} {rs : List Row} {W : Wh} {M : List Int} {i : Nat} (L : LogI G b l h t m rs W M i) {e : Int} (h0 : 0 ≤ e) (h1 : e < 6) : ∃ x, M[e.toNat]? = some x ∧ atI (M.map D.int) e = some (.int x) ∧ 0 ≤ x ∧ x ≤ 2 * i := by
  have hl : e.toNat < M.length := by rw [L.Ml]; omega
  refine ⟨M[e.toNat], List.getElem?_eq_getElem hl, ?_, L.Mk _ (List.getElem_mem _)⟩
  have : atI (M.map D.int) ((e.toNat : Nat) : Int) = some (.int (M[e.toNat])) := atI_i (by rw [List.getElem?_map, List.getElem?_eq_getElem hl]; rfl)
  rwa [Int.toNat_of_nonneg h0] at this
/-- a row is told, things stand anew -/
theorem LogI.next {G G' : Gp} {b l h t m : Addr} {rs : List Row} {W W' : Wh} {M M' : List Int} {i : Nat} (L : LogI G b l h t m rs W M i) {r : Row} (hr : okLgM 100 r = true) (B : Box G' b l) (hh : G' h = some (.lst ((rs ++ [r]).map rowD))) (ht : G' t = some (.dict true (whD W'))) (hm : G' m = some (.lst (M'.map .int)))
    (wl : W'.length ≤ W.length + 1) (wk : ∀ q ∈ W', okLtm 100 q.1 = true ∧ okE q.2.1 = true ∧ okLn q.2.2 = true) (Ml : M'.length = 6) (Mk : ∀ x ∈ M', 0 ≤ x ∧ x ≤ 2 * (i + 1 : Nat)) : LogI G' b l h t m (rs ++ [r]) W' M' (i + 1) :=
  ⟨B, hh, ht, hm, L.hm', L.hb, L.hl, L.tb, L.tl, L.mb, L.ml, fun x hx => by
    rcases List.mem_append.mp hx with hx | hx
    · exact L.ok x hx
    · simp at hx; subst hx; exact hr, by simp [L.rl], by have := L.wl; omega, wk, Ml, Mk⟩
theorem set_in {M : List Int} {k : Nat} {y : Int} {i : Nat} (h : ∀ x ∈ M, 0 ≤ x ∧ x ≤ 2 * (i : Int)) (hy : 0 ≤ y ∧ y ≤ 2 * (i + 1 : Nat)) : ∀ x ∈ M.set k y, 0 ≤ x ∧ x ≤ 2 * ((i + 1 : Nat) : Int) := fun x hx => by
  rcases List.mem_or_eq_of_mem_set hx with hx | rfl
  · have := h x hx; omega
  · exact hy
theorem okE_of {e : Int} (h0 : 0 ≤ e) (h1 : e < 6) : okE e = true := by simp [okE]; omega
theorem okLn_of {e : Int} (h0 : 0 ≤ e) (h1 : e < 10000) : okLn e = true := by simp [okLn]; omega
theorem okLt_of {e x : Int} (h0 : 0 ≤ e) (h1 : e < 6) (h2 : 0 ≤ x) (h3 : x ≤ 100) : okLtm 100 (e, x) = true := by simp [okLtm, okE]; omega
theorem okE_is {e : Int} (h : okE e = true) : 0 ≤ e ∧ e < 6 := by simp [okE] at h; omega
theorem map_set_int {M : List Int} {k : Nat} {y : Int} : (M.map D.int).set k (.int y) = (M.set k y).map D.int := by rw [List.map_set]
theorem ixN_of {n : Nat} {e : Int} (h0 : 0 ≤ e) (h1 : e < n) : ixN n e = some e.toNat := by simp [ixN, h0, h1]
theorem sort_at {W : Wh} {r : Int} (h0 : 0 ≤ r) (h1 : r < W.length) : ∃ t v, atI (sortD (W.map fun q => tD q.1)) r = some (tD t) ∧ getW W t = some v ∧ (t, v) ∈ W := by
  have hl : r.toNat < (sortD (W.map fun q => tD q.1)).length := by rw [len_sortD, List.length_map]; omega
  have ha : atI (sortD (W.map fun q => tD q.1)) ((r.toNat : Nat) : Int) = some ((sortD (W.map fun q => tD q.1))[r.toNat]) := atI_i (List.getElem?_eq_getElem hl)
  rw [Int.toNat_of_nonneg h0] at ha
  have hm := mem_sortD.mp (List.getElem_mem hl)
  obtain ⟨q, hq, e⟩ := List.mem_map.mp hm
  obtain ⟨v, hv⟩ := getW_of_mem hq
  exact ⟨q.1, v, by rw [ha, ← e], hv, getW_mem hv⟩
theorem pure_law_log (Γ : Cs) : ∀ ds G Q E, sp_law_log Γ ds G Q E → t_law_log Γ E { nx := fun _ G => Q .non G, rt := Q } (dstart N_law_log ds) G := by
  rintro ds G Q E ⟨x, rfl, b, l, rfl, B, q⟩
  simp [t_law_log]
  intro h hh t ht p0 hp0
  simp [put_same, sizeLine_eq]
  intro m hm
  have e1 : Ext G (put (put (put (put G h (.lst [])) t (.dict true [])) p0 (.lst [.int 0])) m (.lst [.int 0, .int 0, .int 0, .int 0, .int 0, .int 0])) := (((Ext.put hh).of_put ht).of_put hp0).of_put hm
  simp only [nw_put] at ht hp0 hm
  have hm0 : G m = none := hm.2.2.2.2.2.2
  have nb := B.ne hh
  have nt := B.ne ht.2.2
  have nm := B.ne hm.2.2.2.2.2.2
  have L0 : LogI (put (put (put (put G h (.lst [])) t (.dict true [])) p0 (.lst [.int 0])) m (.lst [.int 0, .int 0, .int 0, .int 0, .int 0, .int 0])) b l h t m [] [] [0, 0, 0, 0, 0, 0] 0 :=
    ⟨B.ext e1, by simp [put_at, hm, hp0, ht], by simp [put_at, hm, hp0, whD], by simp [put_at], hm.2.2.2.2.2.1, nb.1, nb.2, nt.1, nt.2, nm.1, nm.2, by simp, rfl, by simp, by simp, rfl, by simp⟩
  intro p1 hp1
  refine take_call (by decide) (by decide) (L0.bx.ext (.put hp1)) fun r G2 r0 r1 B2 x2 => ?_
  have nb1 := L0.bx.ne hp1
  have g1 := x2.keep put_same nb1.1 nb1.2
  have L2 := (L0.ext (.put (o := .lst [.int 8, .int 41]) hp1)).exc B2 x2
  have hr : ∃ k : Int, atI [D.int 8, .int 41] r = some (.int k) ∧ 0 < k ∧ k ≤ 41 := by
    have : r = 0 ∨ r = 1 := by omega
    rcases this with rfl | rfl
    · exact ⟨8, by simp, by decide, by decide⟩
    · exact ⟨41, by simp, by decide, by decide⟩
  obtain ⟨k, hk, k0, k1⟩ := hr
  simp [g1, hk]
  refine take_call k0 (by omega) B2 fun n G3 n0 n1 B3 x3 => ?_
  have L3 := L2.exc B3 x3
  simp
  refine ⟨by omega, by omega, ?_⟩
  have e3 : Exc b l G G3 := ((Exc.of_ext (e1.of_put hp1)).trans x2).trans x3
  refine loop_ind (fun i sd G' => Exc b l G G' ∧ ∃ rs W M, LogI G' b l h t m rs W M i ∧ ∃ y1 y2 y3 y4 y5 y6 y7, sd = [some (.ref b), some (.ref h), some (.ref t), some (.ref m), y1, y2, y3, y4, y5, y6, y7]) (fun _ _ _ _ => trivial) ?_ ?_ ⟨e3, _, _, _, L3, _, _, _, _, _, _, _, rfl⟩
  · rintro i x sd G' K hx ⟨e, rs, W, M, L, y1, y2, y3, y4, y5, y6, y7, rfl⟩ hK
    have hi : i < 41 := by have := (rngD_at hx).1; omega
    simp [t_law_log_L1]
    refine take_call (by decide) (by decide) L.bx fun way G4 w0 w1 B4 x4 => ?_
    have L4 := L.exc B4 x4
    have e4 := e.trans x4
    simp
    rw [L4.ht]
    simp
    intro p5 hp5
    have L5 := L4.ext (.put (o := .dict false []) hp5)
    have e5 := e4.trans (.of_ext (.put (o := .dict false []) hp5))
    generalize put G4 p5 (.dict false []) = G5 at L5 e5
    have wl5 : (whD W).length < sizeLine := by rw [sizeLine_eq]; simp [whD]; have := L5.wl; omega
    have rl5 : (rs.map rowD).length < sizeLine := by rw [sizeLine_eq]; simp; have := L5.rl; omega
    have rl6 : rs.length < sizeLine := by simpa using rl5
    have wkp : ∀ {t v : Id}, okLtm 100 t = true → okE v.1 = true → okLn v.2 = true → ∀ q ∈ putW W t v, okLtm 100 q.1 = true ∧ okE q.2.1 = true ∧ okLn q.2.2 = true := fun {t v} h1 h2 h3 q hq => by
      rcases mem_putW hq with rfl | hq
      · exact ⟨h1, h2, h3⟩
      · exact L5.wk q hq
    refine iteP_or (fun _ => ?_) fun hW hw => ?_
    · simp
      refine take_call (by decide) (by decide) L5.bx fun e0 G6 a0 a1 B6 x6 => ?_
      have L6 := L5.exc B6 x6
      simp
      refine take_call (by decide) (by decide) B6 fun n0 G7 c0 c1 B7 x7 => ?_
      have L7 := L6.exc B7 x7
      have e7 := (e5.trans x6).trans x7
      obtain ⟨m0, m1, m2, m3, m4⟩ := L7.at_ a0 a1
      have pw := putD_wh W (e0, m0) (e0, n0)
      simp only [tD] at pw
      have th := L7.ths
      have tm := L7.tms
      have hm := L7.hm'
      simp [L7.hm, m2, L7.ht, wl5, pw, put_at, Ne.symm th, Ne.symm tm, th, tm, hm, Ne.symm hm, L7.hh]
      refine ⟨by simpa using rl5, take_call (by decide) (by decide) ((B7.put L7.tb L7.tl).put L7.hb L7.hl) fun z G8 z0 z1 B8 x8 => ?_⟩
      have h8 := x8.keep put_same L7.hb L7.hl
      have t8 := x8.keep (a := t) (o := .dict true (whD (putW W (e0, m0) (e0, n0)))) (by simp [put_at, Ne.symm th]) L7.tb L7.tl
      have m8 := x8.keep (a := m) (o := .lst (M.map .int)) (by simp [put_at, Ne.symm tm, Ne.symm hm, L7.hm]) L7.mb L7.ml
      simp [m8, ixN_of a0 (show e0 < (M.length : Int) by rw [L7.Ml]; exact a1)]
      refine hK _ _ ⟨?_, rs ++ [.made e0 (e0, m0) n0], putW W (e0, m0) (e0, n0), M.set e0.toNat (m0 + 1 + z), L7.next ?_ (B8.put L7.mb L7.ml) ?_ ?_ ?_ (putW_len _ _ _) ?_ ?_ ?_, _, _, _, _, _, _, _, rfl⟩
      · exact (((e7.fresh ht.2.2).fresh hh).trans x8).fresh hm0
      · simp [okLgM, okE_of a0 a1, okLt_of a0 a1 m3 (show m0 ≤ 100 by omega), okLn_of c0 c1]
      · rw [put_ne hm, h8]; simp [rowD, tD]
      · rw [put_ne tm, t8]
      · rw [put_same, map_set_int]
      · intro q hq
        rcases mem_putW hq with rfl | hq
        · exact ⟨okLt_of a0 a1 m3 (by omega), okE_of a0 a1, okLn_of c0 c1⟩
        · exact L7.wk q hq
      · rw [List.length_set, L7.Ml]
      · exact set_in L7.Mk (by omega)
    · have hne : W ≠ [] := by
        intro z
        subst z
        simp [whD] at hW
      simp [L5.ht, whD_keys]
      refine ⟨fun a b hm => List.all_eq_true.mp (whD_intKey W) (a, b) hm, srt_idsL (fun q : Id × Id => q.1) W, fun p6 hp6 => ?_⟩
      have L6 := L5.ext (.put (o := .lst (sortD (W.map fun q => tD q.1))) hp6)
      have nb6 := L5.bx.ne hp6
      simp only [L6.ht, lenO_dict]
      have hlen : (whD W).length = W.length := by simp [whD]
      have hpos : 0 < W.length := by cases W; exact (hne rfl).elim; simp
      have hwl := L5.wl
      refine take_call (by omega) (by omega) L6.bx fun r7 G7 a0 a1 B7 x7 => ?_
      rw [hlen] at a1
      obtain ⟨u, v, hs, hv, hm'⟩ := sort_at a0 a1
      have L7 := L6.exc B7 x7
      have e7 := (e5.trans (.of_ext (.put (o := .lst (sortD (W.map fun q => tD q.1))) hp6))).trans x7
      have g7 := x7.keep put_same nb6.1 nb6.2
      obtain ⟨ku, ke, kn⟩ := L7.wk _ hm'
      have vv := valD_wh W u
      rw [hv] at vv
      obtain ⟨u1, u2⟩ := u
      obtain ⟨ve, vn⟩ := v
      simp only [tD, Option.map_some] at vv hs
      have ke' := okE_is ke
      simp [g7, hs, L7.ht, vv, tD]
      refine take_call (by decide) (by decide) L7.bx fun z8 G8 b0 b1 B8 x8 => ?_
      have L8 := L7.exc B8 x8
      have e8 := e7.trans x8
      have go0 : 0 ≤ (ve + 1 + z8) % 6 := Int.emod_nonneg _ (by decide)
      have go1 : (ve + 1 + z8) % 6 < 6 := Int.emod_lt_of_pos _ (by decide)
      generalize hgo : (ve + 1 + z8) % 6 = go at go0 go1
      obtain ⟨m0, m1, m2, m3, m4⟩ := L8.at_ go0 go1
      have th := L8.ths
      have tm := L8.tms
      have hm := L8.hm'
      simp [hgo, L8.hm, m2]
      refine iteP_of (fun h2 => ?_) fun h2 => ?_
      · simp
        refine take_call (by decide) (by decide) B8 fun n9 G9 c0 c1 B9 x9 => ?_
        have L9 := L8.exc B9 x9
        have e9 := e8.trans x9
        have pw := putD_wh W (u1, u2) (ve, n9)
        have gv : valD (whD (putW W (u1, u2) (ve, n9))) (tD (u1, u2)) = some (tD (ve, n9)) := by rw [valD_wh, getW_put]; rfl
        simp only [tD] at pw gv
        simp [L9.ht, wl5, pw, put_at, th, tm, hm, Ne.symm hm, Ne.symm th, Ne.symm tm, L9.hh, gv, rl6]
        refine hK _ _ ⟨(e9.fresh ht.2.2).fresh hh, rs ++ [.changed ve (u1, u2) n9], putW W (u1, u2) (ve, n9), M, L9.next ?_ ((B9.put L9.tb L9.tl).put L9.hb L9.hl) ?_ ?_ ?_ (putW_len _ _ _) (wkp ku ke (okLn_of c0 c1)) L9.Ml (fun x hx => by have := L9.Mk x hx; omega), _, _, _, _, _, _, _, rfl⟩
        · simp [okLgM, ku, ke, okLn_of c0 c1]
        · rw [put_same]; simp [rowD, tD]
        · simp [put_at, Ne.symm th]
        · simp [put_at, Ne.symm tm, Ne.symm hm, L9.hm]
      · simp
        refine iteP_of (fun h3 => ?_) fun h3 => ?_
        · simp
          have pw := dropD_wh W (u1, u2)
          simp only [tD] at pw
          simp [L8.ht, vv, pw, put_at, th, tm, hm, Ne.symm hm, Ne.symm th, Ne.symm tm, L8.hh, rl6]
          refine hK _ _ ⟨(e8.fresh ht.2.2).fresh hh, rs ++ [.thrown ve (u1, u2)], dropW W (u1, u2), M, L8.next ?_ ((B8.put L8.tb L8.tl).put L8.hb L8.hl) ?_ ?_ ?_ (Nat.le_trans (dropW_len _ _) (Nat.le_succ _)) (fun q hq => L8.wk q (mem_dropW hq)) L8.Ml (fun x hx => by have := L8.Mk x hx; omega), _, _, _, _, _, _, _, rfl⟩
          · simp [okLgM, ku, ke]
          · rw [put_same]; simp [rowD, tD]
          · simp [put_at, Ne.symm th]
          · simp [put_at, Ne.symm tm, Ne.symm hm, L8.hm]
        · simp
          have pw := putD_wh W (go, m0) (go, vn)
          have okt := okLt_of go0 go1 m3 (show m0 ≤ 100 by omega)
          have wp := wkp (t := (go, m0)) (v := (go, vn)) okt (okE_of go0 go1) kn
          have hml : (M.map D.int).length = 6 := by rw [List.length_map, L8.Ml]
          simp only [tD] at pw
          simp [hgo, L8.hm, m2, ixN_of go0 (show go < (M.length : Int) by rw [L8.Ml]; exact go1), L8.ht, wl5, pw, put_at, th, tm, hm, Ne.symm hm, Ne.symm th, Ne.symm tm]
          have fin : ∀ (row : Row) (W' : Wh) {y1 y2 y3 y4 y5 y6 y7 : Option D}, okLgM 100 row = true → W'.length ≤ W.length + 1 → (∀ q ∈ W', okLtm 100 q.1 = true ∧ okE q.2.1 = true ∧ okLn q.2.2 = true) → ∀ G', Box G' b l → Exc b l G G' →
              G' h = some (.lst (rs.map rowD ++ [rowD row])) → G' t = some (.dict true (whD W')) → G' m = some (.lst ((M.map D.int).set go.toNat (.int (m0 + 1)))) → K [some (.ref b), some (.ref h), some (.ref t), some (.ref m), y1, y2, y3, y4, y5, y6, y7] G' :=
            fun row W' {y1 y2 y3 y4 y5 y6 y7} h1 h2 h3 G' B' x' q1 q2 q3 => hK _ _ ⟨x', rs ++ [row], W', M.set go.toNat (m0 + 1), L8.next h1 B' (by rw [q1]; simp) q2 (by rw [q3, map_set_int]) h2 h3 (by rw [List.length_set, L8.Ml]) (set_in L8.Mk (by omega)), _, _, _, _, _, _, _, rfl⟩
          refine iteP_of (fun h4 => ?_) fun h4 => ?_
          · have gv : valD (whD (putW W (go, m0) (go, vn))) (tD (u1, u2)) = (getW (putW W (go, m0) (go, vn)) (u1, u2)).map tD := valD_wh _ _
            have pd := dropD_wh (putW W (go, m0) (go, vn)) (u1, u2)
            obtain ⟨w, hw⟩ : ∃ w, getW (putW W (go, m0) (go, vn)) (u1, u2) = some w := getW_of_mem (q := ((u1, u2), _)) (mem_putW_key hm').choose_spec
            rw [hw] at gv
            simp only [tD, Option.map_some] at gv pd
            simp [put_at, th, tm, hm, Ne.symm hm, Ne.symm th, Ne.symm tm, pw, gv, pd, L8.hh, rl6, hgo, h4]
            refine fin (.moved ve (u1, u2) go (go, m0)) (dropW (putW W (go, m0) (go, vn)) (u1, u2)) ?_ (Nat.le_trans (dropW_len _ _) (putW_len _ _ _)) (fun q hq => wp q (mem_dropW hq)) _ ((((B8.put L8.mb L8.ml).put L8.tb L8.tl).put L8.tb L8.tl).put L8.hb L8.hl) ((((e8.fresh hm0).fresh ht.2.2).fresh ht.2.2).fresh hh) ?_ ?_ ?_
            · simp [okLgM, ku, ke, okt, okE_of go0 go1]
            · simp [put_at, rowD, tD]
            · simp [put_at, Ne.symm th]
            · simp [put_at, Ne.symm tm, Ne.symm hm]
          · simp [put_at, th, tm, hm, Ne.symm hm, Ne.symm th, Ne.symm tm, L8.hh, rl6, hgo, h4, pw]
            refine fin (.copied ve (u1, u2) go (go, m0) vn) (putW W (go, m0) (go, vn)) ?_ (putW_len _ _ _) wp _ (((B8.put L8.mb L8.ml).put L8.tb L8.tl).put L8.hb L8.hl) (((e8.fresh hm0).fresh ht.2.2).fresh hh) ?_ ?_ ?_
            · simp [okLgM, ku, ke, okt, okE_of go0 go1, kn]
            · simp [put_at, rowD, tD]
            · simp [put_at, Ne.symm th]
            · simp [put_at, Ne.symm tm, Ne.symm hm]
  · rintro sd G' ⟨e, rs, W, M, L, y1, y2, y3, y4, y5, y6, y7, rfl⟩
    simp
    refine q rs h G' L.ok ?_ hh L.hh L.bx e
    have := L.rl
    rw [rngD_len] at this
    omega
end DL
set_option Elab.async false
set_option linter.all false
set_option maxRecDepth 100000
set_option maxHeartbeats 4000000
namespace DL
open PySem PySem.Spec L2
/-! ### k12: the law -/
abbrev N_law : List Str := ["_law_script", "_law_box", "_law_turn", "_law_log_here", "_law_at", "_law_bad", "_law_long", "_law_worse", "_law_k"]
def t_law_M0 (Γ : Cs) (ED : DXK) : DTE := dCall (sp_judged Γ) (wx ED) (daCons (dVar 5) (daNil))
def t_law_M1 (Γ : Cs) (ED : DXK) : DTE := dCall (sp_standing Γ) (wx ED) (daCons (dVar 5) (daNil))
def t_law_M2 (Γ : Cs) (ED : DXK) : DTE := dCall (sp_judged Γ) (wx ED) (daCons (dVar 7) (daNil))
def t_law_M3 (Γ : Cs) (ED : DXK) : DTE := dCall (sp_standing Γ) (wx ED) (daCons (dVar 7) (daNil))
def lams_law (Γ : Cs) : List (DXK → DTE) := [t_law_M0 Γ, t_law_M1 Γ, t_law_M2 Γ, t_law_M3 Γ]
def t_law_L1 (LM : Nat → Clo → Prop) (Γ : Cs) (ED : DXK) : DTS := dSeq (dAsg (dCall (sp_law_log Γ) (wx ED) (daCons (dVar 1) (daNil))) (dgName 3)) (dSeq (dAsg (dOp ixR (dLst (daCons (dCB lenR (daCons (dVar 3) (daNil))) (daCons (dCall (sp_law_take Γ) (wx ED) (daCons (dVar 1) (daCons (dOp addR (dCB lenR (daCons (dVar 3) (daNil))) (dC (.int 1))) (daNil)))) (daNil)))) (dCall (sp_law_take Γ) (wx ED) (daCons (dVar 1) (daCons (dC (.int 2)) (daNil))))) (dgName 4)) (dSeq (dAsg (dOp addR (dOp addR (dSl (dVar 3) (doNone) (doSome (dVar 4))) (dLst (daCons (dCall (sp_law_odd Γ) (wx ED) (daCons (dVar 1) (daNil))) (daNil)))) (dSl (dVar 3) (doSome (dVar 4)) (doNone))) (dgName 5)) (dSeq (dAsg (dOp addR (dVar 5) (dOp mulR (dLst (daCons (dTup (daNil)) (daNil))) (dCall (sp_law_take Γ) (wx ED) (daCons (dVar 1) (daCons (dC (.int 2)) (daNil)))))) (dgName 5)) (dIf (dNot (dTest (dCallS (fun sd => spT N_law_all ["_law_works", "_law_due"] (t_law_all LM (actsOf (lams_law Γ) sd) Γ)) (wx ED) (daCons (dLst (daCons (dLam LM 0) (daCons (dLam LM 1) (daNil)))) (daCons (dTup (daCons (dC (.str "BadLog")) (daCons (dVar 4) (daNil)))) (daNil)))))) (dRet (dC (.bl false))) (dNext)))))
def t_law_C1 (LM : Nat → Clo → Prop) (Γ : Cs) (ED : DXK) : DTE := dComp (diRng (daCons (dC (.int 200)) (daNil))) (dgName 8) dYes (dTup (daCons (dC (.str "made")) (daCons (dC (.int 5)) (daCons (dTup (daCons (dC (.int 5)) (daCons (dOp subR (dC (.int 1000000)) (dVar 8)) (daNil)))) (daCons (dC (.int 9999)) (daNil)))))) [8]
def t_law (LM : Nat → Clo → Prop) (Γ : Cs) (ED : DXK) : DTS := dSeq (dFor (diRng (daCons (dC (.int 6)) (daNil))) (dgName 2) (t_law_L1 LM Γ ED)) (dSeq (dAsg (dN (t_law_C1 LM Γ ED)) (dgName 6)) (dSeq (dIf (dOr (dTest (dOp (isNR true) (dCall (sp_judged Γ) (wx ED) (daCons (dVar 6) (daNil))) (dC .non))) (dTest (dOp neR (dCB lenR (daCons (dCall (sp_standing Γ) (wx ED) (daCons (dVar 6) (daNil))) (daNil))) (dC (.int 200))))) (dRet (dC (.bl false))) (dNext)) (dSeq (dAsg (dOp addR (dOp addR (dVar 6) (dLst (daCons (dOp ixR (dLst (daCons (dTup (daCons (dC (.str "made")) (daCons (dC (.int 0)) (daCons (dTup (daCons (dC (.int 0)) (daCons (dC (.int 0)) (daNil)))) (daCons (dC (.int 0)) (daNil)))))) (daCons (dTup (daNil)) (daNil)))) (dCall (sp_law_take Γ) (wx ED) (daCons (dVar 1) (daCons (dC (.int 2)) (daNil))))) (daNil)))) (dOp mulR (dLst (daCons (dTup (daNil)) (daNil))) (dCall (sp_law_take Γ) (wx ED) (daCons (dVar 1) (daCons (dC (.int 3)) (daNil)))))) (dgName 7)) (dRet (dCallS (fun sd => spT N_law_all ["_law_works", "_law_due"] (t_law_all LM (actsOf (lams_law Γ) sd) Γ)) (wx ED) (daCons (dLst (daCons (dLam LM 2) (daCons (dLam LM 3) (daNil)))) (daCons (dTup (daCons (dC (.str "BadLog")) (daCons (dC (.int 200)) (daNil)))) (daNil))))))))
def longR : List Row := (List.range 200).map fun i => .made 5 (5, 1000000 - (i : Nat)) 9999
theorem long_ok : ∀ r ∈ longR, okLg r = true := by
  have h : longR.all okLg = true := by decide +kernel
  exact List.all_eq_true.mp h
theorem long_len : longR.length = 200 := by simp [longR]
def runsB (rs : List Row) (n : Nat) : Bool := match runW rs 0 [] [] with
  | .inr (W, _) => W.length == n
  | .inl _ => false
theorem long_runs : ∃ W S, runW longR 0 [] [] = .inr (W, S) ∧ W.length = 200 := by
  have h : runsB longR 200 = true := by decide +kernel
  unfold runsB at h
  split at h
  · rename_i W S e
    exact ⟨W, S, e, by simpa using h⟩
  · cases h
theorem told_both {LM : Nat → Clo → Prop} {Γ : Cs} {acts : Nat → Act} {G : Gp} {a f1 f2 p : Addr} {c1 c2 : Clo} {k i1 i2 : Nat} {Q : DQ} {E : DXK} {ts tq te} (LB : LogBad G a k) (l1 : LM i1 c1) (l2 : LM i2 c2) (h1 : Nw G f1) (h2 : Nw (put G f1 (.fn c1)) f2) (hp : Nw (put (put G f1 (.fn c1)) f2 (.fn c2)) p)
    (a1 : ∀ ED G' Q, sp_judged Γ [.ref a] G' Q ED → acts i1 ED G' Q) (a2 : ∀ ED G' Q, sp_standing Γ [.ref a] G' Q ED → acts i2 ED G' Q) (q : ∀ G', Ext G G' → Q (.bl true) G') :
    callS (spT N_law_all ["_law_works", "_law_due"] (t_law_all LM acts Γ)) [.ref p, .tup [.str "BadLog", .int (k : Nat)]] (put (put (put G f1 (.fn c1)) f2 (.fn c2)) p (.lst [.ref f1, .ref f2])) Q E ts tq te := by
  have e1 : Ext G (put G f1 (.fn c1)) := Ext.put h1
  have e2 := e1.trans (Ext.put (o := .fn c2) h2)
  have e3 := e2.trans (Ext.put (o := .lst [.ref f1, .ref f2]) hp)
  have g2 : put (put (put G f1 (.fn c1)) f2 (.fn c2)) p (.lst [.ref f1, .ref f2]) f2 = some (.fn c2) := (Ext.put hp) _ _ put_same
  have g1 : put (put (put G f1 (.fn c1)) f2 (.fn c2)) p (.lst [.ref f1, .ref f2]) f1 = some (.fn c1) := (Ext.put hp) _ _ ((Ext.put h2) _ _ put_same)
  have g0 : put (put (put G f1 (.fn c1)) f2 (.fn c2)) p (.lst [.ref f1, .ref f2]) p = some (.lst [.ref f1, .ref f2]) := put_same
  generalize put (put (put G f1 (.fn c1)) f2 (.fn c2)) p (.lst [.ref f1, .ref f2]) = H at e3 g0 g1 g2
  refine all_call (fs := [f1, f2]) g0 (fun f hf G' e => ?_) fun G' e => q G' (e3.trans e)
  have LB' := LB.ext (e3.trans e)
  have fin : ∀ Q : DQ, (∀ r G'', Ext G' G'' → same 6 G'' r (.tup [.str "BadLog", .int (k : Nat)]) → Q r G'') → ∀ G'', Ext G' G'' → toldE (Ls Γ) Q Γ.cBadLog (some ("number", .int (k : Nat))) G'' := fun Q hQ G'' e2 => toldE_log fun G3 e3 => hQ _ _ (e2.trans e3) same_pair
  simp only [List.mem_cons, List.not_mem_nil, or_false] at hf
  rcases hf with rfl | rfl
  · exact ⟨i1, c1, e _ _ g1, l1, fun Q hQ => a1 _ _ _ ⟨_, rfl, a, rfl, .inr ⟨k, LB', fin Q hQ⟩⟩⟩
  · exact ⟨i2, c2, e _ _ g2, l2, fun Q hQ => a2 _ _ _ ⟨_, rfl, a, rfl, .inr ⟨k, LB', fin Q hQ⟩⟩⟩
theorem pure_law (LM : Nat → Clo → Prop) (Γ : Cs) (b l : Addr) (G : Gp) (sd : SD) (B : Box G b l) (hf : ∀ a, a ≠ b → a ≠ l → G a = none) (h1 : sd[1]? = some (some (.ref b))) (h2 : sd.length = N_law.length) : t_law LM Γ (fun _ _ _ => False) { nx := fun _ _ => False, rt := fun d _ => d = .bl true } sd G := by
  match sd, h1, h2 with
  | [s0, s1, s2, s3, s4, s5, s6, s7, s8], h1, h2 =>
    cases h1
    simp [t_law]
    refine loop_ind (fun i sd G' => Box G' b l ∧ ∃ x2 x3 x4 x5 x6 x7 x8, sd = [s0, some (.ref b), x2, x3, x4, x5, x6, x7, x8]) (fun _ _ _ _ => trivial) ?_ ?_ ⟨B, _, _, _, _, _, _, _, rfl⟩
    · rintro i x sd G1 K hx ⟨B1, y2, y3, y4, y5, y6, y7, y8, rfl⟩ hK
      simp [t_law_L1]
      refine call1 ⟨b, l, rfl, B1, fun rs p G2 ok len hp g2 B2 x2 => ?_⟩
      have nb := B1.ne hp
      simp [g2, sizeLine_eq]
      refine takes (by omega) (by omega) B2 fun m G3 m0 m1 B3 x3 => ?_
      simp
      intro p1 hp1
      refine takes (by decide) (by decide) (B3.ext (.put hp1)) fun r G4 r0 r1 B4 x4 => ?_
      have np1 := B3.ne hp1
      have g2p := x3 _ _ nb.1 nb.2 g2
      have npp := Nw.ne g2p hp1
      have g4p : G4 p = some (.lst (rs.map rowD)) := x4 _ _ nb.1 nb.2 (by rw [put_ne npp.1]; exact g2p)
      have g41 : G4 p1 = some (.lst [.int rs.length, .int m]) := x4 _ _ np1.1 np1.2 (by simpa using put_same)
      obtain ⟨k, hk, ek⟩ : ∃ k : Nat, k ≤ rs.length ∧ atI [D.int rs.length, .int m] r = some (.int (k : Nat)) := by
        have : r = 0 ∨ r = 1 := by omega
        rcases this with rfl | rfl
        · exact ⟨rs.length, Nat.le_refl _, by simp⟩
        · refine ⟨m.toNat, by omega, ?_⟩
          rw [Int.toNat_of_nonneg m0]
          simp
      simp [g41, ek, g4p]
      intro p2 hp2
      have n2 := B4.ne hp2
      have k2 := Nw.ne g4p hp2
      refine call1 ⟨b, l, rfl, B4.ext (.put hp2), fun d G5 hd B5 x5 => ?_⟩
      have g5p : G5 p = some (.lst (rs.map rowD)) := x5 _ _ nb.1 nb.2 (by rw [put_ne k2.1]; exact g4p)
      have g52 := x5 _ _ n2.1 n2.2 put_same
      generalize hcut : cutD (List.map rowD rs) none (some (k : Int)) = pre at g52
      simp
      intro p3 hp3
      have k3 := Nw.ne g52 hp3
      have k3p := Nw.ne g5p hp3
      have hpre : pre = (rs.map rowD).take k := by rw [← hcut, cut_to (by omega)]; simp
      have lpre : pre.length ≤ 40 := by rw [hpre, List.length_take, List.length_map]; omega
      simp [put_at, k3.1, k3.2, k3p.1, k3p.2, g52, g5p, sizeLine_eq]
      refine ⟨by omega, fun p4 hp4 => ?_⟩
      generalize hG : put (put G5 p3 _) p4 _ = G6
      have e6 : Ext G5 G6 := by rw [← hG]; exact (Ext.put hp3).trans (Ext.put hp4)
      have g64 : G6 p4 = some (.lst (pre ++ [d])) := by rw [← hG]; exact put_same
      have k4p : ¬ p = p4 := by
        simp only [nw_put] at hp4
        exact (Nw.ne g5p hp4.2.2).1
      clear hG
      simp [k4p]
      intro p5 hp5
      rw [cut_from (by omega)]
      have k5 := Nw.ne g64 hp5
      simp [put_at, k5.1, k5.2, g64, sizeLine_eq]
      refine ⟨by omega, fun p6 hp6 => ?_⟩
      generalize hG : put (put G6 p5 _) p6 _ = G7
      have e7 : Ext G6 G7 := by rw [← hG]; exact (Ext.put hp5).trans (Ext.put hp6)
      have g76 : G7 p6 = some (.lst (pre ++ d :: (rs.map rowD).drop k)) := by rw [← hG]; simpa using put_same
      clear hG
      intro p7 hp7
      have B7 := ((B5.ext e6).ext e7).ext (.put (o := .lst [D.tup []]) hp7)
      have k7 := Nw.ne g76 hp7
      refine takes (by decide) (by decide) B7 fun r2 G8 r20 r21 B8 x8 => ?_
      have n7 := ((B5.ext e6).ext e7).ne hp7
      have x6 : Exc b l G5 G8 := (Exc.of_ext ((e6.trans e7).trans (Ext.put hp7))).trans x8
      have n6 : p6 ≠ b ∧ p6 ≠ l := by
        simp only [nw_put] at hp6
        exact (B5.ext e6).ne hp6.2.2
      have g86 : G8 p6 = some (.lst (pre ++ d :: (rs.map rowD).drop k)) := x8 _ _ n6.1 n6.2 (by rw [put_ne k7.1]; exact g76)
      have g87 : G8 p7 = some (.lst [D.tup []]) := x8 _ _ n7.1 n7.2 put_same
      simp [g87, sizeLine_eq]
      refine ⟨⟨by omega, by omega, by omega⟩, fun p8 hp8 => ?_⟩
      have k8 := Nw.ne g86 hp8
      simp [put_at, k8.1, k8.2, g86, sizeLine_eq]
      refine ⟨by omega, fun p9 hp9 => ?_⟩
      have n9 : p9 ≠ b ∧ p9 ≠ l := by
        simp only [nw_put] at hp9
        exact B8.ne hp9.2.2
      generalize hG : put (put G8 p8 _) p9 _ = G9
      have e9 : Ext G8 G9 := by rw [← hG]; exact (Ext.put hp8).trans (Ext.put hp9)
      have g99 : G9 p9 = some (.lst (((rs.take k).map rowD) ++ d :: ((rs.map rowD).drop k ++ List.replicate r2.toNat (.tup [])))) := by
        rw [← hG, List.map_take, ← hpre]
        exact put_same
      clear hG
      have LB : LogBad G9 p9 k := ⟨rs.take k, d, _, g99, fun r hr => okLgM_ok (okLgM_mono (ok r (List.mem_of_mem_take hr)) (by decide)), by rw [List.length_take]; omega, by simp; omega, by omega, .inr (hd G9 (x6.trans (Exc.of_ext e9)))⟩
      intro f1 c1 l1 hf1 f2 c2 l2 hf2 p10 hp10
      refine told_both (i1 := 0) (i2 := 1) LB l1 l2 hf1 hf2 hp10 (fun ED G' Q h => ?_) (fun ED G' Q h => ?_) fun G' e => ?_
      · simp [lams_law, t_law_M0]
        exact h
      · simp [lams_law, t_law_M1]
        exact h
      · simp
        exact hK _ _ ⟨(B8.ext e9).ext e, _, _, _, _, _, _, _, rfl⟩
    · rintro sd G1 ⟨B1, y2, y3, y4, y5, y6, y7, y8, rfl⟩
      simp
      unfold compP
      simp [t_law_C1]
      refine compB_pure (fun x => match x with
        | .int i => some (rowD (.made 5 (5, 1000000 - i) 9999))
        | _ => none) trivial (fun _ _ _ => trivial) (fun p ys x hp hx Qs Qn hQ => ?_) fun p hp => ?_
      · obtain ⟨i, hi⟩ := List.mem_iff_getElem?.mp hx
        obtain ⟨hi2, rfl⟩ := rngD_at hi
        simpa [rowD, tD] using hQ
      · have el : (rngD 0 200).filterMap (fun x => match x with
          | .int i => some (rowD (.made 5 (5, 1000000 - i) 9999))
          | _ => none) = longR.map rowD := by
          unfold rngD longR
          rw [List.filterMap_map, List.map_map]
          refine fm_map fun i _ => ?_
          simp
        rw [el]
        have g2 : put G1 p (.lst (longR.map rowD)) p = some (.lst (longR.map rowD)) := put_same
        have B2 := B1.ext (.put (o := .lst (longR.map rowD)) hp)
        have np := B1.ne hp
        generalize put G1 p (.lst (longR.map rowD)) = G2 at g2 B2
        obtain ⟨W, S, hW, lW⟩ := long_runs
        refine call1 ⟨p, rfl, .inl ⟨longR, ⟨g2, long_ok, by rw [long_len]; exact Nat.le_refl _⟩, fun G3 e3 => ?_⟩⟩
        rw [hW]
        simp [outJ]
        refine call1 ⟨p, rfl, .inl ⟨longR, ⟨e3 _ _ g2, long_ok, by rw [long_len]; exact Nat.le_refl _⟩, ?_⟩⟩
        unfold outSt
        rw [hW]
        intro q G4 hq g4 e4
        simp [g4, len_sortD, lW, sizeLine_eq]
        have B4 := (B2.ext e3).ext e4
        have gp4 := e4 _ _ (e3 _ _ g2)
        intro p2 hp2
        have n2 := B4.ne hp2
        refine takes (by decide) (by decide) (B4.ext (.put hp2)) fun r G5 r0 r1 B5 x5 => ?_
        have g52 := x5 _ _ n2.1 n2.2 put_same
        have gp5 : G5 p = some (.lst (longR.map rowD)) := x5 _ _ np.1 np.2 (by rw [put_ne (Nw.ne gp4 hp2).1]; exact gp4)
        obtain ⟨d, hd⟩ : ∃ d, atI [rowD (.made 0 (0, 0) 0), D.tup []] r = some d := by
          have : r = 0 ∨ r = 1 := by omega
          rcases this with rfl | rfl
          · exact ⟨_, by simp; rfl⟩
          · exact ⟨_, by simp; rfl⟩
        simp [rowD, tD] at hd
        simp [g52, hd]
        intro p3 hp3
        have k3 := Nw.ne gp5 hp3
        have l200 : (longR.map rowD).length = 200 := by rw [List.length_map, long_len]
        simp [put_at, k3.1, k3.2, gp5, sizeLine_eq]
        refine ⟨by rw [long_len]; decide, fun p4 hp4 => ?_⟩
        generalize hG : put (put G5 p3 _) p4 _ = G6
        have e6 : Ext G5 G6 := by rw [← hG]; exact (Ext.put hp3).trans (Ext.put hp4)
        have g64 : G6 p4 = some (.lst (longR.map rowD ++ [d])) := by rw [← hG]; exact put_same
        have n4 : p4 ≠ b ∧ p4 ≠ l := by
          simp only [nw_put] at hp4
          exact B5.ne hp4.2.2
        clear hG
        intro p5 hp5
        have k5 := Nw.ne g64 hp5
        have n5 := (B5.ext e6).ne hp5
        refine takes (by decide) (by decide) ((B5.ext e6).ext (.put hp5)) fun r2 G7 r20 r21 B7 x7 => ?_
        have g74 := x7 _ _ n4.1 n4.2 (by rw [put_ne k5.1]; exact g64)
        have g75 := x7 _ _ n5.1 n5.2 put_same
        simp [g75, sizeLine_eq]
        refine ⟨⟨by omega, by omega, by omega⟩, fun p6 hp6 => ?_⟩
        have k6 := Nw.ne g74 hp6
        simp [put_at, k6.1, k6.2, g74, sizeLine_eq]
        refine ⟨by rw [long_len]; omega, fun p7 hp7 => ?_⟩
        generalize hG : put (put G7 p6 _) p7 _ = G8
        have g87 : G8 p7 = some (.lst (longR.map rowD ++ d :: List.replicate r2.toNat (.tup []))) := by rw [← hG]; simpa using put_same
        clear hG
        have LB : LogBad G8 p7 200 := ⟨longR, d, _, g87, long_ok, long_len, by simp [long_len]; omega, by decide, .inl rfl⟩
        intro f1 c1 l1 hf1 f2 c2 l2 hf2 p8 hp8
        refine told_both (i1 := 2) (i2 := 3) LB l1 l2 hf1 hf2 hp8 (fun ED G' Q h => ?_) (fun ED G' Q h => ?_) fun G' e => ?_
        · simp [lams_law, t_law_M2]
          exact h
        · simp [lams_law, t_law_M3]
          exact h
        · rfl
end DL
set_option Elab.async false
set_option linter.all false
set_option maxRecDepth 100000
set_option maxHeartbeats 0
namespace DL
open PySem PySem.Spec L2
section
variable {P : Program} {w : World} {K : PySem.W.Frag} {mg : Str → Option Value} {base : Heap}
theorem sc_begun : FnScope ["_law_script", "_law_stirred", "_law_cell"] ["_law_script"] (defScope (top 29)) := ⟨rfl, rfl, rfl, by decide +kernel, rfl, by decide +kernel, by decide +kernel⟩
theorem ok_begun (S : SaidX fa fn tb xb w K mg) : ∃ fd : FuncData, FnOk P w K mg base (L2.CX P w) 1 (He.fAd K d_law_begun.at_) fd ["_law_script"] (spBegun K) ∧ mg "_law_begun" = some (.ref (He.fAd K d_law_begun.at_)) ∧ PySem.W.keepIn K (.ref (He.fAd K d_law_begun.at_)) = true ∧ Binds K fd ["_law_script"] [] := by
  obtain ⟨fd, F⟩ := S.c.def_ 0 (d := d_law_begun) rfl
  refine ⟨fd, F.ok sc_begun (fun vs H Q E h => ?_) (fun cdv A outer s H vs Q E hr h => ⟨rawBegun K, ?_, pure_begun vs H Q E h⟩), S.glo 19, F.kp, F.bindsN fun _ _ _ _ _ _ us hl => match us, hl with | [_], _ => rfl⟩
  · obtain ⟨a, ns, rfl, _⟩ := h
    rfl
  · have nd := sc_begun.nd
    have po := passes_of (X := Bd P w K mg base ["_law_script", "_law_stirred", "_law_cell"] "_law_begun" (defScope (top 29)) (He.fAd K d_law_begun.at_) cdv A outer s H E) rfl
    exact pss_cons (ps_set (i := 1) nd rfl (Or.inl rfl) pe_int) (pss_cons (ps_for po rfl (DL.pi_seq (pv 0)) (pg_name (i := 2) nd rfl (Or.inl rfl)) (pss_one (ps_set (i := 1) nd rfl (Or.inl rfl) (pe_op L2.op_mod (pe_op L2.op_add (pe_op L2.op_add (pe_op L2.op_mul (pv 1) pe_int) (pe_op L2.op_mul (pe_op L2.op_mod (pv 2) pe_int) pe_int)) pe_int) pe_int))))
      (pss_one (ps_ret (pe_lst (pa_cons (pe_callTy call_list_of rfl (S.free 18) (by decide +kernel) (pa_cons (pv 0) pa_nil)) (pa_cons (pe_op L2.op_mul (pv 1) (pe_callTy call_int1 rfl (S.free 15) (by decide +kernel) (pa_cons (pe_cmpR L2.op_gt (pe_callB call_len rfl (S.free 1) (by decide +kernel) (pa_cons (pv 0) pa_nil)) pe_int (nomark _)) pa_nil))) pa_nil))))))
theorem sc_law_told : FnScope N_law_told ["_law_work"] (defScope (top 32)) := ⟨rfl, rfl, rfl, by decide +kernel, rfl, by decide +kernel, by decide +kernel⟩
theorem told_in (S : SaidX fa fn tb xb w K mg) (X : Cx) (hp : X.prog = P) (hw : X.w = w) (hK : X.K = K) (hm : X.mg = mg) {k : Nat} (hr : Room (k + 1) X.A) : ToldIn X "_law_told" (Ls (cs K)) := by
  subst hK hm
  obtain ⟨fd, F⟩ := S.c.def_ 1 (d := d_law_told) rfl
  have b : L2.Binds X.K fd ["_law_work"] [] := F.bindsN fun _ _ _ _ _ _ us hl => match us, hl with | [_], _ => rfl
  obtain ⟨oc, od, dV, kV, doc, pm, an, cdv, ct, osl, rfl, lk, hcd, _, _⟩ := F.ex
  have T := toldB_ok (xp5 S.x)
  have nd := sc_law_told.nd
  refine ⟨He.fAd X.K d_law_told.at_, "_law_work", _, _, defScope (top 32), N_law_told, dV, kV, doc, pm, cdv, ct, oc, an, od, osl, S.glo 33, F.kp, lk, hcd, b, sc_law_told, rfl, .inl rfl, by decide, by decide, fun q => ?_⟩
  refine told_givesX (i := 1) (CS := He.ga X.K "CarryError") (tS := t_law_told X.K (cs X.K)) nd rfl (by decide) rfl rfl (S.glo 32) (by decide) (fun f => rfl) (fun C w' h => T.em _ h) (fun s H H' a oe cls d x' pn hz hf hx => ?_) fun a C x' G QD h => pure_law_told T a C x' G QD h
  exact (dss_cons (ds_set (i := 2) nd rfl (Or.inl rfl) (de_lst (da_cons (de_callB (dc_isX hz hf ⟨_, hx⟩) rfl (S.free 8) (by decide +kernel) (da_cons (dv 1) (da_cons (de_cls rfl (S.glo 20)) da_nil))) (da_cons (de_callB (dc_isX hz hf ⟨_, hx⟩) rfl (S.free 8) (by decide +kernel) (da_cons (dv 1) (da_cons (de_cls rfl (S.glo 10)) da_nil))) (da_cons (de_callB (dc_isX hz hf ⟨_, hx⟩) rfl (S.free 8) (by decide +kernel) (da_cons (dv 1) (da_cons (de_cls rfl (S.glo 21)) da_nil))) (da_cons (de_callB (dc_isX hz hf ⟨_, hx⟩) rfl (S.free 8) (by decide +kernel) (da_cons (dv 1) (da_cons (de_cls rfl (S.glo 22)) da_nil))) da_nil))))))
    (dss_cons (ds_set (i := 2) nd rfl (Or.inl rfl) (de_op op_add (dv 2) (de_lst (da_cons (de_callB (dc_isX hz hf ⟨_, hx⟩) rfl (S.free 8) (by decide +kernel) (da_cons (dv 1) (da_cons (de_cls rfl (S.glo 23)) da_nil))) (da_cons (de_callB (dc_isX hz hf ⟨_, hx⟩) rfl (S.free 8) (by decide +kernel) (da_cons (dv 1) (da_cons (de_cls rfl (S.glo 24)) da_nil))) (da_cons (de_callB (dc_isX hz hf ⟨_, hx⟩) rfl (S.free 8) (by decide +kernel) (da_cons (dv 1) (da_cons (de_cls rfl (S.glo 25)) da_nil))) (da_cons (de_callB (dc_isX hz hf ⟨_, hx⟩) rfl (S.free 8) (by decide +kernel) (da_cons (dv 1) (da_cons (de_cls rfl (S.glo 26)) da_nil))) da_nil)))))))
    (dss_cons (ds_set (i := 2) nd rfl (Or.inl rfl) (de_op op_add (dv 2) (de_lst (da_cons (de_callB (dc_isX hz hf ⟨_, hx⟩) rfl (S.free 8) (by decide +kernel) (da_cons (dv 1) (da_cons (de_cls rfl (S.glo 27)) da_nil))) (da_cons (de_callB (dc_isX hz hf ⟨_, hx⟩) rfl (S.free 8) (by decide +kernel) (da_cons (dv 1) (da_cons (de_cls rfl (S.glo 28)) da_nil))) (da_cons (de_callB (dc_isX hz hf ⟨_, hx⟩) rfl (S.free 8) (by decide +kernel) (da_cons (dv 1) (da_cons (de_cls rfl (S.glo 29)) da_nil))) (da_cons (de_callB (dc_isX hz hf ⟨_, hx⟩) rfl (S.free 8) (by decide +kernel) (da_cons (dv 1) (da_cons (de_cls rfl (S.glo 30)) da_nil))) da_nil)))))))
    (dss_cons (ds_if (DW.dt (dw_or (dt_cmp (op_ne (u64 hr)) (de_bm PySem.F.plainAttrs_list PySem.F.slot_list_count PySem.F.type_list_count dm_count (dv 2) (da_cons de_bl da_nil)) de_int) (dw_or1 (dt_not (dt_of_val (de_callB (dc_isX hz hf ⟨_, hx⟩) rfl (S.free 8) (by decide +kernel) (da_cons (dv 1) (da_cons (de_ty rfl (S.free 31) (by decide +kernel)) da_nil)))))))) (dss_one (ds_ret (de_tup (da_cons de_str (da_cons de_int da_nil))))) dss_nil)
    (dss_cons (ds_set (i := 3) nd rfl (Or.inl rfl) (de_lst (da_cons de_str (da_cons de_str (da_cons de_str (da_cons de_str (da_cons de_str (da_cons de_str (da_cons de_str (da_cons de_str (da_cons de_str (da_cons de_str da_nil))))))))))))
    (dss_cons (ds_set (i := 4) nd rfl (Or.inl rfl) (de_ix (u1 hr) (de_op op_add (dv 3) (de_lst (da_cons de_str (da_cons de_str da_nil)))) (de_bm PySem.F.plainAttrs_list PySem.F.slot_list_index PySem.F.type_list_index dm_index (dv 2) (da_cons de_bl da_nil))))
    (dss_one (ds_ret (de_tup (da_cons (dv 4) (da_cons (de_if (dt_cmp (op_eq (u64 hr)) (dv 4) de_str) (de_xf (xfB_ok (xp1 S.x)) (of_decide_eq_true (xp2 S.x)) hz hf hx (dv 1)) (de_if (dt_cmp (op_eq (u64 hr)) (dv 4) de_str) (de_xf (xfB_ok (xp3 S.x)) (of_decide_eq_true (xp4 S.x)) hz hf hx (dv 1)) de_int)) da_nil)))))))))))
theorem sc_BadLog_xinit : FnScope ["self", "number"] ["self", "number"] (defScope (inClass (top 12) 0)) := ⟨rfl, rfl, rfl, by decide +kernel, rfl, by decide +kernel, by decide +kernel⟩
theorem xin_BadLog (S : SaidX fa fn tb xb w K mg) : XIn P w K mg base (cs K).cBadLog "number" := by
  obtain ⟨fd, F⟩ := S.c.def_ 2 (d := d_BadLog_xinit) rfl
  have A := oexB_ok (xp6 S.x)
  exact ⟨He.ga K "CarryError", _, fd, ["self", "number"], A, xinit_ok (k := 0) F sc_BadLog_xinit A (S.glo 32) rfl (.inl rfl) (.inl rfl) rfl rfl (fun _ => rfl), F.bindsN fun _ _ _ _ _ _ us hl => match us, hl with | [_, _], _ => rfl⟩
theorem sc_Record_init__ : FnScope N_Record_init__ ["self"] (defScope (inClass (top 25) 0)) := ⟨rfl, rfl, rfl, by decide +kernel, rfl, by decide +kernel, by decide +kernel⟩
theorem ok_Record_init__ (S : SaidX fa fn tb xb w K mg) (TB : TBs K mg base) : Mak P w K mg base 1 "Record" (cs K).cRecord (sp_Record_init__ (cs K)) := by
  obtain ⟨fd, F⟩ := S.c.def_ 3 (d := d_Record_init__) rfl
  have nd := sc_Record_init__.nd
  refine ⟨_, fd, _, dfn_ok (t := t_Record_init__ (cs K)) F sc_Record_init__ sp1_len (pure_Record_init__ (cs K)) (fun cdv A outer s H E ED hr po tk cd => ?_), S.mkr 34, S.glo 35, F.bindsN fun _ _ _ _ _ _ us hl => match us, hl with | [_], _ => rfl⟩
  exact (dss_cons (ds_fld (dv 0) (de_newDT) (S.cls 3) (S.noat 4) ndRecord rfl (by decide))
    (dss_one (ds_fld (dv 0) (de_newDT) (S.cls 3) (S.noat 5) ndRecord rfl (by decide))))
theorem sc_Record_is_here : FnScope N_Record_is_here ["self", "end", "thing"] (defScope (inClass (top 25) 1)) := ⟨rfl, rfl, rfl, by decide +kernel, rfl, by decide +kernel, by decide +kernel⟩
theorem ok_Record_is_here (S : SaidX fa fn tb xb w K mg) (TB : TBs K mg base) : Met P w K mg base 1 (cs K).cRecord "is_here" (sp_Record_is_here (cs K)) := by
  obtain ⟨fd, F⟩ := S.c.def_ 4 (d := d_Record_is_here) rfl
  have nd := sc_Record_is_here.nd
  refine ⟨_, fd, _, dfn_ok (t := t_Record_is_here (cs K)) F sc_Record_is_here sp3_len (pure_Record_is_here (cs K)) (fun cdv A outer s H E ED hr po tk cd => ?_), S.meth 36, F.bindsN fun _ _ _ _ _ _ us hl => match us, hl with | [_, _, _], _ => rfl⟩
  exact (dss_one (ds_ret (de_cmp (op_eq (r64 hr)) (de_ix (r1 hr) (de_bm PySem.F.plainAttrs_dict PySem.F.slot_dict_get PySem.F.type_dict_get (dm_get (r1 hr)) (de_fld (dv 0) (S.cls 3) (S.noat 4) ndRecord rfl) (da_cons (dv 2) (da_cons (de_tup (da_cons de_non (da_cons de_non da_nil))) da_nil))) de_int) (dv 1))))
theorem sc_Record_new : FnScope N_Record_new ["self", "end", "thing", "number"] (defScope (inClass (top 25) 2)) := ⟨rfl, rfl, rfl, by decide +kernel, rfl, by decide +kernel, by decide +kernel⟩
theorem ok_Record_new (S : SaidX fa fn tb xb w K mg) (TB : TBs K mg base) : Met P w K mg base 1 (cs K).cRecord "new" (sp_Record_new (cs K)) := by
  obtain ⟨fd, F⟩ := S.c.def_ 5 (d := d_Record_new) rfl
  have nd := sc_Record_new.nd
  refine ⟨_, fd, _, dfn_ok (t := t_Record_new (cs K)) F sc_Record_new sp4_len (pure_Record_new (cs K)) (fun cdv A outer s H E ED hr po tk cd => ?_), S.meth 37, F.bindsN fun _ _ _ _ _ _ us hl => match us, hl with | [_, _, _, _], _ => rfl⟩
  exact (dss_cons (ds_if (DW.dt (dw_or (dt_cmp (op_in (r65 hr)) (dv 2) (de_fld (dv 0) (S.cls 3) (S.noat 5) ndRecord rfl)) (dw_or1 (dt_cmp (op_ne (r64 hr)) (de_ix (r1 hr) (dv 2) de_int) (dv 1))))) (dss_one (ds_ret de_bl)) dss_nil)
    (dss_cons (ds_asg de_bl (dg_sub (r1 hr) (de_fld (dv 0) (S.cls 3) (S.noat 5) ndRecord rfl) (dv 2)))
    (dss_cons (ds_asg (de_tup (da_cons (dv 1) (da_cons (dv 3) da_nil))) (dg_sub (r1 hr) (de_fld (dv 0) (S.cls 3) (S.noat 4) ndRecord rfl) (dv 2)))
    (dss_one (ds_ret de_bl)))))
theorem sc_Record_go : FnScope N_Record_go ["self", "row"] (defScope (inClass (top 25) 3)) := ⟨rfl, rfl, rfl, by decide +kernel, rfl, by decide +kernel, by decide +kernel⟩
theorem ok_Record_go (S : SaidX fa fn tb xb w K mg) (TB : TBs K mg base) : Met P w K mg base 2 (cs K).cRecord "go" (sp_Record_go (cs K)) := by
  obtain ⟨fd, F⟩ := S.c.def_ 6 (d := d_Record_go) rfl
  have nd := sc_Record_go.nd
  refine ⟨_, fd, _, dfn_ok (t := t_Record_go (cs K)) F sc_Record_go sp2_len (pure_Record_go (cs K)) (fun cdv A outer s H E ED hr po tk cd => ?_), S.meth 38, F.bindsN fun _ _ _ _ _ _ us hl => match us, hl with | [_, _], _ => rfl⟩
  exact (dss_cons (ds_asg (de_slice (dv 1) do_none (do_some de_int)) (dg_tup rfl (dgs_cons (dg_name (i := 2) nd rfl (Or.inl rfl)) (dgs_cons (dg_name (i := 3) nd rfl (Or.inl rfl)) (dgs_cons (dg_name (i := 4) nd rfl (Or.inl rfl)) dgs_nil)))))
    (dss_cons (ds_if (dt_cmp (op_eq (r64 hr)) (dv 2) de_str) (dss_one (ds_ret (ce_meth (dv 0) (S.cls 3) (ok_Record_new S TB) (by decide +kernel) hr (by decide) tk (da_cons (dv 3) (da_cons (dv 4) (da_cons (de_ix (r1 hr) (dv 1) de_int) da_nil)))))) dss_nil)
    (dss_cons (ds_if (dt_not (dt_of_val (ce_meth (dv 0) (S.cls 3) (ok_Record_is_here S TB) (by decide +kernel) hr (by decide) tk (da_cons (dv 3) (da_cons (dv 4) da_nil))))) (dss_one (ds_ret de_bl)) dss_nil)
    (dss_cons (ds_set (i := 5) nd rfl (Or.inl rfl) (de_ix (r1 hr) (de_ix (r1 hr) (de_fld (dv 0) (S.cls 3) (S.noat 4) ndRecord rfl) (dv 4)) de_int))
    (dss_cons (ds_if (dt_cmp (op_eq (r64 hr)) (dv 2) de_str) (dss_cons (ds_asg (de_tup (da_cons (dv 3) (da_cons (de_ix (r1 hr) (dv 1) de_int) da_nil))) (dg_sub (r1 hr) (de_fld (dv 0) (S.cls 3) (S.noat 4) ndRecord rfl) (dv 4)))
    (dss_one (ds_ret de_bl))) dss_nil)
    (dss_cons (ds_if (dt_cmp (op_in (r65 hr)) (dv 2) (de_tup (da_cons de_str (da_cons de_str da_nil)))) (dss_cons (ds_if (DW.dt (dw_and (dt_cmp (op_eq (r64 hr)) (dv 2) de_str) (dw_and1 (dt_cmp (op_eq (r64 hr)) (de_ix (r1 hr) (dv 1) de_int) (dv 3))))) (dss_one (ds_ret de_bl)) dss_nil)
    (dss_cons (ds_expr (de_bm PySem.F.plainAttrs_dict PySem.F.slot_dict_pop PySem.F.type_dict_pop (dm_pop rfl (r1 hr)) (de_fld (dv 0) (S.cls 3) (S.noat 4) ndRecord rfl) (da_cons (dv 4) da_nil)))
    (dss_one (ds_ret (de_or (de_cmp (op_eq (r64 hr)) (dv 2) de_str) (de_one (ce_meth (dv 0) (S.cls 3) (ok_Record_new S TB) (by decide +kernel) hr (by decide) tk (da_cons (de_ix (r1 hr) (dv 1) de_int) (da_cons (de_ix (r1 hr) (dv 1) de_int) (da_cons (dv 5) da_nil)))))))))) dss_nil)
    (dss_one (ds_ret (de_and (de_cmp (op_ne (r64 hr)) (de_ix (r1 hr) (dv 1) de_int) (dv 3)) (de_and (de_cmp (op_eq (r64 hr)) (de_ix (r1 hr) (dv 1) de_int) (dv 5)) (de_one (ce_meth (dv 0) (S.cls 3) (ok_Record_new S TB) (by decide +kernel) hr (by decide) tk (da_cons (de_ix (r1 hr) (dv 1) de_int) (da_cons (de_ix (r1 hr) (dv 1) de_int) (da_cons (dv 5) da_nil)))))))))))))))
theorem sc_is_number : FnScope N_is_number ["part", "low", "high"] (defScope (top 18)) := ⟨rfl, rfl, rfl, by decide +kernel, rfl, by decide +kernel, by decide +kernel⟩
theorem ok_is_number (S : SaidX fa fn tb xb w K mg) (TB : TBs K mg base) : Cal P w K mg base 1 "is_number" (sp_is_number (cs K)) := by
  obtain ⟨fd, F⟩ := S.c.def_ 7 (d := d_is_number) rfl
  have nd := sc_is_number.nd
  refine ⟨_, fd, _, dfn_ok (t := t_is_number (cs K)) F sc_is_number sp3_len (pure_is_number (cs K)) (fun cdv A outer s H E ED hr po tk cd => ?_), S.glo 39, F.kp, F.bindsN fun _ _ _ _ _ _ us hl => match us, hl with | [_, _, _], _ => rfl⟩
  exact (dss_one (ds_ret (de_and (de_callB dc_isi rfl (S.free 8) (by decide +kernel) (da_cons (dv 0) (da_cons (de_ty rfl (S.free 15) (by decide +kernel)) da_nil))) (de_and (de_not (de_callB dc_isi rfl (S.free 8) (by decide +kernel) (da_cons (dv 0) (da_cons (de_ty rfl (S.free 16) (by decide +kernel)) da_nil)))) (de_one (de_chain op_le op_le (dv 1) (dv 0) (dv 2)))))))
theorem sc_is_id : FnScope N_is_id ["thing"] (defScope (top 19)) := ⟨rfl, rfl, rfl, by decide +kernel, rfl, by decide +kernel, by decide +kernel⟩
theorem ok_is_id (S : SaidX fa fn tb xb w K mg) (TB : TBs K mg base) : Cal P w K mg base 2 "is_id" (sp_is_id (cs K)) := by
  obtain ⟨fd, F⟩ := S.c.def_ 8 (d := d_is_id) rfl
  have nd := sc_is_id.nd
  refine ⟨_, fd, _, dfn_ok (t := t_is_id (cs K)) F sc_is_id sp1_len (pure_is_id (cs K)) (fun cdv A outer s H E ED hr po tk cd => ?_), S.glo 40, F.kp, F.bindsN fun _ _ _ _ _ _ us hl => match us, hl with | [_], _ => rfl⟩
  exact (dss_cons (ds_if (DW.dt (dw_or (dt_not (dt_of_val (de_callB dc_isi rfl (S.free 8) (by decide +kernel) (da_cons (dv 0) (da_cons (de_ty rfl (S.free 7) (by decide +kernel)) da_nil))))) (dw_or1 (dt_cmp (op_ne (r64 hr)) (de_callB dc_len rfl (S.free 1) (by decide +kernel) (da_cons (dv 0) da_nil)) de_int)))) (dss_one (ds_ret de_bl)) dss_nil)
    (dss_one (ds_ret (de_and (ce_call (ok_is_number S TB) hr (by decide) rfl tk (da_cons (de_ix (r1 hr) (dv 0) de_int) (da_cons de_int (da_cons (de_op op_sub (de_gint rfl (S.int 12)) de_int) da_nil)))) (de_one (ce_call (ok_is_number S TB) hr (by decide) rfl tk (da_cons (de_ix (r1 hr) (dv 0) de_int) (da_cons de_int (da_cons (de_gint rfl (S.int 14)) da_nil)))))))))
theorem sc_is_part : FnScope N_is_part ["sort", "part"] (defScope (top 23)) := ⟨rfl, rfl, rfl, by decide +kernel, rfl, by decide +kernel, by decide +kernel⟩
theorem ok_is_part (S : SaidX fa fn tb xb w K mg) (TB : TBs K mg base) : Cal P w K mg base 3 "is_part" (sp_is_part (cs K)) := by
  obtain ⟨fd, F⟩ := S.c.def_ 9 (d := d_is_part) rfl
  have nd := sc_is_part.nd
  refine ⟨_, fd, _, dfn_ok (t := t_is_part (cs K)) F sc_is_part sp2_len (pure_is_part (cs K)) (fun cdv A outer s H E ED hr po tk cd => ?_), S.glo 41, F.kp, F.bindsN fun _ _ _ _ _ _ us hl => match us, hl with | [_, _], _ => rfl⟩
  exact (dss_cons (ds_if (dt_cmp (op_eq (r64 hr)) (dv 0) de_str) (dss_one (ds_ret (ce_call (ok_is_id S TB) hr (by decide) rfl tk (da_cons (dv 1) da_nil)))) dss_nil)
    (dss_one (ds_ret (ce_call (ok_is_number S TB) hr (by decide) rfl tk (da_cons (dv 1) (da_cons de_int (da_cons (de_if (dt_cmp (op_eq (r64 hr)) (dv 0) de_str) (de_op op_sub (de_gint rfl (S.int 12)) de_int) (de_gint rfl (S.int 13))) da_nil)))))))
theorem sc_need_log : FnScope N_need_log ["log"] (defScope (top 24)) := ⟨rfl, rfl, rfl, by decide +kernel, rfl, by decide +kernel, by decide +kernel⟩
theorem ok_need_log (S : SaidX fa fn tb xb w K mg) (TB : TBs K mg base) : Cal P w K mg base 4 "need_log" (sp_need_log (cs K)) := by
  obtain ⟨fd, F⟩ := S.c.def_ 10 (d := d_need_log) rfl
  have nd := sc_need_log.nd
  refine ⟨_, fd, _, dfn_ok (t := t_need_log (cs K)) F sc_need_log sp1_len (pure_need_log (cs K)) (fun cdv A outer s H E ED hr po tk cd => ?_), S.glo 42, F.kp, F.bindsN fun _ _ _ _ _ _ us hl => match us, hl with | [_], _ => rfl⟩
  exact (dss_one (ds_for po rfl (di_enum rfl (S.free 2) (da_cons (dv 0) da_nil)) (dg_tup rfl (dgs_cons (dg_name (i := 1) nd rfl (Or.inl rfl)) (dgs_cons (dg_name (i := 2) nd rfl (Or.inr rfl)) dgs_nil))) (dss_cons (ds_if (DW.dt (dw_or (dt_cmp op_ge (dv 1) (de_gint rfl (S.int 6))) (dw_or (dt_not (dt_of_val (de_callB dc_isi rfl (S.free 8) (by decide +kernel) (da_cons (dv 2) (da_cons (de_ty rfl (S.free 7) (by decide +kernel)) da_nil))))) (dw_or (dt_cmp (op_eqG (r64 hr)) (dv 2) (de_tup da_nil)) (dw_or1 (dt_not (dt_of_val (de_callB dc_isi rfl (S.free 8) (by decide +kernel) (da_cons (de_ix (r1 hr) (dv 2) de_int) (da_cons (de_ty rfl (S.free 9) (by decide +kernel)) da_nil)))))))))) (dss_one (ds_raiseX (xin_BadLog S) (hr.mono (by decide)) rfl tk rfl (S.glo 10) (dv 1))) dss_nil)
    (dss_cons (ds_set (i := 3) nd rfl (Or.inr rfl) (de_getK (S.t.tab 0 rfl) rfl (S.glo 11) (xp0 S.x) (de_ix (r1 hr) (dv 2) de_int) de_non))
    (dss_cons (ds_if (DW.dt (dw_or (dt_cmp op_isN (dv 3) de_non) (dw_or1 (dt_cmp (op_ne (r64 hr)) (de_callB dc_len rfl (S.free 1) (by decide +kernel) (da_cons (dv 2) da_nil)) (de_op op_add (de_callB dc_len rfl (S.free 1) (by decide +kernel) (da_cons (dv 3) da_nil)) de_int))))) (dss_one (ds_raiseX (xin_BadLog S) (hr.mono (by decide)) rfl tk rfl (S.glo 10) (dv 1))) dss_nil)
    (dss_one (ds_if (dt_cmp (op_ne (r64 hr)) (de_lc (own := [("k", 4)]) rfl nd (di_rng rfl (S.free 0) (da_cons (de_callB dc_len rfl (S.free 1) (by decide +kernel) (da_cons (dv 3) da_nil)) da_nil)) (blkOk_by (N := N_need_log) (sc := defScope (top 24)) (by decide +kernel)) (by decide) (fun _ _ _ _ _ => (dg_name (i := 4) nd rfl (Or.inl rfl))) (fun _ _ _ _ _ => (dts_one (dt_not (dt_of_val (ce_call (ok_is_part S TB) hr (by decide) rfl wish0 (da_cons (de_ix (r1 hr) (dv 3) (dv 4)) (da_cons (de_ix (r1 hr) (dv 2) (de_op op_add (dv 4) de_int)) da_nil))))))) (fun _ _ _ _ _ => (dv 4))) (de_lst da_nil)) (dss_one (ds_raiseX (xin_BadLog S) (hr.mono (by decide)) rfl tk rfl (S.glo 10) (dv 1))) dss_nil)))))))
theorem sc_judged : FnScope N_judged ["log"] (defScope (top 26)) := ⟨rfl, rfl, rfl, by decide +kernel, rfl, by decide +kernel, by decide +kernel⟩
theorem ok_judged (S : SaidX fa fn tb xb w K mg) (TB : TBs K mg base) : Cal P w K mg base 5 "judged" (sp_judged (cs K)) := by
  obtain ⟨fd, F⟩ := S.c.def_ 11 (d := d_judged) rfl
  have nd := sc_judged.nd
  refine ⟨_, fd, _, dfn_ok (t := t_judged (cs K)) F sc_judged sp1_len (pure_judged (cs K)) (fun cdv A outer s H E ED hr po tk cd => ?_), S.glo 43, F.kp, F.bindsN fun _ _ _ _ _ _ us hl => match us, hl with | [_], _ => rfl⟩
  exact (dss_cons (ds_expr (ce_call (ok_need_log S TB) hr (by decide) rfl tk (da_cons (dv 0) da_nil)))
    (dss_cons (ds_set (i := 1) nd rfl (Or.inl rfl) (ce_make0 (ok_Record_init__ S TB) hr (by decide) rfl tk))
    (dss_cons (ds_for po rfl (di_enum rfl (S.free 2) (da_cons (dv 0) da_nil)) (dg_tup rfl (dgs_cons (dg_name (i := 2) nd rfl (Or.inl rfl)) (dgs_cons (dg_name (i := 3) nd rfl (Or.inl rfl)) dgs_nil))) (dss_one (ds_if (dt_not (dt_of_val (ce_meth (dv 1) (S.cls 3) (ok_Record_go S TB) (by decide +kernel) hr (by decide) tk (da_cons (dv 3) da_nil)))) (dss_one (ds_ret (dv 2))) dss_nil)))
    (dss_one (ds_ret de_non)))))
theorem sc_standing : FnScope N_standing ["log"] (defScope (top 27)) := ⟨rfl, rfl, rfl, by decide +kernel, rfl, by decide +kernel, by decide +kernel⟩
theorem ok_standing (S : SaidX fa fn tb xb w K mg) (TB : TBs K mg base) : Cal P w K mg base 5 "standing" (sp_standing (cs K)) := by
  obtain ⟨fd, F⟩ := S.c.def_ 12 (d := d_standing) rfl
  have nd := sc_standing.nd
  refine ⟨_, fd, _, dfn_ok (t := t_standing (cs K)) F sc_standing sp1_len (pure_standing (cs K)) (fun cdv A outer s H E ED hr po tk cd => ?_), S.glo 44, F.kp, F.bindsN fun _ _ _ _ _ _ us hl => match us, hl with | [_], _ => rfl⟩
  exact (dss_cons (ds_expr (ce_call (ok_need_log S TB) hr (by decide) rfl tk (da_cons (dv 0) da_nil)))
    (dss_cons (ds_set (i := 1) nd rfl (Or.inr rfl) (ce_make0 (ok_Record_init__ S TB) hr (by decide) rfl tk))
    (dss_cons (ds_for po rfl (di_seq (dv 0)) (dg_name (i := 2) nd rfl (Or.inl rfl)) (dss_one (ds_if (dt_not (dt_of_val (ce_meth (dv 1) (S.cls 3) (ok_Record_go S TB) (by decide +kernel) hr (by decide) tk (da_cons (dv 2) da_nil)))) (dss_one (ds_ret de_non)) dss_nil)))
    (dss_one (ds_ret (de_callB (dc_sortedA rfl (r64 hr)) rfl (S.free 17) (by decide +kernel) (da_cons (de_lock (de_lc (own := [("thing", 3)]) rfl nd (di_keys (de_fld (dv 1) (S.cls 3) (S.noat 4) ndRecord rfl)) (blkOk_by (N := N_standing) (sc := defScope (top 27)) (by decide +kernel)) (by decide) (fun _ _ _ _ _ => (dg_name (i := 3) nd rfl (Or.inl rfl))) (fun _ _ _ _ _ => dts_nil) (fun _ _ _ _ _ => (de_op op_add (de_op op_add (de_slice (de_ix (r1 hr) (de_fld (dv 1) (S.cls 3) (S.noat 4) ndRecord rfl) (dv 3)) do_none (do_some de_int)) (de_tup (da_cons (dv 3) da_nil))) (de_slice (de_ix (r1 hr) (de_fld (dv 1) (S.cls 3) (S.noat 4) ndRecord rfl) (dv 3)) (do_some de_int) do_none))))) da_nil)))))))
theorem sc_law_alike : FnScope N_law_alike ["_law_found", "_law_due"] (defScope (top 31)) := ⟨rfl, rfl, rfl, by decide +kernel, rfl, by decide +kernel, by decide +kernel⟩
theorem ok_law_alike (S : SaidX fa fn tb xb w K mg) (TB : TBs K mg base) : ∀ n, Cal P w K mg base n "_law_alike" (sp_law_alike n (cs K))
  | 0 => by
    obtain ⟨fd, F⟩ := S.c.def_ 13 (d := d_law_alike) rfl
    refine ⟨_, fd, ["_law_found", "_law_due"], ⟨fun vs H Q E h => ?_, fun A outer s H args us vs Q E _ _ _ _ h => ?_⟩, S.glo 45, F.kp, F.bindsN fun _ _ _ _ _ _ us hl => match us, hl with | [_, _], _ => rfl⟩
    · obtain ⟨_, _, _, _, _, _, q, _⟩ := h
      exact (nil_law_alike _ _ _ _ _ q).elim
    · obtain ⟨_, _, _, _, _, _, q, _⟩ := h
      exact (nil_law_alike _ _ _ _ _ q).elim
  | n + 1 => by
    have okr := ok_law_alike S TB n
    obtain ⟨fd, F⟩ := S.c.def_ 13 (d := d_law_alike) rfl
    have nd := sc_law_alike.nd
    refine ⟨_, fd, _, dfn_ok (t := t_law_alike (sp_law_alike n (cs K)) (cs K)) F sc_law_alike sp2_len (pure_law_alike n (cs K)) (fun cdv A outer s H E ED hr po tk cd => ?_), S.glo 45, F.kp, F.bindsN fun _ _ _ _ _ _ us hl => match us, hl with | [_, _], _ => rfl⟩
    exact (dss_cons (ds_if (dt_cmp op_isN (dv 1) de_non) (dss_one (ds_ret (de_cmp op_isN (dv 0) de_non))) dss_nil)
    (dss_cons (ds_if (dt_of_val (de_callB dc_isi rfl (S.free 8) (by decide +kernel) (da_cons (dv 1) (da_cons (de_ty rfl (S.free 16) (by decide +kernel)) da_nil)))) (dss_one (ds_ret (de_and (de_callB dc_isi rfl (S.free 8) (by decide +kernel) (da_cons (dv 0) (da_cons (de_ty rfl (S.free 16) (by decide +kernel)) da_nil))) (de_one (de_cmp (op_eq (r64 hr)) (dv 0) (dv 1)))))) dss_nil)
    (dss_cons (ds_if (dt_of_val (de_callB dc_isi rfl (S.free 8) (by decide +kernel) (da_cons (dv 1) (da_cons (de_ty rfl (S.free 15) (by decide +kernel)) da_nil)))) (dss_one (ds_ret (de_and (de_callB dc_isi rfl (S.free 8) (by decide +kernel) (da_cons (dv 0) (da_cons (de_ty rfl (S.free 15) (by decide +kernel)) da_nil))) (de_and (de_not (de_callB dc_isi rfl (S.free 8) (by decide +kernel) (da_cons (dv 0) (da_cons (de_ty rfl (S.free 16) (by decide +kernel)) da_nil)))) (de_one (de_cmp (op_eq (r64 hr)) (dv 0) (dv 1))))))) dss_nil)
    (dss_cons (ds_if (dt_of_val (de_callB dc_isi rfl (S.free 8) (by decide +kernel) (da_cons (dv 1) (da_cons (de_ty rfl (S.free 9) (by decide +kernel)) da_nil)))) (dss_one (ds_ret (de_and (de_callB dc_isi rfl (S.free 8) (by decide +kernel) (da_cons (dv 0) (da_cons (de_ty rfl (S.free 9) (by decide +kernel)) da_nil))) (de_one (de_cmp (op_eq (r64 hr)) (dv 0) (dv 1)))))) dss_nil)
    (dss_cons (ds_if (DW.dt (dw_or (dt_cmp (op_ne (r64 hr)) (de_callB dc_isi rfl (S.free 8) (by decide +kernel) (da_cons (dv 1) (da_cons (de_ty rfl (S.free 7) (by decide +kernel)) da_nil))) (de_callB dc_isi rfl (S.free 8) (by decide +kernel) (da_cons (dv 0) (da_cons (de_ty rfl (S.free 7) (by decide +kernel)) da_nil)))) (dw_or1 (dt_cmp (op_ne (r64 hr)) (de_callB dc_isi rfl (S.free 8) (by decide +kernel) (da_cons (dv 1) (da_cons (de_ty rfl (S.free 18) (by decide +kernel)) da_nil))) (de_callB dc_isi rfl (S.free 8) (by decide +kernel) (da_cons (dv 0) (da_cons (de_ty rfl (S.free 18) (by decide +kernel)) da_nil))))))) (dss_one (ds_ret de_bl)) dss_nil)
    (dss_cons (ds_if (dt_cmp (op_ne (r64 hr)) (de_callB dc_len rfl (S.free 1) (by decide +kernel) (da_cons (dv 0) da_nil)) (de_callB dc_len rfl (S.free 1) (by decide +kernel) (da_cons (dv 1) da_nil))) (dss_one (ds_ret de_bl)) dss_nil)
    (dss_cons (ds_for po rfl (di_rng rfl (S.free 0) (da_cons (de_callB dc_len rfl (S.free 1) (by decide +kernel) (da_cons (dv 1) da_nil)) da_nil)) (dg_name (i := 2) nd rfl (Or.inl rfl)) (dss_one (ds_if (dt_not (dt_of_val (ce_call okr hr (Nat.le_refl _) rfl tk (da_cons (de_ix (r1 hr) (dv 0) (dv 2)) (da_cons (de_ix (r1 hr) (dv 1) (dv 2)) da_nil))))) (dss_one (ds_ret de_bl)) dss_nil)))
    (dss_one (ds_ret de_bl)))))))))
theorem sc_law_all : FnScope N_law_all ["_law_works", "_law_due"] (defScope (top 33)) := ⟨rfl, rfl, rfl, by decide +kernel, rfl, by decide +kernel, by decide +kernel⟩
theorem ok_law_all (S : SaidX fa fn tb xb w K mg) : ∃ fd : FuncData, mg "_law_all" = some (.ref (He.fAd K d_law_all.at_)) ∧ PySem.W.keepIn K (.ref (He.fAd K d_law_all.at_)) = true ∧ Binds K fd ["_law_works", "_law_due"] [] ∧
    ∀ (base : Heap) (N : List Str) (cells : List (Str × Addr)) (sc : Scope) (σ : L2.St) (Hs : Hp) (LM : Nat → Clo → Prop) (acts : Nat → Act), TBs K mg base → Susp base N cells sc σ → (∀ i c, LM i c → FnIn P w K mg base N cells sc σ Hs 5 c (acts i)) →
      FnOk P w K mg base (L2.CX P w) 8 (He.fAd K d_law_all.at_) fd ["_law_works", "_law_due"] (fun vs H Q E => Kp Hs H ∧ liftSp K (spT N_law_all ["_law_works", "_law_due"] (t_law_all LM acts (cs K))) vs H Q E) := by
  obtain ⟨fd, F⟩ := S.c.def_ 14 (d := d_law_all) rfl
  have nd := sc_law_all.nd
  refine ⟨fd, S.glo 46, F.kp, F.bindsN fun _ _ _ _ _ _ us hl => match us, hl with | [_, _], _ => rfl, fun base N cells sc σ Hs LM acts TB U Fs => dfn_okS F sc_law_all (fun cdv A outer s H E ED kp hr po tk cd => ?_)⟩
  exact (dss_one (ds_ret (de_cmp (op_eq (r64 hr)) (de_lc (own := [("_law_work", 2)]) rfl nd (di_seq (dv 0)) (blkOk_by (N := N_law_all) (sc := defScope (top 33)) (by decide +kernel)) (by decide) (fun _ _ _ _ _ => (dg_name (i := 2) nd rfl (Or.inl rfl))) (fun _ _ _ _ _ => (dts_one (dt_not (dt_of_val (ce_call (ok_law_alike S TB 6) hr (by decide) rfl wish0 (da_cons (de_toldV (k := 5) (told_in S _ rfl rfl rfl rfl (k := 5) (hr.mono (by decide))) rfl (hr.mono (by decide)) U Fs kp (dv 2)) (da_cons (dv 1) da_nil))))))) (fun _ _ _ _ _ => (dv 2))) (de_lst da_nil))))
theorem sc_law_take : FnScope N_law_take ["_law_box", "_law_many"] (defScope (top 30)) := ⟨rfl, rfl, rfl, by decide +kernel, rfl, by decide +kernel, by decide +kernel⟩
theorem ok_law_take (S : SaidX fa fn tb xb w K mg) (TB : TBs K mg base) : Cal P w K mg base 1 "_law_take" (sp_law_take (cs K)) := by
  obtain ⟨fd, F⟩ := S.c.def_ 15 (d := d_law_take) rfl
  have nd := sc_law_take.nd
  refine ⟨_, fd, _, dfn_ok (t := t_law_take (cs K)) F sc_law_take sp2_len (pure_law_take (cs K)) (fun cdv A outer s H E ED hr po tk cd => ?_), S.glo 47, F.kp, F.bindsN fun _ _ _ _ _ _ us hl => match us, hl with | [_, _], _ => rfl⟩
  exact (dss_cons (ds_if (dt_cmp (op_eq (r64 hr)) (de_ix (r1 hr) (dv 0) de_int) (de_lst da_nil)) (dss_cons (ds_asg (de_op op_mod (de_op op_mul (de_ix (r1 hr) (dv 0) de_int) de_int) de_int) (dg_sub (r1 hr) (dv 0) de_int))
    (dss_one (ds_ret (de_op op_mod (de_op op_div (de_ix (r1 hr) (dv 0) de_int) de_int) (dv 1))))) dss_nil)
    (dss_cons (ds_set (i := 2) nd rfl (Or.inl rfl) (de_ix (r1 hr) (de_ix (r1 hr) (dv 0) de_int) de_int))
    (dss_cons (ds_asg (de_op op_div (dv 2) (dv 1)) (dg_sub (r1 hr) (de_ix (r1 hr) (dv 0) de_int) de_int))
    (dss_cons (ds_if (DW.dt (dw_or (dt_cmp (op_eq (r64 hr)) (de_ix (r1 hr) (de_ix (r1 hr) (dv 0) de_int) de_int) de_int) (dw_or1 (dt_cmp (op_eq (r64 hr)) (de_ix (r1 hr) (de_ix (r1 hr) (dv 0) de_int) de_int) de_neg)))) (dss_one (ds_expr (de_bm PySem.F.plainAttrs_list PySem.F.slot_list_pop PySem.F.type_list_pop dm_popAt (de_ix (r1 hr) (dv 0) de_int) (da_cons de_int da_nil)))) dss_nil)
    (dss_one (ds_ret (de_op op_mod (dv 2) (dv 1))))))))
theorem sc_law_log : FnScope N_law_log ["_law_box"] (defScope (top 34)) := ⟨rfl, rfl, rfl, by decide +kernel, rfl, by decide +kernel, by decide +kernel⟩
theorem ok_law_log (S : SaidX fa fn tb xb w K mg) (TB : TBs K mg base) : Cal P w K mg base 2 "_law_log" (sp_law_log (cs K)) := by
  obtain ⟨fd, F⟩ := S.c.def_ 16 (d := d_law_log) rfl
  have nd := sc_law_log.nd
  refine ⟨_, fd, _, dfn_ok (t := t_law_log (cs K)) F sc_law_log sp1_len (pure_law_log (cs K)) (fun cdv A outer s H E ED hr po tk cd => ?_), S.glo 48, F.kp, F.bindsN fun _ _ _ _ _ _ us hl => match us, hl with | [_], _ => rfl⟩
  exact (dss_cons (ds_par3 (i := 1) (j := 2) (l := 3) rfl nd rfl rfl rfl (by decide) (by decide) (by decide) rfl rfl rfl (da_cons (de_lst da_nil) (da_cons (de_newDT) (da_cons (de_op op_mul (de_lst (da_cons de_int da_nil)) de_int) da_nil))) rfl)
    (dss_cons (ds_for po rfl (di_rng rfl (S.free 0) (da_cons (ce_call (ok_law_take S TB) hr (by decide) rfl tk (da_cons (dv 0) (da_cons (de_ix (r1 hr) (de_lst (da_cons de_int (da_cons de_int da_nil))) (ce_call (ok_law_take S TB) hr (by decide) rfl tk (da_cons (dv 0) (da_cons de_int da_nil)))) da_nil))) da_nil)) (dg_name (i := 4) nd rfl (Or.inl rfl)) (dss_cons (ds_set (i := 5) nd rfl (Or.inl rfl) (ce_call (ok_law_take S TB) hr (by decide) rfl tk (da_cons (dv 0) (da_cons de_int da_nil))))
    (dss_one (ds_if (DW.dt (dw_or (dt_eqNil (r64 hr) (dv 2)) (dw_or1 (dt_cmp op_lt (dv 5) de_int)))) (dss_cons (ds_par (i := 6) (j := 7) rfl nd rfl rfl (by decide) rfl rfl (da_cons (ce_call (ok_law_take S TB) hr (by decide) rfl tk (da_cons (dv 0) (da_cons de_int da_nil))) (da_cons (ce_call (ok_law_take S TB) hr (by decide) rfl tk (da_cons (dv 0) (da_cons de_int da_nil))) da_nil)) rfl)
    (dss_cons (ds_asg (de_tup (da_cons (dv 6) (da_cons (dv 7) da_nil))) (dg_sub (r1 hr) (dv 2) (de_tup (da_cons (dv 6) (da_cons (de_ix (r1 hr) (dv 3) (dv 6)) da_nil)))))
    (dss_cons (ds_expr (de_bm PySem.F.plainAttrs_list PySem.F.slot_list_append PySem.F.type_list_append dm_append (dv 1) (da_cons (de_tup (da_cons de_str (da_cons (dv 6) (da_cons (de_tup (da_cons (dv 6) (da_cons (de_ix (r1 hr) (dv 3) (dv 6)) da_nil))) (da_cons (dv 7) da_nil))))) da_nil)))
    (dss_one (ds_asg (de_op op_add (de_op op_add (de_ix (r1 hr) (dv 3) (dv 6)) de_int) (ce_call (ok_law_take S TB) hr (by decide) rfl tk (da_cons (dv 0) (da_cons de_int da_nil)))) (dg_sub (r1 hr) (dv 3) (dv 6))))))) (dss_cons (ds_set (i := 8) nd rfl (Or.inl rfl) (de_ix (r1 hr) (de_callB (dc_sortedA rfl (r64 hr)) rfl (S.free 17) (by decide +kernel) (da_cons (dv 2) da_nil)) (ce_call (ok_law_take S TB) hr (by decide) rfl tk (da_cons (dv 0) (da_cons (de_callB dc_len rfl (S.free 1) (by decide +kernel) (da_cons (dv 2) da_nil)) da_nil)))))
    (dss_cons (ds_asg (de_ix (r1 hr) (dv 2) (dv 8)) (dg_tup rfl (dgs_cons (dg_name (i := 6) nd rfl (Or.inl rfl)) (dgs_cons (dg_name (i := 7) nd rfl (Or.inl rfl)) dgs_nil))))
    (dss_cons (ds_set (i := 9) nd rfl (Or.inl rfl) (de_op op_mod (de_op op_add (de_op op_add (dv 6) de_int) (ce_call (ok_law_take S TB) hr (by decide) rfl tk (da_cons (dv 0) (da_cons de_int da_nil)))) de_int))
    (dss_cons (ds_set (i := 10) nd rfl (Or.inl rfl) (de_tup (da_cons (dv 9) (da_cons (de_ix (r1 hr) (dv 3) (dv 9)) da_nil))))
    (dss_one (ds_if (dt_cmp (op_eq (r64 hr)) (dv 5) de_int) (dss_cons (ds_asg (de_tup (da_cons (dv 6) (da_cons (ce_call (ok_law_take S TB) hr (by decide) rfl tk (da_cons (dv 0) (da_cons de_int da_nil))) da_nil))) (dg_sub (r1 hr) (dv 2) (dv 8)))
    (dss_one (ds_expr (de_bm PySem.F.plainAttrs_list PySem.F.slot_list_append PySem.F.type_list_append dm_append (dv 1) (da_cons (de_tup (da_cons de_str (da_cons (dv 6) (da_cons (dv 8) (da_cons (de_ix (r1 hr) (de_ix (r1 hr) (dv 2) (dv 8)) de_int) da_nil))))) da_nil))))) (dss_one (ds_if (dt_cmp (op_eq (r64 hr)) (dv 5) de_int) (dss_cons (ds_expr (de_bm PySem.F.plainAttrs_dict PySem.F.slot_dict_pop PySem.F.type_dict_pop (dm_pop rfl (r1 hr)) (dv 2) (da_cons (dv 8) da_nil)))
    (dss_one (ds_expr (de_bm PySem.F.plainAttrs_list PySem.F.slot_list_append PySem.F.type_list_append dm_append (dv 1) (da_cons (de_tup (da_cons de_str (da_cons (dv 6) (da_cons (dv 8) da_nil)))) da_nil))))) (dss_cons (ds_asg (de_op op_add (de_ix (r1 hr) (dv 3) (dv 9)) de_int) (dg_sub (r1 hr) (dv 3) (dv 9)))
    (dss_cons (ds_asg (de_tup (da_cons (dv 9) (da_cons (dv 7) da_nil))) (dg_sub (r1 hr) (dv 2) (dv 10)))
    (dss_cons (ds_if (dt_cmp op_lt (dv 5) de_int) (dss_one (ds_expr (de_bm PySem.F.plainAttrs_dict PySem.F.slot_dict_pop PySem.F.type_dict_pop (dm_pop rfl (r1 hr)) (dv 2) (da_cons (dv 8) da_nil)))) dss_nil)
    (dss_one (ds_expr (de_bm PySem.F.plainAttrs_list PySem.F.slot_list_append PySem.F.type_list_append dm_append (dv 1) (da_cons (de_if (dt_cmp op_lt (dv 5) de_int) (de_tup (da_cons de_str (da_cons (dv 6) (da_cons (dv 8) (da_cons (dv 9) (da_cons (dv 10) da_nil)))))) (de_tup (da_cons de_str (da_cons (dv 6) (da_cons (dv 8) (da_cons (dv 9) (da_cons (dv 10) (da_cons (dv 7) da_nil)))))))) da_nil)))))))))))))))))))
    (dss_one (ds_ret (dv 1)))))
theorem sc_law_odd : FnScope N_law_odd ["_law_box"] (defScope (top 35)) := ⟨rfl, rfl, rfl, by decide +kernel, rfl, by decide +kernel, by decide +kernel⟩
theorem ok_law_odd (S : SaidX fa fn tb xb w K mg) (TB : TBs K mg base) : Cal P w K mg base 2 "_law_odd" (sp_law_odd (cs K)) := by
  obtain ⟨fd, F⟩ := S.c.def_ 17 (d := d_law_odd) rfl
  have nd := sc_law_odd.nd
  refine ⟨_, fd, _, dfn_ok (t := t_law_odd (cs K)) F sc_law_odd sp1_len (pure_law_odd (cs K)) (fun cdv A outer s H E ED hr po tk cd => ?_), S.glo 49, F.kp, F.bindsN fun _ _ _ _ _ _ us hl => match us, hl with | [_], _ => rfl⟩
  exact (dss_cons (ds_set (i := 1) nd rfl (Or.inl rfl) (de_ix (r1 hr) (de_lst (da_cons de_int (da_cons de_int (da_cons (ce_call (ok_law_take S TB) hr (by decide) rfl tk (da_cons (dv 0) (da_cons (de_powC ⟨by decide, by decide, by decide⟩ (by decide +kernel)) da_nil))) da_nil)))) (ce_call (ok_law_take S TB) hr (by decide) rfl tk (da_cons (dv 0) (da_cons de_int da_nil)))))
    (dss_cons (ds_set (i := 2) nd rfl (Or.inl rfl) (de_lst (da_cons (de_tup da_nil) (da_cons (de_tup (da_cons de_str da_nil)) (da_cons (de_tup (da_cons de_str (da_cons de_int (da_cons (de_tup (da_cons de_int (da_cons de_int da_nil))) da_nil)))) (da_cons (de_tup (da_cons de_str (da_cons (de_op op_add de_int (dv 1)) (da_cons (de_tup (da_cons de_int (da_cons de_int da_nil))) (da_cons de_int da_nil))))) (da_cons (de_tup (da_cons de_str (da_cons de_int (da_cons (de_tup (da_cons (de_op op_add de_int (dv 1)) (da_cons de_int da_nil))) (da_cons de_int da_nil))))) da_nil)))))))
    (dss_cons (ds_expr (de_bm PySem.F.plainAttrs_list PySem.F.slot_list_append PySem.F.type_list_append dm_append (dv 2) (da_cons (de_tup (da_cons de_str (da_cons de_int (da_cons (de_tup (da_cons de_int (da_cons de_int da_nil))) (da_cons de_int da_nil))))) da_nil)))
    (dss_cons (ds_set (i := 2) nd rfl (Or.inl rfl) (de_op op_add (dv 2) (de_lst (da_cons (de_tup (da_cons de_str (da_cons de_int (da_cons (de_tup (da_cons de_int (da_cons (de_op op_add (de_op op_add (de_powC ⟨by decide, by decide, by decide⟩ (by decide +kernel)) de_int) (dv 1)) da_nil))) (da_cons de_int da_nil))))) (da_cons (de_tup (da_cons de_str (da_cons de_int (da_cons (de_tup (da_cons de_int (da_cons de_int da_nil))) (da_cons (de_op op_add de_int (dv 1)) da_nil))))) da_nil)))))
    (dss_cons (ds_expr (de_bm PySem.F.plainAttrs_list PySem.F.slot_list_append PySem.F.type_list_append dm_append (dv 2) (da_cons (de_tup (da_cons de_str (da_cons (de_op op_sub de_neg (dv 1)) (da_cons (de_tup (da_cons de_int (da_cons de_int da_nil))) (da_cons de_int da_nil))))) da_nil)))
    (dss_cons (ds_set (i := 2) nd rfl (Or.inl rfl) (de_op op_add (dv 2) (de_lst (da_cons (de_tup (da_cons de_str (da_cons de_int (da_cons de_int da_nil)))) (da_cons (de_tup (da_cons de_str (da_cons de_int (da_cons (de_lst (da_cons de_int (da_cons de_int da_nil))) da_nil)))) (da_cons (de_tup (da_cons de_str (da_cons de_int (da_cons (de_tup (da_cons de_int (da_cons de_int da_nil))) (da_cons de_int da_nil))))) (da_cons (de_tup (da_cons de_str (da_cons de_int (da_cons (de_tup (da_cons de_int (da_cons de_int da_nil))) (da_cons de_int (da_cons (de_tup (da_cons de_int (da_cons de_int da_nil))) (da_cons de_int da_nil))))))) da_nil)))))))
    (dss_cons (ds_set (i := 2) nd rfl (Or.inl rfl) (de_op op_add (dv 2) (de_lst (da_cons (de_tup (da_cons de_str (da_cons de_int (da_cons (de_tup (da_cons de_int (da_cons de_int da_nil))) (da_cons de_int (da_cons (de_tup (da_cons de_int (da_cons de_int da_nil))) da_nil)))))) (da_cons (de_tup (da_cons de_str (da_cons de_int (da_cons (de_tup (da_cons de_int (da_cons de_int da_nil))) (da_cons de_non da_nil))))) (da_cons (de_tup (da_cons de_str (da_cons de_bl (da_cons (de_tup (da_cons de_int (da_cons de_int da_nil))) (da_cons de_int da_nil))))) da_nil))))))
    (dss_cons (ds_set (i := 2) nd rfl (Or.inl rfl) (de_op op_add (dv 2) (de_lst (da_cons de_int (da_cons de_non (da_cons (de_lst (da_cons de_str da_nil)) da_nil))))))
    (dss_one (ds_ret (de_ix (r1 hr) (dv 2) (ce_call (ok_law_take S TB) hr (by decide) rfl tk (da_cons (dv 0) (da_cons de_int da_nil))))))))))))))
theorem sc_law : FnScope N_law ["_law_script"] (defScope (top 36)) := ⟨rfl, rfl, rfl, by decide +kernel, rfl, by decide +kernel, by decide +kernel⟩
def q_law_0 : LamQ := lamNth (defBody (top 36)) ⟨defArgs (top 36), .Constant .none 0 ⟨0, 0, 0, 0⟩, defScope (top 36), false⟩ 0
def q_law_1 : LamQ := lamNth (defBody (top 36)) ⟨defArgs (top 36), .Constant .none 0 ⟨0, 0, 0, 0⟩, defScope (top 36), false⟩ 1
def q_law_2 : LamQ := lamNth (defBody (top 36)) ⟨defArgs (top 36), .Constant .none 0 ⟨0, 0, 0, 0⟩, defScope (top 36), false⟩ 2
def q_law_3 : LamQ := lamNth (defBody (top 36)) ⟨defArgs (top 36), .Constant .none 0 ⟨0, 0, 0, 0⟩, defScope (top 36), false⟩ 3
theorem ok_law (S : SaidX fa fn tb xb w K mg) : ∃ fd : FuncData, (∀ (s : Shared) (v : Value), BindsTo s fd ⟨[v], []⟩ [("_law_script", v)]) ∧ ∀ base : Heap, TBs K mg base → FnOk P w K mg base (L2.CX P w) 9 (He.fAd K d_law.at_) fd ["_law_script"] (spLaw K) := by
  obtain ⟨fd, F⟩ := S.c.def_ 18 (d := d_law) rfl
  have nd := sc_law.nd
  have b := FunD.bindsA (ps := ["_law_script"]) F fun _ _ _ _ _ _ us hl => match us, hl with | [_], _ => rfl
  refine ⟨fd, fun s v => b s [v] rfl, fun base TB => ?_⟩
  obtain ⟨fb, GB, g1, g2, g3⟩ := ok_begun (P := P) (w := w) (base := base) S
  refine law_ok (t := dAllLM fun LM => t_law LM (cs K) W0x) F sc_law rfl (fun b l G sd B f h1 h2 => fun LM => pure_law LM (cs K) b l G sd B f h1 h2) (by decide) (fun cdv A outer s H E hr => ?_) (fun cdv A outer s H E hr po tk cd => ?_)
  · exact ps_set (i := 1) nd rfl (by first | exact Or.inl rfl | exact Or.inr rfl) (pe_callS (E := WE fun _ _ _ _ => False) GB (hr.mono (by decide)) rfl g1 g2 g3 (passAt takes0) (pa_cons (pv 0) pa_nil))
  · obtain ⟨lc, lP, L⟩ := lamAt (X := Bd P w K mg base N_law d_law.qual d_law.scope (He.fAd K d_law.at_) cdv A outer s H E) S.k TB (xp7 S.x) cd rfl rfl
    obtain ⟨fdA, mA, kA, bA, FA⟩ := ok_law_all (P := P) (w := w) S
    have LO : ∀ base1 : Heap, TBs K mg base1 → LamsOk (Bd P w K mg base N_law d_law.qual d_law.scope (He.fAd K d_law.at_) cdv A outer s H E) base1 5 [q_law_0, q_law_1, q_law_2, q_law_3] (lams_law (cs K)) := fun base1 TB => (.cons ⟨lamN_by (N := N_law) (sc := defScope (top 36)) (by decide +kernel), fun _ _ _ _ _ _ => rfl, fun c1 dv1 f1 A outer s0 H0 E B1 ED hr tk => (ce_call (ok_judged S TB) hr (by decide) rfl tk (da_cons (dv 5) da_nil))⟩
      (.cons ⟨lamN_by (N := N_law) (sc := defScope (top 36)) (by decide +kernel), ⟨"_law_a", rfl, fun _ _ _ _ _ _ _ => ⟨_, rfl, fun _ => rfl⟩⟩, fun c1 dv1 f1 A outer s0 H0 E B1 ED hr tk => (ce_call (ok_standing S TB) hr (by decide) rfl tk (da_cons (dv 5) da_nil))⟩
      (.cons ⟨lamN_by (N := N_law) (sc := defScope (top 36)) (by decide +kernel), fun _ _ _ _ _ _ => rfl, fun c1 dv1 f1 A outer s0 H0 E B1 ED hr tk => (ce_call (ok_judged S TB) hr (by decide) rfl tk (da_cons (dv 7) da_nil))⟩
      (.cons ⟨lamN_by (N := N_law) (sc := defScope (top 36)) (by decide +kernel), ⟨"_law_a", rfl, fun _ _ _ _ _ _ _ => ⟨_, rfl, fun _ => rfl⟩⟩, fun c1 dv1 f1 A outer s0 H0 E B1 ED hr tk => (ce_call (ok_standing S TB) hr (by decide) rfl tk (da_cons (dv 7) da_nil))⟩
      LamsOk.nil))))
    refine dss_lm (t := fun LM => t_law LM (cs K) W0x) (LMs (Bd P w K mg base N_law d_law.qual d_law.scope (He.fAd K d_law.at_) cdv A outer s H E) [q_law_0, q_law_1, q_law_2, q_law_3]) ?_
    exact (dss_cons (ds_for po rfl (di_rng rfl (S.free 0) (da_cons de_int da_nil)) (dg_name (i := 2) nd rfl (Or.inl rfl)) (dss_cons (ds_set (i := 3) nd rfl (Or.inl rfl) (ce_call (ok_law_log S TB) hr (by decide) rfl tk (da_cons (dv 1) da_nil)))
    (dss_cons (ds_set (i := 4) nd rfl (Or.inl rfl) (de_ix (r1 hr) (de_lst (da_cons (de_callB dc_len rfl (S.free 1) (by decide +kernel) (da_cons (dv 3) da_nil)) (da_cons (ce_call (ok_law_take S TB) hr (by decide) rfl tk (da_cons (dv 1) (da_cons (de_op op_add (de_callB dc_len rfl (S.free 1) (by decide +kernel) (da_cons (dv 3) da_nil)) de_int) da_nil))) da_nil))) (ce_call (ok_law_take S TB) hr (by decide) rfl tk (da_cons (dv 1) (da_cons de_int da_nil)))))
    (dss_cons (ds_set (i := 5) nd rfl (Or.inr rfl) (de_op op_add (de_op op_add (de_slice (dv 3) do_none (do_some (dv 4))) (de_lst (da_cons (ce_call (ok_law_odd S TB) hr (by decide) rfl tk (da_cons (dv 1) da_nil)) da_nil))) (de_slice (dv 3) (do_some (dv 4)) do_none)))
    (dss_cons (ds_set (i := 5) nd rfl (Or.inr rfl) (de_op op_add (dv 5) (de_op op_mul (de_lst (da_cons (de_tup da_nil) da_nil)) (ce_call (ok_law_take S TB) hr (by decide) rfl tk (da_cons (dv 1) (da_cons de_int da_nil))))))
    (dss_one (ds_if (dt_not (dt_of_val (de_callS (fun _ => rfl) (hr.mono (by decide)) rfl mA kA bA (fun base1 σ1 sd1 Hs1 sub1 U1 hS1 => FA base1 _ _ _ σ1 Hs1 _ _ (TB.to sub1) U1 (lms_in (LO base1 (TB.to sub1)) hS1)) tk (da_cons (de_lst (da_cons (de_fn0 L (fun ok => LamN.has (lamN_by (N := N_law) (sc := defScope (top 36)) (by decide +kernel)) ok) rfl (fun c1 => ⟨q_law_0, rfl, c1, none, rfl, rfl⟩)) (da_cons (de_fn1 L (fun ok => LamN.has (lamN_by (N := N_law) (sc := defScope (top 36)) (by decide +kernel)) ok) rfl rfl (fun c1 D1 => ⟨q_law_1, rfl, c1, some D1, rfl, rfl⟩)) da_nil))) (da_cons (de_tup (da_cons de_str (da_cons (dv 4) da_nil))) da_nil))))) (dss_one (ds_ret de_bl)) dss_nil)))))))
    (dss_cons (ds_setLc (i := 6) (own := [("_law_k", 8)]) rfl nd rfl rfl (sw_true rfl rfl rfl (by decide +kernel)) (di_rng rfl (S.free 0) (da_cons de_int da_nil)) (blkOk_by (N := N_law) (sc := defScope (top 36)) (by decide +kernel)) (by decide) (fun _ _ _ _ _ => (dg_name (i := 8) nd rfl (Or.inl rfl))) (fun _ _ _ _ _ => dts_nil) (fun _ _ _ _ _ => (de_tup (da_cons de_str (da_cons de_int (da_cons (de_tup (da_cons de_int (da_cons (de_op op_sub (de_powC ⟨by decide, by decide, by decide⟩ (by decide +kernel)) (dv 8)) da_nil))) (da_cons de_int da_nil)))))))
    (dss_cons (ds_if (DW.dt (dw_or (dt_cmp op_notN (ce_call (ok_judged S TB) hr (by decide) rfl tk (da_cons (dv 6) da_nil)) de_non) (dw_or1 (dt_cmp (op_ne (r64 hr)) (de_callB dc_len rfl (S.free 1) (by decide +kernel) (da_cons (ce_call (ok_standing S TB) hr (by decide) rfl tk (da_cons (dv 6) da_nil)) da_nil)) de_int)))) (dss_one (ds_ret de_bl)) dss_nil)
    (dss_cons (ds_set (i := 7) nd rfl (Or.inr rfl) (de_op op_add (de_op op_add (dv 6) (de_lst (da_cons (de_ix (r1 hr) (de_lst (da_cons (de_tup (da_cons de_str (da_cons de_int (da_cons (de_tup (da_cons de_int (da_cons de_int da_nil))) (da_cons de_int da_nil))))) (da_cons (de_tup da_nil) da_nil))) (ce_call (ok_law_take S TB) hr (by decide) rfl tk (da_cons (dv 1) (da_cons de_int da_nil)))) da_nil))) (de_op op_mul (de_lst (da_cons (de_tup da_nil) da_nil)) (ce_call (ok_law_take S TB) hr (by decide) rfl tk (da_cons (dv 1) (da_cons de_int da_nil))))))
    (dss_one (ds_ret (de_callS (fun _ => rfl) (hr.mono (by decide)) rfl mA kA bA (fun base1 σ1 sd1 Hs1 sub1 U1 hS1 => FA base1 _ _ _ σ1 Hs1 _ _ (TB.to sub1) U1 (lms_in (LO base1 (TB.to sub1)) hS1)) tk (da_cons (de_lst (da_cons (de_fn0 L (fun ok => LamN.has (lamN_by (N := N_law) (sc := defScope (top 36)) (by decide +kernel)) ok) rfl (fun c1 => ⟨q_law_2, rfl, c1, none, rfl, rfl⟩)) (da_cons (de_fn1 L (fun ok => LamN.has (lamN_by (N := N_law) (sc := defScope (top 36)) (by decide +kernel)) ok) rfl rfl (fun c1 D1 => ⟨q_law_3, rfl, c1, some D1, rfl, rfl⟩)) da_nil))) (da_cons (de_tup (da_cons de_str (da_cons de_int da_nil))) da_nil)))))))))
end
end DL
open PySem PySem.W PySem.Calls PyProof.Rows
theorem PySem.Challenge.cw_carrydrop_k12_logs_refused_holds : PySem.Challenge.rw_carrydrop_k12_logs_refused.Holds := by
  w_on; o_law
  refine HandSHeadRun.head_any (r := OpenLaw.row PySem.Challenge.rw_carrydrop_k12_logs_refused) (q := view (OpenLaw.row PySem.Challenge.rw_carrydrop_k12_logs_refused).prog [36]) (H := DL.hk) (ob := DL.ob) (M := 6000) (loose := DL.loose) (d := HandSHeadRun.topDef (OpenLaw.row PySem.Challenge.rw_carrydrop_k12_logs_refused).prog 36) (kwd := []) DL.ob_eq
    (by kernel_rfl) (fun s => by kernel_rfl) DL.run (by kernel_rfl) (by kernel_rfl) (by kernel_rfl) (by rfl) (by first | assumption | decide +kernel) (by decide +kernel) ⟨rfl, rfl, rfl, rfl, rfl, by decide +kernel⟩ ?hw ?hc
  case hw => w_witness2
  case hc =>
    refine LamX.walk_ofTsE (l := PySem.Challenge.rw_carrydrop_k12_logs_refused) (n := 63) (k := 9) (x := "_law_script") (CX := fun w => L2.CX (PySem.Challenge.rw_carrydrop_k12_logs_refused).prog w) rfl (by decide) (by kernel_rfl) ⟨rfl, by decide, by decide⟩ ?F DL.hCX
    intro w mg fa h Y G hmg0
    obtain ⟨K, KX, c⟩ := Y
    have hmg : mg ("law" : PySem.Str) = some (.ref fa) := by
      have e : (HandSHeadRun.topDef (OpenLaw.row PySem.Challenge.rw_carrydrop_k12_logs_refused).prog 36).name = ("law" : PySem.Str) := by kernel_rfl
      rw [← e]
      exact hmg0
    have S : DL.SaidX DL.fa DL.fn DL.tb DL.xb w K mg := DL.saidX c KX G
    have e := hmg.symm.trans (S.glo 50)
    obtain ⟨fd, hb, F⟩ := DL.ok_law (P := (PySem.Challenge.rw_carrydrop_k12_logs_refused).prog) (w := w) S
    cases e
    refine ⟨K, KX, fd, (DL.csOf K).map fun q => (q.1, q.2.1), DL.spLaw K, fun p hp => ?_, fun p hp => ?_, fun p hp => ?_, hb, fun H a ns hl _ hT hS => ⟨a, ns, rfl, hS, hl, fun q hq => hT (q.1, q.2.1) (List.mem_map.mpr ⟨q, hq, rfl⟩), fun v H' e => e⟩, fun base _ _ TB => F base fun q hq => TB (q.1, q.2.1) (List.mem_map.mpr ⟨q, hq, rfl⟩)⟩
    · obtain ⟨q, hq, rfl⟩ := List.mem_map.mp hp
      exact c.empty q hq
    · obtain ⟨q, hq, rfl⟩ := List.mem_map.mp hp
      exact c.out q hq
    · obtain ⟨q, hq, rfl⟩ := List.mem_map.mp hp
      exact PySem.W.codeHd_of_K KX (c.k.hd q hq)
